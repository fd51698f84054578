import PyProof.Rows.All
import PySem.Challenge.RW_rescans_k02_expanders_recognized
import PySem.Str
import PyProof.ReprBulk
import HandS.ForMost
import HandS.ForExc
import KE.DataEq
import HandS.TupAny
import HandS.TupMul
import KE.KEqDict
import HandS.Style
import HandS.Strs
import HandS.SetTxt0
import PyProof.Rows.SortStr
import HandS.IsInst
import HandS.TupLen
import HandS.Conv
import HandS.More
import HandS.Replace
import PyProof.CallFns
import HandS.Zip
import KE.GoesNew
import KE.GoesMore
import HandS.WordsExc
import HandS.Small
import HandS.Ends
set_option Elab.async false
set_option linter.all false
set_option maxRecDepth 100000
set_option maxHeartbeats 8000000
/-! RsCore: a small core language for the program and the laws, values without addresses, its evaluation as total functions. -/
namespace RS

/-- a text: its code points -/
abbrev Txt := List Nat
/-- the longest list, tuple, text -/
def szL : Nat := 16777216

inductive D where
  | non | bl (b : Bool) | int (i : Int) | str (s : Txt)
  | tup (xs : List D) | lst (xs : List D) | dct (t : Bool) (ks vs : List D)
  | kl (xs : List D) | kt (xs : List D)
  | ref (n : Nat) | loc (i : Nat)
  | fn (x : String) | ty (n : String)
  deriving Inhabited

/-- an object that may change -/
inductive Ob where
  | lst (xs : List D) | dct (t : Bool) (ks vs : List D) | ins (c : String) (fs : List (String × D))
  deriving Inhabited

inductive Slot where
  | un | val (d : D) | own (o : Ob) | bor (o : Ob)
  deriving Inhabited

structure S where
  env : List Slot
  st : List Ob

structure Exc where
  cls : String
  fs : List (String × D)

inductive Res (α : Type) where
  | ok (a : α) (s : S) | exc (x : Exc) (s : S) | stuck

def Res.bind {α β : Type} : Res α → (α → S → Res β) → Res β
  | .ok a s, f => f a s
  | .exc x s, _ => .exc x s
  | .stuck, _ => .stuck
/-- nothing may be raised in here -/
def Res.noexc {α : Type} : Res α → Res α
  | .ok a s => .ok a s
  | .exc _ _ => .stuck
  | .stuck => .stuck
def lift {α : Type} (o : Option α) (s : S) : Res α := match o with
  | some a => .ok a s
  | none => .stuck

/-- what is handed to a def, what it hands back -/
inductive Arg where
  | val (d : D) | obj (o : Ob)
  deriving Inhabited
inductive FR where
  | ok (r : Arg) (outs : List Ob) (st : List Ob) | exc (x : Exc) (outs : List Ob) (st : List Ob) | stuck
abbrev Fns := String → List Arg → List Ob → FR

/-! ### the syntax -/
inductive Op2 where
  | add | sub | mul | fdiv | mod | pow | eq | ne | lt | le | gt | ge | mem | nmem | isN | notN
  deriving DecidableEq
inductive Op1 where
  | neg
  deriving DecidableEq
/-- built-in functions that hand back a value -/
inductive Bi where
  | len | abs | int | str | repr | all | any | sum | max | min | max2 | min2 | tuple
  deriving DecidableEq
/-- built-in functions that hand back a new object -/
inductive Bf where
  | list | sorted
  deriving DecidableEq
/-- methods of built-in types: of texts; of dicts; those that change a list -/
inductive Mt where
  | join | index
  deriving DecidableEq
inductive Mx where
  | get1 | get2
  deriving DecidableEq
inductive Mw where
  | append | pop | clear
  deriving DecidableEq
inductive Tg where
  | nm (i : Nat) | t2 (a b : Tg) | t3 (a b c : Tg)
  deriving DecidableEq

mutual
inductive E where
  | lit (d : D) | var (i : Nat) | glb (x : String)
  | tup (es : Es)
  | op2 (o : Op2) (a b : E) | op1 (o : Op1) (a : E)
  | chain (o1 o2 : Op2) (a b c : E)
  | and (a b : E) | or (a b : E) | not (a : E) | ite (c : Tst) (a b : E)
  | idx (a i : E) | slc (a : E) (lo hi : Es) | rev (a : E)
  | call (f : String) (as : As)
  | bi (b : Bi) (as : Es) | isi (n : String) (a : E) | sset (a : E)
  | mt (m : Mt) (o : E) (as : Es) | mx (m : Mx) (o : E) (as : Es) | mw (m : Mw) (o : E) (as : Es)
  | fr (f : F)
/-- a test -/
inductive Tst where
  | of (e : E) | and (a b : Tst) | or (a b : Tst) | not (a : Tst)
inductive F where
  | lst (es : Es) | dct (t : Bool) | lc (own : List Nat) (tg : Tg) (it : It) (ifs : Tsts) (elt : E)
  | bf (b : Bf) (as : Es)
  | call (f : String) (as : As)
inductive Es where
  | nil | cons (e : E) (r : Es)
inductive Tsts where
  | nil | one (t : Tst)
inductive As where
  | nil | val (e : E) (r : As) | io (i : Nat) (r : As)
inductive It where
  | of (e : E) | rng1 (a : E) | rng2 (a b : E) | enum (e : E) | zip (a b : E)
end

mutual
inductive Cm where
  | expr (e : E) | set (tg : Tg) (e : E) | par (is : List Nat) (es : Es) | parF (is : List Nat) (es : Es) (j : Nat) (f : F)
  | own (i : Nat) (f : F) | new (i : Nat) (f : F) | setIx (o i v : E) | aug (i : Nat) (o : Op2) (e : E)
  | ret (e : E) | retF (f : F) | retN | ite (c : Tst) (a b : Sq)
  | for_ (tg : Tg) (it : It) (body : Sq) (kill : List Nat)
  | while_ (c : Tst) (body : Sq) (kill : List Nat)
  | brk | cnt | pass
inductive Sq where
  | nil | cons (s : Cm) (r : Sq)
end

structure Fd where
  params : Nat
  names : List String
  body : Sq

/-! ### values -/
mutual
def D.dep : D → Nat
  | .tup xs => D.deps xs + 1
  | .lst xs => D.deps xs + 1
  | _ => 0
def D.deps : List D → Nat
  | [] => 0
  | x :: xs => max (D.dep x) (D.deps xs)
end
mutual
/-- None, bools, ints, texts, lists and tuples of such -/
def D.plain : D → Bool
  | .non => true | .bl _ => true | .int _ => true | .str _ => true
  | .tup xs => D.plains xs
  | .lst xs => D.plains xs
  | _ => false
def D.plains : List D → Bool
  | [] => true
  | x :: xs => D.plain x && D.plains xs
end
mutual
def D.eqv : D → D → Bool
  | .non, .non => true
  | .bl a, .bl b => a == b
  | .bl a, .int j => (if a then 1 else 0) == j
  | .int i, .bl b => i == (if b then 1 else 0)
  | .int i, .int j => i == j
  | .str x, .str y => x == y
  | .lst xs, .lst ys => D.eqvs xs ys
  | .tup xs, .tup ys => D.eqvs xs ys
  | _, _ => false
def D.eqvs : List D → List D → Bool
  | [], [] => true
  | x :: xs, y :: ys => D.eqv x y && D.eqvs xs ys
  | _, _ => false
end

/-- a key of a dict: an int, a text; a tuple of such -/
def D.flat : D → Bool
  | .int _ => true | .str _ => true | _ => false
def D.isKey (t : Bool) : D → Bool
  | .int _ => !t
  | .str _ => !t
  | .tup xs => t && xs.all D.flat
  | _ => false
/-- the same key (of keys that are right) -/
def D.keq : D → D → Bool
  | .int i, .int j => i == j
  | .str i, .str j => i == j
  | .tup xs, .tup ys => D.eqvs xs ys
  | _, _ => false
def dGet : List D → List D → D → Option D
  | k :: ks, v :: vs, x => if D.keq k x then some v else dGet ks vs x
  | _, _, _ => none
def dPutV : List D → List D → D → D → List D
  | k :: ks, v :: vs, x, y => (if D.keq k x then y else v) :: dPutV ks vs x y
  | _, _, _, _ => []
def dPut (ks vs : List D) (x y : D) : List D × List D := if ks.any (fun k => D.keq k x) then (ks, dPutV ks vs x y) else (ks ++ [x], vs ++ [y])

/-- a place of a sequence of n items, for any sign -/
def ixN (n : Nat) (i : Int) : Option Nat := if 0 ≤ i then (if i < n then some i.toNat else none) else if 0 ≤ i + n then some (i + n).toNat else none
/-- a slice's end -/
def cutIx (n : Nat) (d : Nat) : Option Int → Nat
  | none => d
  | some i => if 0 ≤ i then min i.toNat n else (i + n).toNat
def cut {α : Type} (xs : List α) (lo hi : Option Int) : List α := (xs.drop (cutIx xs.length 0 lo)).take (cutIx xs.length xs.length hi - cutIx xs.length 0 lo)

def D.truth : D → Option Bool
  | .non => some false | .bl b => some b | .int i => some (i != 0) | .str s => some (!s.isEmpty)
  | .tup xs => some (!xs.isEmpty) | .lst xs => some (!xs.isEmpty) | _ => none

def D.ints : List D → Option (List Int)
  | [] => some []
  | .int i :: r => (D.ints r).map (i :: ·)
  | _ => none
def D.bls : List D → Option (List Bool)
  | [] => some []
  | .bl b :: r => (D.bls r).map (b :: ·)
  | _ => none
def D.strs : List D → Option (List Txt)
  | [] => some []
  | .str s :: r => (D.strs r).map (s :: ·)
  | _ => none
def D.fit (n : Nat) : Bool := decide (n ≤ szL)

/-! ### operators, by values -/
def opEq (x y : D) : Option Bool := match x, y with
  | .dct _ ks _, .dct _ ls _ => if ls.isEmpty then some ks.isEmpty else none
  | x, y => if D.plain x && D.plain y && (decide (D.dep x ≤ 60) || decide (D.dep y ≤ 60)) then some (D.eqv x y) else none
def opLt (x y : D) : Option Bool := match x, y with
  | .int i, .int j => some (decide (i < j))
  | .str i, .str j => some (decide (i < j))
  | _, _ => none
def opLe (x y : D) : Option Bool := match x, y with
  | .int i, .int j => some (decide (i ≤ j))
  | .str i, .str j => some (!decide (j < i))
  | _, _ => none
def opMem (x y : D) : Option Bool := match y with
  | .str cs => match x with
    | .str [c] => some (cs.contains c)
    | _ => none
  | .dct t ks vs => if D.isKey t x then some (dGet ks vs x).isSome else none
  | .lst ys => if D.plain x && D.plains ys && decide (D.dep x ≤ 60) then some (ys.any fun y => D.eqv y x) else none
  | .tup ys => if D.plain x && D.plains ys && decide (D.dep x ≤ 60) then some (ys.any fun y => D.eqv y x) else none
  | _ => none
def reps {α : Type} (n : Nat) (xs : List α) : List α := (List.replicate n xs).flatten
def small (i : Int) : Bool := decide (-(2 ^ 64) < i) && decide (i < 2 ^ 64)
def op2 (o : Op2) (x y : D) : Option D := match o with
  | .add => match x, y with
    | .int i, .int j => some (.int (i + j))
    | .str i, .str j => if D.fit (i.length + j.length) then some (.str (i ++ j)) else none
    | .lst i, .lst j => if D.fit (i.length + j.length) then some (.lst (i ++ j)) else none
    | .tup i, .tup j => if D.fit (i.length + j.length) then some (.tup (i ++ j)) else none
    | _, _ => none
  | .sub => match x, y with
    | .int i, .int j => some (.int (i - j))
    | _, _ => none
  | .mul => match x, y with
    | .int i, .int j => if small i || small j then some (.int (i * j)) else none
    | .str i, .int j => if decide (0 ≤ j) && decide (j ≤ 16777216) && D.fit (i.length * j.toNat) then some (.str (reps j.toNat i)) else none
    | .tup i, .int j => if decide (1 ≤ j) && decide (j ≤ 16777216) && D.fit (i.length * j.toNat) then some (.tup (reps j.toNat i)) else none
    | _, _ => none
  | .fdiv => match x, y with
    | .int i, .int j => if decide (0 < j) && decide (j < 1073741824) then some (.int (i / j)) else none
    | _, _ => none
  | .mod => match x, y with
    | .int i, .int j => if decide (0 < j) then some (.int (i % j)) else none
    | _, _ => none
  | .pow => match x, y with
    | .int i, .int j => if decide (0 ≤ j) && decide (j ≤ 1000) && small i then some (.int (i ^ j.toNat)) else none
    | _, _ => none
  | .eq => (opEq x y).map .bl
  | .ne => (opEq x y).map fun b => .bl (!b)
  | .lt => (opLt x y).map .bl
  | .gt => (opLt y x).map .bl
  | .le => (opLe x y).map .bl
  | .ge => (opLe y x).map .bl
  | .mem => (opMem x y).map .bl
  | .nmem => (opMem x y).map fun b => .bl (!b)
  | .isN => match x, y with
    | .non, .non => some (.bl true)
    | .bl _, .non | .int _, .non | .str _, .non | .tup _, .non | .lst _, .non | .dct _ _ _, .non | .ref _, .non | .fn _, .non | .ty _, .non => some (.bl false)
    | _, _ => none
  | .notN => match x, y with
    | .non, .non => some (.bl false)
    | .bl _, .non | .int _, .non | .str _, .non | .tup _, .non | .lst _, .non | .dct _ _ _, .non | .ref _, .non | .fn _, .non | .ty _, .non => some (.bl true)
    | _, _ => none
def op1 (o : Op1) (x : D) : Option D := match o with
  | .neg => match x with
    | .int i => some (.int (-i))
    | _ => none

def idx (x i : D) : Option D := match x, i with
  | .lst xs, .int i => (ixN xs.length i).bind fun j => xs[j]?
  | .tup xs, .int i => (ixN xs.length i).bind fun j => xs[j]?
  | .str cs, .int i => ((ixN cs.length i).bind fun j => cs[j]?).map fun c => .str [c]
  | .dct t ks vs, k => if D.isKey t k then dGet ks vs k else none
  | _, _ => none
def slc (x : D) (lo hi : Option Int) : Option D := match x with
  | .kl xs => some (.lst (cut xs lo hi))
  | .lst xs => some (.lst (cut xs lo hi))
  | .tup xs => some (.tup (cut xs lo hi))
  | .str cs => some (.str (cut cs lo hi))
  | _ => none
def revD (x : D) : Option D := match x with
  | .lst xs => some (.lst xs.reverse)
  | .str cs => some (.str cs.reverse)
  | _ => none

/-! ### built-in functions -/
def insTxt (c : Nat) : Txt → Txt
  | [] => [c]
  | d :: r => if c < d then c :: d :: r else if c = d then d :: r else d :: insTxt c r
/-- sorted(set(s)) of a text, joined or not: its signs, ascending, each once -/
def signSet (cs : Txt) : Txt := cs.foldl (fun acc c => insTxt c acc) []
def isiTy (n : String) (x : D) : Option Bool := match n with
  | "int" => match x with
    | .int _ => some true | .bl _ => some true | .non => some false | .str _ => some false | .tup _ => some false | .lst _ => some false | .dct _ _ _ => some false | _ => none
  | "bool" => match x with
    | .int _ => some false | .bl _ => some true | .non => some false | .str _ => some false | .tup _ => some false | .lst _ => some false | .dct _ _ _ => some false | _ => none
  | "str" => match x with
    | .int _ => some false | .bl _ => some false | .non => some false | .str _ => some true | .tup _ => some false | .lst _ => some false | .dct _ _ _ => some false | _ => none
  | "tuple" => match x with
    | .int _ => some false | .bl _ => some false | .non => some false | .str _ => some false | .tup _ => some true | .lst _ => some false | .dct _ _ _ => some false | _ => none
  | "list" => match x with
    | .int _ => some false | .bl _ => some false | .non => some false | .str _ => some false | .tup _ => some false | .lst _ => some true | .dct _ _ _ => some false | _ => none
  | "dict" => match x with
    | .int _ => some false | .bl _ => some false | .non => some false | .str _ => some false | .tup _ => some false | .lst _ => some false | .dct _ _ _ => some true | _ => none
  | _ => none
def maxI : Int → List Int → Int
  | m, [] => m
  | m, x :: xs => maxI (if x > m then x else m) xs
def minI : Int → List Int → Int
  | m, [] => m
  | m, x :: xs => minI (if x < m then x else m) xs
/-! repr, told where the model tells it -/
mutual
def D.toR : D → PySem.PyData
  | .non => .none
  | .bl b => .bool b
  | .int i => .int i
  | .str cs => .str ⟨cs.toArray⟩
  | .tup xs => .tuple (D.toRs xs)
  | .lst xs => .list (D.toRs xs)
  | .dct _ _ _ => .dict []
  | _ => .none
def D.toRs : List D → List PySem.PyData
  | [] => []
  | x :: xs => D.toR x :: D.toRs xs
end
mutual
def D.shw : D → Bool
  | .non => true | .bl _ => true
  | .int i => decide (i.natAbs < 10 ^ 12)
  | .str cs => cs.all fun c => decide (c < 16 ^ 8)
  | .tup xs => D.shws xs
  | .lst xs => D.shws xs
  | .dct _ ks _ => ks.isEmpty
  | _ => false
def D.shws : List D → Bool
  | [] => true
  | x :: xs => D.shw x && D.shws xs
end
mutual
/-- how much there is to be shown -/
def D.blk : D → Nat
  | .str cs => cs.length
  | .tup xs => D.blks xs
  | .lst xs => D.blks xs
  | _ => 0
def D.blks : List D → Nat
  | [] => 0
  | x :: xs => D.blk x + 1 + D.blks xs
end
mutual
def D.noD : D → Bool
  | .tup xs => D.noDs xs
  | .lst xs => D.noDs xs
  | .dct _ _ _ => false
  | _ => true
def D.noDs : List D → Bool
  | [] => true
  | x :: xs => D.noD x && D.noDs xs
end
mutual
def D.noL : D → Bool
  | .tup xs => D.noLs xs
  | .lst _ => false
  | _ => true
def D.noLs : List D → Bool
  | [] => true
  | x :: xs => D.noL x && D.noLs xs
end
def reprD (d : D) : Option Txt := if D.shw d && decide (D.blk d ≤ 2 ^ 20) && decide (D.dep d ≤ 60) && (D.noD d || D.noL d) then some (D.toR d).shown.cps.toList else none
def bi (b : Bi) (xs : List D) : Option D := match b, xs with
  | .len, [.str cs] => some (.int cs.length)
  | .len, [.lst ys] => some (.int ys.length)
  | .len, [.tup ys] => some (.int ys.length)
  | .len, [.dct _ ks _] => some (.int ks.length)
  | .abs, [.int i] => some (.int (if i < 0 then -i else i))
  | .int, [.int i] => some (.int i)
  | .repr, [x] => (reprD x).map .str
  | .all, [.lst ys] => (D.bls ys).map fun bs => .bl (bs.all id)
  | .any, [.lst ys] => (D.bls ys).map fun bs => .bl (bs.any id)
  | .sum, [.lst ys] => (D.ints ys).map fun is => .int is.sum
  | .max, [.lst ys] => (D.ints ys).bind fun is => match is with
    | [] => none
    | i :: r => some (.int (maxI i r))
  | .min, [.lst ys] => (D.ints ys).bind fun is => match is with
    | [] => none
    | i :: r => some (.int (minI i r))
  | .max2, [.int i, .int j] => some (.int (if j > i then j else i))
  | .min2, [.int i, .int j] => some (.int (if j < i then j else i))
  | .tuple, [.lst ys] => some (.tup ys)
  | .tuple, [.tup ys] => some (.tup ys)
  | _, _ => none
def bf (b : Bf) (xs : List D) : Option Ob := match b, xs with
  | .list, [.lst ys] => some (.lst ys)
  | .list, [.tup ys] => some (.lst ys)
  | .list, [.dct _ ks _] => some (.lst ks)
  | _, _ => none
def ssetD : D → Option D
  | .str cs => if decide (cs.length ≤ 60) then some (.lst ((signSet cs).map fun c => .str [c])) else none
  | _ => none
def joinT (sep : Txt) : List Txt → Txt
  | [] => []
  | [x] => x
  | x :: y :: r => x ++ sep ++ joinT sep (y :: r)
/-- methods: the answer; what stands there behind it -/
def mt (m : Mt) (o : D) (xs : List D) : Option D := match m, o, xs with
  | .join, .str sep, [.lst ys] => (D.strs ys).bind fun ts => if D.fit ((ts.map List.length).sum + ts.length * sep.length) then some (.str (joinT sep ts)) else none
  | .index, .str cs, [.str [c]] => if cs.contains c then some (.int (cs.idxOf c)) else none
  | _, _, _ => none
def mx (m : Mx) (o : D) (xs : List D) : Option D := match m, o, xs with
  | .get1, .dct t ks vs, [k] => if D.isKey t k then some ((dGet ks vs k).getD .non) else none
  | .get2, .dct t ks vs, [k, x] => if D.isKey t k then some ((dGet ks vs k).getD x) else none
  | _, _, _ => none
def mw (m : Mw) (o : D) (xs : List D) : Option (D × Ob) := match m, o, xs with
  | .append, .lst ys, [x] => if decide (ys.length < szL) then some (.non, .lst (ys ++ [x])) else none
  | .pop, .lst ys, [] => (ys[ys.length - 1]?).map fun y => (y, .lst ys.dropLast)
  | .clear, .lst _, [] => some (.non, .lst [])
  | _, _, _ => none
def isStrD : Option D → Bool
  | some (.str _) => true
  | _ => false
def isDctD : Option D → Bool
  | some (.dct _ _ _) => true
  | _ => false
def isLstD : Option D → Bool
  | some (.lst _) => true
  | _ => false
/-- o[i] = v -/
def putIx (o i v : D) : Option Ob := match o, i with
  | .lst xs, .int i => (ixN xs.length i).map fun j => .lst (xs.set j v)
  | .dct t ks vs, k => if D.isKey t k && decide (ks.length < szL) then some (.dct t (dPut ks vs k v).1 (dPut ks vs k v).2) else none
  | _, _ => none

/-! ### the state -/
def Ob.frz : Ob → Option D
  | .lst xs => some (.lst xs)
  | .dct t ks vs => some (.dct t ks vs)
  | .ins _ _ => none
/-- what stands there now -/
def vw (d : D) (s : S) : Option D := match d with
  | .loc i => match s.env[i]? with
    | some (.own o) => o.frz
    | some (.bor o) => o.frz
    | some (.val d) => some d
    | _ => none
  | .ref n => match s.st[n]? with
    | some (.ins _ _) => some (.ref n)
    | some o => o.frz
    | none => none
  | d => some d
/-- the receiver has changed -/
def put (d : D) (o : Ob) (s : S) : Option S := match d with
  | .loc i => match s.env[i]? with
    | some (.own _) => some { s with env := s.env.set i (.own o) }
    | some (.bor _) => some { s with env := s.env.set i (.bor o) }
    | _ => none
  | .ref n => if n < s.st.length then some { s with st := s.st.set n o } else none
  | _ => none
/-- a value that is kept: one's own object is changed no more from here on -/
def esc (d : D) (s : S) : Res D := match d with
  | .loc i => match s.env[i]? with
    | some (.own o) => match o.frz with
      | some d => .ok d { s with env := s.env.set i (.val d) }
      | none => .stuck
    | some (.val d) => .ok d s
    | _ => .stuck
  | d => .ok d s
def escs : List D → S → Res (List D)
  | [], s => .ok [] s
  | d :: ds, s => (esc d s).bind fun x s => (escs ds s).bind fun xs s => .ok (x :: xs) s
def vws : List D → S → Option (List D)
  | [], _ => some []
  | d :: ds, s => (vw d s).bind fun x => (vws ds s).map (x :: ·)

def setN (i : Nat) (d : D) (env : List Slot) : Option (List Slot) := match env[i]? with
  | none => none
  | some (.bor _) => none
  | some _ => some (env.set i (.val d))
def asg : Tg → D → List Slot → Option (List Slot)
  | .nm i, d, env => setN i d env
  | .t2 a b, .tup [x, y], env => (asg a x env).bind fun env => asg b y env
  | .t3 a b c, .tup [x, y, z], env => (asg a x env).bind fun env => (asg b y env).bind fun env => asg c z env
  | _, _, _ => none
def kil : List Nat → List Slot → List Slot
  | [], env => env
  | i :: r, env => kil r (match env[i]? with
    | some (.bor _) => env
    | _ => env.set i .un)
def wip : List Nat → List Slot → List Slot
  | [], env => env
  | i :: r, env => (wip r env).set i .un
/-- no object of one's own stands in these slots -/
def noOwn : List Nat → List Slot → Bool
  | [], _ => true
  | i :: r, env => (match env[i]? with
    | some (.own _) => false
    | some (.bor _) => false
    | _ => true) && noOwn r env
def back : List Nat → List Slot → List Slot → List Slot
  | [], _, env => env
  | i :: r, old, env => match old[i]? with
    | some x => (back r old env).set i x
    | none => back r old env

inductive AV where
  | val (d : D) | io (i : Nat)
def fetch : List AV → List Slot → Option (List Arg)
  | [], _ => some []
  | .val d :: r, env => (fetch r env).map (.val d :: ·)
  | .io i :: r, env => match env[i]? with
    | some (.own o) => (fetch r env).map (.obj o :: ·)
    | some (.bor o) => (fetch r env).map (.obj o :: ·)
    | _ => none
def borWith (x : Option Slot) (o : Ob) : Slot := match x with
  | some (.bor _) => .bor o
  | _ => .own o
def putBack : List AV → List Ob → List Slot → List Slot
  | .val _ :: r, os, env => putBack r os env
  | .io i :: r, o :: os, env => putBack r os (env.set i (borWith env[i]? o))
  | _, _, env => env
def ios : List AV → List Nat
  | [] => []
  | .val _ :: r => ios r
  | .io i :: r => i :: ios r
def nodupB : List Nat → Bool
  | [] => true
  | i :: r => !(r.contains i) && nodupB r
def callF (Φ : Fns) (f : String) (avs : List AV) (s : S) : Res Arg := match fetch avs s.env with
  | none => .stuck
  | some args => if nodupB (ios avs) = false then .stuck else match Φ f args s.st with
    | .ok r outs st => .ok r ⟨putBack avs outs s.env, st⟩
    | .exc x outs st => .exc x ⟨putBack avs outs s.env, st⟩
    | .stuck => .stuck
def Arg.frz : Arg → Option D
  | .val d => some d
  | .obj o => o.frz
def Arg.ob : Arg → Option Ob
  | .obj o => some o
  | .val _ => none

/-! ### what is walked -/
def strItems (cs : Txt) : List D := cs.map fun c => .str [c]
def itemsOf : D → Option (List D)
  | .lst xs => some xs
  | .tup xs => some xs
  | .str cs => some (strItems cs)
  | .dct _ ks _ => some ks
  | _ => none
def ups (lo : Int) : Nat → List D
  | 0 => []
  | n + 1 => .int lo :: ups (lo + 1) n
def rngItems (lo hi : Int) : Option (List D) := if decide (-(2 ^ 62) ≤ lo) && decide (lo < 2 ^ 62) && decide (-(2 ^ 62) ≤ hi) && decide (hi < 2 ^ 62) then some (ups lo (hi - lo).toNat) else none
def numbered (i : Int) : List D → List D
  | [] => []
  | x :: xs => .tup [.int i, x] :: numbered (i + 1) xs
def zipped : List D → List D → List D
  | x :: xs, y :: ys => .tup [x, y] :: zipped xs ys
  | _, _ => []

/-- what enumerate, zip walk -/
def itemsE : D → Option (List D)
  | .lst xs => some xs
  | .str cs => some (strItems cs)
  | _ => none
def zipD : D → D → Option (List D)
  | .lst xs, .lst ys => some (zipped xs ys)
  | .tup xs, .tup ys => some (zipped xs ys)
  | .str xs, .str ys => some (zipped (strItems xs) (strItems ys))
  | _, _ => none

/-! ### expressions -/
def consO : Option D → List D → List D
  | some d, r => d :: r
  | none, r => r
def lcLoop (step : D → S → Res (Option D)) : List D → S → Res (List D)
  | [], s => .ok [] s
  | x :: xs, s => (step x s).bind fun o s => (lcLoop step xs s).bind fun r s => .ok (consO o r) s

/-- one turn of a comprehension -/
def lcStep (own : List Nat) (tg : Tg) (fc : S → Res Bool) (fe : S → Res D) (x : D) (s : S) : Res (Option D) := match asg tg x s.env with
  | none => .stuck
  | some env => (fc { s with env := env }).bind fun b s => if b then (fe s).bind fun d s => (esc d s).bind fun d s => .ok (some d) { s with env := wip own s.env } else .ok none { s with env := wip own s.env }
mutual
def evE (Φ : Fns) (G : String → Option D) : E → S → Res D
  | .lit d, s => .ok d s
  | .var i, s => match s.env[i]? with
    | some (.val d) => .ok d s
    | some (.own _) => .ok (.loc i) s
    | some (.bor _) => .ok (.loc i) s
    | _ => .stuck
  | .glb x, s => lift (G x) s
  | .tup es, s => (evX Φ G es s).bind fun ds s => if D.fit ds.length then .ok (.tup ds) s else .stuck
  | .op2 o a b, s => (evE Φ G a s).bind fun x s => (evE Φ G b s).bind fun y s => lift ((vw x s).bind fun x => (vw y s).bind fun y => op2 o x y) s
  | .op1 o a, s => (evE Φ G a s).bind fun x s => lift ((vw x s).bind fun x => op1 o x) s
  | .chain o1 o2 a b c, s => (evE Φ G a s).bind fun x s => (evE Φ G b s).bind fun y s => (lift ((vw x s).bind fun x => (vw y s).bind fun y => op2 o1 x y) s).bind fun r s => match r with
    | .bl true => (evE Φ G c s).bind fun z s => lift ((vw y s).bind fun y => (vw z s).bind fun z => op2 o2 y z) s
    | .bl false => .ok (.bl false) s
    | _ => .stuck
  | .and a b, s => (evE Φ G a s).bind fun x s => match x with
    | .bl true => evE Φ G b s
    | .bl false => .ok (.bl false) s
    | _ => .stuck
  | .or a b, s => (evE Φ G a s).bind fun x s => match x with
    | .bl true => .ok (.bl true) s
    | .bl false => evE Φ G b s
    | _ => .stuck
  | .not a, s => (evE Φ G a s).bind fun x s => match x with
    | .bl b => .ok (.bl (!b)) s
    | _ => .stuck
  | .ite c a b, s => (evT Φ G c s).bind fun t s => if t then evE Φ G a s else evE Φ G b s
  | .idx a i, s => (evE Φ G a s).bind fun x s => (evE Φ G i s).bind fun y s => lift ((vw x s).bind fun x => (vw y s).bind fun y => idx x y) s
  | .slc a lo hi, s => (evE Φ G a s).bind fun x s => (evO Φ G lo s).bind fun l s => (evO Φ G hi s).bind fun h s => lift ((vw x s).bind fun x => slc x l h) s
  | .rev a, s => (evE Φ G a s).bind fun x s => lift ((vw x s).bind revD) s
  | .call f as, s => (evA Φ G as s).bind fun avs s => (callF Φ f avs s).bind fun r s => lift r.frz s
  | .isi n a, s => (evE Φ G a s).bind fun x s => lift ((vw x s).bind fun x => (isiTy n x).map .bl) s
  | .sset a, s => (evE Φ G a s).bind fun x s => lift ((vw x s).bind fun x => ssetD x) s
  | .bi b as, s => (evEs Φ G as s).bind fun ds s => lift ((vws ds s).bind fun ds => bi b ds) s
  | .mt m o as, s => (evE Φ G o s).bind fun x s => if isStrD (vw x s) = false then .stuck else (evEs Φ G as s).bind fun ds s => lift ((vw x s).bind fun x => (vws ds s).bind fun ds => mt m x ds) s
  | .mx m o as, s => (evE Φ G o s).bind fun x s => if isDctD (vw x s) = false then .stuck else (evX Φ G as s).bind fun ds s => lift ((vw x s).bind fun x => mx m x ds) s
  | .mw m o as, s => (evE Φ G o s).bind fun x s => if isLstD (vw x s) = false then .stuck else (evX Φ G as s).bind fun ds s =>
    (lift ((vw x s).bind fun x => mw m x ds) s).bind fun p s => (lift (put x p.2 s) s).bind fun s' _ => .ok p.1 s'
  | .fr f, s => (evF Φ G f s).bind fun o s => lift o.frz s
/-- a test -/
def evT (Φ : Fns) (G : String → Option D) : Tst → S → Res Bool
  | .of e, s => (evE Φ G e s).bind fun x s => lift ((vw x s).bind D.truth) s
  | .and a b, s => (evT Φ G a s).bind fun t s => if t then evT Φ G b s else .ok false s
  | .or a b, s => (evT Φ G a s).bind fun t s => if t then .ok true s else evT Φ G b s
  | .not a, s => (evT Φ G a s).bind fun t s => .ok (!t) s
def evF (Φ : Fns) (G : String → Option D) : F → S → Res Ob
  | .lst es, s => (evX Φ G es s).bind fun ds s => if D.fit ds.length then .ok (.lst ds) s else .stuck
  | .dct t, s => .ok (.dct t [] []) s
  | .lc own tg it ifs elt, s => (evI Φ G it s).bind fun xs s => if noOwn own s.env then
      (Res.noexc (lcLoop (fun x s => lcStep own tg (evC Φ G ifs) (evE Φ G elt) x s) xs { s with env := wip own s.env })).bind
      fun ds s' => if D.fit ds.length then .ok (.lst ds) { s' with env := back own s.env s'.env } else .stuck else .stuck
  | .bf b as, s => (evEs Φ G as s).bind fun ds s => lift ((vws ds s).bind fun ds => bf b ds) s
  | .call f as, s => (evA Φ G as s).bind fun avs s => (callF Φ f avs s).bind fun r s => lift r.ob s
/-- items, as they are met -/
def evEs (Φ : Fns) (G : String → Option D) : Es → S → Res (List D)
  | .nil, s => .ok [] s
  | .cons e r, s => (evE Φ G e s).bind fun d s => (evEs Φ G r s).bind fun ds s => .ok (d :: ds) s
/-- items that are kept -/
def evX (Φ : Fns) (G : String → Option D) : Es → S → Res (List D)
  | .nil, s => .ok [] s
  | .cons e r, s => (evE Φ G e s).bind fun d s => (esc d s).bind fun d s => (evX Φ G r s).bind fun ds s => .ok (d :: ds) s
/-- an end of a slice -/
def evO (Φ : Fns) (G : String → Option D) : Es → S → Res (Option Int)
  | .nil, s => .ok none s
  | .cons e .nil, s => (evE Φ G e s).bind fun d s => match d with
    | .int i => .ok (some i) s
    | _ => .stuck
  | .cons _ (.cons _ _), _ => .stuck
/-- a comprehension's test -/
def evC (Φ : Fns) (G : String → Option D) : Tsts → S → Res Bool
  | .nil, s => .ok true s
  | .one t, s => evT Φ G t s
def evA (Φ : Fns) (G : String → Option D) : As → S → Res (List AV)
  | .nil, s => .ok [] s
  | .val e r, s => (evE Φ G e s).bind fun d s => (esc d s).bind fun d s => (evA Φ G r s).bind fun ds s => .ok (.val d :: ds) s
  | .io i r, s => match s.env[i]? with
    | some (.own _) => (evA Φ G r s).bind fun ds s => .ok (.io i :: ds) s
    | some (.bor _) => (evA Φ G r s).bind fun ds s => .ok (.io i :: ds) s
    | _ => .stuck
def evI (Φ : Fns) (G : String → Option D) : It → S → Res (List D)
  | .of e, s => (evE Φ G e s).bind fun d s => (esc d s).bind fun d s => lift (itemsOf d) s
  | .rng1 a, s => (evE Φ G a s).bind fun x s => match x with
    | .int i => lift (rngItems 0 i) s
    | _ => .stuck
  | .rng2 a b, s => (evE Φ G a s).bind fun x s => (evE Φ G b s).bind fun y s => match x, y with
    | .int i, .int j => lift (rngItems i j) s
    | _, _ => .stuck
  | .enum e, s => (evE Φ G e s).bind fun d s => (esc d s).bind fun d s => lift ((itemsE d).map (numbered 0)) s
  | .zip a b, s => (evE Φ G a s).bind fun d s => (esc d s).bind fun d s => (evE Φ G b s).bind fun e s => (esc e s).bind fun e s => lift (zipD d e) s
end

/-! ### statements -/
inductive Fl where
  | nx | br | ct | ret (r : Arg)

/-- handed back: one's own object leaves -/
def retR (d : D) (s : S) : Res Fl := match d with
  | .loc i => match s.env[i]? with
    | some (.own o) => .ok (.ret (.obj o)) { s with env := s.env.set i .un }
    | some (.val d) => .ok (.ret (.val d)) s
    | _ => .stuck
  | d => .ok (.ret (.val d)) s
def forLoop (body : S → Res Fl) (tg : Tg) (kill : List Nat) : List D → S → Res Fl
  | [], s => .ok .nx s
  | x :: xs, s => (lift (asg tg x s.env) s).bind fun env s => (body { s with env := env }).bind fun fl s => match fl with
    | .nx => forLoop body tg kill xs { s with env := kil kill s.env }
    | .ct => forLoop body tg kill xs { s with env := kil kill s.env }
    | .br => .ok .nx { s with env := kil kill s.env }
    | .ret r => .ok (.ret r) s
def whileLoop (c : S → Res Bool) (body : S → Res Fl) (kill : List Nat) : Nat → S → Res Fl
  | 0, _ => .stuck
  | n + 1, s => (c s).bind fun b s => if b then (body s).bind fun fl s => (match fl with
    | .nx => whileLoop c body kill n { s with env := kil kill s.env }
    | .ct => whileLoop c body kill n { s with env := kil kill s.env }
    | .br => .ok .nx { s with env := kil kill s.env }
    | .ret r => .ok (.ret r) s) else .ok .nx s
def whileFuel : Nat := 1000000000000
def parS : List Nat → List D → List Slot → Option (List Slot)
  | [], [], env => some env
  | i :: is, d :: ds, env => (setN i d env).bind fun env => parS is ds env
  | _, _, _ => none

mutual
def evS (Φ : Fns) (G : String → Option D) : Cm → S → Res Fl
  | .expr e, s => (evE Φ G e s).bind fun _ s => .ok .nx s
  | .set tg e, s => (evE Φ G e s).bind fun d s => (esc d s).bind fun d s => (lift (asg tg d s.env) s).bind fun env s => .ok .nx { s with env := env }
  | .par is es, s => (evX Φ G es s).bind fun ds s => (lift (parS is ds s.env) s).bind fun env s => .ok .nx { s with env := env }
  | .parF is es j f, s => (evX Φ G es s).bind fun ds s => (evF Φ G f s).bind fun o s => (lift (parS is ds s.env) s).bind fun env s => match env[j]? with
    | some (.bor _) => .stuck
    | some _ => .ok .nx { s with env := env.set j (.own o) }
    | none => .stuck
  | .new i f, s => (evF Φ G f s).bind fun o s => (lift (setN i (.ref s.st.length) s.env) s).bind fun env s => .ok .nx ⟨env, s.st ++ [o]⟩
  | .own i f, s => (evF Φ G f s).bind fun o s => match s.env[i]? with
    | some (.bor _) => .stuck
    | some _ => .ok .nx { s with env := s.env.set i (.own o) }
    | none => .stuck
  | .setIx o i v, s => (evE Φ G v s).bind fun v s => (esc v s).bind fun v s => (evE Φ G o s).bind fun x s => (evE Φ G i s).bind fun y s => (esc y s).bind fun y s =>
    match (vw x s).bind fun d => putIx d y v with
    | none => .stuck
    | some ob => (lift (put x ob s) s).bind fun s _ => .ok .nx s
  | .aug i o e, s => match s.env[i]? with
    | some (.val x) => (evE Φ G e s).bind fun y s => (lift ((vw y s).bind fun y => op2 o x y) s).bind fun d s => (lift (setN i d s.env) s).bind fun env s => .ok .nx { s with env := env }
    | _ => .stuck
  | .ret e, s => (evE Φ G e s).bind fun d s => retR d s
  | .retF f, s => (evF Φ G f s).bind fun o s => .ok (.ret (.obj o)) s
  | .retN, s => .ok (.ret (.val .non)) s
  | .ite c a b, s => (evT Φ G c s).bind fun t s => if t then evQ Φ G a s else evQ Φ G b s
  | .for_ tg it body kill, s => (evI Φ G it s).bind fun xs s => forLoop (evQ Φ G body) tg kill xs s
  | .while_ c body kill, s => whileLoop (evT Φ G c) (evQ Φ G body) kill whileFuel s
  | .brk, s => .ok .br s
  | .cnt, s => .ok .ct s
  | .pass, s => .ok .nx s
def evQ (Φ : Fns) (G : String → Option D) : Sq → S → Res Fl
  | .nil, s => .ok .nx s
  | .cons a r, s => (evS Φ G a s).bind fun fl s => match fl with
    | .nx => evQ Φ G r s
    | .br => .ok .br s
    | .ct => .ok .ct s
    | .ret x => .ok (.ret x) s
end

/-! ### defs -/
def mkEnv : Nat → List Arg → List Slot
  | n, [] => List.replicate n .un
  | n, .val d :: r => .val d :: mkEnv (n - 1) r
  | n, .obj o :: r => .bor o :: mkEnv (n - 1) r
def outsOf : List Slot → List Ob
  | [] => []
  | .bor o :: r => o :: outsOf r
  | _ :: r => outsOf r
structure Prog where
  fns : String → Option Fd
  glob : String → Option D
def runFd (Φ : Fns) (G : String → Option D) (fd : Fd) (args : List Arg) (st : List Ob) : FR :=
  if args.length = fd.params then
    match evQ Φ G fd.body ⟨mkEnv fd.names.length args, st⟩ with
    | .ok fl s => match fl with
      | .ret r => .ok r (outsOf s.env) s.st
      | .nx => .ok (.val .non) (outsOf s.env) s.st
      | _ => .stuck
    | .exc x s => .exc x (outsOf s.env) s.st
    | .stuck => .stuck
  else .stuck
/-- a def's value at a depth -/
def fnAt (P : Prog) : Nat → Fns
  | 0, _, _, _ => .stuck
  | n + 1, f, args, st => match P.fns f with
    | some fd => runFd (fnAt P n) P.glob fd args st
    | none => .stuck
end RS

/-! RsSgn: the signs of a text, in order. -/
namespace RS
/-! sorted(set(text)) -/
theorem ins_mem {c x : Nat} : ∀ {l : Txt}, x ∈ insTxt c l ↔ x = c ∨ x ∈ l
  | [] => by simp [insTxt]
  | d :: r => by
    unfold insTxt
    split
    · simp
    · split
      · simp_all
      · simp [ins_mem (l := r)]
        constructor <;> (rintro (h | h | h) <;> simp_all)
theorem ins_pw {c : Nat} : ∀ {l : Txt}, l.Pairwise (· < ·) → (insTxt c l).Pairwise (· < ·)
  | [], _ => by simp [insTxt]
  | d :: r, h => by
    unfold insTxt
    split
    · rename_i hcd
      refine List.pairwise_cons.mpr ⟨fun x hx => ?_, h⟩
      rcases List.mem_cons.mp hx with rfl | hx
      · exact hcd
      · exact Nat.lt_trans hcd ((List.pairwise_cons.mp h).1 x hx)
    · split
      · exact h
      · rename_i h1 h2
        refine List.pairwise_cons.mpr ⟨fun x hx => ?_, ins_pw (List.pairwise_cons.mp h).2⟩
        rcases ins_mem.mp hx with rfl | hx
        · omega
        · exact (List.pairwise_cons.mp h).1 x hx
theorem ins_len {c : Nat} : ∀ {l : Txt}, (insTxt c l).length ≤ l.length + 1
  | [] => by simp [insTxt]
  | d :: r => by
    have := ins_len (c := c) (l := r)
    unfold insTxt
    split
    · simp
    · split <;> simp <;> omega
theorem ins_last {c : Nat} : ∀ {l : Txt}, (∀ x ∈ l, x < c) → insTxt c l = l ++ [c]
  | [], _ => rfl
  | d :: r, h => by
    have hd := h d (List.mem_cons_self ..)
    unfold insTxt
    rw [if_neg (by omega), if_neg (by omega), ins_last fun x hx => h x (List.mem_cons_of_mem _ hx)]
    rfl
theorem fold_pw : ∀ {cs acc : Txt}, acc.Pairwise (· < ·) → (cs.foldl (fun acc c => insTxt c acc) acc).Pairwise (· < ·)
  | [], _, h => h
  | c :: cs, acc, h => fold_pw (cs := cs) (ins_pw h)
theorem fold_len : ∀ {cs acc : Txt}, (cs.foldl (fun acc c => insTxt c acc) acc).length ≤ acc.length + cs.length
  | [], _ => by simp
  | c :: cs, acc => by
    have h1 := fold_len (cs := cs) (acc := insTxt c acc)
    have h2 := ins_len (c := c) (l := acc)
    simp only [List.foldl_cons, List.length_cons]
    omega
theorem fold_id : ∀ {cs acc : Txt}, (acc ++ cs).Pairwise (· < ·) → cs.foldl (fun acc c => insTxt c acc) acc = acc ++ cs
  | [], _, _ => by simp
  | c :: cs, acc, h => by
    have hl : insTxt c acc = acc ++ [c] := ins_last fun x hx => (List.pairwise_append.mp h).2.2 x hx c (List.mem_cons_self ..)
    simp only [List.foldl_cons, hl]
    rw [fold_id (cs := cs) (acc := acc ++ [c]) (by simpa using h)]
    simp
theorem signSet_eq {cs : Txt} : (signSet cs == cs) = decide (cs.Pairwise (· < ·)) := by
  rw [Bool.eq_iff_iff]
  simp only [beq_iff_eq, decide_eq_true_eq]
  constructor
  · intro h
    rw [← h]
    exact fold_pw .nil
  · intro h
    exact fold_id (acc := []) (cs := cs) (by simpa using h)
theorem signSet_len {cs : Txt} : (signSet cs).length ≤ cs.length := by
  have := fold_len (acc := []) (cs := cs)
  simp only [List.length_nil, Nat.zero_add] at this
  exact this
theorem fold_mem {x : Nat} : ∀ {cs acc : Txt}, x ∈ cs.foldl (fun acc c => insTxt c acc) acc ↔ x ∈ acc ∨ x ∈ cs
  | [], acc => by simp
  | c :: cs, acc => by
    simp only [List.foldl_cons, fold_mem (cs := cs), ins_mem, List.mem_cons]
    constructor
    · rintro ((h | h) | h)
      · exact .inr (.inl h)
      · exact .inl h
      · exact .inr (.inr h)
    · rintro (h | h | h)
      · exact .inl (.inr h)
      · exact .inl (.inl h)
      · exact .inr h
theorem mem_signSet {cs : Txt} {x : Nat} : x ∈ signSet cs ↔ x ∈ cs := by
  unfold signSet
  rw [fold_mem]
  simp
theorem signSet_pw {cs : Txt} : (signSet cs).Pairwise (· < ·) := fold_pw .nil
theorem pw_uniq : ∀ {a b : Txt}, a.Pairwise (· < ·) → b.Pairwise (· < ·) → (∀ x, x ∈ a ↔ x ∈ b) → a = b
  | [], [], _, _, _ => rfl
  | [], y :: b, _, _, h => by
    have := (h y).mpr (List.mem_cons_self ..)
    cases this
  | x :: a, [], _, _, h => by
    have := (h x).mp (List.mem_cons_self ..)
    cases this
  | x :: a, y :: b, ha, hb, h => by
    obtain ⟨a1, a2⟩ := List.pairwise_cons.mp ha
    obtain ⟨b1, b2⟩ := List.pairwise_cons.mp hb
    have e : x = y := by
      rcases List.mem_cons.mp ((h x).mp (List.mem_cons_self ..)) with e | e
      · exact e
      · rcases List.mem_cons.mp ((h y).mpr (List.mem_cons_self ..)) with e2 | e2
        · exact e2.symm
        · have := b1 x e
          have := a1 y e2
          omega
    subst e
    rw [pw_uniq a2 b2 fun z => ?_]
    constructor
    · intro hz
      rcases List.mem_cons.mp ((h z).mp (List.mem_cons_of_mem _ hz)) with rfl | h2
      · exact absurd (a1 z hz) (Nat.lt_irrefl _)
      · exact h2
    · intro hz
      rcases List.mem_cons.mp ((h z).mpr (List.mem_cons_of_mem _ hz)) with rfl | h2
      · exact absurd (b1 z hz) (Nat.lt_irrefl _)
      · exact h2
end RS

/-! RsRel: how the evaluator's values and states stand to those of the layer (V, Hp). -/
namespace RS
open PySem PySem.Spec PyProof.Rows L2

abbrev Sg := L2.St
theorem szL_line : szL = sizeLine := by rw [sizeLine_eq]; rfl

def toStr (cs : Txt) : Str := ⟨cs.toArray⟩
theorem toStr_len (cs : Txt) : (toStr cs).length = cs.length := by show cs.toArray.size = cs.length; simp
theorem toStr_inj {a b : Txt} (h : toStr a = toStr b) : a = b := by
  have := congrArg (fun z : Str => z.cps.toList) h
  simpa [toStr] using this
theorem toStr_of (z : Str) : toStr z.cps.toList = z := by cases z; simp [toStr]

/-- what is fixed through a law -/
structure Gm where
  K : PySem.W.Frag
  mg : Str → Option Value

/-- what is known of the heap: fz never changes any more, rho the store's addresses, gd what others hold, bo the borrowed slots -/
structure RC where
  fz : Hp
  rho : List Addr
  gd : Hp
  bo : Nat → Option Addr

def kD : Key → D
  | .inl i => .int i
  | .inr z => .str z.cps.toList
/-- a key that is not too long -/
def kOk : Key → Prop
  | .inl _ => True
  | .inr z => z.length ≤ szL
def DctR (t : Bool) (ks : List D) (ws : List V) (u : HO) : Prop :=
  (t = false ∧ ∃ kvs : List (Key × V), u = .dK kvs ∧ ks = kvs.map (fun p => kD p.1) ∧ ws = kvs.map (·.2) ∧ ∀ p ∈ kvs, kOk p.1) ∨
  (t = true ∧ ∃ kvs : List (List Key × V), u = .dT kvs ∧ ks = kvs.map (fun p => .tup (p.1.map kD)) ∧ ws = kvs.map (·.2) ∧ ∀ p ∈ kvs, p.1.length ≤ szL ∧ ∀ k ∈ p.1, kOk k)

section
variable (g : Gm) (fz : Hp) (rho : List Addr)
mutual
def VR0 : D → V → Prop
  | .non, v => v = .non
  | .bl b, v => v = .bl b
  | .int i, v => v = .int i
  | .str cs, v => v = .str (toStr cs) ∧ cs.length ≤ szL
  | .tup ds, v => ∃ a xs, v = .ref a ∧ fz a = some (.tup xs) ∧ ds.length ≤ szL ∧ VRs0 ds xs
  | .lst ds, v => ∃ a xs, v = .ref a ∧ fz a = some (.lst xs) ∧ ds.length ≤ szL ∧ VRs0 ds xs
  | .kl ds, v => ∃ a xs, v = .ref a ∧ SqL g.K fz a xs ∧ ds.length ≤ szL ∧ VRs0 ds xs
  | .kt ds, v => ∃ a xs, v = .ref a ∧ SqT g.K fz a xs ∧ ds.length ≤ szL ∧ VRs0 ds xs
  | .dct t ks vs, v => ∃ a u ws, v = .ref a ∧ Rd fz a u ∧ DctR t ks ws u ∧ vs.length ≤ szL ∧ VRs0 vs ws
  | .ref n, v => ∃ a, rho[n]? = some a ∧ v = .ref a
  | .loc _, _ => False
  | .fn x, v => ∃ a, g.mg (Str.ofString x) = some (.ref a) ∧ v = .ref a
  | .ty n, v => v = .ty n
def VRs0 : List D → List V → Prop
  | [], xs => xs = []
  | d :: ds, xs => ∃ v r, xs = v :: r ∧ VR0 d v ∧ VRs0 ds r
end
end
abbrev VR (g : Gm) (r : RC) : D → V → Prop := VR0 g r.fz r.rho
abbrev VRs (g : Gm) (r : RC) : List D → List V → Prop := VRs0 g r.fz r.rho

def FsR (g : Gm) (r : RC) (fs : List (String × D)) (ws : List (Str × V)) : Prop :=
  ws.map (·.1) = fs.map (fun p => Str.ofString p.1) ∧ VRs g r (fs.map (·.2)) (ws.map (·.2))
/-- an object that may change, and what stands at its address -/
def OR (g : Gm) (r : RC) : Ob → HO → Prop
  | .lst ds, u => ∃ xs, u = .lst xs ∧ ds.length ≤ szL ∧ VRs g r ds xs
  | .dct t ks vs, u => ∃ ws, DctR t ks ws u ∧ vs.length ≤ szL ∧ VRs g r vs ws
  | .ins c fs, u => ∃ C dx ws, u = .ins C dx ws ∧ g.mg (Str.ofString c) = some (.ref C) ∧ FsR g r fs ws

/-- a list, a tuple, a locked thing -/
def HSeq : HO → Prop
  | .tup _ => True
  | .lst _ => True
  | .frz _ _ => True
  | _ => False
structure RC.le (r r' : RC) : Prop where
  fz : ∀ a u, Rd r.fz a u → Rd r'.fz a u
  tup : ∀ a u, r.fz a = some u → HSeq u → r'.fz a = some u
  rho : ∃ l, r'.rho = r.rho ++ l
  gd : r'.gd = r.gd
  bo : r'.bo = r.bo
theorem RC.le.refl (r : RC) : r.le r := ⟨fun _ _ h => h, fun _ _ h _ => h, ⟨[], by simp⟩, rfl, rfl⟩
theorem RC.le.trans {a b c : RC} (h : a.le b) (k : b.le c) : a.le c :=
  ⟨fun x u q => k.fz x u (h.fz x u q), fun x u q z => k.tup x u (h.tup x u q z) z, by
    obtain ⟨l, e⟩ := h.rho
    obtain ⟨m, e'⟩ := k.rho
    exact ⟨l ++ m, by rw [e', e, List.append_assoc]⟩, k.gd.trans h.gd, k.bo.trans h.bo⟩

section
variable {g : Gm} {r r' : RC}
theorem sqT_mono {fz fz' : Hp} (h : ∀ a u, Rd fz a u → Rd fz' a u) {a : Addr} {xs : List V} (q : SqT g.K fz a xs) : SqT g.K fz' a xs := q.imp (h _ _) id
theorem sqL_mono {fz fz' : Hp} (h : ∀ a u, Rd fz a u → Rd fz' a u) {a : Addr} {xs : List V} (q : SqL g.K fz a xs) : SqL g.K fz' a xs := q.imp (h _ _) id
mutual
theorem VR.mono (h : r.le r') : ∀ {d : D} {v : V}, VR g r d v → VR g r' d v
  | .non, _, q => q
  | .bl _, _, q => q
  | .int _, _, q => q
  | .str _, _, q => q
  | .tup ds, _, ⟨a, xs, e, s, l, q⟩ => ⟨a, xs, e, h.tup _ _ s trivial, l, VRs.mono h q⟩
  | .lst ds, _, ⟨a, xs, e, s, l, q⟩ => ⟨a, xs, e, h.tup _ _ s trivial, l, VRs.mono h q⟩
  | .kl ds, _, ⟨a, xs, e, s, l, q⟩ => ⟨a, xs, e, sqL_mono h.fz s, l, VRs.mono h q⟩
  | .kt ds, _, ⟨a, xs, e, s, l, q⟩ => ⟨a, xs, e, sqT_mono h.fz s, l, VRs.mono h q⟩
  | .dct _ _ vs, _, ⟨a, u, ws, e, s, d, l, q⟩ => ⟨a, u, ws, e, h.fz _ _ s, d, l, VRs.mono h q⟩
  | .ref n, _, ⟨a, e, q⟩ => by
    obtain ⟨l, el⟩ := h.rho
    exact ⟨a, by rw [el]; exact List.getElem?_append_left (List.getElem?_eq_some_iff.mp e).1 ▸ e, q⟩
  | .loc _, _, q => q
  | .fn _, _, q => q
  | .ty _, _, q => q
theorem VRs.mono (h : r.le r') : ∀ {ds : List D} {xs : List V}, VRs g r ds xs → VRs g r' ds xs
  | [], _, q => q
  | _ :: _, _, ⟨v, t, e, q, qs⟩ => ⟨v, t, e, VR.mono h q, VRs.mono h qs⟩
end
theorem FsR.mono (h : r.le r') {fs : List (String × D)} {ws : List (Str × V)} (q : FsR g r fs ws) : FsR g r' fs ws := ⟨q.1, VRs.mono h q.2⟩
theorem OR.mono (h : r.le r') : ∀ {o : Ob} {u : HO}, OR g r o u → OR g r' o u
  | .lst _, _, ⟨xs, e, l, q⟩ => ⟨xs, e, l, VRs.mono h q⟩
  | .dct _ _ _, _, ⟨ws, d, l, q⟩ => ⟨ws, d, l, VRs.mono h q⟩
  | .ins _ _, _, ⟨C, dx, ws, e, c, q⟩ => ⟨C, dx, ws, e, c, FsR.mono h q⟩

theorem VRs.length : ∀ {ds : List D} {xs : List V}, VRs g r ds xs → ds.length = xs.length
  | [], _, q => by
    have q : _ = [] := q
    subst q; rfl
  | _ :: ds, _, ⟨v, t, e, _, qs⟩ => by
    subst e
    simp only [List.length_cons]
    rw [VRs.length qs]
theorem VRs.cons {d : D} {ds : List D} {v : V} {xs : List V} (a : VR g r d v) (b : VRs g r ds xs) : VRs g r (d :: ds) (v :: xs) := ⟨v, xs, rfl, a, b⟩
theorem VRs.nil : VRs g r [] [] := rfl
theorem VRs.append : ∀ {ds es : List D} {xs ys : List V}, VRs g r ds xs → VRs g r es ys → VRs g r (ds ++ es) (xs ++ ys)
  | [], _, _, _, q, q' => by
    have q : _ = [] := q
    subst q
    simpa using q'
  | _ :: _, _, _, _, ⟨v, t, e, a, b⟩, q' => by
    subst e
    exact ⟨v, t ++ _, rfl, a, VRs.append b q'⟩
theorem VRs.get : ∀ {ds : List D} {xs : List V} {i : Nat} {d : D}, VRs g r ds xs → ds[i]? = some d → ∃ v, xs[i]? = some v ∧ VR g r d v
  | [], _, _, _, _, h => by simp at h
  | _ :: _, _, 0, _, ⟨v, t, e, a, _⟩, h => by
    subst e
    simp at h
    subst h
    exact ⟨v, by simp, a⟩
  | _ :: _, _, i + 1, _, ⟨v, t, e, _, b⟩, h => by
    subst e
    obtain ⟨w, h1, h2⟩ := VRs.get (i := i) b (by simpa using h)
    exact ⟨w, by simpa using h1, h2⟩
theorem VRs.get' : ∀ {ds : List D} {xs : List V} {i : Nat} {v : V}, VRs g r ds xs → xs[i]? = some v → ∃ d, ds[i]? = some d ∧ VR g r d v
  | [], _, _, _, q, h => by
    have q : _ = [] := q
    subst q
    simp at h
  | d :: _, _, 0, _, ⟨v, t, e, a, _⟩, h => by
    subst e
    simp at h
    subst h
    exact ⟨d, by simp, a⟩
  | _ :: _, _, i + 1, _, ⟨v, t, e, _, b⟩, h => by
    subst e
    obtain ⟨w, h1, h2⟩ := VRs.get' (i := i) b (by simpa using h)
    exact ⟨w, by simpa using h1, h2⟩
theorem VRs.set : ∀ {ds : List D} {xs : List V} {d : D} {v : V} (i : Nat), VRs g r ds xs → VR g r d v → VRs g r (ds.set i d) (xs.set i v)
  | [], _, _, _, _, q, _ => by
    have q : _ = [] := q
    subst q
    exact rfl
  | _ :: _, _, _, _, 0, ⟨v, t, e, _, b⟩, h => by
    subst e
    exact ⟨_, t, rfl, h, b⟩
  | _ :: _, _, _, _, i + 1, ⟨v, t, e, a, b⟩, h => by
    subst e
    exact ⟨v, _, rfl, a, VRs.set i b h⟩
theorem VRs.take : ∀ {ds : List D} {xs : List V} (n : Nat), VRs g r ds xs → VRs g r (ds.take n) (xs.take n)
  | [], _, n, q => by
    have q : _ = [] := q
    subst q
    simp; rfl
  | _ :: _, _, 0, ⟨v, t, e, a, b⟩ => rfl
  | _ :: _, _, n + 1, ⟨v, t, e, a, b⟩ => by
    subst e
    exact ⟨v, _, rfl, a, VRs.take n b⟩
theorem VRs.drop : ∀ {ds : List D} {xs : List V} (n : Nat), VRs g r ds xs → VRs g r (ds.drop n) (xs.drop n)
  | [], _, n, q => by
    have q : _ = [] := q
    subst q
    simp; rfl
  | _ :: _, _, 0, ⟨v, t, e, a, b⟩ => ⟨v, t, e, a, b⟩
  | _ :: _, _, n + 1, ⟨v, t, e, a, b⟩ => by
    subst e
    exact VRs.drop n b
theorem VRs.reverse : ∀ {ds : List D} {xs : List V}, VRs g r ds xs → VRs g r ds.reverse xs.reverse
  | [], _, q => by
    have q : _ = [] := q
    subst q
    exact rfl
  | _ :: _, _, ⟨v, t, e, a, b⟩ => by
    subst e
    simp only [List.reverse_cons]
    exact VRs.append (VRs.reverse b) (VRs.cons a VRs.nil)
end

/-- a slot of the frame -/
def SlotR (g : Gm) (r : RC) (H : Hp) (x : Option V) : Slot → Prop
  | .un => True
  | .val d => ∃ v, x = some v ∧ VR g r d v
  | .own o => ∃ a u, x = some (.ref a) ∧ H a = some u ∧ OR g r o u
  | .bor o => ∃ a u, x = some (.ref a) ∧ H a = some u ∧ OR g r o u

def Slot.isOb : Slot → Prop
  | .own _ => True
  | .bor _ => True
  | _ => False
/-- where an object that may change stands: in a slot, in the store -/
def AtS (r : RC) (s : S) (σ : Sg) (p : Nat ⊕ Nat) (a : Addr) : Prop := match p with
  | .inl i => (∃ x, s.env[i]? = some x ∧ x.isOb) ∧ σ[i]? = some (some (.ref a))
  | .inr n => n < s.st.length ∧ r.rho[n]? = some a

structure Rel (g : Gm) (r : RC) (s : S) (σ : Sg) (H : Hp) : Prop where
  fz : ∀ a u, r.fz a = some u → H a = some u
  gd : ∀ a u, r.gd a = some u → H a = some u
  gm : ∀ a u, r.gd a = some u → Mut (some u) ∧ r.fz a = none
  len : s.env.length = σ.length
  env : ∀ (i : Nat) x, s.env[i]? = some x → ∃ y, σ[i]? = some y ∧ SlotR g r H y x
  stl : s.st.length = r.rho.length
  sto : ∀ (n : Nat) o a, s.st[n]? = some o → r.rho[n]? = some a → ∃ u, H a = some u ∧ OR g r o u
  inj : ∀ p q a, AtS r s σ p a → AtS r s σ q a → p = q
  sep : ∀ p a, AtS r s σ p a → r.fz a = none ∧ r.gd a = none
  bo : ∀ (i : Nat) a, r.bo i = some a → (∃ o, s.env[i]? = some (.bor o)) ∧ σ[i]? = some (some (.ref a))
  bo2 : ∀ (i : Nat) o, s.env[i]? = some (.bor o) → ∃ a, r.bo i = some a

theorem OR.mut {g : Gm} {r : RC} {o : Ob} {u : HO} (h : OR g r o u) : Mut (some u) := by
  cases o with
  | lst _ => obtain ⟨xs, e, _⟩ := h; subst e; trivial
  | dct t _ _ =>
    obtain ⟨ws, d, _⟩ := h
    rcases d with ⟨_, kvs, e, _⟩ | ⟨_, kvs, e, _⟩ <;> (subst e; trivial)
  | ins _ _ => obtain ⟨C, dx, ws, e, _⟩ := h; subst e; trivial

section
variable {g : Gm} {r r' : RC} {s : S} {σ : Sg} {H : Hp}
theorem Rel.at_some (R : Rel g r s σ H) {p : Nat ⊕ Nat} {a : Addr} (h : AtS r s σ p a) : ∃ u, H a = some u ∧ Mut (some u) := by
  cases p with
  | inl i =>
    obtain ⟨⟨x, e, o⟩, q⟩ := h
    obtain ⟨y, ey, sr⟩ := R.env i x e
    rw [q] at ey
    cases ey
    cases x with
    | un => cases o
    | val _ => cases o
    | own ob =>
      obtain ⟨b, u, e1, e2, e3⟩ := sr
      cases e1
      exact ⟨u, e2, e3.mut⟩
    | bor ob =>
      obtain ⟨b, u, e1, e2, e3⟩ := sr
      cases e1
      exact ⟨u, e2, e3.mut⟩
  | inr n =>
    obtain ⟨h1, h2⟩ := h
    obtain ⟨u, e, q⟩ := R.sto n _ a (List.getElem?_eq_getElem h1) h2
    exact ⟨u, e, q.mut⟩

theorem SlotR.mono (h : r.le r') {H H' : Hp} {x : Option V} {y : Slot} (q : SlotR g r H x y) (k : ∀ a u, y.isOb → x = some (.ref a) → H a = some u → H' a = some u) : SlotR g r' H' x y := by
  cases y with
  | un => trivial
  | val d => obtain ⟨v, e, q⟩ := q; exact ⟨v, e, VR.mono h q⟩
  | own o => obtain ⟨a, u, e, q1, q2⟩ := q; exact ⟨a, u, e, k a u trivial e q1, OR.mono h q2⟩
  | bor o => obtain ⟨a, u, e, q1, q2⟩ := q; exact ⟨a, u, e, k a u trivial e q1, OR.mono h q2⟩

/-- more is known: the frozen part grows, what stands stays -/
theorem Rel.grow (R : Rel g r s σ H) {fz' : Hp} {H' : Hp} (hf : ∀ a u, Rd r.fz a u → Rd fz' a u) (ht : ∀ a u, r.fz a = some u → HSeq u → fz' a = some u) (hs : ∀ a u, fz' a = some u → H' a = some u)
    (hk : ∀ a u, H a = some u → Mut (some u) → r.fz a = none → H' a = some u) (hn : ∀ a u, H a = some u → Mut (some u) → r.fz a = none → fz' a = none) :
    Rel g { r with fz := fz' } s σ H' ∧ r.le { r with fz := fz' } := by
  have le : r.le { r with fz := fz' } := ⟨hf, ht, ⟨[], by simp⟩, rfl, rfl⟩
  refine ⟨⟨hs, fun a u e => ?_, fun a u e => ?_, R.len, fun i x e => ?_, R.stl, fun n o a e1 e2 => ?_, R.inj, fun p a h => ?_, R.bo, R.bo2⟩, le⟩
  · obtain ⟨m, z⟩ := R.gm a u e
    exact hk a u (R.gd a u e) m z
  · obtain ⟨m, z⟩ := R.gm a u e
    exact ⟨m, hn a u (R.gd a u e) m z⟩
  · obtain ⟨y, ey, q⟩ := R.env i x e
    refine ⟨y, ey, q.mono le fun a u ob ex ea => ?_⟩
    subst ex
    have at' : AtS r s σ (.inl i) a := ⟨⟨x, e, ob⟩, ey⟩
    obtain ⟨u', e', m⟩ := R.at_some at'
    rw [ea] at e'
    cases e'
    exact hk a u ea m (R.sep _ _ at').1
  · obtain ⟨u, e, q⟩ := R.sto n o a e1 e2
    have at' : AtS r s σ (.inr n) a := ⟨(List.getElem?_eq_some_iff.mp e1).1, e2⟩
    exact ⟨u, hk a u e q.mut (R.sep _ _ at').1, OR.mono le q⟩
  · obtain ⟨z1, z2⟩ := R.sep p a h
    obtain ⟨u, e, m⟩ := R.at_some h
    exact ⟨hn a u e m z1, z2⟩

/-- a new object that never changes -/
theorem Rel.fresh (R : Rel g r s σ H) {p : Addr} (hp : H p = none) (u : HO) : Rel g { r with fz := upd r.fz p u } s σ (upd H p u) ∧ r.le { r with fz := upd r.fz p u } := by
  refine R.grow (fun a w q => ?_) (fun a w q _ => by rw [upd_ne (ne_of_none (R.fz _ _ q) hp)]; exact q) (fun a w q => ?_) (fun a w q _ _ => ?_) (fun a w q _ z => ?_)
  · rcases q with q | ⟨o, q⟩
    · have : a ≠ p := ne_of_none (R.fz _ _ q) hp
      exact .inl (by rw [upd_ne this]; exact q)
    · have : a ≠ p := ne_of_none (R.fz _ _ q) hp
      exact .inr ⟨o, by rw [upd_ne this]; exact q⟩
  · by_cases h : a = p
    · subst h
      rw [upd_same] at q ⊢
      exact q
    · rw [upd_ne h] at q ⊢
      exact R.fz _ _ q
  · rw [upd_ne (ne_of_none q hp)]
    exact q
  · rw [upd_ne (ne_of_none q hp)]
    exact z
/-- a new object of which nothing is known -/
theorem Rel.junk (R : Rel g r s σ H) {p : Addr} (hp : H p = none) (u : HO) : Rel g r s σ (upd H p u) := by
  have := R.grow (fz' := r.fz) (H' := upd H p u) (fun _ _ q => q) (fun _ _ q _ => q) (fun a w q => by rw [upd_ne (ne_of_none (R.fz _ _ q) hp)]; exact R.fz _ _ q)
    (fun a w q _ _ => by rw [upd_ne (ne_of_none q hp)]; exact q) (fun a w q _ z => z)
  exact this.1
/-- something that was not known -/
theorem Rel.heap (R : Rel g r s σ H) {H' : Hp} (k : ∀ a u, H a = some u → H' a = some u) : Rel g r s σ H' := by
  have := R.grow (fz' := r.fz) (H' := H') (fun _ _ q => q) (fun _ _ q _ => q) (fun a w q => k _ _ (R.fz _ _ q)) (fun a w q _ _ => k _ _ q) (fun a w q _ z => z)
  exact this.1
/-- a tuple that stands is kept in mind -/
theorem Rel.tup (R : Rel g r s σ H) {p : Addr} {xs : List V} (hp : H p = some (.tup xs)) : Rel g { r with fz := upd r.fz p (.tup xs) } s σ H ∧ r.le { r with fz := upd r.fz p (.tup xs) } := by
  refine R.grow (fun a w q => ?_) (fun a ys q _ => ?_) (fun a w q => ?_) (fun a w q _ _ => q) (fun a w q m z => ?_)
  · by_cases h : a = p
    · subst h
      rcases q with q | ⟨o, q⟩
      · have e := R.fz _ _ q
        rw [hp] at e
        cases e
        exact .inl upd_same
      · have e := R.fz _ _ q
        rw [hp] at e
        cases e
    · rcases q with q | ⟨o, q⟩
      · exact .inl (by rw [upd_ne h]; exact q)
      · exact .inr ⟨o, by rw [upd_ne h]; exact q⟩
  · by_cases h : a = p
    · subst h
      have e := R.fz _ _ q
      rw [hp] at e
      cases e
      exact upd_same
    · rw [upd_ne h]
      exact q
  · by_cases h : a = p
    · subst h
      rw [upd_same] at q
      cases q
      exact hp
    · rw [upd_ne h] at q
      exact R.fz _ _ q
  · have : a ≠ p := fun e => by
      subst e
      rw [hp] at q
      cases q
      exact m
    rw [upd_ne this]
    exact z
end

/-- a value as it comes out of an expression: one's own object too -/
def VX (g : Gm) (r : RC) (σ : Sg) : D → V → Prop
  | .loc i, v => ∃ a, v = .ref a ∧ σ[i]? = some (some (.ref a))
  | d, v => VR g r d v
theorem VX.of {g : Gm} {r : RC} {σ : Sg} {d : D} {v : V} (h : VR g r d v) : VX g r σ d v := by
  cases d <;> first | exact h | exact h.elim
theorem VX.mono {g : Gm} {r r' : RC} {σ : Sg} (h : r.le r') {d : D} {v : V} (q : VX g r σ d v) : VX g r' σ d v := by
  cases d <;> first | exact VR.mono h q | exact q
def VXs (g : Gm) (r : RC) (σ : Sg) : List D → List V → Prop
  | [], xs => xs = []
  | d :: ds, xs => ∃ v t, xs = v :: t ∧ VX g r σ d v ∧ VXs g r σ ds t
theorem VXs.mono {g : Gm} {r r' : RC} {σ : Sg} (h : r.le r') : ∀ {ds : List D} {xs : List V}, VXs g r σ ds xs → VXs g r' σ ds xs
  | [], _, q => q
  | _ :: _, _, ⟨v, t, e, a, b⟩ => ⟨v, t, e, VX.mono h a, VXs.mono h b⟩

/-- what stands at a value now -/
def CV (g : Gm) (r : RC) (H : Hp) : D → V → Prop
  | .lst ds, v => ∃ a xs, v = .ref a ∧ H a = some (.lst xs) ∧ ds.length ≤ szL ∧ VRs g r ds xs
  | .tup ds, v => ∃ a xs, v = .ref a ∧ H a = some (.tup xs) ∧ ds.length ≤ szL ∧ VRs g r ds xs
  | .kl ds, v => ∃ a xs, v = .ref a ∧ SqL g.K H a xs ∧ ds.length ≤ szL ∧ VRs g r ds xs
  | .kt ds, v => ∃ a xs, v = .ref a ∧ SqT g.K H a xs ∧ ds.length ≤ szL ∧ VRs g r ds xs
  | .dct t ks vs, v => ∃ a u ws, v = .ref a ∧ Rd H a u ∧ DctR t ks ws u ∧ vs.length ≤ szL ∧ VRs g r vs ws
  | d, v => VR g r d v

section
variable {g : Gm} {r r' : RC} {s s' : S} {σ : Sg} {H : Hp}
theorem Rel.rd (R : Rel g r s σ H) {a : Addr} {u : HO} (h : Rd r.fz a u) : Rd H a u := h.imp (R.fz _ _) fun ⟨o, q⟩ => ⟨o, R.fz _ _ q⟩
theorem Rel.sqT (R : Rel g r s σ H) {a : Addr} {xs : List V} (h : SqT g.K r.fz a xs) : SqT g.K H a xs := h.imp R.rd id
theorem Rel.sqL (R : Rel g r s σ H) {a : Addr} {xs : List V} (h : SqL g.K r.fz a xs) : SqL g.K H a xs := h.imp R.rd id
theorem CV.of (R : Rel g r s σ H) {d : D} {v : V} (h : VR g r d v) : CV g r H d v := by
  cases d with
  | lst ds => obtain ⟨a, xs, e, q, l, z⟩ := h; exact ⟨a, xs, e, R.fz _ _ q, l, z⟩
  | tup ds => obtain ⟨a, xs, e, q, l, z⟩ := h; exact ⟨a, xs, e, R.fz _ _ q, l, z⟩
  | kl ds => obtain ⟨a, xs, e, q, l, z⟩ := h; exact ⟨a, xs, e, R.sqL q, l, z⟩
  | kt ds => obtain ⟨a, xs, e, q, l, z⟩ := h; exact ⟨a, xs, e, R.sqT q, l, z⟩
  | dct t ks vs => obtain ⟨a, u, ws, e, q, l, z⟩ := h; exact ⟨a, u, ws, e, R.rd q, l, z⟩
  | _ => exact h
theorem CV.ofOb {o : Ob} {d : D} {a : Addr} {u : HO} (e : H a = some u) (h : OR g r o u) (hf : o.frz = some d) : CV g r H d (.ref a) := by
  cases o with
  | lst ds =>
    cases hf
    obtain ⟨xs, e', l, q⟩ := h
    subst e'
    exact ⟨a, xs, rfl, e, l, q⟩
  | dct t ks vs =>
    cases hf
    obtain ⟨ws, q, l, z⟩ := h
    exact ⟨a, u, ws, rfl, .inl e, q, l, z⟩
  | ins _ _ => cases hf
theorem Rel.vw (R : Rel g r s σ H) {d d' : D} {v : V} (h : VX g r σ d v) (e : vw d s = some d') : CV g r H d' v := by
  cases d with
  | loc i =>
    obtain ⟨a, rfl, ea⟩ := h
    simp only [RS.vw] at e
    split at e
    · rename_i o eo
      obtain ⟨y, ey, q⟩ := R.env i _ eo
      rw [ea] at ey
      cases ey
      obtain ⟨b, u, e1, e2, e3⟩ := q
      cases e1
      exact CV.ofOb e2 e3 e
    · rename_i o eo
      obtain ⟨y, ey, q⟩ := R.env i _ eo
      rw [ea] at ey
      cases ey
      obtain ⟨b, u, e1, e2, e3⟩ := q
      cases e1
      exact CV.ofOb e2 e3 e
    · rename_i o eo
      cases e
      obtain ⟨y, ey, q⟩ := R.env i _ eo
      rw [ea] at ey
      cases ey
      obtain ⟨b, e1, e2⟩ := q
      cases e1
      exact CV.of R e2
    · cases e
  | ref n =>
    simp only [RS.vw] at e
    split at e
    · cases e
      exact h
    · rename_i o eo hno
      obtain ⟨a, ea, rfl⟩ := h
      obtain ⟨u, e1, e2⟩ := R.sto n o a hno ea
      exact CV.ofOb e1 e2 e
    · cases e
  | _ =>
    simp only [RS.vw] at e
    cases e
    exact CV.of R h
/-- an own object is changed no more -/
theorem Rel.frz (R : Rel g r s σ H) {i : Nat} {o : Ob} {d : D} {a : Addr} (ei : s.env[i]? = some (.own o)) (ea : σ[i]? = some (some (.ref a))) (hf : o.frz = some d) :
    ∃ r', r.le r' ∧ Rel g r' { s with env := s.env.set i (.val d) } σ H ∧ VR g r' d (.ref a) := by
  obtain ⟨y, ey, q⟩ := R.env i _ ei
  rw [ea] at ey
  cases ey
  obtain ⟨b, u, e1, e2, e3⟩ := q
  cases e1
  have at' : AtS r s σ (.inl i) a := ⟨⟨_, ei, trivial⟩, ea⟩
  obtain ⟨zf, zg⟩ := R.sep _ _ at'
  have hi : i < s.env.length := (List.getElem?_eq_some_iff.mp ei).1
  have le : r.le { r with fz := upd r.fz a u } := ⟨fun c w q => by
    have : c ≠ a := fun e => by
      subst e
      rcases q with q | ⟨o, q⟩ <;> (rw [zf] at q; cases q)
    exact q.imp (fun q => by dsimp only; rw [upd_ne this]; exact q) fun ⟨o, q⟩ => ⟨o, by dsimp only; rw [upd_ne this]; exact q⟩, fun c w q _ => by
    have : c ≠ a := fun e => by
      subst e
      rw [zf] at q
      cases q
    dsimp only; rw [upd_ne this]; exact q, ⟨[], by simp⟩, rfl, rfl⟩
  have hv : VR g { r with fz := upd r.fz a u } d (.ref a) := by
    cases o with
    | lst ds =>
      cases hf
      obtain ⟨xs, e', l, q⟩ := e3
      subst e'
      exact ⟨a, xs, rfl, upd_same, l, VRs.mono le q⟩
    | dct t ks vs =>
      cases hf
      obtain ⟨ws, q, l, z⟩ := e3
      exact ⟨a, u, ws, rfl, .inl upd_same, q, l, VRs.mono le z⟩
    | ins _ _ => cases hf
  have at_of : ∀ p c, AtS { r with fz := upd r.fz a u } { s with env := s.env.set i (.val d) } σ p c → AtS r s σ p c ∧ c ≠ a := fun p c h => by
    have h' : AtS r s σ p c := by
      cases p with
      | inl j =>
        obtain ⟨⟨x, e, ob⟩, q⟩ := h
        by_cases hj : i = j
        · subst hj
          have e : (s.env.set i (.val d))[i]? = some x := e
          rw [List.getElem?_set_self hi] at e
          cases e
          cases ob
        · have e : (s.env.set i (.val d))[j]? = some x := e
          rw [List.getElem?_set_ne hj] at e
          exact ⟨⟨x, e, ob⟩, q⟩
      | inr n => exact h
    refine ⟨h', fun e => ?_⟩
    subst e
    have e := R.inj _ _ _ h' at'
    subst e
    obtain ⟨⟨x, e, ob⟩, q⟩ := h
    have e : (s.env.set i (.val d))[i]? = some x := e
    rw [List.getElem?_set_self hi] at e
    cases e
    cases ob
  refine ⟨_, le, ⟨fun c w q => ?_, R.gd, fun c w q => ?_, by simpa using R.len, fun j x e => ?_, R.stl, fun n o c h1 h2 => ?_, fun p q c h1 h2 => R.inj p q c (at_of p c h1).1 (at_of q c h2).1, fun p c h => ?_, fun j c e => ?_, fun j o' e => ?_⟩, hv⟩
  · by_cases h : c = a
    · subst h
      dsimp only at q
      rw [upd_same] at q
      cases q
      exact e2
    · dsimp only at q
      rw [upd_ne h] at q
      exact R.fz _ _ q
  · obtain ⟨m, z⟩ := R.gm c w q
    have : c ≠ a := fun e => by
      subst e
      rw [zg] at q
      cases q
    exact ⟨m, by dsimp only; rw [upd_ne this]; exact z⟩
  · by_cases hj : i = j
    · subst hj
      have e : (s.env.set i (.val d))[i]? = some x := e
      rw [List.getElem?_set_self hi] at e
      cases e
      exact ⟨_, ea, _, rfl, hv⟩
    · have e : (s.env.set i (.val d))[j]? = some x := e
      rw [List.getElem?_set_ne hj] at e
      obtain ⟨y, ey, q⟩ := R.env j x e
      exact ⟨y, ey, q.mono le fun _ _ _ _ z => z⟩
  · obtain ⟨w, e, q⟩ := R.sto n o c h1 h2
    exact ⟨w, e, OR.mono le q⟩
  · obtain ⟨h', ne⟩ := at_of p c h
    obtain ⟨z1, z2⟩ := R.sep p c h'
    exact ⟨by dsimp only; rw [upd_ne ne]; exact z1, z2⟩
  · obtain ⟨⟨o', e'⟩, q⟩ := R.bo j c e
    have : i ≠ j := fun e => by
      subst e
      rw [ei] at e'
      cases e'
    exact ⟨⟨o', by rw [List.getElem?_set_ne this]; exact e'⟩, q⟩
  · by_cases hj : i = j
    · subst hj
      have e : (s.env.set i (.val d))[i]? = some (.bor o') := e
      rw [List.getElem?_set_self hi] at e
      cases e
    · have e : (s.env.set i (.val d))[j]? = some (.bor o') := e
      rw [List.getElem?_set_ne hj] at e
      exact R.bo2 j o' e
theorem Rel.esc (R : Rel g r s σ H) {d d' : D} {v : V} (h : VX g r σ d v) (e : RS.esc d s = .ok d' s') : ∃ r', r.le r' ∧ Rel g r' s' σ H ∧ VR g r' d' v := by
  cases d with
  | loc i =>
    obtain ⟨a, rfl, ea⟩ := h
    simp only [RS.esc] at e
    split at e
    · rename_i o eo
      split at e
      · rename_i x hx
        cases e
        exact R.frz eo ea hx
      · cases e
    · rename_i x eo
      cases e
      obtain ⟨y, ey, q⟩ := R.env i _ eo
      rw [ea] at ey
      cases ey
      obtain ⟨b, e1, e2⟩ := q
      cases e1
      exact ⟨r, .refl r, R, e2⟩
    · cases e
  | _ =>
    simp only [RS.esc] at e
    cases e
    exact ⟨r, .refl r, R, h⟩
theorem esc_noexc {d : D} {x : Exc} (h : RS.esc d s = .exc x s') : False := by
  cases d <;> simp only [RS.esc] at h
  case loc i =>
    split at h
    · split at h <;> cases h
    · cases h
    · cases h
  all_goals cases h
end
end RS

/-! RsPost: what is to be shown of the evaluator's answers; the check of an AST against a core term. -/
namespace RS
open PySem PySem.Spec PyProof.Rows L2

abbrev gX (X : Cx) : Gm := ⟨X.K, X.mg⟩

/-- an exception as it lies there -/
def XR (g : Gm) (r : RC) (H : Hp) (x : Exc) (cls : Value) (d : Option Addr) : Prop :=
  ∃ C, g.mg (Str.ofString x.cls) = some (.ref C) ∧ cls = .ref C ∧ ((x.fs = [] ∧ d = none) ∨ ∃ a ws, d = some a ∧ H a = some (.xd ws) ∧ FsR g r x.fs ws)
def PX (g : Gm) (W : WX) (r : RC) (σ : Sg) (x : Exc) (s' : S) : Prop :=
  ∀ r' H' cls d, r.le r' → Rel g r' s' σ H' → XR g r' H' x cls d → W cls d σ H'
def PE1 (g : Gm) (W : WX) (r : RC) (σ : Sg) (m : Res D) (Q : V → Hp → Prop) : Prop := match m with
  | .ok d s' => ∀ r' v H', r.le r' → Rel g r' s' σ H' → VX g r' σ d v → Q v H'
  | .exc x s' => PX g W r σ x s'
  | .stuck => False
/-- of any answer -/
def PA1 {α β : Type} (Rv : RC → α → β → Prop) (g : Gm) (W : WX) (r : RC) (σ : Sg) (m : Res α) (Q : β → Hp → Prop) : Prop := match m with
  | .ok a s' => ∀ r' b H', r.le r' → Rel g r' s' σ H' → Rv r' a b → Q b H'
  | .exc x s' => PX g W r σ x s'
  | .stuck => False
def PF1 (g : Gm) (W : WX) (r : RC) (σ : Sg) (m : Res Ob) (Q : V → Hp → Prop) : Prop := match m with
  | .ok o s' => ∀ r' p u H1, r.le r' → Rel g r' s' σ H1 → H1 p = none → OR g r' o u → Q (.ref p) (upd H1 p u)
  | .exc x s' => PX g W r σ x s'
  | .stuck => False

section
variable {g : Gm} {W : WX} {r r' : RC} {σ : Sg}
theorem PX.up {x : Exc} {s' : S} (h : PX g W r σ x s') (k : r.le r') : PX g W r' σ x s' := fun r2 H cls d h2 => h r2 H cls d (k.trans h2)
theorem PA1.up {α β : Type} {Rv : RC → α → β → Prop} {m : Res α} {Q : β → Hp → Prop} (h : PA1 Rv g W r σ m Q) (k : r.le r') : PA1 Rv g W r' σ m Q := by
  cases m with
  | ok a s' => exact fun r2 b H h2 => h r2 b H (k.trans h2)
  | exc x s' => exact PX.up h k
  | stuck => exact h
theorem PA1.mono {α β : Type} {Rv : RC → α → β → Prop} {m : Res α} {Q Q' : β → Hp → Prop} (h : PA1 Rv g W r σ m Q) (k : ∀ b H, Q b H → Q' b H) : PA1 Rv g W r σ m Q' := by
  cases m with
  | ok a s' => exact fun r2 b H h1 h2 h3 => k _ _ (h r2 b H h1 h2 h3)
  | exc x s' => exact h
  | stuck => exact h
/-- one after another -/
theorem PA1.bind {α β γ δ : Type} {Rv : RC → α → β → Prop} {Ru : RC → γ → δ → Prop} {m : Res α} {f : α → S → Res γ} {Q : δ → Hp → Prop} (h : PA1 Ru g W r σ (m.bind f) Q) :
    PA1 Rv g W r σ m fun b H1 => ∃ r1 s1 a, r.le r1 ∧ Rel g r1 s1 σ H1 ∧ Rv r1 a b ∧ m = .ok a s1 ∧ PA1 Ru g W r1 σ (f a s1) Q := by
  cases m with
  | ok a s' => exact fun r1 b H1 k R v => ⟨r1, s', a, k, R, v, rfl, PA1.up h k⟩
  | exc x s' => exact h
  | stuck => exact h
end

/-- an expression's value -/
abbrev RvE (g : Gm) (σ : Sg) : RC → D → V → Prop := fun r d v => VX g r σ d v
/-- tE: the reading of an expression by the evaluator -/
def tA {α β : Type} (Rv : Gm → Sg → RC → α → β → Prop) (X : Cx) (W : WX) (f : S → Res α) : Sg → Hp → (β → Hp → Prop) → Prop := fun σ H Q =>
  ∃ r s, Rel (gX X) r s σ H ∧ PA1 (Rv (gX X) σ) (gX X) W r σ (f s) Q
abbrev RE : Gm → Sg → RC → D → V → Prop := fun g σ r d v => VX g r σ d v
abbrev RB : Gm → Sg → RC → Bool → Bool → Prop := fun _ _ _ a b => a = b
abbrev RXs : Gm → Sg → RC → List D → List V → Prop := fun g σ r d v => VXs g r σ d v
abbrev RVs : Gm → Sg → RC → List D → List V → Prop := fun g _ r d v => VRs g r d v
abbrev tE (X : Cx) (W : WX) (f : S → Res D) : TE := tA RE X W f
abbrev tT (X : Cx) (W : WX) (f : S → Res Bool) : TT := tA RB X W f
abbrev tXs (X : Cx) (W : WX) (f : S → Res (List D)) : TA := tA RXs X W f
abbrev tVs (X : Cx) (W : WX) (f : S → Res (List D)) : TA := tA RVs X W f
def tF (X : Cx) (W : WX) (f : S → Res Ob) : TE := fun σ H Q => ∃ r s, Rel (gX X) r s σ H ∧ PF1 (gX X) W r σ (f s) Q

theorem _root_.L2.PE.weak {X : Cx} {e : Expr} {t t' : TE} (h : PE X e t) (k : ∀ σ H Q, t' σ H Q → t σ H Q) : PE X e t' := ⟨fun pins s σ H Q I q => h.run pins s σ H Q I (k σ H Q q)⟩
theorem _root_.L2.PT.weak {X : Cx} {e : Expr} {t t' : TT} (h : PT X e t) (k : ∀ σ H Q, t' σ H Q → t σ H Q) : PT X e t' := ⟨fun pins s σ H Q I q => h.run pins s σ H Q I (k σ H Q q)⟩
theorem _root_.L2.PW.weak {X : Cx} {e : Expr} {t t' : TT} (h : PW X e t) (k : ∀ σ H Q, t' σ H Q → t σ H Q) : PW X e t' := ⟨fun wh pins s σ H Q I q => h.run wh pins s σ H Q I (k σ H Q q)⟩
theorem _root_.L2.PA.weak {X : Cx} {es : List Expr} {t t' : TA} (h : PA X es t) (k : ∀ σ H Q, t' σ H Q → t σ H Q) : PA X es t' := ⟨fun pos pins s σ H Q I q => h.run pos pins s σ H Q I (k σ H Q q)⟩
theorem _root_.L2.PS.weak {X : Cx} {e : Stmt} {t t' : TS} (h : PS X e t) (k : ∀ D σ H, t' D σ H → t D σ H) : PS X e t' := ⟨fun pins s σ H D I q => h.run pins s σ H D I (k D σ H q)⟩
theorem _root_.L2.PSs.weak {X : Cx} {e : List Stmt} {t t' : TS} (h : PSs X e t) (k : ∀ D σ H, t' D σ H → t D σ H) : PSs X e t' := ⟨fun pins s σ H D I q => h.run pins s σ H D I (k D σ H q)⟩

/-- in a reading: first m, whose own reading is tA .. -/
theorem tA_step {α β γ δ : Type} {Rv : Gm → Sg → RC → α → β → Prop} {Ru : Gm → Sg → RC → γ → δ → Prop} {X : Cx} {W : WX} {m : S → Res α} {f : α → S → Res γ} {r : RC} {s : S} {σ : Sg} {H : Hp} {Q : δ → Hp → Prop} {Q' : β → Hp → Prop}
    (R : Rel (gX X) r s σ H) (h : PA1 (Ru (gX X) σ) (gX X) W r σ ((m s).bind f) Q)
    (k : ∀ r1 s1 a b H1, r.le r1 → Rel (gX X) r1 s1 σ H1 → Rv (gX X) σ r1 a b → m s = .ok a s1 → PA1 (Ru (gX X) σ) (gX X) W r1 σ (f a s1) Q → Q' b H1) : tA Rv X W m σ H Q' :=
  ⟨r, s, R, (PA1.bind h).mono fun b H1 ⟨r1, s1, a, h1, h2, h3, h4, h5⟩ => k r1 s1 a b H1 h1 h2 h3 h4 h5⟩
theorem lift_ok {α β : Type} {Rv : RC → α → β → Prop} {g : Gm} {W : WX} {r : RC} {σ : Sg} {o : Option α} {s : S} {Q : β → Hp → Prop} (h : PA1 Rv g W r σ (lift o s) Q) :
    ∃ a, o = some a ∧ ∀ r' b H', r.le r' → Rel g r' s σ H' → Rv r' a b → Q b H' := by
  cases o with
  | none => exact h.elim
  | some a => exact ⟨a, rfl, h⟩

/-! ### the check -/
def nice : Expr → Bool
  | .Starred _ _ => false
  | .Slice _ _ _ _ => false
  | .Set _ _ _ => false
  | .Call (.Name _ _) [] [] _ => false
  | .SetComp _ _ _ _ => false
  | .NamedExpr _ _ _ => false
  | _ => true
def noComp : Expr → Bool
  | .ListComp _ _ _ _ => false
  | .SetComp _ _ _ _ => false
  | .DictComp _ _ _ _ _ => false
  | _ => true
theorem nice_star {e : Expr} (h : nice e = true) (es : List Expr) (env : Env) : starEach (e :: es) env = (false, eval e env) :: starEach es env := by
  cases e <;> first | rfl | (exact absurd h (by simp [nice]))
theorem nice_ix {e : Expr} (h : nice e = true) : PlainIx e := by
  intro o i
  cases e <;> first | rfl | (exact absurd h (by simp [nice]))
theorem nice_sl {e : Expr} (h : nice e = true) : NoSl e := nice_ix h
theorem nice_base {e : Expr} (h : nice e = true) (n : Str) (env : Env) : attributeBase e n env (eval e env) = eval e env := by
  unfold attributeBase
  split
  · exact absurd h (by simp [nice])
  · rfl
theorem nice_fold {e : Expr} (h : nice e = true) (env : Env) (x : Value) : foldedSetIterable e env x = pure x := by
  cases e <;> first | rfl | (exact absurd h (by simp [nice]))
theorem nice_mark {e : Expr} (h : nice e = true) (op : CmpOp) : behindInMarks op e = false := by
  cases e <;> first | rfl | (exact absurd h (by simp [nice]))
theorem noComp_swap {e : Expr} (h : noComp e = true) (t : Option Expr) (l : Nat) (env : Env) : swapsWith e t l env = pure false := by
  cases e <;> first | rfl | (exact absurd h (by simp [noComp]))
theorem starEach_plain {es : List Expr} (h : es.all nice = true) (env : Env) (pos : Pos) : (backTo pos (starEach es env)).any (·.1) = false := by
  induction es with
  | nil => rfl
  | cons e r ih =>
    have h' : nice e = true ∧ r.all nice = true := by simpa using h
    rw [nice_star h'.1]
    simpa [backTo] using ih h'.2

def nm (x : String) : Str := Str.ofString x
def vis (N : List Str) (sc : Scope) (i : Nat) (x : Str) : Bool :=
  N[i]? == some x && (sc.names.lookup x == some .local || sc.names.lookup x == some .cell || sc.names.lookup x == some .free) && !(x == ("__debug__" : Str)) && !(x == ("__classdict__" : Str))
def loc (N : List Str) (sc : Scope) (i : Nat) (x : Str) : Bool :=
  N[i]? == some x && (sc.names.lookup x == some .local || sc.names.lookup x == some .cell)
def glob (sc : Scope) (x : Str) : Bool := sc.names.lookup x == some .globalImplicit && !(x == ("__debug__" : Str)) && !(x == ("__name__" : Str))
def litB : D → Const → Bool
  | .non, .none => true
  | .bl b, .bool c => b == c
  | .int i, .int j => i == j
  | .str cs, .str z => z.cps.toList == cs && decide (cs.length ≤ szL)
  | _, _ => false
def bop : Op2 → Option Operator
  | .add => some .Add | .sub => some .Sub | .mul => some .Mult | .fdiv => some .FloorDiv | .mod => some .Mod | .pow => some .Pow | _ => none
def cop : Op2 → Option CmpOp
  | .eq => some .Eq | .ne => some .NotEq | .lt => some .Lt | .le => some .LtE | .gt => some .Gt | .ge => some .GtE | .mem => some .In | .nmem => some .NotIn | .isN => some .Is | .notN => some .IsNot | _ => none
def Bi.name : Bi → String
  | .len => "len" | .abs => "abs" | .int => "int" | .str => "str" | .repr => "repr" | .all => "all" | .any => "any" | .sum => "sum" | .max => "max" | .min => "min" | .max2 => "max" | .min2 => "min" | .tuple => "tuple"
def Bf.name : Bf → String
  | .list => "list" | .sorted => "sorted"
def Mt.name : Mt → String
  | .join => "join" | .index => "index"
def Mx.name : Mx → String
  | .get1 => "get" | .get2 => "get"
def Mw.name : Mw → String
  | .append => "append" | .pop => "pop" | .clear => "clear"
def Bi.arity : Bi → Nat
  | .max2 => 2 | .min2 => 2 | _ => 1
def Mx.arity : Mx → Nat
  | .get1 => 1 | .get2 => 2
def Mw.arity : Mw → Nat
  | .append => 1 | .pop => 0 | .clear => 0
def chkTg (N : List Str) (sc : Scope) : Tg → Expr → Bool
  | .nm i, .Name x _ => loc N sc i x
  | .t2 a b, .Tuple [x, y] _ _ => chkTg N sc a x && chkTg N sc b y && nice x && nice y
  | .t3 a b c, .Tuple [x, y, z] _ _ => chkTg N sc a x && chkTg N sc b y && chkTg N sc c z && nice x && nice y && nice z
  | _, _ => false
def tgIn (own : List Nat) : Tg → Bool
  | .nm i => own.contains i
  | .t2 a b => tgIn own a && tgIn own b
  | .t3 a b c => tgIn own a && tgIn own b && tgIn own c
def isTupE : Expr → Bool
  | .Tuple _ _ _ => true
  | _ => false
def isCmp : Expr → Bool
  | .Compare _ _ _ _ => true
  | _ => false
/-- a test that is its value's truth -/
def plainT : Expr → Bool
  | .UnaryOp .Not _ _ => false
  | .BoolOp _ _ _ => false
  | .IfExp _ _ _ _ => false
  | .Compare _ _ _ _ => false
  | _ => true
def isNone : Expr → Bool
  | .Constant .none _ _ => true
  | _ => false
def tyOk (n : String) : Bool := n == "int" || n == "bool" || n == "str" || n == "tuple" || n == "list" || n == "dict"
/-- the block of a comprehension -/
def blkB (N : List Str) (sc scope : Scope) (own : List Nat) : Bool :=
  scope.kind == .function && scope.names.all (fun y => scope.names.lookup y.1 == some y.2)
  && scope.names.all (fun y => !(y.2 == .free) || sc.names.lookup y.1 == some .cell || sc.names.lookup y.1 == some .free)
  && scope.names.all (fun y => !(y.2 == .local || y.2 == .cell) || (own.any fun i => N[i]? == some y.1) || !(N.contains y.1))
  && own.all (fun i => decide (i < N.length))

mutual
def chkE (P : Prog) (N : List Str) (sc : Scope) : E → Expr → Bool
  | .lit d, .Constant c _ _ => litB d c
  | .var i, .Name x _ => vis N sc i x
  | .glb x, .Name y _ => y == nm x && glob sc y && (P.glob x).isSome
  | .tup es, .Tuple xs _ _ => chkEs P N sc es xs
  | .op2 o a b, .BinOp x p y _ => bop o == some p && chkE P N sc a x && chkE P N sc b y && nice x && nice y
  | .op2 o a b, .Compare x [p] [y] _ => cop o == some p && chkE P N sc a x && chkE P N sc b y && nice x && nice y && (!(o == .isN || o == .notN) || isNone y)
  | .op1 o a, .UnaryOp .USub x _ => o == .neg && chkE P N sc a x && nice x
  | .chain o1 o2 a b c, .Compare x [p, q] [y, z] _ => cop o1 == some p && cop o2 == some q && chkE P N sc a x && chkE P N sc b y && chkE P N sc c z && nice x && nice y && nice z && (o1 == .le || o1 == .lt) && (o2 == .le || o2 == .lt)
  | .and a b, .BoolOp .And (x :: y :: r) p => chkE P N sc a x && nice x && (match r with
    | [] => chkE P N sc b y && nice y
    | _ => chkE P N sc b (.BoolOp .And (y :: r) p))
  | .or a b, .BoolOp .Or (x :: y :: r) p => chkE P N sc a x && nice x && (match r with
    | [] => chkE P N sc b y && nice y
    | _ => chkE P N sc b (.BoolOp .Or (y :: r) p))
  | .not a, .UnaryOp .Not x _ => chkE P N sc a x && nice x
  | .ite c a b, .IfExp t x y _ => chkT P N sc c t && chkE P N sc a x && chkE P N sc b y && nice t && nice x && nice y
  | .rev a, .Subscript x (.Slice none none (some (.UnaryOp .USub (.Constant (.int 1) _ _) _)) _) _ => chkE P N sc a x && nice x
  | .slc a lo hi, .Subscript x (.Slice l h none _) _ => chkE P N sc a x && chkO P N sc lo l && chkO P N sc hi h && nice x
  | .idx a i, .Subscript x y _ => chkE P N sc a x && chkE P N sc i y && nice x && nice y
  | .call f as, .Call (.Name x _) (e :: es) [] _ => x == nm f && glob sc x && (P.fns f).isSome && chkA P N sc as (e :: es) && (e :: es).all nice
  | .sset a, .Call (.Name x _) [.Call (.Name y _) [e] [] _] [] _ => x == nm "sorted" && y == nm "set" && glob sc x && glob sc y && chkE P N sc a e && nice e
  | .isi n a, .Call (.Name x _) [e, .Name y _] [] _ => tyOk n && x == nm "isinstance" && y == nm n && glob sc x && glob sc y && chkE P N sc a e && nice e
  | .bi b as, .Call (.Name x _) (e :: es) [] _ => x == nm b.name && glob sc x && chkEs P N sc as (e :: es) && (e :: es).all nice && (e :: es).length == b.arity
  | .mt m o as, .Call (.Attribute x f ap) (e :: es) [] p => f == nm m.name && chkE P N sc o x && chkEs P N sc as (e :: es) && nice x && (e :: es).all nice && es.isEmpty && ap.endLine == p.line
  | .mx m o as, .Call (.Attribute x f ap) (e :: es) [] p => f == nm m.name && chkE P N sc o x && chkEs P N sc as (e :: es) && nice x && (e :: es).all nice && (e :: es).length == m.arity && ap.endLine == p.line
  | .mw m o as, .Call (.Attribute x f ap) es [] p => f == nm m.name && chkE P N sc o x && chkEs P N sc as es && nice x && es.all nice && es.length == m.arity && ap.endLine == p.line
  | .fr f, e => chkF P N sc f e
  | _, _ => false
def chkT (P : Prog) (N : List Str) (sc : Scope) : Tst → Expr → Bool
  | .and a b, .BoolOp .And (x :: y :: r) p => chkT P N sc a x && nice x && (match r with
    | [] => chkT P N sc b y && nice y
    | _ => chkT P N sc b (.BoolOp .And (y :: r) p))
  | .or a b, .BoolOp .Or (x :: y :: r) p => chkT P N sc a x && nice x && (match r with
    | [] => chkT P N sc b y && nice y
    | _ => chkT P N sc b (.BoolOp .Or (y :: r) p))
  | .not a, .UnaryOp .Not x _ => chkT P N sc a x && nice x
  | .of e, x => chkE P N sc e x && nice x && (plainT x || isCmp x)
  | _, _ => false
def chkF (P : Prog) (N : List Str) (sc : Scope) : F → Expr → Bool
  | .lst es, .List xs _ => chkEs P N sc es xs
  | .dct _, .Dict [] [] _ => true
  | .lc own tg it ifs elt, .ListComp e [⟨t, i, fs, 0⟩] scope _ => blkB N sc scope own && chkI P N sc (isTupE t) it i && nice i && chkTg N (relS scope sc) tg t && tgIn own tg && chkC P N (relS scope sc) ifs fs && chkE P N (relS scope sc) elt e && nice e && (own.all fun i => (N[i]?).any fun x => scope.names.lookup x == some .local || scope.names.lookup x == some .cell)
  | .bf b as, .Call (.Name x _) (e :: es) [] _ => b == .list && x == nm b.name && glob sc x && chkEs P N sc as (e :: es) && (e :: es).all nice && (e :: es).length == 1
  | .call f as, .Call (.Name x _) (e :: es) [] _ => x == nm f && glob sc x && (P.fns f).isSome && chkA P N sc as (e :: es) && (e :: es).all nice
  | _, _ => false
def chkEs (P : Prog) (N : List Str) (sc : Scope) : Es → List Expr → Bool
  | .nil, [] => true
  | .cons e r, x :: xs => chkE P N sc e x && nice x && chkEs P N sc r xs
  | _, _ => false
def chkO (P : Prog) (N : List Str) (sc : Scope) : Es → Option Expr → Bool
  | .nil, none => true
  | .cons e .nil, some x => chkE P N sc e x && nice x
  | _, _ => false
def chkC (P : Prog) (N : List Str) (sc : Scope) : Tsts → List Expr → Bool
  | .nil, [] => true
  | .one e, [x] => chkT P N sc e x
  | _, _ => false
def chkA (P : Prog) (N : List Str) (sc : Scope) : As → List Expr → Bool
  | .nil, [] => true
  | .val e r, x :: xs => chkE P N sc e x && nice x && chkA P N sc r xs
  | .io i r, .Name x _ :: xs => vis N sc i x && chkA P N sc r xs
  | _, _ => false
def chkI (P : Prog) (N : List Str) (sc : Scope) (tup : Bool) : It → Expr → Bool
  | .rng1 a, .Call (.Name x _) [e] [] _ => x == nm "range" && glob sc x && chkE P N sc a e && nice e
  | .rng2 a b, .Call (.Name x _) [e, f] [] _ => x == nm "range" && glob sc x && chkE P N sc a e && nice e && chkE P N sc b f && nice f
  | .enum a, .Call (.Name x _) [e] [] _ => tup && x == nm "enumerate" && glob sc x && chkE P N sc a e && nice e
  | .zip a b, .Call (.Name x _) [e, f] [] _ => tup && x == nm "zip" && glob sc x && chkE P N sc a e && nice e && chkE P N sc b f && nice f
  | .of a, e => chkE P N sc a e && nice e
  | _, _ => false
end
end RS

/-! RsOps: the operators. -/
namespace RS
open PySem PySem.Spec PyProof.Rows L2

/-! ### data -/
mutual
def toPy : D → PyData
  | .non => .none
  | .bl b => .bool b
  | .int i => .int i
  | .str cs => .str (toStr cs)
  | .tup xs => .tuple (toPys xs)
  | .lst xs => .list (toPys xs)
  | _ => .none
def toPys : List D → List PyData
  | [] => []
  | x :: xs => toPy x :: toPys xs
end
mutual
theorem toPy_plain : ∀ d : D, (toPy d).plain = true
  | .non => rfl
  | .bl _ => rfl
  | .int _ => rfl
  | .str _ => rfl
  | .tup xs => by simp only [toPy, PyData.plain]; exact toPys_plain xs
  | .lst xs => by simp only [toPy, PyData.plain]; exact toPys_plain xs
  | .dct _ _ _ => rfl
  | .kl _ => rfl
  | .kt _ => rfl
  | .ref _ => rfl
  | .loc _ => rfl
  | .fn _ => rfl
  | .ty _ => rfl
theorem toPys_plain : ∀ ds : List D, PyData.plainAll (toPys ds) = true
  | [] => rfl
  | x :: xs => by simp only [toPys, PyData.plainAll, toPy_plain x, toPys_plain xs, Bool.and_self]
end
mutual
theorem toPy_depth : ∀ d : D, (toPy d).depth = d.dep
  | .non => rfl
  | .bl _ => rfl
  | .int _ => rfl
  | .str _ => rfl
  | .tup xs => by simp only [toPy, PyData.depth, D.dep]; rw [toPys_depth xs]
  | .lst xs => by simp only [toPy, PyData.depth, D.dep]; rw [toPys_depth xs]
  | .dct _ _ _ => rfl
  | .kl _ => rfl
  | .kt _ => rfl
  | .ref _ => rfl
  | .loc _ => rfl
  | .fn _ => rfl
  | .ty _ => rfl
theorem toPys_depth : ∀ ds : List D, PyData.depthAll (toPys ds) = D.deps ds
  | [] => rfl
  | x :: xs => by simp only [toPys, PyData.depthAll, D.deps, toPy_depth x, toPys_depth xs]
end
theorem toStr_beq (a b : Txt) : (toStr a == toStr b) = (a == b) := by
  by_cases h : a = b
  · subst h; simp
  · have : toStr a ≠ toStr b := fun e => h (toStr_inj e)
    rw [beq_eq_false_iff_ne.mpr this, beq_eq_false_iff_ne.mpr h]
mutual
theorem toPy_eqv : ∀ (a b : D), a.plain = true → b.plain = true → PyData.eqv (toPy a) (toPy b) = D.eqv a b
  | .non, b, _, hb => by cases b <;> first | rfl | (exact absurd hb (by simp [D.plain]))
  | .bl _, b, _, hb => by cases b <;> first | rfl | (exact absurd hb (by simp [D.plain]))
  | .int _, b, _, hb => by cases b <;> first | rfl | (exact absurd hb (by simp [D.plain]))
  | .str x, b, _, hb => by cases b <;> first | rfl | (exact toStr_beq _ _) | (exact absurd hb (by simp [D.plain]))
  | .tup xs, b, ha, hb => by
    cases b with
    | tup ys =>
      simp only [toPy, PyData.eqv, D.eqv]
      exact toPys_eqv xs _ ha hb
    | _ => first | rfl | (exact absurd hb (by simp [D.plain]))
  | .lst xs, b, ha, hb => by
    cases b with
    | lst ys =>
      simp only [toPy, PyData.eqv, D.eqv]
      exact toPys_eqv xs _ ha hb
    | _ => first | rfl | (exact absurd hb (by simp [D.plain]))
  | .dct _ _ _, _, ha, _ => absurd ha (by simp [D.plain])
  | .kl _, _, ha, _ => absurd ha (by simp [D.plain])
  | .kt _, _, ha, _ => absurd ha (by simp [D.plain])
  | .ref _, _, ha, _ => absurd ha (by simp [D.plain])
  | .loc _, _, ha, _ => absurd ha (by simp [D.plain])
  | .fn _, _, ha, _ => absurd ha (by simp [D.plain])
  | .ty _, _, ha, _ => absurd ha (by simp [D.plain])
theorem toPys_eqv : ∀ (a b : List D), D.plains a = true → D.plains b = true → PyData.eqvAll (toPys a) (toPys b) = D.eqvs a b
  | [], [], _, _ => rfl
  | [], _ :: _, _, _ => rfl
  | _ :: _, [], _, _ => rfl
  | x :: xs, y :: ys, ha, hb => by
    have h1 : D.plain x = true ∧ D.plains xs = true := by simpa [D.plains] using ha
    have h2 : D.plain y = true ∧ D.plains ys = true := by simpa [D.plains] using hb
    simp only [toPys, PyData.eqvAll, D.eqvs, toPy_eqv x y h1.1 h2.1, toPys_eqv xs ys h1.2 h2.2]
end
section
variable {X : Cx} {r : RC} {H : Hp}
mutual
theorem dp_of (hf : ∀ a u, r.fz a = some u → H a = some u) : ∀ {d : D} {v : V}, d.plain = true → VR (gX X) r d v → Dp X.K H v (toPy d)
  | .non, _, _, e => by cases (show _ = V.non from e); exact .non
  | .bl _, _, _, e => by cases (show _ = V.bl _ from e); exact .bl _
  | .int _, _, _, e => by cases (show _ = V.int _ from e); exact .int _
  | .str _, _, _, ⟨e, _⟩ => by subst e; exact .str _
  | .tup xs, _, p, ⟨a, vs, e, h, _, q⟩ => by subst e; exact .tup (.inl (.inl (hf _ _ h))) (dps_of hf p q)
  | .lst xs, _, p, ⟨a, vs, e, h, _, q⟩ => by subst e; exact .lst (.inl (.inl (hf _ _ h))) (dps_of hf p q)
  | .dct _ _ _, _, p, _ => absurd p (by simp [D.plain])
  | .kl _, _, p, _ => absurd p (by simp [D.plain])
  | .kt _, _, p, _ => absurd p (by simp [D.plain])
  | .ref _, _, p, _ => absurd p (by simp [D.plain])
  | .loc _, _, p, _ => absurd p (by simp [D.plain])
  | .fn _, _, p, _ => absurd p (by simp [D.plain])
  | .ty _, _, p, _ => absurd p (by simp [D.plain])
theorem dps_of (hf : ∀ a u, r.fz a = some u → H a = some u) : ∀ {ds : List D} {vs : List V}, D.plains ds = true → VRs (gX X) r ds vs → DpAll X.K H vs (toPys ds)
  | [], _, _, e => by cases (show _ = [] from e); exact .nil
  | d :: ds, _, p, ⟨v, t, e, q, qs⟩ => by
    have p' : D.plain d = true ∧ D.plains ds = true := by simpa [D.plains] using p
    subst e
    exact .cons (dp_of hf p'.1 q) (dps_of hf p'.2 qs)
end
theorem dp_cv (hf : ∀ a u, r.fz a = some u → H a = some u) {d : D} {v : V} (p : d.plain = true) (h : CV (gX X) r H d v) : Dp X.K H v (toPy d) := by
  cases d with
  | lst xs => obtain ⟨a, vs, e, h, _, q⟩ := h; subst e; exact .lst (.inl (.inl h)) (dps_of hf p q)
  | tup xs => obtain ⟨a, vs, e, h, _, q⟩ := h; subst e; exact .tup (.inl (.inl h)) (dps_of hf p q)
  | non => exact dp_of hf p h
  | bl _ => exact dp_of hf p h
  | int _ => exact dp_of hf p h
  | str _ => exact dp_of hf p h
  | _ => exact absurd p (by simp [D.plain])
end

/-! ### rules of the layer that are wanted besides -/
section
variable {X : Cx}
def rEqP (K : PySem.W.Frag) (f : Bool → Bool) : R2 := fun x y H Q => ∃ d e, Dp K H x d ∧ Dp K H y e ∧ d.plain = true ∧ e.plain = true ∧ min d.depth e.depth ≤ 60 ∧ Q (.bl (f (PyData.eqv d e))) H
theorem op_eqP (hu : X.A.units + 64 < cLine) : OpR X (compareOp .Eq) (rEqP X.K id) := by
  intro pins s σ H x y v u Q I rx ry h
  obtain ⟨d, e, hd, he, pd, pe, m, q⟩ := h
  obtain ⟨as, r1⟩ := Dp.reads I d x v hd rx
  obtain ⟨bs, r2⟩ := Dp.reads I e y u he ry
  exact PySem.SeqAt.eq_plain r1 r2 pd pe (by omega) ⟨.bl _, H, I, rfl, q⟩
theorem op_neP (hu : X.A.units + 64 < cLine) : OpR X (compareOp .NotEq) (rEqP X.K not) := by
  intro pins s σ H x y v u Q I rx ry h
  obtain ⟨d, e, hd, he, pd, pe, m, q⟩ := h
  obtain ⟨as, r1⟩ := Dp.reads I d x v hd rx
  obtain ⟨bs, r2⟩ := Dp.reads I e y u he ry
  exact PySem.SeqAt.ne_plain r1 r2 pd pe (by omega) ⟨.bl _, H, I, rfl, q⟩
def rInP (K : PySem.W.Frag) (f : Bool → Bool) : R2 := fun x y H Q => ∃ d ds, Dp K H x d ∧ (Dp K H y (.list ds) ∨ Dp K H y (.tuple ds)) ∧ d.plain = true ∧ PyData.plainAll ds = true ∧ d.depth ≤ 60 ∧ Q (.bl (f (ds.any fun z => PyData.eqv z d))) H
theorem op_inP (hu : X.A.units + 64 < cLine) : OpR X (compareOp .In) (rInP X.K id) := by
  intro pins s σ H x y v u Q I rx ry h
  obtain ⟨d, ds, hd, he, pd, pe, m, q⟩ := h
  obtain ⟨as, r1⟩ := Dp.reads I d x v hd rx
  rcases he with he | he
  · obtain ⟨bs, r2⟩ := Dp.reads I _ y u he ry
    exact PySem.SeqAt.in_list_data r2 r1 pe pd (by omega) ⟨.bl _, H, I, rfl, q⟩
  · obtain ⟨bs, r2⟩ := Dp.reads I _ y u he ry
    exact PySem.SeqAt.in_tuple_data r2 r1 pe pd (by omega) ⟨.bl _, H, I, rfl, q⟩
theorem op_notInP (hu : X.A.units + 64 < cLine) : OpR X (compareOp .NotIn) (rInP X.K not) := by
  intro pins s σ H x y v u Q I rx ry h
  obtain ⟨d, ds, hd, he, pd, pe, m, q⟩ := h
  obtain ⟨as, r1⟩ := Dp.reads I d x v hd rx
  rcases he with he | he
  · obtain ⟨bs, r2⟩ := Dp.reads I _ y u he ry
    exact PySem.SeqAt.notIn_list_data r2 r1 pe pd (by omega) ⟨.bl _, H, I, rfl, q⟩
  · obtain ⟨bs, r2⟩ := Dp.reads I _ y u he ry
    exact PySem.SeqAt.notIn_tuple_data r2 r1 pe pd (by omega) ⟨.bl _, H, I, rfl, q⟩
def rInD' (f : Bool → Bool) : R2 := fun x y H Q => ∃ a o, y = .ref a ∧ DGet H a x o ∧ Q (.bl (f o.isSome)) H
theorem op_inDct (hu : X.A.units + 64 < cLine) : OpR X (compareOp .In) (rInD' id) := by
  intro pins s σ H x y v u Q I rx ry h
  obtain ⟨a, o, rfl, g, q⟩ := h
  cases ry
  exact d_in (by omega) I g rx fun s' I' => ⟨.bl _, H, I', rfl, q⟩
theorem op_notInDct (hu : X.A.units + 64 < cLine) : OpR X (compareOp .NotIn) (rInD' not) := by
  intro pins s σ H x y v u Q I rx ry h
  obtain ⟨a, o, rfl, g, q⟩ := h
  cases ry
  exact d_notIn (by omega) I g rx fun s' I' => ⟨.bl _, H, I', rfl, q⟩
theorem op_notin_sign : OpR X (compareOp .NotIn) (fun x y H Q => ∃ (c : Nat) (z : Str), x = .str ⟨#[c]⟩ ∧ y = .str z ∧ Q (.bl (!decide (c ∈ z.cps.toList))) H) := by
  exact op_notIn_sign
end
end RS

/-! RsOps2: the operators, by the evaluator's answers. -/
namespace RS
open PySem PySem.Spec PyProof.Rows L2

/-- what follows wants this answer -/
def Ans (X : Cx) (r : RC) (s : S) (σ : Sg) (d : D) (Q : VK) : Prop := ∀ r' v H', r.le r' → Rel (gX X) r' s σ H' → VR (gX X) r' d v → Q v H'
section
variable {X : Cx} {r : RC} {s : S} {σ : Sg} {H : Hp} {Q : VK}
theorem Ans.here {d : D} {v : V} (k : Ans X r s σ d Q) (R : Rel (gX X) r s σ H) (h : VR (gX X) r d v) : Q v H := k r v H (.refl r) R h
theorem Ans.lst {ds : List D} {xs : List V} (k : Ans X r s σ (.lst ds) Q) (R : Rel (gX X) r s σ H) (h : VRs (gX X) r ds xs) (hl : ds.length ≤ szL) {p : Addr} (hp : H p = none) : Q (.ref p) (upd H p (.lst xs)) := by
  obtain ⟨R', le⟩ := R.fresh hp (.lst xs)
  exact k _ _ _ le R' ⟨p, xs, rfl, upd_same, hl, VRs.mono le h⟩
theorem Ans.tup {ds : List D} {xs : List V} (k : Ans X r s σ (.tup ds) Q) (R : Rel (gX X) r s σ H) (h : VRs (gX X) r ds xs) (hl : ds.length ≤ szL) {p : Addr} (hp : H p = none) : Q (.ref p) (upd H p (.tup xs)) := by
  obtain ⟨R', le⟩ := R.fresh hp (.tup xs)
  exact k _ _ _ le R' ⟨p, xs, rfl, upd_same, hl, VRs.mono le h⟩
end
def Op2S (X : Cx) (o : Op2) (rel : R2) : Prop := ∀ (r : RC) (s : S) (σ : Sg) (H : Hp) (x y d : D) (v1 v2 : V) (Q : VK), Rel (gX X) r s σ H → CV (gX X) r H x v1 → CV (gX X) r H y v2 → op2 o x y = some d → Ans X r s σ d Q → rel v1 v2 H Q

theorem fit_le {n : Nat} (h : D.fit n = true) : n ≤ szL := of_decide_eq_true h
theorem lineEq : sizeLine = szL := szL_line.symm
theorem toStr_append (a b : Txt) : toStr a ++ toStr b = toStr (a ++ b) := by
  show Str.mk (a.toArray ++ b.toArray) = Str.mk (a ++ b).toArray
  simp
theorem VRs.nil_iff {g : Gm} {r : RC} {ds : List D} {xs : List V} (h : VRs g r ds xs) : xs = [] ↔ ds = [] := by
  cases ds with
  | nil => exact ⟨fun _ => rfl, fun _ => h⟩
  | cons d ds =>
    obtain ⟨v, t, e, _⟩ := h
    subst e
    simp
theorem VRs.reps {g : Gm} {r : RC} {ds : List D} {xs : List V} (h : VRs g r ds xs) : ∀ n : Nat, VRs g r (RS.reps n ds) (List.replicate n xs).flatten
  | 0 => rfl
  | n + 1 => by
    unfold RS.reps
    rw [List.replicate_succ, List.replicate_succ, List.flatten_cons, List.flatten_cons]
    exact VRs.append h (VRs.reps h n)
theorem reps_length {α : Type} (n : Nat) (xs : List α) : (reps n xs).length = xs.length * n := by
  unfold reps
  simp [List.length_flatten, Nat.mul_comm]
theorem reps_nil {α : Type} (n : Nat) : reps n ([] : List α) = [] := by
  unfold reps
  simp
theorem reps_one {α : Type} (xs : List α) : reps 1 xs = xs := by simp [reps]

section
variable {X : Cx}
theorem foldl_cps (cs : Txt) : ∀ (n : Nat) (acc : List Nat), (List.replicate n cs.toArray).foldl (· ++ ·) acc.toArray = (acc ++ (List.replicate n cs).flatten).toArray
  | 0, acc => by simp
  | n + 1, acc => by
    rw [List.replicate_succ, List.replicate_succ, List.foldl_cons, List.flatten_cons, ← List.append_assoc]
    rw [show acc.toArray ++ cs.toArray = (acc ++ cs).toArray by simp]
    exact foldl_cps cs n (acc ++ cs)
theorem op_mulStr : OpR X (binaryOp .Mult) (fun x y H Q => ∃ (cs : Txt) (j : Int), x = .str (toStr cs) ∧ y = .int j ∧ 0 ≤ j ∧ j ≤ 16777216 ∧ cs.length * j.toNat ≤ szL ∧ Q (.str (toStr (reps j.toNat cs))) H) := by
  intro pins s σ H x y v u Q I rx ry h
  obtain ⟨cs, j, rfl, rfl, h0, h2, hz, q⟩ := h
  obtain ⟨t, rfl⟩ := rx
  obtain ⟨t', rfl⟩ := ry
  have hx : (toStr cs).length = cs.length := toStr_len cs
  have hz' : cs.length * j.toNat ≤ 16777216 := hz
  have hl := lineEq
  refine PySem.P.mul_str ?_ (fun h1 h3 => ?_) (fun h1 h3 => ?_) ?_
  · rw [decide_eq_false (by omega), decide_eq_false (by omega)]
    rfl
  · have hj : j ≤ 16777216 := h2
    have hn : cs.length ≤ 16777216 := by
      have : cs.length ≤ cs.length * j.toNat := Nat.le_mul_of_pos_right _ (by omega)
      omega
    rw [hx]
    have : (16777216 : Int) ≤ (2 ^ 63 - 1) / j := (Int.le_ediv_iff_mul_le (by omega)).mpr (by omega)
    omega
  · rw [hx]
    unfold Builtin.Str.tooLong
    rw [hl]
    exact decide_eq_false (by
      have : szL = 16777216 := rfl
      omega)
  · by_cases h1 : j < 1
    · rw [if_pos h1]
      have e : j = 0 := by omega
      subst e
      refine ⟨by decide, .str (toStr []), H, I.tok _, ⟨_, rfl⟩, ?_⟩
      have : reps (0 : Int).toNat cs = [] := by simp [reps]
      rw [this] at q
      exact q
    · rw [if_neg h1]
      by_cases h3 : (j == 1 || (toStr cs).length == 0) = true
      · rw [if_pos h3]
        have e : reps j.toNat cs = cs := by
          rcases Bool.or_eq_true_iff.mp h3 with h | h
          · have : j = 1 := by simpa using h
            subst this
            exact reps_one cs
          · rw [hx] at h
            have : cs = [] := List.eq_nil_of_length_eq_zero (by simpa using h)
            subst this
            exact reps_nil _
        rw [e] at q
        exact ⟨.str (toStr cs), H, I, ⟨_, rfl⟩, q⟩
      · rw [if_neg h3]
        have e := foldl_cps cs j.toNat []
        rw [List.nil_append] at e
        have e' : (Str.mk ((List.replicate j.toNat (toStr cs).cps).foldl (· ++ ·) #[])) = toStr (reps j.toNat cs) := congrArg Str.mk e
        rw [e']
        refine ⟨?_, .str _, H, I.tok _, ⟨_, rfl⟩, q⟩
        rw [toStr_len, reps_length, hl]
        exact hz
theorem tuple_mul_same (l : Addr) (items : Array Value) (n : Nat) (dd : Option Addr) (sl : Array (Option Value)) (x : Int) (u : Tok) (c0 : (decide (x < -(2 ^ 63)) || decide (x ≥ 2 ^ 63)) = false) (c1 : (items.isEmpty || x == 1) = true) :
    Meets (Builtin.«tuple.__mul__» ⟨[.ref l, .int x u], []⟩) (fun _ R s => s.heap.get? l = some { cls := .type "tuple", dict := dd, data := .seq items n, slots := sl } ∧
      R (.ok (.ret (Value.ref l))) s) :=
  .of_wp fun prog w A R s h => by
    obtain ⟨hp, g, d, tk, os⟩ := s
    obtain ⟨hl, h⟩ := h
    have f1 := AutoSeq1.idx_int
    wp_walk using wpAny_loadPart' hl
    repeat (first
      | (refine wpAny_ite_false (decide_eq_false (by rw [c0]; exact Bool.false_ne_true)) ?_; wp_walk using wpAny_loadPart' hl)
      | (refine wpAny_ite_true (decide_eq_true (by rw [c1])) ?_; wp_walk using wpAny_loadPart' hl))
    exact ⟨_, rfl, h⟩
def rMulT : R2 := fun x y H Q => ∃ (a : Addr) (k : Int) (xs : List V), x = .ref a ∧ y = .int k ∧ H a = some (.tup xs) ∧ 1 ≤ k ∧ k ≤ 16777216 ∧ xs.length * k.toNat ≤ szL ∧
  ((xs = [] ∨ k = 1) → Q (.ref a) H) ∧ (¬ (xs = [] ∨ k = 1) → ∀ p, H p = none → Q (.ref p) (upd H p (.tup (List.replicate k.toNat xs).flatten)))
theorem op_mulTup : OpR X (binaryOp .Mult) rMulT := by
  intro pins s σ H x y v u Q I rx ry h
  obtain ⟨l, k, xs, rfl, rfl, hT, h1, h2, hz, q1, q2⟩ := h
  cases rx
  obtain ⟨t, rfl⟩ := ry
  obtain ⟨its, r, ⟨⟨cls, dd, data, sl⟩, ho, hc, n, hd⟩, hs⟩ := I.tuple (.inl (.inl hT))
  simp only at hc hd
  subst hc hd
  have hle : its.length = xs.length := r.length.symm
  have hsz0 : its.toArray.size = xs.length := by rw [List.size_toArray, hle]
  have hszL : szL = 16777216 := rfl
  have c0 : (decide (k < -(2 ^ 63)) || decide (k ≥ 2 ^ 63)) = false := by
    rw [decide_eq_false (by omega), decide_eq_false (by omega)] <;> rfl
  by_cases hsame : xs = [] ∨ k = 1
  · have c1 : (its.toArray.isEmpty || k == 1) = true := by
      rcases hsame with e | e
      · subst e
        have : its = [] := List.eq_nil_of_length_eq_zero (by rw [hle]; rfl)
        subst this
        rfl
      · subst e
        simp
    refine wpAny_binaryOp_repeat_ref (T := "tuple") (U := "int") (by decide) ⟨_, ho, rfl⟩ (fun s' => typeIs_int s' k t) noFill_tuple_mul F.fills_int_mul F.slot_int_rmul repeat_tuple F.slot_int_index.lookup
      (call_meets F.slot_int_rmul (typeIs_int s k t) F.entry_int_rmul (F.args_int_rmul_2 _ _) (int_rmul_tuple k t l its.toArray n dd sl)
        ⟨ho, rfl, ⟨_, ho, rfl⟩, call_meets F.slot_tuple_mul ⟨_, ho, rfl⟩ F.entry_tuple_mul (F.args_tuple_mul_2 _ _) (tuple_mul_same l its.toArray n dd sl k t c0 c1) ⟨ho, ?_⟩⟩)
    exact ⟨.ref l, H, I, rfl, q1 hsame⟩
  · have hne : xs ≠ [] := fun e => hsame (.inl e)
    have hk1 : k ≠ 1 := fun e => hsame (.inr e)
    have hn : its ≠ [] := fun e => hne (by
      rw [e] at hle
      exact List.eq_nil_of_length_eq_zero hle.symm)
    have hi : its.toArray.isEmpty = false := by
      cases its with
      | nil => exact absurd rfl hn
      | cons a b => rfl
    have hm0 : ((xs.length * k.toNat : Nat) : Int) = ((xs.length : Nat) : Int) * k := by
      rw [Int.natCast_mul, Int.toNat_of_nonneg (by omega)]
    have hm : ((its.toArray.size : Nat) : Int) * k ≤ 16777216 := by
      rw [hsz0, ← hm0]
      omega
    have flen : (List.replicate k.toNat its).flatten.length ≤ sizeLine := by
      rw [PyProof.Rows.lm_len_rep_flat, hle, sizeLine_eq, Nat.mul_comm]
      exact hz
    have flen' : (List.replicate k.toNat xs).flatten.length ≤ sizeLine := by
      rw [PyProof.Rows.lm_len_rep_flat, sizeLine_eq, Nat.mul_comm]
      exact hz
    have c1 : (its.toArray.isEmpty || k == 1) = false := by
      rw [hi, Bool.false_or]
      exact beq_eq_false_iff_ne.mpr hk1
    have c2 : (decide (k ≤ 0) || its.toArray.isEmpty) = false := by
      rw [hi, Bool.or_false]
      exact decide_eq_false (by omega)
    have c4 : Builtin.Tuple.tupleTooMany (((its.toArray.size : Nat) : Int) * k) = false := by
      unfold Builtin.Tuple.tupleTooMany
      rw [sizeLine_eq]
      exact decide_eq_false (by omega)
    refine wpAny_binaryOp_repeat_ref (T := "tuple") (U := "int") (by decide) ⟨_, ho, rfl⟩ (fun s' => typeIs_int s' k t) noFill_tuple_mul F.fills_int_mul F.slot_int_rmul repeat_tuple F.slot_int_index.lookup
      (call_meets F.slot_int_rmul (typeIs_int s k t) F.entry_int_rmul (F.args_int_rmul_2 _ _) (int_rmul_tuple k t l its.toArray n dd sl)
        ⟨ho, rfl, ⟨_, ho, rfl⟩, call_meets F.slot_tuple_mul ⟨_, ho, rfl⟩ F.entry_tuple_mul (F.args_tuple_mul_2 _ _) (tuple_mulW l its.toArray n dd sl k t c0 c1 c2 (by omega) c4 (by rw [size_rep, List.size_toArray]; exact flen)) ⟨ho, ?_⟩⟩)
    rw [size_rep]
    refine ⟨.ref s.heap.objs.size, _, I.laid (t' := s.toks) (o := .tup (List.replicate k.toNat xs).flatten) (fun b ob q => Heap.get?_push_of_some _ q) (Nat.le_refl _) ?_, rfl, q2 hsame _ (I.hok.fresh (Nat.le_refl _))⟩
    exact ⟨flen', _, r.rep k.toNat, IsTup.new _ _⟩
end

/-! ### the binary operators -/
section
variable {X : Cx}
def rAddAll (K : PySem.W.Frag) : R2 := fun x y H Q => (((rI0 (fun i j => .int (i + j)) x y H Q) ∨ (∃ i j, x = .str i ∧ y = .str j ∧ i.length + j.length ≤ sizeLine ∧ Q (.str (i ++ j)) H)) ∨ rCat x y H Q) ∨ rCatA K x y H Q
theorem op_addAll : OpR X (binaryOp .Add) (rAddAll X.K) := ((op_add.or op_add_str).or op_cat).or op_catA
theorem s_add : Op2S X .add (rAddAll X.K) := by
  intro r s σ H x y d v1 v2 Q R c1 c2 h k
  simp only [op2] at h
  split at h
  · cases h
    cases (show _ = V.int _ from c1)
    cases (show _ = V.int _ from c2)
    exact .inl (.inl (.inl ⟨_, _, rfl, rfl, k.here R rfl⟩))
  · split at h
    · rename_i i j hf
      cases h
      obtain ⟨rfl, l1⟩ := c1
      obtain ⟨rfl, l2⟩ := c2
      have hf := fit_le hf
      refine .inl (.inl (.inr ⟨_, _, rfl, rfl, ?_, ?_⟩))
      · rw [toStr_len, toStr_len, lineEq]
        exact hf
      · rw [toStr_append]
        exact k.here R ⟨rfl, by rw [List.length_append]; exact hf⟩
    · cases h
  · split at h
    · rename_i i j hf
      cases h
      obtain ⟨a, xs, rfl, ha, l1, q1⟩ := c1
      obtain ⟨b, ys, rfl, hb, l2, q2⟩ := c2
      have hf := fit_le hf
      refine .inl (.inr ⟨a, b, xs, ys, rfl, rfl, ha, hb, ?_, fun p hp => ?_⟩)
      · rw [← q1.length, ← q2.length, lineEq]
        exact hf
      · exact k.lst R (q1.append q2) (by rw [List.length_append]; exact hf) hp
    · cases h
  · split at h
    · rename_i i j hf
      cases h
      obtain ⟨a, xs, rfl, ha, l1, q1⟩ := c1
      obtain ⟨b, ys, rfl, hb, l2, q2⟩ := c2
      have hf := fit_le hf
      refine .inr ⟨a, b, xs, ys, rfl, rfl, .inl (.inl ha), .inl (.inl hb), ?_, fun e => ?_, fun e1 e2 => ?_, fun e1 e2 p hp => ?_⟩
      · rw [← q1.length, ← q2.length, lineEq]
        exact hf
      · have e' := q1.nil_iff.mp e
        subst e'
        obtain ⟨R', le⟩ := R.tup hb
        exact k _ _ _ le R' ⟨b, ys, rfl, upd_same, l2, VRs.mono le q2⟩
      · have e' := q2.nil_iff.mp e2
        subst e'
        rw [List.append_nil] at k
        obtain ⟨R', le⟩ := R.tup ha
        exact k _ _ _ le R' ⟨a, xs, rfl, upd_same, l1, VRs.mono le q1⟩
      · exact k.tup R (q1.append q2) (by rw [List.length_append]; exact hf) hp
    · cases h
  · cases h
theorem s_sub : Op2S X .sub (rI0 fun i j => .int (i - j)) := by
  intro r s σ H x y d v1 v2 Q R c1 c2 h k
  simp only [op2] at h
  split at h
  · cases h
    cases (show _ = V.int _ from c1)
    cases (show _ = V.int _ from c2)
    exact ⟨_, _, rfl, rfl, k.here R rfl⟩
  · cases h
theorem small_ok {i : Int} (h : small i = true) : -(2 ^ 64) < i ∧ i < 2 ^ 64 := by simpa [small] using h
def rMulAll : R2 := fun x y H Q => ((rI CMul (fun i j => .int (i * j)) x y H Q) ∨ (∃ (cs : Txt) (j : Int), x = .str (toStr cs) ∧ y = .int j ∧ 0 ≤ j ∧ j ≤ 16777216 ∧ cs.length * j.toNat ≤ szL ∧ Q (.str (toStr (reps j.toNat cs))) H)) ∨ rMulT x y H Q
theorem op_mulAll : OpR X (binaryOp .Mult) rMulAll := (op_mul.or op_mulStr).or op_mulTup
theorem s_mul : Op2S X .mul rMulAll := by
  intro r s σ H x y d v1 v2 Q R c1 c2 h k
  simp only [op2] at h
  split at h
  · split at h
    · rename_i i j hs
      cases h
      cases (show _ = V.int _ from c1)
      cases (show _ = V.int _ from c2)
      refine .inl (.inl ⟨_, _, rfl, rfl, ?_, k.here R rfl⟩)
      rcases Bool.or_eq_true_iff.mp hs with h | h
      · exact .inl (small_ok h)
      · exact .inr (small_ok h)
    · cases h
  · split at h
    · rename_i i j hs
      cases h
      obtain ⟨rfl, l1⟩ := c1
      cases (show _ = V.int _ from c2)
      simp only [Bool.and_eq_true, decide_eq_true_eq] at hs
      have hf := fit_le hs.2
      exact .inl (.inr ⟨_, _, rfl, rfl, hs.1.1, hs.1.2, hf, k.here R ⟨rfl, by rw [reps_length]; exact hf⟩⟩)
    · cases h
  · split at h
    · rename_i i j hs
      cases h
      obtain ⟨a, xs, rfl, ha, l1, q1⟩ := c1
      cases (show _ = V.int _ from c2)
      simp only [Bool.and_eq_true, decide_eq_true_eq] at hs
      have hf := fit_le hs.2
      refine .inr ⟨a, j, xs, rfl, rfl, ha, hs.1.1, hs.1.2, by rw [← q1.length]; exact hf, fun e => ?_, fun e p hp => ?_⟩
      · have e' : reps j.toNat i = i := by
          rcases e with e | e
          · have := q1.nil_iff.mp e
            subst this
            exact reps_nil _
          · subst e
            exact reps_one _
        rw [e'] at k
        obtain ⟨R', le⟩ := R.tup ha
        exact k _ _ _ le R' ⟨a, xs, rfl, upd_same, l1, VRs.mono le q1⟩
      · exact k.tup R (q1.reps _) (by rw [reps_length]; exact hf) hp
    · cases h
  · cases h
theorem s_fdiv : Op2S X .fdiv (rI CDiv fun i j => .int (i / j)) := by
  intro r s σ H x y d v1 v2 Q R c1 c2 h k
  simp only [op2] at h
  split at h
  · split at h
    · rename_i i j hs
      cases h
      cases (show _ = V.int _ from c1)
      cases (show _ = V.int _ from c2)
      simp only [Bool.and_eq_true, decide_eq_true_eq] at hs
      exact ⟨_, _, rfl, rfl, hs, k.here R rfl⟩
    · cases h
  · cases h
theorem s_mod : Op2S X .mod (rI (fun _ j => 0 < j) fun i j => .int (i % j)) := by
  intro r s σ H x y d v1 v2 Q R c1 c2 h k
  simp only [op2] at h
  split at h
  · split at h
    · rename_i i j hs
      cases h
      cases (show _ = V.int _ from c1)
      cases (show _ = V.int _ from c2)
      simp only [decide_eq_true_eq] at hs
      exact ⟨_, _, rfl, rfl, hs, k.here R rfl⟩
    · cases h
  · cases h
theorem s_pow : Op2S X .pow (rI CPow fun i j => .int (i ^ j.toNat)) := by
  intro r s σ H x y d v1 v2 Q R c1 c2 h k
  simp only [op2] at h
  split at h
  · split at h
    · rename_i i j hs
      cases h
      cases (show _ = V.int _ from c1)
      cases (show _ = V.int _ from c2)
      simp only [Bool.and_eq_true, decide_eq_true_eq] at hs
      have hz := small_ok hs.2
      exact ⟨_, _, rfl, rfl, ⟨hs.1.1, by omega, by omega⟩, k.here R rfl⟩
    · cases h
  · cases h

/-! ### comparisons -/
def rLtAll : R2 := fun x y H Q => (rI0 (fun i j => .bl (decide (i < j))) x y H Q) ∨ ∃ i j, x = .str i ∧ y = .str j ∧ Q (.bl (decide (i.cps.toList < j.cps.toList))) H
def rLeAll : R2 := fun x y H Q => (rI0 (fun i j => .bl (decide (i ≤ j))) x y H Q) ∨ ∃ i j, x = .str i ∧ y = .str j ∧ Q (.bl (!decide (j.cps.toList < i.cps.toList))) H
def rGtAll : R2 := fun x y H Q => (rI0 (fun i j => .bl (decide (j < i))) x y H Q) ∨ ∃ i j, x = .str i ∧ y = .str j ∧ Q (.bl (decide (j.cps.toList < i.cps.toList))) H
def rGeAll : R2 := fun x y H Q => (rI0 (fun i j => .bl (decide (j ≤ i))) x y H Q) ∨ ∃ i j, x = .str i ∧ y = .str j ∧ Q (.bl (!decide (i.cps.toList < j.cps.toList))) H
theorem op_ltAll : OpR X (compareOp .Lt) rLtAll := op_lt.or op_lt_str
theorem op_leAll : OpR X (compareOp .LtE) rLeAll := op_le.or op_le_str
theorem op_gtAll : OpR X (compareOp .Gt) rGtAll := op_gt.or op_gt_str
theorem op_geAll : OpR X (compareOp .GtE) rGeAll := op_ge.or op_ge_str
theorem opLt_cases {x y : D} {b : Bool} (h : opLt x y = some b) : (∃ i j, x = .int i ∧ y = .int j ∧ b = decide (i < j)) ∨ ∃ i j, x = .str i ∧ y = .str j ∧ b = decide (i < j) := by
  simp only [opLt] at h
  split at h
  · cases h; exact .inl ⟨_, _, rfl, rfl, rfl⟩
  · cases h; exact .inr ⟨_, _, rfl, rfl, rfl⟩
  · cases h
theorem cps_toStr (i : Txt) : (toStr i).cps.toList = i := by simp [toStr]
theorem s_lt : Op2S X .lt rLtAll := by
  intro r s σ H x y d v1 v2 Q R c1 c2 h k
  obtain ⟨b, e, rfl⟩ := Option.map_eq_some_iff.mp (show (opLt x y).map .bl = some d from h)
  rcases opLt_cases e with ⟨i, j, rfl, rfl, rfl⟩ | ⟨i, j, rfl, rfl, rfl⟩
  · cases (show _ = V.int _ from c1)
    cases (show _ = V.int _ from c2)
    exact .inl ⟨_, _, rfl, rfl, k.here R rfl⟩
  · obtain ⟨rfl, l1⟩ := c1
    obtain ⟨rfl, l2⟩ := c2
    exact .inr ⟨_, _, rfl, rfl, k.here R (by simp only [cps_toStr]; exact rfl)⟩
theorem s_gt : Op2S X .gt rGtAll := by
  intro r s σ H x y d v1 v2 Q R c1 c2 h k
  obtain ⟨b, e, rfl⟩ := Option.map_eq_some_iff.mp (show (opLt y x).map .bl = some d from h)
  rcases opLt_cases e with ⟨i, j, rfl, rfl, rfl⟩ | ⟨i, j, rfl, rfl, rfl⟩
  · cases (show _ = V.int _ from c1)
    cases (show _ = V.int _ from c2)
    exact .inl ⟨_, _, rfl, rfl, k.here R rfl⟩
  · obtain ⟨rfl, l1⟩ := c1
    obtain ⟨rfl, l2⟩ := c2
    exact .inr ⟨_, _, rfl, rfl, k.here R (by simp only [cps_toStr]; exact rfl)⟩
theorem opLe_cases {x y : D} {b : Bool} (h : opLe x y = some b) : (∃ i j, x = .int i ∧ y = .int j ∧ b = decide (i ≤ j)) ∨ ∃ i j, x = .str i ∧ y = .str j ∧ b = !decide (j < i) := by
  simp only [opLe] at h
  split at h
  · cases h; exact .inl ⟨_, _, rfl, rfl, rfl⟩
  · cases h; exact .inr ⟨_, _, rfl, rfl, rfl⟩
  · cases h
theorem s_le : Op2S X .le rLeAll := by
  intro r s σ H x y d v1 v2 Q R c1 c2 h k
  obtain ⟨b, e, rfl⟩ := Option.map_eq_some_iff.mp (show (opLe x y).map .bl = some d from h)
  rcases opLe_cases e with ⟨i, j, rfl, rfl, rfl⟩ | ⟨i, j, rfl, rfl, rfl⟩
  · cases (show _ = V.int _ from c1)
    cases (show _ = V.int _ from c2)
    exact .inl ⟨_, _, rfl, rfl, k.here R rfl⟩
  · obtain ⟨rfl, l1⟩ := c1
    obtain ⟨rfl, l2⟩ := c2
    exact .inr ⟨_, _, rfl, rfl, k.here R (by simp only [cps_toStr]; exact rfl)⟩
theorem s_ge : Op2S X .ge rGeAll := by
  intro r s σ H x y d v1 v2 Q R c1 c2 h k
  obtain ⟨b, e, rfl⟩ := Option.map_eq_some_iff.mp (show (opLe y x).map .bl = some d from h)
  rcases opLe_cases e with ⟨i, j, rfl, rfl, rfl⟩ | ⟨i, j, rfl, rfl, rfl⟩
  · cases (show _ = V.int _ from c1)
    cases (show _ = V.int _ from c2)
    exact .inl ⟨_, _, rfl, rfl, k.here R rfl⟩
  · obtain ⟨rfl, l1⟩ := c1
    obtain ⟨rfl, l2⟩ := c2
    exact .inr ⟨_, _, rfl, rfl, k.here R (by simp only [cps_toStr]; exact rfl)⟩
end

/-! ### keys -/
def toKey : D → Option Key
  | .int i => some (.inl i)
  | .str cs => some (.inr (toStr cs))
  | _ => none
theorem kD_toKey {d : D} {k : Key} (h : toKey d = some k) : d = kD k := by
  cases d <;> simp only [toKey] at h
  case int i => cases h; rfl
  case str cs => cases h; simp [kD, cps_toStr]
  all_goals cases h
theorem toKey_flat {d : D} (h : d.flat = true) : ∃ k, toKey d = some k := by
  cases d <;> first | exact ⟨_, rfl⟩ | (exact absurd h (by simp [D.flat]))
theorem kD_inj {a b : Key} (h : kD a = kD b) : a = b := by
  cases a <;> cases b <;> simp only [kD] at h
  · cases h; rfl
  · cases h
  · cases h
  · have h : D.str _ = D.str _ := h
    injection h with h
    congr 1
    rename_i x y _
    rw [← toStr_of x, ← toStr_of y, h]
theorem keq_kD (a b : Key) : D.keq (kD a) (kD b) = decide (a = b) := by
  cases a <;> cases b <;> simp only [kD, D.keq]
  · rename_i i j
    by_cases h : i = j
    · subst h; simp
    · rw [decide_eq_false (fun e => h (by cases e; rfl)), beq_eq_false_iff_ne.mpr h]
  · rfl
  · rfl
  · rename_i x y
    by_cases h : x = y
    · subst h; simp
    · rw [decide_eq_false (fun e => h (by cases e; rfl))]
      exact beq_eq_false_iff_ne.mpr fun e => h (by rw [← toStr_of x, ← toStr_of y, e])
theorem eqvs_kD : ∀ (a b : List Key), D.eqvs (a.map kD) (b.map kD) = decide (a = b)
  | [], [] => rfl
  | [], _ :: _ => rfl
  | _ :: _, [] => rfl
  | x :: xs, y :: ys => by
    simp only [List.map_cons, D.eqvs]
    have e1 : D.eqv (kD x) (kD y) = decide (x = y) := by
      rw [← keq_kD]
      cases x <;> cases y <;> rfl
    rw [e1, eqvs_kD xs ys]
    by_cases h1 : x = y <;> by_cases h2 : xs = ys <;> simp [h1, h2]
section
variable {g : Gm} {r : RC}
theorem kV_of {d : D} {v : V} {k : Key} (h : toKey d = some k) (q : VR g r d v) : v = kV k := by
  cases d <;> simp only [toKey] at h
  case int i => cases h; exact q
  case str cs => cases h; exact q.1
  all_goals cases h
theorem kVs_of : ∀ {ds : List D} {vs : List V}, ds.all D.flat = true → VRs g r ds vs → ∃ ks : List Key, vs = ks.map kV ∧ ds = ks.map kD
  | [], _, _, e => ⟨[], e, rfl⟩
  | d :: ds, _, hf, ⟨v, t, e, q, qs⟩ => by
    have hf' : d.flat = true ∧ ds.all D.flat = true := by simpa using hf
    obtain ⟨k, hk⟩ := toKey_flat hf'.1
    obtain ⟨ks, e1, e2⟩ := kVs_of hf'.2 qs
    exact ⟨k :: ks, by rw [e, kV_of hk q, e1]; rfl, by rw [List.map_cons, ← kD_toKey hk, ← e2]⟩
/-- what a dict holds at a key -/
theorem dGet_K (x : Key) : ∀ (kvs : List (Key × V)) (vs : List D), VRs g r vs (kvs.map (·.2)) → (∀ d, dGet (kvs.map fun p => kD p.1) vs (kD x) = some d → ∃ v, valV kvs x = some v ∧ VR g r d v) ∧
    (dGet (kvs.map fun p => kD p.1) vs (kD x) = none → valV kvs x = none)
  | [], vs, _ => ⟨fun d e => by simp [dGet] at e, fun _ => rfl⟩
  | (k, v) :: kvs, [], h => by
    have h : _ = [] := h
    cases h
  | (k, v) :: kvs, d :: vs, h => by
    obtain ⟨v', t, e, q, qs⟩ := h
    simp only [List.map_cons, List.cons.injEq] at e
    obtain ⟨e1, e2⟩ := e
    subst e1 e2
    obtain ⟨ih1, ih2⟩ := dGet_K x kvs vs qs
    simp only [List.map_cons, dGet, keq_kD]
    by_cases hk : k = x
    · simp only [hk, decide_true, if_true]
      exact ⟨fun d' e => by cases e; exact ⟨v, valV_pos (p := (x, v)) rfl, q⟩, fun e => by cases e⟩
    · simp only [hk, decide_false, Bool.false_eq_true, if_false]
      rw [valV_neg (p := (k, v)) hk]
      exact ⟨ih1, ih2⟩
theorem dGet_T (x : List Key) : ∀ (kvs : List (List Key × V)) (vs : List D), VRs g r vs (kvs.map (·.2)) → (∀ d, dGet (kvs.map fun p => .tup (p.1.map kD)) vs (.tup (x.map kD)) = some d → ∃ v, valV kvs x = some v ∧ VR g r d v) ∧
    (dGet (kvs.map fun p => .tup (p.1.map kD)) vs (.tup (x.map kD)) = none → valV kvs x = none)
  | [], vs, _ => ⟨fun d e => by simp [dGet] at e, fun _ => rfl⟩
  | (k, v) :: kvs, [], h => by
    have h : _ = [] := h
    cases h
  | (k, v) :: kvs, d :: vs, h => by
    obtain ⟨v', t, e, q, qs⟩ := h
    simp only [List.map_cons, List.cons.injEq] at e
    obtain ⟨e1, e2⟩ := e
    subst e1 e2
    obtain ⟨ih1, ih2⟩ := dGet_T x kvs vs qs
    simp only [List.map_cons, dGet, D.keq, eqvs_kD]
    by_cases hk : k = x
    · simp only [hk, decide_true, if_true]
      exact ⟨fun d' e => by cases e; exact ⟨v, valV_pos (p := (x, v)) rfl, q⟩, fun e => by cases e⟩
    · simp only [hk, decide_false, Bool.false_eq_true, if_false]
      rw [valV_neg (p := (k, v)) hk]
      exact ⟨ih1, ih2⟩
end
/-- a dict asked for a key -/
theorem dget_of {g : Gm} {r : RC} {H : Hp} {t : Bool} {ks vs : List D} {ws : List V} {u : HO} {a : Addr} {x : D} {v : V} (hr : Rd H a u) (hd : DctR t ks ws u) (hv : VRs g r vs ws) (hk : D.isKey t x = true) (hx : CV g r H x v) (hf : ∀ a u, r.fz a = some u → H a = some u) :
    ∃ o, DGet H a v o ∧ (∀ d, dGet ks vs x = some d → ∃ y, o = some y ∧ VR g r d y) ∧ (dGet ks vs x = none → o = none) := by
  rcases hd with ⟨rfl, kvs, rfl, rfl, rfl, hok⟩ | ⟨rfl, kvs, rfl, rfl, rfl, hok⟩
  · have hfl : x.flat = true := by cases x <;> first | rfl | (exact absurd hk (by simp [D.isKey]))
    obtain ⟨k, ek⟩ := toKey_flat hfl
    have ex := kD_toKey ek
    have hx' : VR g r x v := by
      cases x <;> first | exact hx | (exact absurd hk (by simp [D.isKey]))
    have ev := kV_of ek hx'
    subst ev ex
    obtain ⟨g1, g2⟩ := dGet_K k kvs vs hv
    exact ⟨valV kvs k, .inl ⟨kvs, k, hr, rfl, rfl⟩, g1, g2⟩
  · cases x with
    | tup xs =>
      obtain ⟨b, ys, rfl, hb, _, q⟩ := hx
      have hfl : xs.all D.flat = true := by simpa [D.isKey] using hk
      obtain ⟨k, e1, e2⟩ := kVs_of hfl q
      subst e1 e2
      obtain ⟨g1, g2⟩ := dGet_T k kvs vs hv
      exact ⟨valV kvs k, .inr ⟨kvs, k, b, hr, rfl, hb, rfl⟩, g1, g2⟩
    | _ => exact absurd hk (by simp [D.isKey])

/-! ### ==, in, is -/
section
variable {X : Cx}
theorem min_dep {x y : D} (h : (decide (x.dep ≤ 60) || decide (y.dep ≤ 60)) = true) : min (toPy x).depth (toPy y).depth ≤ 60 := by
  rw [toPy_depth, toPy_depth]
  simp only [Bool.or_eq_true, decide_eq_true_eq] at h
  omega
theorem plain_eq_cases {x y : D} {b : Bool} (h : opEq x y = some b) : (∃ t ks vs t' vs', x = .dct t ks vs ∧ y = .dct t' [] vs' ∧ b = ks.isEmpty) ∨ (x.plain = true ∧ y.plain = true ∧ (decide (x.dep ≤ 60) || decide (y.dep ≤ 60)) = true ∧ b = D.eqv x y) := by
  unfold opEq at h
  split at h
  · split at h
    · rename_i e
      cases h
      have := List.isEmpty_iff.mp e
      subst this
      exact .inl ⟨_, _, _, _, _, rfl, rfl, rfl⟩
    · cases h
  · split at h
    · rename_i e
      cases h
      simp only [Bool.and_eq_true] at e
      exact .inr ⟨e.1.1, e.1.2, e.2, rfl⟩
    · cases h
def rDctE (f : Bool → Bool) : R2 := fun x y H Q => ∃ a b u w, x = .ref a ∧ y = .ref b ∧ Rd H a u ∧ Rd H b w ∧ ((w = .dK [] ∧ ∃ kvs, u = .dK kvs ∧ Q (.bl (f kvs.isEmpty)) H) ∨ (w = .dT [] ∧ ∃ kvs, u = .dT kvs ∧ Q (.bl (f kvs.isEmpty)) H) ∨ (w = .dK [] ∧ ∃ kvs, u = .dT kvs ∧ Q (.bl (f kvs.isEmpty)) H) ∨ (w = .dT [] ∧ ∃ kvs, u = .dK kvs ∧ Q (.bl (f kvs.isEmpty)) H))
theorem s_eqW {o : Op2} {f : Bool → Bool} (ho : ∀ x y, op2 o x y = (opEq x y).map fun b => .bl (f b)) : Op2S X o (fun x y H Q => rEqP X.K f x y H Q ∨ rDctE f x y H Q) := by
  intro r s σ H x y d v1 v2 Q R c1 c2 h k
  rw [ho] at h
  obtain ⟨b, e, rfl⟩ := Option.map_eq_some_iff.mp h
  rcases plain_eq_cases e with ⟨t, ks, vs, t', vs', rfl, rfl, rfl⟩ | ⟨p1, p2, p3, rfl⟩
  · obtain ⟨a, u, ws, rfl, hr, hd, l1, q1⟩ := c1
    obtain ⟨a', u', ws', rfl, hr', hd', l1', q1'⟩ := c2
    refine .inr ⟨a, a', u, u', rfl, rfl, hr, hr', ?_⟩
    rcases hd with ⟨rfl, kvs, rfl, rfl, rfl, hok⟩ | ⟨rfl, kvs, rfl, rfl, rfl, hok⟩ <;> rcases hd' with ⟨rfl, kvs', rfl, e2, rfl, _⟩ | ⟨rfl, kvs', rfl, e2, rfl, _⟩ <;>
      (have e3 : kvs' = [] := List.map_eq_nil_iff.mp e2.symm; subst e3)
    · exact .inl ⟨rfl, kvs, rfl, k.here R (by cases kvs <;> rfl)⟩
    · exact .inr (.inr (.inr ⟨rfl, kvs, rfl, k.here R (by cases kvs <;> rfl)⟩))
    · exact .inr (.inr (.inl ⟨rfl, kvs, rfl, k.here R (by cases kvs <;> rfl)⟩))
    · exact .inr (.inl ⟨rfl, kvs, rfl, k.here R (by cases kvs <;> rfl)⟩)
  · refine .inl ⟨toPy x, toPy y, dp_cv R.fz p1 c1, dp_cv R.fz p2 c2, toPy_plain x, toPy_plain y, min_dep p3, ?_⟩
    rw [toPy_eqv x y p1 p2]
    exact k.here R rfl
theorem any_toPy {x : D} (hx : x.plain = true) : ∀ {ys : List D}, D.plains ys = true → ((toPys ys).any fun z => PyData.eqv z (toPy x)) = ys.any fun y => D.eqv y x
  | [], _ => rfl
  | y :: ys, h => by
    have h' : D.plain y = true ∧ D.plains ys = true := by simpa [D.plains] using h
    simp only [toPys, List.any_cons, toPy_eqv y x h'.1 hx, any_toPy hx h'.2]
def rInAll (K : PySem.W.Frag) (f : Bool → Bool) : R2 := fun x y H Q => ((∃ (c : Nat) (z : Str), x = .str ⟨#[c]⟩ ∧ y = .str z ∧ Q (.bl (f (decide (c ∈ z.cps.toList)))) H) ∨ rInP K f x y H Q) ∨ rInD' f x y H Q
theorem op_inAll (hu : X.A.units + 64 < cLine) : OpR X (compareOp .In) (rInAll X.K id) := (op_in_sign.or (op_inP hu)).or (op_inDct hu)
theorem op_notInAll (hu : X.A.units + 64 < cLine) : OpR X (compareOp .NotIn) (rInAll X.K not) := (op_notIn_sign.or (op_notInP hu)).or (op_notInDct hu)
theorem s_inW {o : Op2} {f : Bool → Bool} (ho : ∀ x y, op2 o x y = (opMem x y).map fun b => .bl (f b)) : Op2S X o (rInAll X.K f) := by
  intro r s σ H x y d v1 v2 Q R c1 c2 h k
  rw [ho] at h
  obtain ⟨b, e, rfl⟩ := Option.map_eq_some_iff.mp h
  unfold opMem at e
  split at e
  · split at e
    · rename_i cs x c
      cases e
      obtain ⟨rfl, l1⟩ := c1
      obtain ⟨rfl, l2⟩ := c2
      refine .inl (.inl ⟨c, toStr cs, rfl, rfl, ?_⟩)
      rw [cps_toStr]
      exact k.here R (by rw [List.contains_eq_mem]; exact rfl)
    · cases e
  · split at e
    · rename_i t ks vs hk
      cases e
      obtain ⟨a, u, ws, rfl, hr, hd, l, q⟩ := c2
      obtain ⟨o', g1, g2, g3⟩ := dget_of hr hd q hk c1 R.fz
      refine .inr ⟨a, o', rfl, g1, ?_⟩
      have e2 : o'.isSome = (dGet ks vs x).isSome := by
        cases hq : dGet ks vs x with
        | none => rw [g3 hq]; rfl
        | some d =>
          obtain ⟨y, ey, _⟩ := g2 d hq
          rw [ey]; rfl
      rw [e2]
      exact k.here R rfl
    · cases e
  · split at e
    · rename_i ys hp
      cases e
      simp only [Bool.and_eq_true, decide_eq_true_eq] at hp
      refine .inl (.inr ⟨toPy x, toPys ys, dp_cv R.fz hp.1.1 c1, .inl (dp_cv (d := .lst ys) R.fz hp.1.2 c2), toPy_plain x, toPys_plain ys, by rw [toPy_depth]; exact hp.2, ?_⟩)
      rw [any_toPy hp.1.1 hp.1.2]
      exact k.here R rfl
    · cases e
  · split at e
    · rename_i ys hp
      cases e
      simp only [Bool.and_eq_true, decide_eq_true_eq] at hp
      refine .inl (.inr ⟨toPy x, toPys ys, dp_cv R.fz hp.1.1 c1, .inr (dp_cv (d := .tup ys) R.fz hp.1.2 c2), toPy_plain x, toPys_plain ys, by rw [toPy_depth]; exact hp.2, ?_⟩)
      rw [any_toPy hp.1.1 hp.1.2]
      exact k.here R rfl
    · cases e
  · cases e
theorem cv_non {g : Gm} {r : RC} {H : Hp} {d : D} {v : V} (h : CV g r H d v) : (v = .non ↔ d = .non) := by
  constructor
  · intro e
    subst e
    cases d <;> first | rfl | skip
    case bl => exact nomatch (show V.non = V.bl _ from h)
    case int => exact nomatch (show V.non = V.int _ from h)
    case str => exact nomatch h.1
    case ref => obtain ⟨a, _, e⟩ := h; cases e
    case loc => exact h.elim
    case fn => obtain ⟨a, _, e⟩ := h; cases e
    case ty => exact nomatch (show V.non = V.ty _ from h)
    case dct => obtain ⟨a, u, ws, e, _⟩ := h; cases e
    all_goals (obtain ⟨a, xs, e, _⟩ := h; cases e)
  · intro e
    subst e
    exact h
def isNonD : D → Bool
  | .non => true
  | _ => false
theorem s_isW {o : Op2} {f : Bool → Bool} (ho : ∀ x y d, op2 o x y = some d → y = .non ∧ d = .bl (f (isNonD x))) : Op2S X o (fun x y H Q => y = .non ∧ Q (.bl (f (decide (x = .non)))) H) := by
  intro r s σ H x y d v1 v2 Q R c1 c2 h k
  obtain ⟨rfl, rfl⟩ := ho x y d h
  refine ⟨c2, ?_⟩
  have e : V.bl (f (decide (v1 = V.non))) = V.bl (f (isNonD x)) := by
    have := cv_non c1
    cases x <;> first | (rw [decide_eq_true (this.mpr rfl)]; rfl) | (rw [decide_eq_false (fun e => nomatch this.mp e)]; rfl)
  exact k.here R e
theorem s_isN : Op2S X .isN (fun x y H Q => y = .non ∧ Q (.bl (decide (x = .non))) H) := s_isW (f := id) fun x y d h => by
  cases y <;> cases x <;> simp only [op2] at h <;> cases h <;> exact ⟨rfl, rfl⟩
theorem s_notN : Op2S X .notN (fun x y H Q => y = .non ∧ Q (.bl (!decide (x = .non))) H) := s_isW (f := not) fun x y d h => by
  cases y <;> cases x <;> simp only [op2] at h <;> cases h <;> exact ⟨rfl, rfl⟩
end
end RS

/-! RsDctEq: a dict compared with an empty one. -/
namespace RS
open PySem PySem.Spec PyProof.Rows L2

/-- a dict of n entries, whatever they are -/
def RawN (h : Heap) (a : Addr) (n : Nat) : Prop := ∃ o es ep, h.get? a = some o ∧ o.cls = .type "dict" ∧ o.data = .dict es ep ∧ es.size = n
theorem RawN.typeIs {s : Shared} {a : Addr} {n : Nat} (h : RawN s.heap a n) : s.TypeIs (.ref a) "dict" := by
  obtain ⟨o, es, ep, e, c, _⟩ := h
  exact ⟨o, e, c⟩
section
variable {prog : Program} {w : World} {A : Around} {E : Value → Shared → Prop} {s : Shared}
theorem raw_samePairs {nm : String} {a b : Addr} {n : Nat} {Q : Bool → Shared → Prop} (ha : (a == sysModules) = false) (hb : (b == sysModules) = false) (da : RawN s.heap a n) (db : RawN s.heap b 0) (h : Q (n == 0) s) :
    wpAny (model prog w) A (Builtin.Dict.samePairs nm a b) Q E s := by
  obtain ⟨oa, es, ep, hoa, _, hda, hla⟩ := da
  obtain ⟨ob, es', ep', hob, _, hdb, hlb⟩ := db
  unfold Builtin.Dict.samePairs Builtin.Dict.showsAll
  rw [if_neg (show ¬ (a == sysModules) = true by rw [ha]; exact Bool.false_ne_true), if_neg (show ¬ (b == sysModules) = true by rw [hb]; exact Bool.false_ne_true)]
  refine wpAny_bind (wpAny_pure (wpAny_bind (wpAny_pure ?_)))
  refine wpAny_bind (wpAny_dictEntries hoa hda ?_)
  dsimp only
  refine wpAny_bind (wpAny_dictEntries hob hdb ?_)
  by_cases hsz : es.size = es'.size
  case neg =>
    rw [if_pos (by simpa using hsz)]
    have hbf : (n == 0) = false := by rw [← hla, ← hlb]; simpa using hsz
    rw [hbf] at h
    exact wpAny_bind (wpAny_rule (wpAny_pure h))
  case pos =>
    have h0 : es.size = 0 := by rw [hsz, hlb]
    have hn : (n == 0) = true := by rw [← hla, h0]; rfl
    rw [hn] at h
    rw [if_neg (by rw [hsz]; simp)]
    refine wpAny_bind (wpAny_dictEpoch hoa hda ?_)
    refine wpAny_bind ?_
    rw [Std.Legacy.Range.forIn_eq_forIn_range']
    simp only [Std.Legacy.Range.size, Nat.sub_zero, Nat.add_sub_cancel, Nat.div_one]
    rw [h0]
    refine wpAny_pure ?_
    exact wpAny_pure h
theorem raw_eq {a b : Addr} {n : Nat} {Q : Value → Shared → Prop} (ha : (a == sysModules) = false) (hb : (b == sysModules) = false) (da : RawN s.heap a n) (db : RawN s.heap b 0) (hu : A.units < cLine) (h : Q (.bool (n == 0)) s) :
    wpAny (model prog w) A (compareOp .Eq (.ref a) (.ref b)) Q E s := by
  refine wpAny_richCompare_same_room (op := .Eq) da.typeIs db.typeIs PySem.F.slot_dict_eq (wpAny_call_entry PySem.F.slot_dict_eq da.typeIs PySem.F.entry_dict_eq ?_ (PySem.F.args_dict_eq_2 _ _)) hu
  show wpAny _ _ (Builtin.Dict.dictSlotArgs "__eq__" ⟨[.ref a, .ref b], []⟩ >>= _) _ _ s
  refine wpAny_bind ?_
  unfold Builtin.Dict.dictSlotArgs
  refine wpAny_bind (wpAny_notOrdered_dict da.typeIs ?_)
  show wpAny _ _ (pure (Value.ref a, Value.ref b)) _ _ s
  refine wpAny_pure ?_
  refine wpAny_bind (wpAny_isInstance (T := "dict") db.typeIs PySem.F.sub_dict_dict ?_)
  simp only [Bool.not_true, Bool.false_eq_true, if_false]
  refine wpAny_bind (wpAny_pure (wpAny_bind (wpAny_pure ?_)))
  refine wpAny_bind (raw_samePairs ha hb da db ?_)
  refine wpAny_pure ⟨_, rfl, ?_, ?_⟩
  · exact fun x => nomatch x
  · simpa using h
theorem raw_ne {a b : Addr} {n : Nat} {Q : Value → Shared → Prop} (ha : (a == sysModules) = false) (hb : (b == sysModules) = false) (da : RawN s.heap a n) (db : RawN s.heap b 0) (hu : A.units < cLine) (h : Q (.bool (!(n == 0))) s) :
    wpAny (model prog w) A (compareOp .NotEq (.ref a) (.ref b)) Q E s := by
  refine wpAny_richCompare_same_room (op := .NotEq) da.typeIs db.typeIs PySem.F.slot_dict_ne (wpAny_call_entry PySem.F.slot_dict_ne da.typeIs PySem.F.entry_dict_ne ?_ (PySem.F.args_dict_ne_2 _ _)) hu
  show wpAny _ _ (Builtin.Dict.dictSlotArgs "__ne__" ⟨[.ref a, .ref b], []⟩ >>= _) _ _ s
  refine wpAny_bind ?_
  unfold Builtin.Dict.dictSlotArgs
  refine wpAny_bind (wpAny_notOrdered_dict da.typeIs ?_)
  show wpAny _ _ (pure (Value.ref a, Value.ref b)) _ _ s
  refine wpAny_pure ?_
  refine wpAny_bind (wpAny_isInstance (T := "dict") db.typeIs PySem.F.sub_dict_dict ?_)
  simp only [Bool.not_true, Bool.false_eq_true, if_false]
  refine wpAny_bind (wpAny_pure (wpAny_bind (wpAny_pure ?_)))
  refine wpAny_bind (raw_samePairs ha hb da db ?_)
  refine wpAny_pure ⟨_, rfl, ?_, ?_⟩
  · exact fun x => nomatch x
  · simpa using h
end
section
variable {X : Cx} {pins : List (Addr × Obj)} {σ : Sg} {H : Hp} {s : Shared} {a : Addr}
theorem Inv.rawK (I : Inv X pins σ H s) {kvs : List (Key × V)} (e : Rd H a (.dK kvs)) : RawN s.heap a kvs.length ∧ (a == sysModules) = false := by
  obtain ⟨z, hd, vs, rel, o, es, ep, h1, h2, h3, h4, h5, h6⟩ := dk_rd I.hok e
  refine ⟨⟨o, es, ep, h1, h2.1, h3, ?_⟩, hd⟩
  rw [rel.length, ← h5.length]
  exact Array.length_toList.symm
theorem Inv.rawT (I : Inv X pins σ H s) {kvs : List (List Key × V)} (e : Rd H a (.dT kvs)) : RawN s.heap a kvs.length ∧ (a == sysModules) = false := by
  obtain ⟨z, hd, xs, r, o, es, ep, h1, h2, h3, h4, h5⟩ := e.ok I.hok
  refine ⟨⟨o, es, ep, h1, h2.1, h3, ?_⟩, hd⟩
  have : es.toList.length = xs.length := by rw [h4, List.length_map]
  rw [r.length, ← this]
  simp
theorem isEmpty_len {α : Type} (l : List α) : (l.length == 0) = l.isEmpty := by cases l <;> rfl
theorem op_dctEq (hu : X.A.units + 64 < cLine) : OpR X (compareOp .Eq) (rDctE id) := by
  intro pins s σ H x y v u Q I rx ry h
  obtain ⟨a, b, u', w, rfl, rfl, h1, h2, h3⟩ := h
  cases rx
  cases ry
  rcases h3 with ⟨rfl, kvs, rfl, q⟩ | ⟨rfl, kvs, rfl, q⟩ | ⟨rfl, kvs, rfl, q⟩ | ⟨rfl, kvs, rfl, q⟩
  · exact raw_eq (Inv.rawK I h1).2 (Inv.rawK I h2).2 (Inv.rawK I h1).1 (Inv.rawK I h2).1 (by omega) ⟨.bl _, H, I, by rw [isEmpty_len]; rfl, q⟩
  · exact raw_eq (Inv.rawT I h1).2 (Inv.rawT I h2).2 (Inv.rawT I h1).1 (Inv.rawT I h2).1 (by omega) ⟨.bl _, H, I, by rw [isEmpty_len]; rfl, q⟩
  · exact raw_eq (Inv.rawT I h1).2 (Inv.rawK I h2).2 (Inv.rawT I h1).1 (Inv.rawK I h2).1 (by omega) ⟨.bl _, H, I, by rw [isEmpty_len]; rfl, q⟩
  · exact raw_eq (Inv.rawK I h1).2 (Inv.rawT I h2).2 (Inv.rawK I h1).1 (Inv.rawT I h2).1 (by omega) ⟨.bl _, H, I, by rw [isEmpty_len]; rfl, q⟩
theorem op_dctNe (hu : X.A.units + 64 < cLine) : OpR X (compareOp .NotEq) (rDctE not) := by
  intro pins s σ H x y v u Q I rx ry h
  obtain ⟨a, b, u', w, rfl, rfl, h1, h2, h3⟩ := h
  cases rx
  cases ry
  rcases h3 with ⟨rfl, kvs, rfl, q⟩ | ⟨rfl, kvs, rfl, q⟩ | ⟨rfl, kvs, rfl, q⟩ | ⟨rfl, kvs, rfl, q⟩
  · exact raw_ne (Inv.rawK I h1).2 (Inv.rawK I h2).2 (Inv.rawK I h1).1 (Inv.rawK I h2).1 (by omega) ⟨.bl _, H, I, by rw [isEmpty_len]; rfl, q⟩
  · exact raw_ne (Inv.rawT I h1).2 (Inv.rawT I h2).2 (Inv.rawT I h1).1 (Inv.rawT I h2).1 (by omega) ⟨.bl _, H, I, by rw [isEmpty_len]; rfl, q⟩
  · exact raw_ne (Inv.rawT I h1).2 (Inv.rawK I h2).2 (Inv.rawT I h1).1 (Inv.rawK I h2).1 (by omega) ⟨.bl _, H, I, by rw [isEmpty_len]; rfl, q⟩
  · exact raw_ne (Inv.rawK I h1).2 (Inv.rawT I h2).2 (Inv.rawK I h1).1 (Inv.rawT I h2).1 (by omega) ⟨.bl _, H, I, by rw [isEmpty_len]; rfl, q⟩
end
/-- the operators, all of them -/
theorem bop_snd {X : Cx} {o : Op2} {p : Operator} (h : bop o = some p) : ∃ rel, OpR X (binaryOp p) rel ∧ Op2S X o rel := by
  cases o <;> simp only [bop] at h <;> cases h
  · exact ⟨_, op_addAll, s_add⟩
  · exact ⟨_, op_sub, s_sub⟩
  · exact ⟨_, op_mulAll, s_mul⟩
  · exact ⟨_, op_fdiv, s_fdiv⟩
  · exact ⟨_, op_mod, s_mod⟩
  · exact ⟨_, op_pow, s_pow⟩
theorem cop_snd {X : Cx} (hu : X.A.units + 64 < cLine) {o : Op2} {p : CmpOp} (h : cop o = some p) : ∃ rel, OpR X (compareOp p) rel ∧ Op2S X o rel := by
  cases o <;> simp only [cop] at h <;> cases h
  · exact ⟨_, (op_eqP hu).or (op_dctEq hu), s_eqW fun x y => by simp only [op2]; cases opEq x y <;> rfl⟩
  · exact ⟨_, (op_neP hu).or (op_dctNe hu), s_eqW fun x y => rfl⟩
  · exact ⟨_, op_ltAll, s_lt⟩
  · exact ⟨_, op_leAll, s_le⟩
  · exact ⟨_, op_gtAll, s_gt⟩
  · exact ⟨_, op_geAll, s_ge⟩
  · exact ⟨_, op_inAll hu, s_inW fun x y => by simp only [op2]; cases opMem x y <;> rfl⟩
  · exact ⟨_, op_notInAll hu, s_inW fun x y => rfl⟩
  · exact ⟨_, op_isN, s_isN⟩
  · exact ⟨_, op_notN, s_notN⟩
end RS

/-! RsSeq: items, slices, [::-1]. -/
namespace RS
open PySem PySem.Spec PyProof.Rows L2

theorem ixN_eq (n : Nat) (i : Int) : L2.ixN n i = RS.ixN n i := by
  unfold L2.ixN RS.ixN
  by_cases h : 0 ≤ i
  · rw [if_pos h, if_pos h]
  · rw [if_neg h, if_neg h]
    by_cases h2 : 0 ≤ i + n
    · rw [if_pos h2, if_pos (by omega)]
    · rw [if_neg h2, if_neg (by omega)]
theorem cutIx_eq (n d : Nat) (o : Option Int) : HT.sIx n d o = cutIx n d o := by
  cases o with
  | none => rfl
  | some i =>
    show (if i < 0 then (i + (n : Int)).toNat else min i.toNat n) = (if 0 ≤ i then min i.toNat n else (i + n).toNat)
    by_cases h : 0 ≤ i
    · rw [if_pos h, if_neg (by omega)]
    · rw [if_neg h, if_pos (by omega)]
theorem cut_le {α : Type} (xs : List α) (lo hi : Option Int) : (cut xs lo hi).length ≤ xs.length := by
  unfold cut
  rw [List.length_take, List.length_drop]
  omega
theorem cutV_eq (xs : List V) (lo hi : Option Int) : L2.cutV xs lo hi = cut xs lo hi := by
  unfold L2.cutV cut
  rw [cutIx_eq, cutIx_eq]
theorem VRs.cut {g : Gm} {r : RC} {ds : List D} {xs : List V} (h : VRs g r ds xs) (lo hi : Option Int) : VRs g r (RS.cut ds lo hi) (RS.cut xs lo hi) := by
  unfold RS.cut
  rw [← h.length]
  exact (h.drop _).take _
section
variable {X : Cx}
theorem ix_dct (hu : X.A.units + 64 < cLine) : IxR X (fun x y H Q => ∃ a v, x = .ref a ∧ DGet H a y (some v) ∧ Q v H) := by
  intro value slice pins s σ H x y v u Q I rx ry h hs
  obtain ⟨a, z, rfl, g, q⟩ := h
  cases rx
  exact tail_any (dict_typeIs I g) PySem.F.slot_dict_getitem.lookup (d_getItem (by omega) I g ry fun w' s' I' rw' => ⟨z, H, I', rw', q⟩) hs
def rIxAll (K : PySem.W.Frag) : R2 := fun x y H Q => rIx K x y H Q ∨ ∃ a v, x = .ref a ∧ DGet H a y (some v) ∧ Q v H
theorem ix_all (hu : X.A.units + 64 < cLine) : IxR X (rIxAll X.K) := ix_seq.or (ix_dct hu)
theorem s_idx {r : RC} {s : S} {σ : Sg} {H : Hp} {x y d : D} {v1 v2 : V} {Q : VK} (R : Rel (gX X) r s σ H) (c1 : CV (gX X) r H x v1) (c2 : CV (gX X) r H y v2) (h : idx x y = some d) (k : Ans X r s σ d Q) : rIxAll X.K v1 v2 H Q := by
  unfold idx at h
  split at h
  · rename_i xs i
    obtain ⟨a, ys, rfl, ha, l, q⟩ := c1
    cases (show _ = V.int _ from c2)
    obtain ⟨j, hj, he⟩ := Option.bind_eq_some_iff.mp h
    obtain ⟨v, ev, qv⟩ := q.get he
    refine .inl (.inl ⟨a, ys, i, v, rfl, rfl, .inl (.inl ha), ?_, k.here R qv⟩)
    unfold atI
    rw [ixN_eq, ← q.length, hj]
    exact ev
  · rename_i xs i
    obtain ⟨a, ys, rfl, ha, l, q⟩ := c1
    cases (show _ = V.int _ from c2)
    obtain ⟨j, hj, he⟩ := Option.bind_eq_some_iff.mp h
    obtain ⟨v, ev, qv⟩ := q.get he
    refine .inl (.inr (.inl ⟨a, ys, i, v, rfl, rfl, .inl (.inl ha), ?_, k.here R qv⟩))
    unfold atI
    rw [ixN_eq, ← q.length, hj]
    exact ev
  · rename_i cs i
    obtain ⟨rfl, l⟩ := c1
    cases (show _ = V.int _ from c2)
    obtain ⟨c, hc, rfl⟩ := Option.map_eq_some_iff.mp h
    obtain ⟨j, hj, he⟩ := Option.bind_eq_some_iff.mp hc
    refine .inl (.inr (.inr ⟨toStr cs, i, c, rfl, rfl, ?_, ?_, k.here R ⟨rfl, by show 1 ≤ szL; decide⟩⟩))
    · rw [toStr_len, lineEq]
      exact l
    · unfold atI
      rw [cps_toStr, ixN_eq, hj]
      exact he
  · split at h
    · rename_i t ks vs hk
      obtain ⟨a, u, ws, rfl, hr, hd, l, q⟩ := c1
      obtain ⟨o, g1, g2, g3⟩ := dget_of hr hd q hk c2 R.fz
      obtain ⟨z, ez, qz⟩ := g2 d h
      subst ez
      exact .inr ⟨a, z, rfl, g1, k.here R qz⟩
    · cases h
  · cases h
/-- slices -/
def rSlAll (K : PySem.W.Frag) : V → Option Int → Option Int → Hp → VK → Prop := fun x lo hi H Q => (rSlL K x lo hi H Q ∨ rSlS x lo hi H Q) ∨ rSlA K x lo hi H Q
theorem sl_all : SlR X (rSlAll X.K) := (sl_list.or sl_str).or sl_tupA
theorem s_slc {r : RC} {s : S} {σ : Sg} {H : Hp} {x d : D} {lo hi : Option Int} {v1 : V} {Q : VK} (R : Rel (gX X) r s σ H) (c1 : CV (gX X) r H x v1) (h : slc x lo hi = some d) (k : Ans X r s σ d Q) : rSlAll X.K v1 lo hi H Q := by
  unfold slc at h
  split at h
  · cases h
    obtain ⟨a, ys, rfl, ha, l, q⟩ := c1
    refine .inl (.inl ⟨a, ys, rfl, ha, fun p hp => ?_⟩)
    rw [cutV_eq]
    exact k.lst R (q.cut lo hi) (Nat.le_trans (cut_le _ _ _) l) hp
  · cases h
    obtain ⟨a, ys, rfl, ha, l, q⟩ := c1
    refine .inl (.inl ⟨a, ys, rfl, .inl (.inl ha), fun p hp => ?_⟩)
    rw [cutV_eq]
    exact k.lst R (q.cut lo hi) (Nat.le_trans (cut_le _ _ _) l) hp
  · cases h
    obtain ⟨a, ys, rfl, ha, l, q⟩ := c1
    refine .inr ⟨a, ys, rfl, .inl (.inl ha), fun e => ?_, fun e p hp => ?_⟩
    · rename_i xs
      have e' : cut xs lo hi = xs := by
        unfold cut
        rw [cutIx_eq, cutIx_eq, ← q.length] at e
        rw [e.1, e.2, List.drop_zero, Nat.sub_zero, List.take_length]
      rw [e'] at k
      obtain ⟨R', le⟩ := R.tup ha
      exact k _ _ _ le R' ⟨a, ys, rfl, upd_same, l, VRs.mono le q⟩
    · rw [cutV_eq]
      exact k.tup R (q.cut lo hi) (Nat.le_trans (cut_le _ _ _) l) hp
  · cases h
    obtain ⟨rfl, l⟩ := c1
    rename_i cs
    refine .inl (.inr ⟨toStr cs, rfl, by rw [toStr_len, lineEq]; exact l, ?_⟩)
    have e : cutS (toStr cs) lo hi = toStr (cut cs lo hi) := by
      unfold cutS toStr cut
      have : (Str.mk cs.toArray).length = cs.length := toStr_len cs
      rw [this, cutIx_eq, cutIx_eq]
    rw [e]
    exact k.here R ⟨rfl, Nat.le_trans (cut_le _ _ _) l⟩
  · cases h

/-! ### [::-1] -/
theorem strRev (z : Str) : ((Builtin.Str.strSliceIndices none none (-1) z.length).filterMap (z.cps[·]?)) = z.cps.toList.reverse := by
  unfold Builtin.Str.strSliceIndices
  show ((sliceRange ((z.length : Int) - 1) (-1) (-1)).filterMap (z.cps[·]?)) = _
  rw [PySem.W.krv_sliceRange, PySem.W.krv_range, List.filterMap_reverse]
  congr 1
  exact PySem.W.krv_all z.cps
/-- x[::-1] -/
def tRevA (te : TE) : TE := fun σ H Q => te σ H fun x H1 => (∃ a xs, x = .ref a ∧ H1 a = some (.lst xs) ∧ ∀ p, H1 p = none → Q (.ref p) (upd H1 p (.lst xs.reverse))) ∨ (∃ cs, x = .str (toStr cs) ∧ cs.length ≤ szL ∧ Q (.str (toStr cs.reverse)) H1)
theorem pe_revA {e : Expr} {te : TE} {k : Nat} {p1 p2 p3 pos : Pos} (he : PE X e te) : PE X (.Subscript e (.Slice none none (some (.UnaryOp .USub (.Constant (.int 1) k p1) p2)) p3) pos) (tRevA te) := by
  refine ⟨fun pins s σ H Q I h => ?_⟩
  refine Subscript_ (thn (he.run pins s σ H _ I h) fun v s1 ⟨x, H1, I1, r1, q1⟩ => ?_)
  have hst : PO X (some (.UnaryOp .USub (.Constant (.int 1) k p1) p2)) (tPart (tUn (rU fun i => .int (-i)) (tC (.int 1)))) := po_some (pe_un un_neg pe_int)
  refine wpAny_Slice (thn (po_none.run pins s1 σ H1 (fun o H2 => o = none ∧ H2 = H1) I1 ⟨rfl, rfl⟩) fun vl s2 ⟨l, H2, I2, pl, el, e2⟩ => ?_)
  subst el e2
  refine thn (po_none.run pins s2 σ H2 (fun o H3 => o = none ∧ H3 = H2) I2 ⟨rfl, rfl⟩) fun vu s3 ⟨u, H3, I3, pu, eu, e3⟩ => ?_
  subst eu e3
  refine thn (hst.run pins s3 σ H3 (fun o H4 => o = some (-1) ∧ H4 = H3) I3 ⟨1, rfl, -1, rfl, rfl, rfl⟩) fun vs s4 ⟨o, H4, I4, ps, eo, e4⟩ => ?_
  subst eo e4
  have I5 : Inv X pins σ H4 { s4 with heap := s4.heap.push { cls := .type "slice", data := .fields #[vl, vu, vs] } } := I4.kept (t' := s4.toks) fun b ob q => Heap.get?_push_of_some _ q
  rcases q1 with ⟨a, xs, rfl, hx, q⟩ | ⟨cs, rfl, hl, q⟩
  · cases r1
    obtain ⟨its, r, ht, hz⟩ := I5.list (SqL.of hx)
    have hlen := r.length
    show wpAny (model X.prog X.w) X.A (subscriptTail e (.Slice none none (some (.UnaryOp .USub (.Constant (.int 1) k p1) p2)) p3) (.ref a) (.ref s4.heap.objs.size)) (EP X pins σ Q) X.xe { s4 with heap := s4.heap.push { cls := .type "slice", data := .fields #[vl, vu, vs] } }
    refine tail_any (ops := [.ref a, .ref s4.heap.objs.size]) ht.isList.typeIs (PySem.slot_list_getitem.lookup) ?_ (by with_unfolding_all rfl)
    refine wpAny_getItem_list_slice ht.isList (Heap.IsSliceOf.new _ vl vu vs) pl pu ps (by decide) ?_ (by rw [List.size_toArray]; omega)
    rw [PySem.W.krv_pick]
    refine ⟨.ref _, _, I5.laid (t' := s4.toks) (o := .lst xs.reverse) (fun b ob q => Heap.get?_push_of_some _ q) (Nat.le_refl _) ?_, rfl, q _ (I5.hok.fresh (Nat.le_refl _))⟩
    exact ⟨by rw [List.length_reverse]; exact hz, _, 0, r.reverse, Heap.get?_push_size _ rfl⟩
  · obtain ⟨t, rfl⟩ := r1
    obtain ⟨l, rfl, el⟩ := IsPart.raw pl
    obtain ⟨u, rfl, eu⟩ := IsPart.raw pu
    obtain ⟨st, rfl, est⟩ := IsPart.raw ps
    show wpAny (model X.prog X.w) X.A (subscriptTail e (.Slice none none (some (.UnaryOp .USub (.Constant (.int 1) k p1) p2)) p3) (.str (toStr cs) t) (.ref s4.heap.objs.size)) (EP X pins σ Q) X.xe { s4 with heap := s4.heap.push { cls := .type "slice", data := .fields #[partValue l, partValue u, partValue st] } }
    refine tail_any (ops := [.str (toStr cs) t, .ref s4.heap.objs.size]) (typeIs_str _ _ _) (PySem.F.slot_str_getitem.lookup) ?_ (by with_unfolding_all rfl)
    obtain ⟨i, ti⟩ : ∃ i ti, st = some (i, ti) := by
      cases st with
      | none => simp at est
      | some p => exact ⟨p.1, p.2, rfl⟩
    obtain ⟨ti, rfl⟩ := ti
    have ei : i = -1 := by simpa using est
    subst ei
    have hl0 : l = none := by cases l <;> simp_all
    have hu0 : u = none := by cases u <;> simp_all
    subst hl0 hu0
    refine wpAny_getItem_str_slice (l := none) (u := none) (st := some (-1, ti)) ⟨_, Heap.get?_push_size _ rfl, rfl, rfl⟩ rfl ?_
    show Made.post (if ((-1 : Int) == 1 && _) = true then Made.val (.str (toStr cs) t) else Made.str ⟨((Builtin.Str.strSliceIndices none none (-1) (toStr cs).length).filterMap ((toStr cs).cps[·]?)).toArray⟩) (EP X pins σ Q) _
    rw [if_neg (by simp), strRev]
    have e1 : (Str.mk (toStr cs).cps.toList.reverse.toArray) = toStr cs.reverse := by rw [cps_toStr]; rfl
    rw [e1]
    refine ⟨?_, .str _, H4, I5.tok _, ⟨_, rfl⟩, q⟩
    rw [toStr_len, List.length_reverse, lineEq]
    exact hl
theorem s_rev {r : RC} {s : S} {σ : Sg} {H : Hp} {x d : D} {v : V} {Q : VK} (R : Rel (gX X) r s σ H) (c : CV (gX X) r H x v) (h : revD x = some d) (k : Ans X r s σ d Q) :
    (∃ a xs, v = .ref a ∧ H a = some (.lst xs) ∧ ∀ p, H p = none → Q (.ref p) (upd H p (.lst xs.reverse))) ∨ (∃ cs, v = .str (toStr cs) ∧ cs.length ≤ szL ∧ Q (.str (toStr cs.reverse)) H) := by
  unfold revD at h
  split at h
  · cases h
    obtain ⟨a, ys, rfl, ha, l, q⟩ := c
    exact .inl ⟨a, ys, rfl, ha, fun p hp => k.lst R q.reverse (by rw [List.length_reverse]; exact l) hp⟩
  · cases h
    obtain ⟨rfl, l⟩ := c
    exact .inr ⟨_, rfl, l, k.here R ⟨rfl, by rw [List.length_reverse]; exact l⟩⟩
  · cases h
end
end RS

/-! RsSset: sorted(set(text)). -/
namespace RS
open PySem PySem.Spec PyProof.Rows L2

/-- the set of texts at an address -/
def TxS (P : Program) (w : World) (h : Heap) (a : Addr) (l : List Str) : Prop :=
  ∃ D : Froz.SD, h.get? a = some (Froz.sObj "set" D) ∧ Froz.TxOk P w D l ∧ l.Nodup ∧ Ris D.2.2.place.toList ∧ (w.params.followText "set-order" = true ∨ D.2.2.led = true)
theorem tail_tab {ep : Nat} {es1 : Array (Int × Value)} {t2 : SetTable} {wd : Bool} (h : Ris t2.place.toList) : Ris (Froz.tailTx ep es1 t2 wd).2.2.place.toList ∧ (Froz.tailTx ep es1 t2 wd).2.2.led = t2.led := by
  unfold Froz.tailTx
  split
  · exact ⟨relayAll_ris t2 es1 _, relayAll_led t2 es1 _⟩
  · exact ⟨h, rfl⟩
theorem add_tab {z : Int} {v : Value} {D : Froz.SD} (h : Ris D.2.2.place.toList) : Ris (Froz.addTx z v D).2.2.place.toList ∧ (Froz.addTx z v D).2.2.led = D.2.2.led := by
  obtain ⟨es, ep, t⟩ := D
  have q1 := layNew_ris t es z v h
  have q2 := layNew_led t es z v
  unfold Froz.addTx
  dsimp only
  by_cases c : (layNew t es z v).2.1.plain = true
  · rw [if_pos c]
    have := tail_tab (ep := ep) (es1 := (layNew t es z v).1) (wd := (layNew t es z v).2.2.1) (t2 := { (layNew t es z v).2.1 with plain := false }) q1
    exact ⟨this.1, this.2.trans q2⟩
  · rw [if_neg c]
    have := tail_tab (ep := ep) (es1 := (layNew t es z v).1) (wd := (layNew t es z v).2.2.1) q1
    exact ⟨this.1, this.2.trans q2⟩
section
variable {P : Program} {w : World} {A : Around} {E : Value → Shared → Prop} {s : Shared}
theorem TxS.keep {h h' : Heap} {a : Addr} {l : List Str} (T : TxS P w h a l) (k : ∀ o, h.get? a = some o → h'.get? a = some o) : TxS P w h' a l := by
  obtain ⟨D, ho, r⟩ := T
  exact ⟨D, k _ ho, r⟩
/-- a text that is in already -/
theorem txs_old {a : Addr} {D : Froz.SD} {l : List Str} {k : Str} {u : Tok} {Q : Bool → Shared → Prop} (ho : s.heap.get? a = some (Froz.sObj "set" D)) (F : Froz.TxOk P w D l) (hk : k ∈ l) (hb : l.length < scanBound)
    (q : Q false s) : wpAny (model P w) A (setAddHashed a (.str k u) (hashStr w k)) Q E s := by
  obtain ⟨es, ep, t⟩ := D
  have e1 : (Froz.sObj "set" (es, ep, t)).data = .set es ep t := rfl
  have e2 : t.fits es.size = true := F.fit
  have e3 : ElemsOf (PySem.strKind P w) es.toList := F.el
  have e4 : es.size < scanBound := Nat.lt_of_le_of_lt (Nat.le_of_eq F.sz) hb
  obtain ⟨e, he, hi⟩ := (F.mem k).mp hk
  unfold setAddHashed setAddHashedIn
  refine wpAny_holding (wpAny_bind (wpAny_setState_of ho e1 e2 ?_))
  dsimp only
  rw [byScan_of (by rfl) e4 e3]
  simp only [↓reduceIte]
  unfold setAddByScan
  refine wpAny_bind (wpAny_bind (wpAny_rule (wpAny_bind (wpAny_setScan_of (knd := PySem.strKind P w) (k := k) (Froz.is_str k u) ho e1 e2 e3 ?_))))
  cases hf : List.findIdx? (fun e => (PySem.strKind P w).is k e.2) es.toList with
  | none =>
    have := List.findIdx?_eq_none_iff.mp hf e he
    rw [hi] at this
    cases this
  | some j =>
    dsimp only
    exact wpAny_pure (wpAny_pure q)
theorem txs_add {a : Addr} {l : List Str} {k : Str} {u : Tok} {Q : Bool → Shared → Prop} (T : TxS P w s.heap a l) (hb : l.length + 1 < scanBound)
    (q : ∀ (b : Bool) (h' : Heap) (l' : List Str), Heap.SameBut a s.heap h' → TxS P w h' a l' → (∀ y, y ∈ l' ↔ y = k ∨ y ∈ l) → l'.length ≤ l.length + 1 → Q b { s with heap := h' }) :
    wpAny (model P w) A (setAddHashed a (.str k u) (hashStr w k)) Q E s := by
  obtain ⟨D, ho, F, nd, rs, ld⟩ := T
  by_cases hk : k ∈ l
  · refine txs_old ho F hk (by omega) ?_
    exact q false s.heap l (Heap.SameBut.refl a s.heap) ⟨D, ho, F, nd, rs, ld⟩ (fun y => ⟨.inr, fun z => z.elim (fun e => e ▸ hk) id⟩) (Nat.le_succ _)
  · refine Froz.add_x ho F hk hb ?_
    obtain ⟨t1, t2⟩ := add_tab (z := hashStr w k) (v := .str k u) rs
    exact q true _ (k :: l) (Heap.SameBut.update ..) ⟨_, Froz.get_upd _ ho rfl, Froz.add_ok u F, List.nodup_cons.mpr ⟨hk, nd⟩, t1, ld.imp id fun z => t2.trans z⟩ (fun y => List.mem_cons) (Nat.le_refl _)
/-- a text's signs, one by one, into the set -/
theorem txs_loop {R : Result → Shared → Prop} {I : Addr} {fp wr : List Addr} {G : Array GenState → Array GenState → Prop} {St : Nat → Shared → Prop} {x : Str} {S : Addr} (W : WalksS P w A.in1 I fp wr G x.cps.size (SignAt x) St) (hS : S ∉ fp) :
    ∀ (m i : Nat) (l : List Str) (s : Shared), x.cps.size - i = m → i ≤ x.cps.size → St i s → TxS P w s.heap S l → l.length + m + 1 < scanBound →
      (∀ (s' : Shared) (l' : List Str), Moved (S :: wr) G s s' → TxS P w s'.heap S l' → (∀ y, y ∈ l' ↔ y ∈ l ∨ ∃ j c, i ≤ j ∧ x.cps[j]? = some c ∧ y = Froz.sing c) → l'.length ≤ l.length + m → R (.ok (.ret .none)) s') →
      codeAny (model P w) A (.builtin "set.update.loop" ⟨[.ref S, .ref I], []⟩) R s := by
  have hSw : S ∉ wr := fun h => hS (W.sub _ h)
  have hwr : ∀ b ∈ wr, b ∈ S :: wr := fun b hb => List.mem_cons_of_mem _ hb
  intro m
  induction m with
  | zero =>
    intro i l s e1 e2 st T room k
    have e3 : i = x.cps.size := by omega
    subst e3
    refine codeAny_builtin PyProof.Rows.F.entry_set_update_loop ?_
    rw [Around.under_plainId PyProof.Rows.F.plain_set_update_loop _]
    show wpAny _ A.in1 (pyNext (.ref I) >>= _) _ _ s
    refine wpAny_bind (W.done s _ _ st fun s' mv => ?_)
    show wpAny _ A.in1 (ret Value.none) _ _ s'
    refine wpAny_pure (k s' l (mv.mono hwr) (T.keep fun o => mv.heap S o hSw) (fun y => ⟨.inl, fun z => z.elim id fun ⟨j, c, h1, h2, _⟩ => ?_⟩) (Nat.le_refl _))
    rw [Array.getElem?_eq_none h1] at h2
    cases h2
  | succ m ih =>
    intro i l s e1 e2 st T room k
    have hlt : i < x.cps.size := by omega
    refine codeAny_builtin PyProof.Rows.F.entry_set_update_loop ?_
    rw [Around.under_plainId PyProof.Rows.F.plain_set_update_loop _]
    show wpAny _ A.in1 (pyNext (.ref I) >>= _) _ _ s
    refine wpAny_bind (W.item i s _ _ hlt st fun v s' ⟨c, u, hc, hv⟩ st' mv => ?_)
    subst hv
    have T' : TxS P w s'.heap S l := T.keep fun o => mv.heap S o hSw
    show wpAny _ A.in1 (holding [Value.str (Froz.sing c) u] (setAdd S (.str (Froz.sing c) u)) >>= _) _ _ s'
    refine wpAny_bind (wpAny_holding ?_)
    unfold setAdd
    refine wpAny_holding (wpAny_bind ((PySem.strKind P w).pyHash (k := Froz.sing c) (Froz.is_str _ _) ?_))
    refine txs_add (s := { s' with toks := s'.toks + 1 }) T' (by omega) fun _ h' l' sb T2 hm hl => ?_
    refine wpAny_pure ⟨plainId_quiet PyProof.Rows.F.plain_set_update_loop _, ih (i + 1) l' _ (by omega) hlt (W.frame _ s' _ _ st' (Nat.le_succ _) fun b hb o e => ?_) T2 (by omega) fun s2 l2 mv2 T3 hm2 hl2 => ?_⟩
    · exact (sb.2 b fun h => hS (h ▸ hb)).trans e
    · refine k s2 l2 (Moved.trans W.gtrans ((mv.mono hwr).then_heap (Nat.le_succ _) fun b o hb e => (sb.2 b fun h => hb (h ▸ List.mem_cons_self ..)).trans e) mv2) T3 (fun y => ?_) (by omega)
      rw [hm2 y, hm y]
      constructor
      · rintro ((rfl | h) | ⟨j, d, h1, h2, rfl⟩)
        · exact .inr ⟨i, c, Nat.le_refl _, hc, rfl⟩
        · exact .inl h
        · exact .inr ⟨j, d, by omega, h2, rfl⟩
      · rintro (h | ⟨j, d, h1, h2, rfl⟩)
        · exact .inl (.inr h)
        · rcases Nat.eq_or_lt_of_le h1 with rfl | h1
          · rw [hc] at h2
            cases h2
            exact .inl (.inl rfl)
          · exact .inr ⟨j, d, h1, h2, rfl⟩
theorem sub_str_set : isSubtype (.type "str") (.type "set") = pure false := by rw [isSubtype_type]; kernel_rfl
theorem sub_str_froz : isSubtype (.type "str") (.type "frozenset") = pure false := by rw [isSubtype_type]; kernel_rfl
def led0 (w : World) : Bool := !w.params.followText "set-order"
def newSetOb (w : World) : Obj := { cls := .type "set", dict := none, data := .set #[] 0 (.fresh 0 0 (led0 w)) }
theorem set_made (a : Value) {Q : Value → Shared → Prop} (q : Q (.ref s.heap.objs.size) { s with heap := s.heap.push (newSetOb w) }) :
    codeAny (model P w) A (.call (.builtin "set.__new__") ⟨[.type "set", a], []⟩) (wants Q E) s := by
  refine codeAny_of_tree ?_
  show wpAny _ A.in1 (do checkBuiltinCall "set.__new__" ⟨[.type "set", a], []⟩; again (.builtin "set.__new__" ⟨[.type "set", a], []⟩)) _ _ s
  refine wpAny_bind (wpAny_of_eq (PySem.F.newCall_set_1 a) (wpAny_pure ⟨plainId_quiet PySem.F.plain_set_new _, codeAny_builtin PySem.F.entry_set_new ?_⟩))
  rw [Around.under_plainId PySem.F.plain_set_new _]
  unfold Builtin.«set.__new__» Builtin.Frozenset.newClass
  have z := sub_set_self
  obtain ⟨hp, g, d, tk, os⟩ := s
  dsimp only
  wp_walk
  refine wpAny_askSetting (wpAny_pure ?_)
  dsimp only
  simp only [newObj]
  exact wpAny_bind (wpAny_alloc (wpAny_pure (wpAny_pure q)))
theorem fresh_txs {h : Heap} : TxS P w (h.push (newSetOb w)) h.objs.size [] :=
  ⟨(#[], 0, .fresh 0 0 (led0 w)), Heap.get?_push_size _ rfl, .nil rfl, .nil, .nil, by
    show _ ∨ (!w.params.followText "set-order") = true
    cases w.params.followText "set-order" <;> simp⟩
/-- set(text) -/
theorem call_setT {x : Str} {u : Tok} {Q : Value → Shared → Prop} (hh : A.handled = none) (hb : x.cps.size + 1 < scanBound)
    (q : ∀ (h' : Heap) (tk : Nat) (l : List Str), TxS P w h' s.heap.objs.size l → (∀ y, y ∈ l ↔ ∃ j c : Nat, x.cps[j]? = some c ∧ y = Froz.sing c) → l.length ≤ x.cps.size →
      (∀ b o, s.heap.get? b = some o → h'.get? b = some o) → Q (.ref s.heap.objs.size) { s with heap := h', toks := tk }) :
    wpAny (model P w) A (call (.type "set") [.str x u]) Q E s := by
  obtain ⟨c, tl, hmro⟩ := PySem.F.called_set.mro
  have hmade := PySem.F.called_set.made
  have hsub := PySem.F.called_set.sub
  refine wpAny_call (codeAny_of_tree ?_)
  show wpAny _ _ (callAny (.type "set") _) _ _ _
  refine wpAny_pure ⟨Code.quiet_builtin _ (by decide +kernel), codeAny_builtin PySem.F.entry_type_call ?_⟩
  rw [Around.under_plain (weight_type_call_type "set" [.str x u] []) rfl]
  have z1 := PySem.F.called_set.notType
  have z2 := PySem.F.called_set.canCreate
  have z3 := PySem.F.typeCall_set_1 (.str x u)
  repeat (any_goals (first | assumption | wp_step))
  refine codeAny_mono (set_made (.str x u) (E := E) (Q := fun obj s1 => obj = .ref s.heap.objs.size ∧ s1 = { s with heap := s.heap.push (newSetOb w) }) ⟨rfl, rfl⟩) fun r s1 hr => ?_
  cases r with
  | error e => exact hr
  | ok fl =>
    cases fl with
    | ret obj =>
      obtain ⟨rfl, rfl⟩ := hr
      have hS : (s.heap.push (newSetOb w)).get? s.heap.objs.size = some (newSetOb w) := Heap.get?_push_size _ rfl
      have hT : Shared.TypeIs { s with heap := s.heap.push (newSetOb w) } (.ref s.heap.objs.size) "set" := ⟨_, hS, rfl⟩
      have z4 := PySem.F.called_set.init.lookup
      have z5 := PySem.F.called_set.init.bind (.ref s.heap.objs.size)
      repeat (any_goals (first | assumption | wp_step))
      refine codeAny_mono (codeAny_call_builtin (R := wants (fun r s2 => r = .none ∧ ∃ h' tk l, s2 = { s with heap := h', toks := tk } ∧ TxS P w h' s.heap.objs.size l ∧ (∀ y, y ∈ l ↔ ∃ j c : Nat, x.cps[j]? = some c ∧ y = Froz.sing c) ∧ l.length ≤ x.cps.size ∧ (∀ b o, s.heap.get? b = some o → h'.get? b = some o)) E) PySem.F.called_set.init.plain PySem.F.entry_set_init (check_set_init_1 hT ?_)) fun r2 s2 hr2 => ?_
      · have y1 := sub_str_set
        have y2 := sub_str_froz
        have y3 : (Value.type "str" == Value.type "dict") = false := by decide
        unfold Builtin.«set.__init__» noKeywords Builtin.Frozenset.updateFrom
        generalize hPI : pyIter = PI
        wp_walk
        subst hPI
        have hsz : (s.heap.push (newSetOb w)).objs.size = s.heap.objs.size + 1 := Heap.size_push ..
        refine wpAny_pyIter_str fun ob St W st => ?_
        refine wpAny_bind (wpAny_runValue ?_)
        have k0 : ∀ b o, (s.heap.push (newSetOb w)).get? b = some o → ((s.heap.push (newSetOb w)).push ob).get? b = some o := fun b o e => Heap.get?_push_of_some _ e
        refine txs_loop (W A.in1.in1.in1 (by simp [hh])).toS (S := s.heap.objs.size) ?_ x.cps.size 0 [] _ (by omega) (Nat.zero_le _) st (fresh_txs.keep (k0 _)) (by simp; omega) fun s' l mv T hm hl => ?_
        · show s.heap.objs.size ∉ [(s.heap.push (newSetOb w)).objs.size]
          rw [hsz]
          simp
        · obtain ⟨h', g', d', tk', os'⟩ := s'
          have e1 : g' = s.gens := mv.gens
          have e2 : d' = s.drawn := mv.drawn
          have e3 : os' = s.os := mv.os
          subst e1 e2 e3
          show wpAny _ _ _ _ _ _
          refine wpAny_pure ?_
          show wpAny _ _ (ret Value.none) _ _ _
          refine wpAny_pure ⟨rfl, h', tk', l, rfl, T, fun y => (hm y).trans ⟨fun z => ?_, fun ⟨j, c, z1, z2⟩ => .inr ⟨j, c, Nat.zero_le _, z1, z2⟩⟩, by simpa using hl, fun b o e => ?_⟩
          · rcases z with z | ⟨j, c, _, z1, z2⟩
            · cases z
            · exact ⟨j, c, z1, z2⟩
          · have hlt : b < s.heap.objs.size := Heap.lt_size e
            refine mv.heap b o ?_ (k0 b o (Heap.get?_push_of_some _ e))
            show b ∉ [s.heap.objs.size, (s.heap.push (newSetOb w)).objs.size]
            rw [hsz]
            simp only [List.mem_cons, List.not_mem_nil, or_false, not_or]
            exact ⟨Nat.ne_of_lt hlt, Nat.ne_of_lt (Nat.lt_succ_of_lt hlt)⟩
      · cases r2 with
        | error e => exact hr2
        | ok f2 =>
          cases f2 with
          | ret r =>
            obtain ⟨rfl, h', tk, l, rfl, a1, a2, a3, a4⟩ := hr2
            repeat (any_goals (first | assumption | wp_step))
            exact q _ _ l a1 a2 a3 a4
          | _ => exact hr2.elim
    | _ => exact hr.elim
theorem perm_of_sub {α : Type} [BEq α] [LawfulBEq α] : ∀ {l ks : List α}, l.Nodup → (∀ x ∈ l, x ∈ ks) → ks.length = l.length → l.Perm ks
  | [], ks, _, _, h => by
    have : ks = [] := List.length_eq_zero_iff.mp h
    rw [this]
  | x :: l, ks, nd, hm, h => by
    obtain ⟨n1, n2⟩ := List.nodup_cons.mp nd
    have hx := hm x (List.mem_cons_self ..)
    refine (List.Perm.cons x (perm_of_sub (ks := ks.erase x) n2 (fun y hy => ?_) ?_)).trans (List.perm_cons_erase hx).symm
    · exact (List.mem_erase_of_ne fun (e : y = x) => n1 (e ▸ hy)).mpr (hm y (List.mem_cons_of_mem _ hy))
    · rw [List.length_erase_of_mem hx, h]
      rfl
theorem txs_vals {D : Froz.SD} {l : List Str} (F : Froz.TxOk P w D l) (nd : l.Nodup) {vs : List Value} (pm : vs.Perm (D.1.toList.map (·.2))) : StrsAre vs (vs.map strOf) ∧ (vs.map strOf).Perm l := by
  have sh : ∀ e ∈ D.1.toList, ∃ k u, e.2 = Value.str k u ∧ k ∈ l := fun e he => by
    obtain ⟨⟨k, z, _⟩, _⟩ := F.el e he
    obtain ⟨u, hu⟩ := Value.isStrOf_shape z
    exact ⟨k, u, hu, (F.mem k).mpr ⟨e, he, z⟩⟩
  have hv : ∀ v ∈ vs, ∃ k u, v = Value.str k u := fun v hv => by
    obtain ⟨e, he, rfl⟩ := List.mem_map.mp (pm.mem_iff.mp hv)
    obtain ⟨k, u, h, _⟩ := sh e he
    exact ⟨k, u, h⟩
  refine ⟨strsAre_map vs hv, (perm_of_sub nd (fun k hk => ?_) ?_).symm⟩
  · obtain ⟨e, he, z⟩ := (F.mem k).mp hk
    obtain ⟨u, hu⟩ := Value.isStrOf_shape z
    refine List.mem_map.mpr ⟨e.2, pm.mem_iff.mpr (List.mem_map.mpr ⟨e, he, rfl⟩), ?_⟩
    rw [hu]
    rfl
  · rw [List.length_map, pm.length_eq, List.length_map, Array.length_toList, F.sz]
/-- sorted(set) -/
theorem sorted_txs {a : Addr} {l : List Str} {Q : Value → Shared → Prop} (T : TxS P w s.heap a l) (hh : A.handled = none) (h64 : l.length < 64)
    (q : ∀ (s' : Shared) (p : Addr) (out : Array Value) (c : Nat) (ys : List Str), (∀ b o, s.heap.get? b = some o → s'.heap.get? b = some o) → s'.gens = s.gens → s'.os = s.os → s.heap.objs.size ≤ p →
      s'.heap.get? p = some (seqObj "list" out c) → StrsAre out.toList ys → ys.Perm l → sortedS ys = true → Q (.ref p) s') :
    wpAny (model P w) A (call (.builtin "sorted") [.ref a]) Q E s := by
  obtain ⟨⟨es, ep, t⟩, ho, F, nd, rs, ld⟩ := T
  have hsz : es.size = l.length := F.sz
  have hbd : es.size < scanBound := by
    rw [hsz]
    exact Nat.lt_trans h64 (by decide)
  refine Calls.call_function_entry kind_sorted plain_sorted entry_sorted (args_sorted1 _) ?_
  unfold Builtin.«sorted»
  refine wpAny_bind (m := checkCount "sorted" 1 1 _) (wpAny_pure ?_)
  refine wpAny_bind (collect_set (A := A.in1) hh ⟨_, ho, rfl, rfl⟩ F.fit hbd rs ld fun s1 vs kp zz g1 o1 pm => ?_)
  obtain ⟨hS, pl⟩ := txs_vals F nd pm
  have hvl : vs.length = l.length := by rw [← pl.length_eq, List.length_map]
  refine wpAny_bind (wpAny_newList ?_ (by rw [hvl, sizeLine_eq]; omega))
  have hL : (s1.heap.push (seqObj "list" vs.toArray 0)).get? s1.heap.objs.size = some (seqObj "list" vs.toArray 0) := Heap.get?_push_size _ rfl
  refine wpAny_bind (wpAny_holding (wpAny_call_entry slot_list_sort ⟨_, hL, rfl⟩ entry_list_sort (list_sort_treeK strKind_oneLt hL hS.keysOf (fun _ _ _ e => keyKind_strs (by rw [← e]; exact hS)) (by rw [hvl]; exact h64) fun st' u1 u2 => ⟨_, rfl, ?_⟩) (args_list_sort _)))
  obtain ⟨ys, v1, v2, v3⟩ := sorted_out_str hS u1 u2
  obtain ⟨c, hc⟩ := sortedHeap_at (vs := vs) (out := (arrOf st').map (·.2)) hL
  refine wpAny_pure ⟨_, rfl, q _ s1.heap.objs.size _ c ys (fun b u e => ?_) g1 o1 zz hc v1 (v2.trans pl) v3⟩
  have e2 := kp b u e
  have hlt := Heap.lt_size e2
  show (sortedHeap (s1.heap.push (seqObj "list" vs.toArray 0)) s1.heap.objs.size vs ((arrOf st').map (·.2))).get? b = some u
  rw [sortedHeap_old (Nat.ne_of_lt hlt) (by rw [size_push']; exact Nat.lt_succ_of_lt hlt)]
  exact Heap.get?_push_of_some _ e2
end
theorem rise_pw : ∀ (zs : List Nat) (p : Nat), risingS (Froz.sing p) (zs.map Froz.sing) = true → (p :: zs).Pairwise (· ≤ ·)
  | [], p, _ => by simp
  | x :: r, p, h => by
    have h' : (!ltCps [x] [p] && risingS (Froz.sing x) (r.map Froz.sing)) = true := h
    rw [Bool.and_eq_true, ltCps_eq] at h'
    have ih := rise_pw r x h'.2
    have hx : p ≤ x := by
      have := h'.1
      simp [List.cons_lt_cons_iff] at this
      omega
    refine List.pairwise_cons.mpr ⟨fun y hy => ?_, ih⟩
    rcases List.mem_cons.mp hy with rfl | hy
    · exact hx
    · exact Nat.le_trans hx ((List.pairwise_cons.mp ih).1 y hy)
theorem sort_pw {zs : List Nat} (h : sortedS (zs.map Froz.sing) = true) : zs.Pairwise (· ≤ ·) := by
  cases zs with
  | nil => exact .nil
  | cons x r => exact rise_pw r x h
theorem pw_strict : ∀ {zs : List Nat}, zs.Pairwise (· ≤ ·) → zs.Nodup → zs.Pairwise (· < ·)
  | [], _, _ => .nil
  | x :: zs, h, d => by
    obtain ⟨a, b⟩ := List.pairwise_cons.mp h
    obtain ⟨c, e⟩ := List.nodup_cons.mp d
    refine List.pairwise_cons.mpr ⟨fun y hy => Nat.lt_of_le_of_ne (a y hy) fun z => c (z ▸ hy), pw_strict b e⟩
theorem sing_map : ∀ {ys : List Str}, (∀ y ∈ ys, ∃ c, y = Froz.sing c) → ∃ zs : List Nat, ys = zs.map Froz.sing
  | [], _ => ⟨[], rfl⟩
  | y :: ys, h => by
    obtain ⟨c, rfl⟩ := h y (List.mem_cons_self ..)
    obtain ⟨zs, e⟩ := sing_map (ys := ys) fun z hz => h z (List.mem_cons_of_mem _ hz)
    exact ⟨c :: zs, by rw [e]; rfl⟩
theorem sing_inj {a b : Nat} (h : Froz.sing a = Froz.sing b) : a = b := by
  have := congrArg (fun y : Str => y.cps.toList) h
  exact (List.cons.inj this).1
/-- what sorted(set(text)) holds -/
theorem sset_is {cs : Txt} {l ys : List Str} (hl : ∀ y, y ∈ l ↔ ∃ j c : Nat, (toStr cs).cps[j]? = some c ∧ y = Froz.sing c) (nd : l.Nodup) (pm : ys.Perm l) (so : sortedS ys = true) : ys = (signSet cs).map Froz.sing := by
  have mem : ∀ y, y ∈ ys ↔ ∃ c ∈ cs, y = Froz.sing c := fun y => by
    rw [pm.mem_iff, hl y]
    constructor
    · rintro ⟨j, c, h, rfl⟩
      refine ⟨c, ?_, rfl⟩
      have h' : cs[j]? = some c := by simpa [toStr] using h
      exact List.mem_of_getElem? h'
    · rintro ⟨c, h, rfl⟩
      obtain ⟨j, hj⟩ := List.mem_iff_getElem?.mp h
      exact ⟨j, c, by simpa [toStr] using hj, rfl⟩
  obtain ⟨zs, rfl⟩ := sing_map (ys := ys) fun y hy => by
    obtain ⟨c, _, e⟩ := (mem y).mp hy
    exact ⟨c, e⟩
  have ndz : zs.Nodup := by
    have : (zs.map Froz.sing).Nodup := pm.nodup_iff.mpr nd
    exact (List.pairwise_map.mp this).imp fun {a b} h e => h (congrArg Froz.sing e)
  rw [pw_uniq (pw_strict (sort_pw so) ndz) (signSet_pw (cs := cs)) fun x => ?_]
  rw [mem_signSet]
  constructor
  · intro hx
    obtain ⟨c, hc, e⟩ := (mem (Froz.sing x)).mp (List.mem_map.mpr ⟨x, hx, rfl⟩)
    rw [sing_inj e]
    exact hc
  · intro hx
    obtain ⟨c, hc, e⟩ := List.mem_map.mp ((mem (Froz.sing x)).mpr ⟨x, hx, rfl⟩)
    rw [← sing_inj e]
    exact hc
section
variable {X : Cx}
/-- sorted(set(e)), e a text -/
def tSset (te : TE) : TE := tUn (fun x H Q => ∃ cs : Txt, x = .str (toStr cs) ∧ cs.length ≤ 60 ∧ ∀ p, H p = none → Q (.ref p) (upd H p (.lst (((signSet cs).map Froz.sing).map V.str)))) te
theorem sset_tail {pins : List (Addr × Obj)} {σ : Sg} {H : Hp} {s : Shared} {Q : VK} {cs : Txt} {a : Addr} {l : List Str} (hc : X.calm = true) (I : Inv X pins σ H s) (T : TxS X.prog X.w s.heap a l)
    (hl : ∀ y, y ∈ l ↔ ∃ j c : Nat, (toStr cs).cps[j]? = some c ∧ y = Froz.sing c) (hn : l.length < 64) (k : ∀ p, H p = none → Q (.ref p) (upd H p (.lst (((signSet cs).map Froz.sing).map V.str)))) :
    wpAny (model X.prog X.w) X.A (call (.builtin "sorted") [.ref a]) (EP X pins σ Q) X.xe s := by
  have nd : l.Nodup := by
    obtain ⟨_, _, _, z, _⟩ := T
    exact z
  refine sorted_txs T (I.ok.hd hc) hn fun s' pl out c ys kp2 g o hp hg hi pm so => ?_
  have eq := sset_is hl nd pm so
  have hlen : (ys.map V.str).length ≤ sizeLine := by rw [List.length_map, pm.length_eq, sizeLine_eq]; omega
  have hnn : H pl = none := I.hok.fresh hp
  have J : Inv X pins σ (upd H pl (.lst (ys.map V.str))) { s with heap := s'.heap, gens := s'.gens, drawn := s'.drawn, toks := s'.toks } :=
    I.call (ch := []) (Un.laid kp2 hp hnn) (I.hok.laid kp2 hp ⟨hlen, out.toList, c, vals_of_strs hi, hg⟩) (by rw [g]; exact I.bare) (fun _ z => nomatch z)
  have e : s' = { s with heap := s'.heap, gens := s'.gens, drawn := s'.drawn, toks := s'.toks } := by
    cases s'
    cases s
    cases o
    rfl
  rw [e]
  refine ⟨.ref pl, _, J, rfl, ?_⟩
  rw [eq]
  exact k pl hnn
theorem pe_sset {a : Expr} {ta : TE} {p p2 q pos : Pos} (hc : X.calm = true) (hg : Gl X "sorted") (hm : X.mg "sorted" = none) (hg2 : Gl X "set") (hm2 : X.mg "set" = none) (ha : PE X a ta)
    (na : starEach [a] X.env = (false, eval a X.env) :: starEach [] X.env) : PE X (.Call (.Name "sorted" p) [.Call (.Name "set" p2) [a] [] q] [] pos) (tSset ta) := by
  refine ⟨fun pins s σ H Q I h => ?_⟩
  refine Call_ (ld_blt I hg hm boot_sorted ?_)
  refine PyProof.Rows.callWith_builtin1 (PyProof.Rows.args_cons ?_ rfl) rfl rfl
  refine Call_ (ld_blt I hg2 hm2 boot_set ?_)
  refine PyProof.Rows.callWith_type1 (PyProof.Rows.args_cons (thn (ha.run pins s σ H _ I h) fun v s1 ⟨x, H1, I1, r1, q1⟩ => PyProof.Rows.args_nil ?_) na) na rfl
  obtain ⟨cs, rfl, h60, k⟩ := q1
  obtain ⟨t, rfl⟩ := r1
  have hsz : (toStr cs).cps.size = cs.length := by simp [toStr]
  refine call_setT (I1.ok.hd hc) (by rw [hsz]; exact Nat.lt_of_le_of_lt (Nat.succ_le_succ h60) (by decide)) fun h' tk l T hl hn kp => ?_
  refine PyProof.Rows.args_nil ?_
  have I2 : Inv X pins σ H1 { s1 with heap := h', toks := tk } := I1.kept kp
  have nd : l.Nodup := by
    obtain ⟨_, _, _, z, _⟩ := T
    exact z
  exact sset_tail hc I2 T hl (by rw [hsz] at hn; omega) k
end
end RS

/-! RsBi: built-in functions and methods. -/
namespace RS
open PySem PySem.Spec PyProof.Rows L2

def CVs (g : Gm) (r : RC) (H : Hp) : List D → List V → Prop
  | [], xs => xs = []
  | d :: ds, xs => ∃ v t, xs = v :: t ∧ CV g r H d v ∧ CVs g r H ds t
theorem Rel.vws {g : Gm} {r : RC} {s : S} {σ : Sg} {H : Hp} (R : Rel g r s σ H) : ∀ {ds ds' : List D} {vs : List V}, VXs g r σ ds vs → RS.vws ds s = some ds' → CVs g r H ds' vs
  | [], _, _, h, e => by
    cases e
    exact h
  | d :: ds, _, _, ⟨v, t, e, q, qs⟩, h => by
    simp only [RS.vws] at h
    obtain ⟨d', h1, h2⟩ := Option.bind_eq_some_iff.mp h
    obtain ⟨ds', h3, rfl⟩ := Option.map_eq_some_iff.mp h2
    exact ⟨v, t, e, R.vw q h1, Rel.vws R qs h3⟩
theorem cvs1 {g : Gm} {r : RC} {H : Hp} {d : D} {vs : List V} (h : CVs g r H [d] vs) : ∃ v, vs = [v] ∧ CV g r H d v := by
  obtain ⟨v, t, e, q, e2⟩ := h
  have e2 : t = [] := e2
  subst e2
  exact ⟨v, e, q⟩
theorem cvs2 {g : Gm} {r : RC} {H : Hp} {d e : D} {vs : List V} (h : CVs g r H [d, e] vs) : ∃ v w, vs = [v, w] ∧ CV g r H d v ∧ CV g r H e w := by
  obtain ⟨v, t, e1, q, qs⟩ := h
  obtain ⟨w, rfl, q2⟩ := cvs1 qs
  exact ⟨v, w, e1, q, q2⟩
def BiS (X : Cx) (b : Bi) (rel : List V → Hp → VK → Prop) : Prop := ∀ (r : RC) (s : S) (σ : Sg) (H : Hp) (ds : List D) (d : D) (vs : List V) (Q : VK), Rel (gX X) r s σ H → CVs (gX X) r H ds vs → bi b ds = some d → Ans X r s σ d Q → rel vs H Q

section
variable {X : Cx}
theorem call_lenT : CallR X (.builtin "len") (fun xs H Q => ∃ (p : Addr) (kvs : List (List Key × V)), xs = [.ref p] ∧ Rd H p (.dT kvs) ∧ Q (.int ((kvs.length : Nat) : Int)) H) := by
  intro pins s σ H xs us Q I r h
  obtain ⟨p, kvs, rfl, hp, q⟩ := h
  obtain ⟨u, rfl, rx⟩ := vals1 r
  obtain rfl : u = .ref p := rx
  obtain ⟨z, hd, ys, rel, dd⟩ := dt_rd I.hok hp
  have hl : kvs.length = ys.length := Paired.length rel
  refine call_len_dictH hd dd (by rw [← hl]; rw [sizeLine_eq] at z; omega) ?_
  rw [← hl]
  exact ⟨.int ((kvs.length : Nat) : Int), H, I.tok _, ⟨_, rfl⟩, q⟩
theorem call_lenK : CallR X (.builtin "len") (fun xs H Q => ∃ (p : Addr) (kvs : List (Key × V)), xs = [.ref p] ∧ Rd H p (.dK kvs) ∧ Q (.int ((kvs.length : Nat) : Int)) H) := by
  intro pins s σ H xs us Q I r h
  obtain ⟨p, kvs, rfl, hp, q⟩ := h
  obtain ⟨u, rfl, rx⟩ := vals1 r
  obtain rfl : u = .ref p := rx
  exact d_len I hp fun t s' I' => ⟨.int ((kvs.length : Nat) : Int), H, I', ⟨_, rfl⟩, q⟩
def rLenA (K : PySem.W.Frag) : List V → Hp → VK → Prop := fun xs H Q => ((∃ x n, xs = [x] ∧ LenV K x H n ∧ Q (.int n) H) ∨ ∃ (p : Addr) (kvs : List (List Key × V)), xs = [.ref p] ∧ Rd H p (.dT kvs) ∧ Q (.int ((kvs.length : Nat) : Int)) H) ∨ ∃ (p : Addr) (kvs : List (Key × V)), xs = [.ref p] ∧ Rd H p (.dK kvs) ∧ Q (.int ((kvs.length : Nat) : Int)) H
theorem call_lenA : CallR X (.builtin "len") (rLenA X.K) := (call_len.or call_lenT).or call_lenK
theorem s_len : BiS X .len (rLenA X.K) := by
  intro r s σ H ds d vs Q R c h k
  unfold bi at h
  split at h <;> (first | (cases h; done) | skip) <;> rename_i hb <;> cases hb <;> cases h
  · obtain ⟨v, rfl, rfl, l⟩ := cvs1 c
    exact .inl (.inl ⟨_, _, rfl, ⟨by rw [toStr_len, lineEq]; exact l, rfl⟩, k.here R (by rw [toStr_len]; exact rfl)⟩)
  · obtain ⟨v, rfl, a, xs, rfl, ha, l, q⟩ := cvs1 c
    exact .inl (.inl ⟨_, _, rfl, .inl ⟨xs, SqL.of ha, q.length⟩, k.here R rfl⟩)
  · obtain ⟨v, rfl, a, xs, rfl, ha, l, q⟩ := cvs1 c
    exact .inl (.inl ⟨_, _, rfl, .inr ⟨xs, SqT.of ha, q.length⟩, k.here R rfl⟩)
  · obtain ⟨v, rfl, a, u, ws, rfl, hr, hd, l, q⟩ := cvs1 c
    rcases hd with ⟨rfl, kvs, rfl, rfl, rfl, _⟩ | ⟨rfl, kvs, rfl, rfl, rfl, _⟩
    · exact .inr ⟨a, kvs, rfl, hr, k.here R (by rw [List.length_map]; exact rfl)⟩
    · exact .inl (.inr ⟨a, kvs, rfl, hr, k.here R (by rw [List.length_map]; exact rfl)⟩)
theorem s_abs : BiS X .abs (fun xs H Q => ∃ i, xs = [.int i] ∧ Q (.int (if i < 0 then -i else i)) H) := by
  intro r s σ H ds d vs Q R c h k
  unfold bi at h
  split at h <;> (first | (cases h; done) | skip) <;> rename_i hb <;> cases hb <;> cases h
  obtain ⟨v, rfl, rfl⟩ := cvs1 c
  exact ⟨_, rfl, k.here R rfl⟩
theorem s_int : BiS X .int (fun xs H Q => (∃ i, xs = [.int i] ∧ Q (.int i) H) ∨ ∃ k, xs = [.bl k] ∧ Q (.int (if k then 1 else 0)) H) := by
  intro r s σ H ds d vs Q R c h k
  unfold bi at h
  split at h <;> (first | (cases h; done) | skip) <;> rename_i hb <;> cases hb <;> cases h
  obtain ⟨v, rfl, rfl⟩ := cvs1 c
  exact .inl ⟨_, rfl, k.here R rfl⟩
theorem ints_of {g : Gm} {r : RC} : ∀ {ds : List D} {vs : List V} {is : List Int}, VRs g r ds vs → D.ints ds = some is → vs = is.map V.int
  | [], _, _, h, e => by cases e; exact h
  | d :: ds, _, _, ⟨v, t, e1, q, qs⟩, e => by
    cases d <;> simp only [D.ints] at e
    case int i =>
      obtain ⟨js, h1, rfl⟩ := Option.map_eq_some_iff.mp e
      subst e1
      rw [ints_of qs h1]
      cases (show v = V.int _ from q)
      rfl
    all_goals cases e
theorem bls_of {g : Gm} {r : RC} : ∀ {ds : List D} {vs : List V} {is : List Bool}, VRs g r ds vs → D.bls ds = some is → vs = is.map V.bl
  | [], _, _, h, e => by cases e; exact h
  | d :: ds, _, _, ⟨v, t, e1, q, qs⟩, e => by
    cases d <;> simp only [D.bls] at e
    case bl i =>
      obtain ⟨js, h1, rfl⟩ := Option.map_eq_some_iff.mp e
      subst e1
      rw [bls_of qs h1]
      cases (show v = V.bl _ from q)
      rfl
    all_goals cases e
theorem strs_of {g : Gm} {r : RC} : ∀ {ds : List D} {vs : List V} {is : List Txt}, VRs g r ds vs → D.strs ds = some is → vs = (is.map toStr).map V.str
  | [], _, _, h, e => by cases e; exact h
  | d :: ds, _, _, ⟨v, t, e1, q, qs⟩, e => by
    cases d <;> simp only [D.strs] at e
    case str i =>
      obtain ⟨js, h1, rfl⟩ := Option.map_eq_some_iff.mp e
      subst e1
      rw [strs_of qs h1]
      obtain ⟨e2, _⟩ := q
      subst e2
      rfl
    all_goals cases e
theorem s_all : BiS X .all (rAll X.K) := by
  intro r s σ H ds d vs Q R c h k
  unfold bi at h
  split at h <;> (first | (cases h; done) | skip) <;> rename_i hb <;> cases hb
  · obtain ⟨bs, h1, rfl⟩ := Option.map_eq_some_iff.mp h
    obtain ⟨v, rfl, a, xs, rfl, ha, l, q⟩ := cvs1 c
    rw [bls_of q h1] at ha
    exact ⟨a, bs, rfl, SqL.of ha, k.here R rfl⟩
theorem s_any : BiS X .any (rAny X.K) := by
  intro r s σ H ds d vs Q R c h k
  unfold bi at h
  split at h <;> (first | (cases h; done) | skip) <;> rename_i hb <;> cases hb
  · obtain ⟨bs, h1, rfl⟩ := Option.map_eq_some_iff.mp h
    obtain ⟨v, rfl, a, xs, rfl, ha, l, q⟩ := cvs1 c
    rw [bls_of q h1] at ha
    exact ⟨a, bs, rfl, SqL.of ha, k.here R rfl⟩
theorem s_sum : BiS X .sum (rSum X.K) := by
  intro r s σ H ds d vs Q R c h k
  unfold bi at h
  split at h <;> (first | (cases h; done) | skip) <;> rename_i hb <;> cases hb
  · obtain ⟨bs, h1, rfl⟩ := Option.map_eq_some_iff.mp h
    obtain ⟨v, rfl, a, xs, rfl, ha, l, q⟩ := cvs1 c
    rw [ints_of q h1] at ha
    exact ⟨a, bs, rfl, SqL.of ha, k.here R rfl⟩
theorem maxI_spec : ∀ (l : List Int) (m : Int), (maxI m l ∈ m :: l) ∧ ∀ y ∈ m :: l, y ≤ maxI m l
  | [], m => ⟨by simp [maxI], by simp [maxI]⟩
  | x :: xs, m => by
    obtain ⟨h1, h2⟩ := maxI_spec xs (if x > m then x else m)
    simp only [maxI]
    generalize maxI (if x > m then x else m) xs = z at h1 h2 ⊢
    constructor
    · rcases List.mem_cons.mp h1 with e | e
      · rw [e]
        split <;> simp
      · simp [e]
    · intro y hy
      have hm := h2 (if x > m then x else m) (by simp)
      rcases List.mem_cons.mp hy with e | e
      · subst e
        split at hm <;> omega
      · rcases List.mem_cons.mp e with e | e
        · subst e
          split at hm <;> omega
        · exact h2 y (by simp [e])
theorem minI_spec : ∀ (l : List Int) (m : Int), (minI m l ∈ m :: l) ∧ ∀ y ∈ m :: l, minI m l ≤ y
  | [], m => ⟨by simp [minI], by simp [minI]⟩
  | x :: xs, m => by
    obtain ⟨h1, h2⟩ := minI_spec xs (if x < m then x else m)
    simp only [minI]
    generalize minI (if x < m then x else m) xs = z at h1 h2 ⊢
    constructor
    · rcases List.mem_cons.mp h1 with e | e
      · rw [e]
        split <;> simp
      · simp [e]
    · intro y hy
      have hm := h2 (if x < m then x else m) (by simp)
      rcases List.mem_cons.mp hy with e | e
      · subst e
        split at hm <;> omega
      · rcases List.mem_cons.mp e with e | e
        · subst e
          split at hm <;> omega
        · exact h2 y (by simp [e])
theorem s_max : BiS X .max (rMax X.K) := by
  intro r s σ H ds d vs Q R c h k
  unfold bi at h
  split at h <;> (first | (cases h; done) | skip) <;> rename_i hb <;> cases hb
  · obtain ⟨bs, h1, h2⟩ := Option.bind_eq_some_iff.mp h
    obtain ⟨v, rfl, a, xs, rfl, ha, l, q⟩ := cvs1 c
    rw [ints_of q h1] at ha
    cases bs with
    | nil => cases h2
    | cons i t =>
      cases h2
      refine ⟨a, i :: t, rfl, SqL.of ha, by simp, fun m hm hle => ?_⟩
      obtain ⟨h3, h4⟩ := maxI_spec t i
      have : m = maxI i t := Int.le_antisymm (h4 m hm) (hle _ h3)
      subst this
      exact k.here R rfl
theorem s_min : BiS X .min (rMin X.K) := by
  intro r s σ H ds d vs Q R c h k
  unfold bi at h
  split at h <;> (first | (cases h; done) | skip) <;> rename_i hb <;> cases hb
  · obtain ⟨bs, h1, h2⟩ := Option.bind_eq_some_iff.mp h
    obtain ⟨v, rfl, a, xs, rfl, ha, l, q⟩ := cvs1 c
    rw [ints_of q h1] at ha
    cases bs with
    | nil => cases h2
    | cons i t =>
      cases h2
      refine ⟨a, i :: t, rfl, SqL.of ha, by simp, fun m hm hle => ?_⟩
      obtain ⟨h3, h4⟩ := minI_spec t i
      have : m = minI i t := Int.le_antisymm (hle _ h3) (h4 m hm)
      subst this
      exact k.here R rfl
theorem s_max2 : BiS X .max2 (fun xs H Q => ∃ i j, xs = [.int i, .int j] ∧ Q (.int (if j > i then j else i)) H) := by
  intro r s σ H ds d vs Q R c h k
  unfold bi at h
  split at h <;> (first | (cases h; done) | skip) <;> rename_i hb <;> cases hb <;> cases h
  obtain ⟨v, w, rfl, rfl, rfl⟩ := cvs2 c
  exact ⟨_, _, rfl, k.here R rfl⟩
theorem s_min2 : BiS X .min2 (fun xs H Q => ∃ i j, xs = [.int i, .int j] ∧ Q (.int (if j < i then j else i)) H) := by
  intro r s σ H ds d vs Q R c h k
  unfold bi at h
  split at h <;> (first | (cases h; done) | skip) <;> rename_i hb <;> cases hb <;> cases h
  obtain ⟨v, w, rfl, rfl, rfl⟩ := cvs2 c
  exact ⟨_, _, rfl, k.here R rfl⟩
theorem s_tuple : BiS X .tuple (fun xs H Q => ∃ p ys, xs = [.ref p] ∧ ((SqL X.K H p ys ∧ ∀ l, H l = none → Q (.ref l) (upd H l (.tup ys))) ∨ (SqT X.K H p ys ∧ Q (.ref p) H))) := by
  intro r s σ H ds d vs Q R c h k
  unfold bi at h
  split at h <;> (first | (cases h; done) | skip) <;> rename_i hb <;> cases hb <;> cases h
  · obtain ⟨v, rfl, a, xs, rfl, ha, l, q⟩ := cvs1 c
    exact ⟨a, xs, rfl, .inl ⟨SqL.of ha, fun p hp => k.tup R q l hp⟩⟩
  · obtain ⟨v, rfl, a, xs, rfl, ha, l, q⟩ := cvs1 c
    obtain ⟨R', le⟩ := R.tup ha
    exact ⟨a, xs, rfl, .inr ⟨SqT.of ha, k _ _ _ le R' ⟨a, xs, rfl, upd_same, l, VRs.mono le q⟩⟩⟩

/-! ### isinstance -/
inductive HasT (K : PySem.W.Frag) (H : Hp) : V → String → Prop
  | non : HasT K H .non "NoneType"
  | bl (b : Bool) : HasT K H (.bl b) "bool"
  | int (i : Int) : HasT K H (.int i) "int"
  | str (z : Str) : HasT K H (.str z) "str"
  | lst {a : Addr} {xs : List V} (e : H a = some (.lst xs)) : HasT K H (.ref a) "list"
  | tup {a : Addr} {xs : List V} (e : H a = some (.tup xs)) : HasT K H (.ref a) "tuple"
  | dK {a : Addr} {kvs : List (Key × V)} (e : Rd H a (.dK kvs)) : HasT K H (.ref a) "dict"
  | dT {a : Addr} {kvs : List (List Key × V)} (e : Rd H a (.dT kvs)) : HasT K H (.ref a) "dict"
theorem kit_has {pins : List (Addr × Obj)} {σ : Sg} {H : Hp} {s : Shared} {x : V} {u : Value} {T : String} (I : Inv X pins σ H s) (rx : RelV x u) (ty : HasT X.K H x T) :
    ∃ P : Heap → Prop, PySem.W.KitX X.K u (.type T) P ∧ P s.heap ∧ u ≠ .builtin "__main__.__loader__#opaque" := by
  cases ty with
  | non => exact kit_of I rx (.base .non)
  | bl b => exact kit_of I rx (.base (.bl b))
  | int i => exact kit_of I rx (.base (.int i))
  | str z => exact kit_of I rx (.base (.str z))
  | lst e => exact kit_of I rx (.base (.lst e))
  | tup e => exact kit_of I rx (.base (.tup e))
  | @dK a kvs e =>
    cases (show u = Value.ref a from rx)
    obtain ⟨⟨o, es, ep, h1, h2, _⟩, _⟩ := Inv.rawK I e
    exact ⟨_, PySem.W.kitx_dict, ⟨o, h1, h2⟩, fun z => nomatch z⟩
  | @dT a kvs e =>
    cases (show u = Value.ref a from rx)
    obtain ⟨⟨o, es, ep, h1, h2, _⟩, _⟩ := Inv.rawT I e
    exact ⟨_, PySem.W.kitx_dict, ⟨o, h1, h2⟩, fun z => nomatch z⟩
def rIsT (K : PySem.W.Frag) (n : String) : List V → Hp → VK → Prop := fun xs H Q => ∃ (x : V) (T : String) (b : Bool), xs = [x, .ty n] ∧ HasT K H x T ∧ PySem.W.kitOne K (.type T) (.type n) = some b ∧ Q (.bl b) H
theorem call_isT (n : String) : CallR X (.builtin "isinstance") (rIsT X.K n) := by
  intro pins s σ H xs us Q I r h
  obtain ⟨x, T, b, rfl, ty, e, q⟩ := h
  obtain ⟨u1, u2, rfl, r1, r2⟩ := vals2 r
  cases (show u2 = Value.type n from r2)
  obtain ⟨P, Z, p, hx⟩ := kit_has I r1 ty
  exact PySem.W.kia_one Z I.kIn p e hx fun tk => ⟨.bl b, H, I.tok tk, rfl, q⟩
theorem s_isi {n : String} {r : RC} {s : S} {σ : Sg} {H : Hp} {x : D} {v : V} {b : Bool} {Q : VK} (R : Rel (gX X) r s σ H) (c : CV (gX X) r H x v) (h : isiTy n x = some b) (k : Ans X r s σ (.bl b) Q) : rIsT X.K n [v, .ty n] H Q := by
  have go : ∀ T, HasT X.K H v T → PySem.W.kitOne X.K (.type T) (.type n) = some b → rIsT X.K n [v, .ty n] H Q := fun T h1 h2 => ⟨v, T, b, rfl, h1, h2, k.here R rfl⟩
  have dt : ∀ t ks vs, x = .dct t ks vs → HasT X.K H v "dict" := fun t ks vs e => by
    subst e
    obtain ⟨a, u, ws, rfl, hr, hd, _⟩ := c
    rcases hd with ⟨rfl, kvs, rfl, _⟩ | ⟨rfl, kvs, rfl, _⟩
    · exact .dK hr
    · exact .dT hr
  unfold isiTy at h
  split at h <;> (first | (cases h; done) | skip) <;>
  · cases x with
    | non => cases h; cases (show v = .non from c); exact go _ .non (kit_ty (by decide +kernel))
    | bl y => cases h; cases (show v = .bl _ from c); exact go _ (.bl _) (kit_ty (by decide +kernel))
    | int y => cases h; cases (show v = .int _ from c); exact go _ (.int _) (kit_ty (by decide +kernel))
    | str y => cases h; obtain ⟨rfl, _⟩ := c; exact go _ (.str _) (kit_ty (by decide +kernel))
    | lst y => cases h; obtain ⟨a, xs, rfl, ha, _⟩ := c; exact go _ (.lst ha) (kit_ty (by decide +kernel))
    | tup y => cases h; obtain ⟨a, xs, rfl, ha, _⟩ := c; exact go _ (.tup ha) (kit_ty (by decide +kernel))
    | dct t ks vs => cases h; exact go _ (dt _ _ _ rfl) (kit_ty (by decide +kernel))
    | _ => cases h
end
end RS

/-! RsRepr: repr of data. -/
namespace RS
open PySem PySem.Spec PyProof.Rows L2

mutual
theorem toR_show : ∀ d : D, d.shw = true → d.toR.showable = true ∧ d.toR.leavesShort 13 = true
  | .non, _ => ⟨rfl, rfl⟩
  | .bl _, _ => ⟨rfl, rfl⟩
  | .int i, h => by
    have h : i.natAbs < 10 ^ 12 := of_decide_eq_true h
    refine ⟨?_, ?_⟩
    · simp only [D.toR, PyData.showable, decide_eq_true_eq]
      have : i.natAbs.log2 < 41 := by
        by_cases h0 : i.natAbs = 0
        · rw [h0]; decide
        · exact (Nat.log2_lt h0).mpr (Nat.lt_of_lt_of_le h (by decide))
      omega
    · simp only [D.toR, PyData.leavesShort, decide_eq_true_eq]
      exact PyData.shown_int_le h
  | .str cs, h => ⟨rfl, by simpa [D.toR, PyData.leavesShort, D.shw] using h⟩
  | .tup xs, h => by
    obtain ⟨a, b⟩ := toRs_show xs h
    exact ⟨by simpa only [D.toR, PyData.showable] using a, by simpa only [D.toR, PyData.leavesShort] using b⟩
  | .lst xs, h => by
    obtain ⟨a, b⟩ := toRs_show xs h
    exact ⟨by simpa only [D.toR, PyData.showable] using a, by simpa only [D.toR, PyData.leavesShort] using b⟩
  | .dct _ _ _, _ => ⟨rfl, rfl⟩
  | .kl _, h => by cases h
  | .kt _, h => by cases h
  | .ref _, h => by cases h
  | .loc _, h => by cases h
  | .fn _, h => by cases h
  | .ty _, h => by cases h
theorem toRs_show : ∀ ds : List D, D.shws ds = true → PyData.showableAll (D.toRs ds) = true ∧ PyData.leavesShortAll 13 (D.toRs ds) = true
  | [], _ => ⟨rfl, rfl⟩
  | x :: xs, h => by
    simp only [D.shws, Bool.and_eq_true] at h
    obtain ⟨a, b⟩ := toR_show x h.1
    obtain ⟨c, d⟩ := toRs_show xs h.2
    exact ⟨by simp only [D.toRs, PyData.showableAll, a, c, Bool.and_self], by simp only [D.toRs, PyData.leavesShortAll, b, d, Bool.and_self]⟩
end
mutual
theorem toR_bulk : ∀ d : D, d.toR.bulk = d.blk ∧ d.toR.depth ≤ d.dep + 1 ∧ (d.noD = true → d.toR.hasDict = false)
  | .non => ⟨rfl, Nat.zero_le _, fun _ => rfl⟩
  | .bl _ => ⟨rfl, Nat.zero_le _, fun _ => rfl⟩
  | .int _ => ⟨rfl, Nat.zero_le _, fun _ => rfl⟩
  | .str cs => ⟨by simp [D.toR, PyData.bulk, D.blk], Nat.zero_le _, fun _ => rfl⟩
  | .tup xs => by
    obtain ⟨a, b, c⟩ := toRs_bulk xs
    exact ⟨by simp only [D.toR, PyData.bulk, D.blk, a], by simp only [D.toR, PyData.depth, D.dep]; omega, fun h => by simp only [D.toR, PyData.hasDict]; exact c h⟩
  | .lst xs => by
    obtain ⟨a, b, c⟩ := toRs_bulk xs
    exact ⟨by simp only [D.toR, PyData.bulk, D.blk, a], by simp only [D.toR, PyData.depth, D.dep]; omega, fun h => by simp only [D.toR, PyData.hasDict]; exact c h⟩
  | .dct _ _ _ => ⟨rfl, by simp only [D.toR, PyData.depth, PyData.depthKv]; omega, fun h => by cases h⟩
  | .kl _ => ⟨rfl, Nat.zero_le _, fun _ => rfl⟩
  | .kt _ => ⟨rfl, Nat.zero_le _, fun _ => rfl⟩
  | .ref _ => ⟨rfl, Nat.zero_le _, fun _ => rfl⟩
  | .loc _ => ⟨rfl, Nat.zero_le _, fun _ => rfl⟩
  | .fn _ => ⟨rfl, Nat.zero_le _, fun _ => rfl⟩
  | .ty _ => ⟨rfl, Nat.zero_le _, fun _ => rfl⟩
theorem toRs_bulk : ∀ ds : List D, PyData.bulkAll (D.toRs ds) = D.blks ds ∧ PyData.depthAll (D.toRs ds) ≤ D.deps ds + 1 ∧ (D.noDs ds = true → PyData.hasDictAll (D.toRs ds) = false)
  | [] => ⟨rfl, Nat.zero_le _, fun _ => rfl⟩
  | x :: xs => by
    obtain ⟨a, b, c⟩ := toR_bulk x
    obtain ⟨d, e, f⟩ := toRs_bulk xs
    refine ⟨by simp only [D.toRs, PyData.bulkAll, D.blks, a, d], by simp only [D.toRs, PyData.depthAll, D.deps]; omega, fun h => ?_⟩
    simp only [D.noDs, Bool.and_eq_true] at h
    simp only [D.toRs, PyData.hasDictAll, c h.1, f h.2, Bool.or_self]
end
section
variable {X : Cx} {pins : List (Addr × Obj)} {σ : Sg} {H : Hp} {s : Shared} {fz : Hp} {rho : List Addr}
theorem rd_dct (I : Inv X pins σ H s) {a : Addr} {u : HO} {t : Bool} {ws : List V} (hr : Rd H a u) (hd : DctR t [] ws u) : ∃ as, Reads s.heap (.ref a) (.dict []) as ∧ sysModules ∉ as := by
  rcases hd with ⟨_, kvs, rfl, e, _⟩ | ⟨_, kvs, rfl, e, _⟩
  · cases kvs with
    | cons p r => cases e
    | nil =>
      obtain ⟨_, hs, vs, kv, o, es, ep, ho, hx, hd, he⟩ := hr.ok I.hok
      cases kv
      have hs' : sysModules ≠ a := fun z => by subst z; simp at hs
      obtain ⟨l⟩ := es
      have he : l = [] := by
        have hp : Pairs (mixKind X.prog X.w) l [] := he.2.1
        cases hp
        rfl
      subst he
      exact ⟨_, Reads.dict ho hx.1 hd .nil .nil, by simpa using hs'⟩
  · cases kvs with
    | cons p r => cases e
    | nil =>
      obtain ⟨_, hs, xs, pr, o, es, ep, ho, hx, hd, he, _⟩ := hr.ok I.hok
      cases pr
      have hs' : sysModules ≠ a := fun z => by subst z; simp at hs
      obtain ⟨l⟩ := es
      have he : l = [] := by simpa using he
      subst he
      exact ⟨_, Reads.dict ho hx.1 hd .nil .nil, by simpa using hs'⟩
mutual
theorem rd_of (I : Inv X pins σ H s) (hf : ∀ a u, fz a = some u → H a = some u) : ∀ (d : D) (v : V) (u : Value), VR0 (gX X) fz rho d v → RelV v u → d.shw = true → ∃ as, Reads s.heap u d.toR as ∧ (d.noL = true → sysModules ∉ as)
  | .non, v, u, h, r, _ => by
    have h : v = .non := h
    subst h
    cases r
    exact ⟨_, .none, by simp⟩
  | .bl b, v, u, h, r, _ => by
    have h : v = .bl b := h
    subst h
    cases r
    exact ⟨_, .bool b, by simp⟩
  | .int i, v, u, h, r, _ => by
    have h : v = .int i := h
    subst h
    obtain ⟨t, rfl⟩ := r
    exact ⟨_, .int i t, by simp⟩
  | .str cs, v, u, h, r, _ => by
    obtain ⟨rfl, _⟩ := h
    obtain ⟨t, rfl⟩ := r
    exact ⟨_, .str _ t, by simp⟩
  | .tup ds, v, u, h, r, hs => by
    obtain ⟨a, xs, rfl, ha, _, q⟩ := h
    cases r
    obtain ⟨_, its, rv, o, ho, hc, n, hd⟩ := I.hok a _ (hf _ _ ha)
    obtain ⟨as, ra, na⟩ := rds_of I hf ds xs its q rv hs
    exact ⟨as, .tuple ho hc hd ra, na⟩
  | .lst ds, v, u, h, r, hs => by
    obtain ⟨a, xs, rfl, ha, _, q⟩ := h
    cases r
    obtain ⟨_, its, n, rv, ho⟩ := I.hok a _ (hf _ _ ha)
    obtain ⟨as, ra, na⟩ := rds_of I hf ds xs its q rv hs
    exact ⟨_, .list ho rfl rfl ra, fun z => by cases z⟩
  | .dct t ks vs, v, u, h, r, hs => by
    obtain ⟨a, w, ws, rfl, ha, hd, _⟩ := h
    cases r
    have hk : ks = [] := by simpa [D.shw] using hs
    subst hk
    obtain ⟨as, h1, h2⟩ := rd_dct I (ha.imp (hf _ _) fun ⟨o, q⟩ => ⟨o, hf _ _ q⟩) hd
    exact ⟨as, h1, fun _ => h2⟩
  | .kl _, _, _, _, _, hs => by cases hs
  | .kt _, _, _, _, _, hs => by cases hs
  | .ref _, _, _, _, _, hs => by cases hs
  | .loc _, _, _, _, _, hs => by cases hs
  | .fn _, _, _, _, _, hs => by cases hs
  | .ty _, _, _, _, _, hs => by cases hs
theorem rds_of (I : Inv X pins σ H s) (hf : ∀ a u, fz a = some u → H a = some u) : ∀ (ds : List D) (vs : List V) (us : List Value), VRs0 (gX X) fz rho ds vs → Vals vs us → D.shws ds = true → ∃ as, ReadsAll s.heap us (D.toRs ds) as ∧ (D.noLs ds = true → sysModules ∉ as)
  | [], vs, us, h, r, _ => by
    have h : vs = [] := h
    subst h
    cases r
    exact ⟨_, .nil, by simp⟩
  | d :: ds, vs, us, h, r, hs => by
    obtain ⟨v, t, rfl, h1, h2⟩ := h
    cases r with
    | cons r1 r2 =>
      simp only [D.shws, Bool.and_eq_true] at hs
      obtain ⟨as, a1, a2⟩ := rd_of I hf d v _ h1 r1 hs.1
      obtain ⟨bs, b1, b2⟩ := rds_of I hf ds t _ h2 r2 hs.2
      refine ⟨_, .cons a1 b1, fun z => ?_⟩
      simp only [D.noLs, Bool.and_eq_true] at z
      exact fun m => (List.mem_append.mp m).elim (a2 z.1) (b2 z.2)
end
end
/-- what stands at v reads as p -/
def RdV (X : Cx) (H : Hp) (v : V) (d : D) : Prop := ∀ (pins : List (Addr × Obj)) (s : Shared) (σ : Sg) (u : Value), Inv X pins σ H s → RelV v u → ∃ as, Reads s.heap u d.toR as ∧ (d.noL = true → sysModules ∉ as)
theorem rdV_cv {X : Cx} {r : RC} {H : Hp} {d : D} {v : V} (hf : ∀ a u, r.fz a = some u → H a = some u) (c : CV (gX X) r H d v) (hs : d.shw = true) : RdV X H v d := by
  intro pins s σ u I ru
  cases d with
  | lst ds =>
    obtain ⟨a, xs, rfl, ha, _, q⟩ := c
    cases ru
    obtain ⟨_, its, n, rv, ho⟩ := I.hok a _ ha
    obtain ⟨as, ra, na⟩ := rds_of I hf ds xs its q rv hs
    exact ⟨_, .list ho rfl rfl ra, fun z => by cases z⟩
  | tup ds =>
    obtain ⟨a, xs, rfl, ha, _, q⟩ := c
    cases ru
    obtain ⟨_, its, rv, o, ho, hc, n, hd⟩ := I.hok a _ ha
    obtain ⟨as, ra, na⟩ := rds_of I hf ds xs its q rv hs
    exact ⟨as, .tuple ho hc hd ra, na⟩
  | dct t ks vs =>
    obtain ⟨a, w, ws, rfl, ha, hd, _⟩ := c
    cases ru
    have hk : ks = [] := by simpa [D.shw] using hs
    subst hk
    obtain ⟨as, h1, h2⟩ := rd_dct I ha hd
    exact ⟨as, h1, fun _ => h2⟩
  | kl _ => cases hs
  | kt _ => cases hs
  | _ => exact rd_of (rho := r.rho) I hf _ v u c ru hs
def rRepr (X : Cx) : List V → Hp → VK → Prop := fun xs H Q => ∃ v d, xs = [v] ∧ RdV X H v d ∧ d.shw = true ∧ d.blk ≤ 2 ^ 20 ∧ d.dep ≤ 60 ∧ (d.noD || d.noL) = true ∧ Q (.str d.toR.shown) H
theorem call_repr {X : Cx} (hg : X.A.guards = some []) (hu : X.A.units + 64 < cLine) : CallR X (.builtin "repr") (rRepr X) := by
  intro pins s σ H xs us Q I rs h
  obtain ⟨v, d, rfl, hv, hs, hb, hd, hn, q⟩ := h
  cases rs with
  | cons r rr =>
    cases rr
    obtain ⟨as, hr, na⟩ := hv pins s σ _ I r
    obtain ⟨k1, k2⟩ := toR_show d hs
    obtain ⟨b1, b2, b3⟩ := toR_bulk d
    have hz : d.toR.shown.length ≤ sizeLine := PyData.shown_fits_bulk (B := 13) (by omega) (by omega) k2 (by rw [b1]; exact hb)
    have fin : ∀ h' u tk, (∀ b o, s.heap.get? b = some o → h'.get? b = some o) → EP X pins σ Q (.str d.toR.shown u) { s with heap := h', toks := tk } := fun h' u tk hk => ⟨.str d.toR.shown, H, I.kept hk, ⟨u, rfl⟩, q⟩
    have hsm : d.toR.hasDict = true → sysModules ∉ as := fun z => by
      cases e : d.noD with
      | true => rw [b3 e] at z; cases z
      | false =>
        rw [e, Bool.false_or] at hn
        exact na hn
    generalize hp : d.toR = p at *
    cases hr with
    | none => exact P.repr_of_none (fin _ _ _ fun _ _ e => e)
    | bool b =>
      refine P.repr_of_bool ?_
      have := fin s.heap s.toks (s.toks + 1) fun _ _ e => e
      cases b <;> exact this
    | int i t =>
      have k1 : i.natAbs.log2 < 1920 := by simpa only [PyData.showable, decide_eq_true_eq] using k1
      exact P.repr_of_int k1 (fin _ _ _ fun _ _ e => e)
    | str x t => exact P.repr_of_str (fin _ _ _ fun _ _ e => e) hz
    | list h1 h2 h3 h4 => exact repr_of_reads' (.list h1 h2 h3 h4) k1 hsm hg (by omega) (fun _ _ e => e) fin hz
    | tuple h1 h2 h3 h4 => exact repr_of_reads' (.tuple h1 h2 h3 h4) k1 hsm hg (by omega) (fun _ _ e => e) fin hz
    | dict h1 h2 h3 h4 h5 => exact repr_of_reads' (.dict h1 h2 h3 h4 h5) k1 hsm hg (by omega) (fun _ _ e => e) fin hz
theorem s_repr {X : Cx} : BiS X .repr (rRepr X) := by
  intro r s σ H ds d vs Q R c h k
  unfold bi at h
  split at h <;> (first | (cases h; done) | skip) <;> rename_i hb <;> cases hb
  rename_i x
  obtain ⟨v, rfl, cv⟩ := cvs1 c
  obtain ⟨t, ht, rfl⟩ := Option.map_eq_some_iff.mp h
  unfold reprD at ht
  split at ht
  · rename_i hc
    cases ht
    simp only [Bool.and_eq_true, decide_eq_true_eq] at hc
    obtain ⟨⟨⟨c1, c2⟩, c3⟩, c4⟩ := hc
    refine ⟨v, x, rfl, rdV_cv R.fz cv c1, c1, c2, c3, c4, k.here R ?_⟩
    obtain ⟨k1, k2⟩ := toR_show x c1
    obtain ⟨b1, b2, b3⟩ := toR_bulk x
    have hz : x.toR.shown.length ≤ sizeLine := PyData.shown_fits_bulk (B := 13) (by omega) (by omega) k2 (by rw [b1]; exact c2)
    exact ⟨by rw [toStr_of], by rw [← lineEq]; exact hz⟩
  · cases ht
end RS

/-! RsMt: new objects by built-in functions; methods; stores. -/
namespace RS
open PySem PySem.Spec PyProof.Rows L2

/-- what follows wants this new object -/
def AnsF (X : Cx) (r : RC) (s : S) (σ : Sg) (o : Ob) (Q : VK) : Prop := ∀ r' p u H1, r.le r' → Rel (gX X) r' s σ H1 → H1 p = none → OR (gX X) r' o u → Q (.ref p) (upd H1 p u)
theorem keyV {g : Gm} {fz : Hp} {rho : List Addr} {k : Key} (h : kOk k) : VR0 g fz rho (kD k) (kV k) := by
  cases k with
  | inl i => exact rfl
  | inr z => exact ⟨by show V.str z = V.str (toStr z.cps.toList); rw [toStr_of], by
      have : z.length ≤ szL := h
      simpa [Str.length] using this⟩
theorem keyVs {g : Gm} {fz : Hp} {rho : List Addr} : ∀ {ks : List Key}, (∀ k ∈ ks, kOk k) → VRs0 g fz rho (ks.map kD) (ks.map kV)
  | [], _ => rfl
  | k :: ks, h => ⟨kV k, ks.map kV, rfl, keyV (h k List.mem_cons_self), keyVs fun k hk => h k (List.mem_cons_of_mem _ hk)⟩
section
variable {g : Gm} {r : RC} {s : S} {σ : Sg} {H : Hp}
/-- the keys of a dict with tuple keys, kept in mind -/
theorem Rel.keys (R : Rel g r s σ H) : ∀ {kvs : List (List Key × V)} {bs : List Addr}, IsKeys H kvs bs → (∀ p ∈ kvs, p.1.length ≤ szL ∧ ∀ k ∈ p.1, kOk k) → ∃ r', r.le r' ∧ Rel g r' s σ H ∧ VRs g r' (kvs.map fun p => .tup (p.1.map kD)) (bs.map V.ref)
  | [], _, h, _ => by
    cases h
    exact ⟨r, .refl r, R, rfl⟩
  | p :: kvs, _, h, hl => by
    cases h with
    | cons h1 h2 =>
      rename_i b bs
      obtain ⟨r1, le1, R1, q1⟩ := Rel.keys R h2 fun p hp => hl p (List.mem_cons_of_mem _ hp)
      obtain ⟨R2, le2⟩ := R1.tup h1
      obtain ⟨hlen, hfl⟩ := hl p List.mem_cons_self
      exact ⟨_, le1.trans le2, R2, .ref b, bs.map V.ref, rfl, ⟨b, p.1.map kV, rfl, upd_same, by rw [List.length_map]; exact hlen, keyVs hfl⟩, VRs.mono le2 q1⟩
theorem IsKeys.mono {H H' : Hp} {kvs : List (List Key × V)} {bs : List Addr} (h : IsKeys H kvs bs) (k : ∀ a xs, H a = some (.tup xs) → H' a = some (.tup xs)) : IsKeys H' kvs bs := Paired.mapP h fun _ _ q => k _ _ q
end
theorem IsKeys.length {H : Hp} {kvs : List (List Key × V)} {bs : List Addr} (h : IsKeys H kvs bs) : kvs.length = bs.length := Paired.length h
section
variable {X : Cx}
/-! ### list(..) -/
def rListA (K : PySem.W.Frag) : List V → Hp → VK → Prop := fun xs H Q => ((∃ p ys, xs = [.ref p] ∧ (SqL K H p ys ∨ SqT K H p ys) ∧ ∀ l, H l = none → Q (.ref l) (upd H l (.lst ys))) ∨ (∃ (a : Addr) (kvs : List (Key × V)), xs = [.ref a] ∧ Rd H a (.dK kvs) ∧ ∀ p, H p = none → Q (.ref p) (upd H p (.lst (kvs.map fun kv => kV kv.1))))) ∨
  (∃ d kvs, xs = [V.ref d] ∧ Rd H d (.dT kvs) ∧ ∀ p bs, H p = none → IsKeys H kvs bs → Q (.ref p) (upd H p (.lst (bs.map V.ref))))
theorem call_listA (hc : X.calm = true) : CallR X (.type "list") (rListA X.K) := (call_list_of.or (call_listD hc)).or (call_list_dT hc)
theorem s_list {r : RC} {s : S} {σ : Sg} {H : Hp} {ds : List D} {o : Ob} {vs : List V} {Q : VK} (R : Rel (gX X) r s σ H) (c : CVs (gX X) r H ds vs) (h : bf .list ds = some o) (k : AnsF X r s σ o Q) : rListA X.K vs H Q := by
  unfold bf at h
  split at h <;> (first | (cases h; done) | skip) <;> rename_i hb <;> cases hb <;> cases h
  · obtain ⟨v, rfl, a, xs, rfl, ha, l, q⟩ := cvs1 c
    exact .inl (.inl ⟨a, xs, rfl, .inl (SqL.of ha), fun p hp => k r p _ H (.refl r) R hp ⟨xs, rfl, l, q⟩⟩)
  · obtain ⟨v, rfl, a, xs, rfl, ha, l, q⟩ := cvs1 c
    exact .inl (.inl ⟨a, xs, rfl, .inr (SqT.of ha), fun p hp => k r p _ H (.refl r) R hp ⟨xs, rfl, l, q⟩⟩)
  · obtain ⟨v, rfl, a, u, ws, rfl, hr, hd, l, q⟩ := cvs1 c
    have hlen := q.length
    rcases hd with ⟨rfl, kvs, rfl, rfl, rfl, hok⟩ | ⟨rfl, kvs, rfl, rfl, rfl, hok⟩
    · refine .inl (.inr ⟨a, kvs, rfl, hr, fun p hp => k r p _ H (.refl r) R hp ⟨_, rfl, ?_, ?_⟩⟩)
      · rw [List.length_map]
        rw [List.length_map] at hlen
        omega
      · have := keyVs (g := gX X) (fz := r.fz) (rho := r.rho) (ks := kvs.map (·.1)) fun k hk => by
          obtain ⟨p, hp, rfl⟩ := List.mem_map.mp hk
          exact hok p hp
        rw [List.map_map, List.map_map] at this
        exact this
    · refine .inr ⟨a, kvs, rfl, hr, fun p bs hp hk => ?_⟩
      obtain ⟨r', le, R', q'⟩ := R.keys hk hok
      refine k r' p _ H le R' hp ⟨_, rfl, ?_, q'⟩
      rw [List.length_map]
      rw [List.length_map] at hlen
      omega

/-! ### methods -/
/-- the reading of a method of a datum: by its answer, and what it leaves of the receiver -/
def MtS (X : Cx) (m : Mt) (rel : V → List V → Hp → VK → Prop) : Prop := ∀ (r : RC) (s : S) (σ : Sg) (H : Hp) (o : D) (ds : List D) (d : D) (v : V) (vs : List V) (Q : VK), Rel (gX X) r s σ H → CV (gX X) r H o v → CVs (gX X) r H ds vs → mt m o ds = some d → Ans X r s σ d Q → rel v vs H Q
theorem str_join (sep : Txt) : ∀ ts : List Txt, Str.join (toStr sep) (ts.map toStr) = toStr (joinT sep ts)
  | [] => rfl
  | [x] => rfl
  | x :: y :: r => by
    show toStr x ++ toStr sep ++ Str.join (toStr sep) ((y :: r).map toStr) = toStr (x ++ sep ++ joinT sep (y :: r))
    rw [str_join sep (y :: r), toStr_append, toStr_append]
theorem txt_join (sep : Txt) (ts : List Txt) : Txt.join (toStr sep) (ts.map toStr) = toStr (joinT sep ts) := (PySem.StrLaws.glued_eq_join _ _).trans (str_join sep ts)
theorem joinT_len (sep : Txt) : ∀ ts : List Txt, (joinT sep ts).length ≤ (ts.map List.length).sum + ts.length * sep.length
  | [] => by simp [joinT]
  | [x] => by simp [joinT]
  | x :: y :: r => by
    have ih := joinT_len sep (y :: r)
    simp only [joinT, List.length_append, List.map_cons, List.sum_cons, List.length_cons] at ih ⊢
    have : (r.length + 1 + 1) * sep.length = (r.length + 1) * sep.length + sep.length := by rw [Nat.add_mul]; omega
    omega
theorem s_join : MtS X .join (fun x xs H Q => ∃ a p, ∃ ys : List Str, x = .str a ∧ xs = [.ref p] ∧ (SqL X.K H p (ys.map V.str) ∨ SqT X.K H p (ys.map V.str)) ∧ (ys.map (·.length)).sum + ys.length * a.length ≤ 16777216 ∧ Q (.str (Txt.join a ys)) H) := by
  intro r s σ H o ds d v vs Q R co c h k
  unfold mt at h
  split at h <;> (first | (cases h; done) | skip) <;> rename_i hm <;> cases hm
  obtain ⟨ts, h1, h2⟩ := Option.bind_eq_some_iff.mp h
  split at h2
  · rename_i hf
    cases h2
    have hf := fit_le hf
    obtain ⟨rfl, lo⟩ := co
    obtain ⟨w, rfl, a, xs, rfl, ha, l, q⟩ := cvs1 c
    rw [strs_of q h1] at ha
    refine ⟨_, a, ts.map toStr, rfl, rfl, .inl (SqL.of ha), ?_, ?_⟩
    · rw [List.map_map, toStr_len, List.length_map]
      have : (List.map ((fun x => x.length) ∘ toStr) ts) = ts.map List.length := List.map_congr_left fun t _ => toStr_len t
      rw [this]
      exact hf
    · rw [txt_join]
      exact k.here R ⟨rfl, Nat.le_trans (joinT_len _ _) hf⟩
  · cases h2
theorem occ_full (s sub : Str) (hi : Nat) : ∀ (l : List Nat) (i free : Nat), (forIn l ((#[i] : Array Nat), free) (PySem.StrLaws.occBody s sub hi 1)).run.fst = #[i]
  | [], i, free => rfl
  | a :: l, i, free => by
    rw [List.forIn_cons]
    unfold PySem.StrLaws.occBody
    rw [if_neg (fun h => absurd h.1.1.1 (by simp))]
    exact occ_full s sub hi l i free
theorem occ_find (s sub : Str) (hi : Nat) : ∀ (l : List Nat) (free i : Nat), (∀ j ∈ l, free ≤ j) → (l.find? fun j => decide (j + sub.length ≤ hi) && Builtin.Str.subAt s sub j) = some i →
    (forIn l ((#[] : Array Nat), free) (PySem.StrLaws.occBody s sub hi 1)).run.fst = #[i]
  | [], _, _, _, h => by cases h
  | a :: l, free, i, hf, h => by
    rw [List.forIn_cons]
    have ha : free ≤ a := hf a List.mem_cons_self
    rw [List.find?_cons] at h
    by_cases hc : a + sub.length ≤ hi ∧ Builtin.Str.subAt s sub a = true
    · have hb : (decide (a + sub.length ≤ hi) && Builtin.Str.subAt s sub a) = true := by simp [hc.1, hc.2]
      rw [hb] at h
      cases h
      unfold PySem.StrLaws.occBody
      rw [if_pos ⟨⟨⟨by simp, ha⟩, hc.1⟩, hc.2⟩]
      exact occ_full s sub hi l _ _
    · have hb : (decide (a + sub.length ≤ hi) && Builtin.Str.subAt s sub a) = false := by
        cases h1 : Builtin.Str.subAt s sub a with
        | false => simp
        | true =>
          have : ¬ a + sub.length ≤ hi := fun z => hc ⟨z, h1⟩
          simp [this]
      rw [hb] at h
      unfold PySem.StrLaws.occBody
      rw [if_neg (fun z => hc ⟨z.1.2, z.2⟩)]
      exact occ_find s sub hi l free i (fun j hj => hf j (List.mem_cons_of_mem _ hj)) h
theorem find_idx (c : Nat) (p : Nat → Bool) : ∀ (cs : Txt) (k : Nat), (∀ i, p (k + i) = decide (cs[i]? = some c)) → cs.contains c = true → ((List.range' k (cs.length + 1)).find? p) = some (k + cs.idxOf c)
  | [], _, _, h => by simp at h
  | a :: cs, k, hp, h => by
    rw [List.length_cons, List.range'_succ, List.find?_cons]
    have h0 := hp 0
    rw [Nat.add_zero] at h0
    by_cases ha : a = c
    · subst ha
      have : p k = true := by rw [h0]; simp
      rw [this]
      simp
    · have : p k = false := by rw [h0]; simp [ha]
      rw [this]
      have hcs : cs.contains c = true := by
        have : c ≠ a := fun e => ha e.symm
        simpa [this] using h
      have ih := find_idx c p cs (k + 1) (fun i => by
        have := hp (i + 1)
        rw [show k + 1 + i = k + (i + 1) by omega, this]
        simp) hcs
      rw [ih]
      have e : (a :: cs).idxOf c = cs.idxOf c + 1 := by
        rw [List.idxOf_cons]
        have : (a == c) = false := by simpa using ha
        rw [this]
        rfl
      rw [e, show k + 1 + cs.idxOf c = k + (cs.idxOf c + 1) by omega]
theorem occ_first (c : Nat) (cs : Txt) (h : cs.contains c = true) : ∃ rest, Builtin.Str.occurrences (toStr cs) ⟨#[c]⟩ 0 (toStr cs).length 1 = cs.idxOf c :: rest := by
  refine ⟨[], ?_⟩
  rw [PySem.StrLaws.occ_eq, toStr_len]
  have hf := find_idx c (fun j => decide (j + (Str.mk #[c]).length ≤ cs.length) && Builtin.Str.subAt (toStr cs) ⟨#[c]⟩ j) cs 0 (fun i => by
    have h1 := PySem.StrLaws.subAt_one (toStr cs) c i
    rw [toStr_len, cps_toStr] at h1
    rw [Nat.zero_add]
    by_cases hi : cs[i]? = some c
    · obtain ⟨h2, h3⟩ := h1.mpr hi
      simp only [h2, h3, hi, decide_true, Bool.and_true]
    · have h4 : ¬ (i + (Str.mk #[c]).length ≤ cs.length ∧ Builtin.Str.subAt (toStr cs) ⟨#[c]⟩ i = true) := fun z => hi (h1.mp z)
      rw [decide_eq_false hi]
      cases h5 : Builtin.Str.subAt (toStr cs) ⟨#[c]⟩ i with
      | false => simp
      | true =>
        have : ¬ i + (Str.mk #[c]).length ≤ cs.length := fun z => h4 ⟨z, h5⟩
        simp [this]) h
  rw [Nat.zero_add] at hf
  have := occ_find (toStr cs) ⟨#[c]⟩ cs.length (List.range' 0 (cs.length + 1 - 0)) 0 (cs.idxOf c) (fun _ _ => Nat.zero_le _) hf
  rw [this]
theorem s_index : MtS X .index (fun x xs H Q => ∃ a b i rest, x = .str a ∧ xs = [.str b] ∧ Builtin.Str.occurrences a b 0 a.length 1 = i :: rest ∧ Q (.int (i : Nat)) H) := by
  intro r s σ H o ds d v vs Q R co c h k
  unfold mt at h
  split at h <;> (first | (cases h; done) | skip) <;> rename_i hm <;> cases hm
  split at h
  · rename_i cs x hc
    cases h
    obtain ⟨rfl, lo⟩ := co
    obtain ⟨w, rfl, rfl, l⟩ := cvs1 c
    obtain ⟨rest, e⟩ := occ_first x cs hc
    exact ⟨_, _, _, rest, rfl, rfl, e, k.here R rfl⟩
  · cases h
/-! ### get -/
theorem mt_dget1 (hu : X.A.units + 64 < cLine) : MtR X "dict.get" (fun x xs H Q => ∃ a y o, x = .ref a ∧ xs = [y] ∧ DGet H a y o ∧ Q (o.getD .non) H) := by
  intro pins s σ H x xs v us Q I rx rs h
  obtain ⟨a, y, o, rfl, rfl, g, q⟩ := h
  cases rx
  obtain ⟨u, rfl, ru⟩ := vals1 rs
  exact d_get1 (by omega) I g ru fun w' s' I' rw' => ⟨_, H, I', rw', q⟩
theorem mt_dget2 (hu : X.A.units + 64 < cLine) : MtR X "dict.get" (fun x xs H Q => ∃ a y z o, x = .ref a ∧ xs = [y, z] ∧ DGet H a y o ∧ Q (o.getD z) H) := by
  intro pins s σ H x xs v us Q I rx rs h
  obtain ⟨a, y, z, o, rfl, rfl, g, q⟩ := h
  cases rx
  obtain ⟨u, w, rfl, ru, rw'⟩ := vals2 rs
  exact d_get2 (by omega) I g ru rw' fun w' s' I' rw' => ⟨_, H, I', rw', q⟩
end
end RS

/-! RsCall: what a def promises, and its call. -/
namespace RS
open PySem PySem.Spec PyProof.Rows L2

def AVR (g : Gm) (r : RC) (σ : Sg) : AV → V → Prop
  | .val d, v => VR g r d v
  | .io i, v => ∃ a, v = .ref a ∧ σ[i]? = some (some (.ref a))
def AVs (g : Gm) (r : RC) (σ : Sg) : List AV → List V → Prop
  | [], xs => xs = []
  | d :: ds, xs => ∃ v t, xs = v :: t ∧ AVR g r σ d v ∧ AVs g r σ ds t
theorem AVR.mono {g : Gm} {r r' : RC} {σ : Sg} (h : r.le r') {d : AV} {v : V} (q : AVR g r σ d v) : AVR g r' σ d v := by
  cases d with
  | val d => exact VR.mono h q
  | io i => exact q
theorem AVs.mono {g : Gm} {r r' : RC} {σ : Sg} (h : r.le r') : ∀ {ds : List AV} {xs : List V}, AVs g r σ ds xs → AVs g r' σ ds xs
  | [], _, q => q
  | _ :: _, _, ⟨v, t, e, a, b⟩ => ⟨v, t, e, AVR.mono h a, AVs.mono h b⟩
theorem AVs.length {g : Gm} {r : RC} {σ : Sg} : ∀ {ds : List AV} {xs : List V}, AVs g r σ ds xs → ds.length = xs.length
  | [], _, q => by
    have q : _ = [] := q
    subst q; rfl
  | _ :: _, _, ⟨v, t, e, a, b⟩ => by
    subst e
    rw [List.length_cons, List.length_cons, AVs.length b]
theorem AVs.get {g : Gm} {r : RC} {σ : Sg} : ∀ {ds : List AV} {xs : List V} {j : Nat} {d : AV}, AVs g r σ ds xs → ds[j]? = some d → ∃ v, xs[j]? = some v ∧ AVR g r σ d v
  | [], _, _, _, _, h => by simp at h
  | _ :: _, _, 0, _, ⟨v, t, e, a, _⟩, h => by
    subst e
    simp at h
    subst h
    exact ⟨v, by simp, a⟩
  | _ :: _, _, j + 1, _, ⟨v, t, e, _, b⟩, h => by
    subst e
    obtain ⟨w, h1, h2⟩ := AVs.get (j := j) b (by simpa using h)
    exact ⟨w, by simpa using h1, h2⟩

def argSlot : Arg → Slot
  | .val d => .val d
  | .obj o => .bor o
theorem fetch_spec : ∀ {avs : List AV} {env : List Slot} {args : List Arg}, fetch avs env = some args → args.length = avs.length ∧
    (∀ (j : Nat) d, avs[j]? = some (.val d) → args[j]? = some (.val d)) ∧ (∀ (j i : Nat), avs[j]? = some (.io i) → ∃ o, args[j]? = some (.obj o) ∧ (env[i]? = some (.own o) ∨ env[i]? = some (.bor o)))
  | [], _, _, h => by
    cases h
    exact ⟨rfl, fun j d e => by simp at e, fun j i e => by simp at e⟩
  | .val d :: r, env, args, h => by
    simp only [fetch] at h
    obtain ⟨as, h1, rfl⟩ := Option.map_eq_some_iff.mp h
    obtain ⟨a, b, c⟩ := fetch_spec h1
    refine ⟨by simp [a], fun j d' e => ?_, fun j i e => ?_⟩
    · cases j with
      | zero => simp at e ⊢; cases e; rfl
      | succ j => simp at e ⊢; exact b j d' e
    · cases j with
      | zero => simp at e
      | succ j => simp at e ⊢; exact c j i e
  | .io i :: r, env, args, h => by
    have key : ∀ o, (env[i]? = some (.own o) ∨ env[i]? = some (.bor o)) → (fetch r env).map (Arg.obj o :: ·) = some args → args.length = (AV.io i :: r).length ∧
        (∀ (j : Nat) d, (AV.io i :: r)[j]? = some (.val d) → args[j]? = some (.val d)) ∧ (∀ (j i' : Nat), (AV.io i :: r)[j]? = some (.io i') → ∃ o, args[j]? = some (.obj o) ∧ (env[i']? = some (.own o) ∨ env[i']? = some (.bor o))) := fun o ho h => by
      obtain ⟨as, h1, rfl⟩ := Option.map_eq_some_iff.mp h
      obtain ⟨a, b, c⟩ := fetch_spec h1
      refine ⟨by simp [a], fun j d' e => ?_, fun j i' e => ?_⟩
      · cases j with
        | zero => simp at e
        | succ j => simp at e ⊢; exact b j d' e
      · cases j with
        | zero => simp at e ⊢; cases e; exact ho
        | succ j => simp at e ⊢; exact c j i' e
    simp only [fetch] at h
    split at h
    · rename_i o ho
      exact key o (.inl ho) h
    · rename_i o ho
      exact key o (.inr ho) h
    · cases h
theorem ios_mem : ∀ {avs : List AV} {i : Nat}, i ∈ ios avs ↔ ∃ j : Nat, avs[j]? = some (.io i)
  | [], i => by simp [ios]
  | .val d :: r, i => by
    rw [ios, ios_mem]
    constructor
    · rintro ⟨j, h⟩
      exact ⟨j + 1, by simpa using h⟩
    · rintro ⟨j, h⟩
      cases j with
      | zero => simp at h
      | succ j => exact ⟨j, by simpa using h⟩
  | .io k :: r, i => by
    rw [ios, List.mem_cons, ios_mem]
    constructor
    · rintro (rfl | ⟨j, h⟩)
      · exact ⟨0, by simp⟩
      · exact ⟨j + 1, by simpa using h⟩
    · rintro ⟨j, h⟩
      cases j with
      | zero => simp at h; cases h; exact .inl rfl
      | succ j => exact .inr ⟨j, by simpa using h⟩
theorem nodup_io : ∀ {avs : List AV}, nodupB (ios avs) = true → ∀ (j k i : Nat), avs[j]? = some (.io i) → avs[k]? = some (.io i) → j = k
  | [], _, _, _, _, h, _ => by simp at h
  | .val d :: r, h, j, k, i, h1, h2 => by
    cases j with
    | zero => simp at h1
    | succ j =>
      cases k with
      | zero => simp at h2
      | succ k => rw [nodup_io (avs := r) h j k i (by simpa using h1) (by simpa using h2)]
  | .io m :: r, h, j, k, i, h1, h2 => by
    simp only [ios, nodupB, Bool.and_eq_true, Bool.not_eq_true'] at h
    have hm : ∀ (k : Nat), r[k]? ≠ some (.io m) := fun k e => by
      have : m ∈ ios r := ios_mem.mpr ⟨k, e⟩
      have h' := h.1
      simp [this] at h'
    cases j with
    | zero =>
      simp at h1
      cases h1
      cases k with
      | zero => rfl
      | succ k => exact absurd (by simpa using h2) (hm k)
    | succ j =>
      cases k with
      | zero =>
        simp at h2
        cases h2
        exact absurd (by simpa using h1) (hm j)
      | succ k => rw [nodup_io (avs := r) h.2 j k i (by simpa using h1) (by simpa using h2)]
theorem putBack_spec : ∀ {avs : List AV} {env' env : List Slot}, nodupB (ios avs) = true → (∀ (j : Nat), (∃ i, avs[j]? = some (.io i)) ↔ ∃ o, env'[j]? = some (.bor o)) → (∀ i ∈ ios avs, i < env.length) →
    (putBack avs (outsOf env') env).length = env.length ∧ (∀ (i : Nat), i ∉ ios avs → (putBack avs (outsOf env') env)[i]? = env[i]?) ∧
    ∀ (j i : Nat) (o : Ob), avs[j]? = some (.io i) → env'[j]? = some (.bor o) → (putBack avs (outsOf env') env)[i]? = some (borWith env[i]? o)
  | [], env', env, _, h, _ => by
    refine ⟨rfl, fun i _ => rfl, fun j i o e => by simp at e⟩
  | .val d :: r, env', env, hn, h, hl => by
    have h0 : outsOf env' = outsOf env'.tail := by
      cases env' with
      | nil => rfl
      | cons x t =>
        cases x with
        | bor o =>
          obtain ⟨i, e⟩ := (h 0).mpr ⟨o, by simp⟩
          simp at e
        | _ => rfl
    have h' : ∀ (j : Nat), (∃ i, r[j]? = some (.io i)) ↔ ∃ o, env'.tail[j]? = some (.bor o) := fun j => by
      have := h (j + 1)
      simp only [List.getElem?_cons_succ] at this
      rw [this]
      cases env' <;> simp
    obtain ⟨a, b, c⟩ := putBack_spec (avs := r) (env' := env'.tail) (env := env) hn h' hl
    rw [h0]
    refine ⟨a, b, fun j i o e1 e2 => ?_⟩
    cases j with
    | zero => simp at e1
    | succ j => exact c j i o (by simpa using e1) (by cases env' <;> simpa using e2)
  | .io k :: r, env', env, hn, h, hl => by
    simp only [ios, nodupB, Bool.and_eq_true, Bool.not_eq_true'] at hn
    obtain ⟨o, eo⟩ := (h 0).mp ⟨k, by simp⟩
    obtain ⟨t, rfl⟩ : ∃ t, env' = .bor o :: t := by
      cases env' with
      | nil => simp at eo
      | cons x t => simp at eo; exact ⟨t, by rw [eo]⟩
    have h' : ∀ (j : Nat), (∃ i, r[j]? = some (.io i)) ↔ ∃ o, t[j]? = some (.bor o) := fun j => by
      have := h (j + 1)
      simpa using this
    have hk : k < env.length := hl k (by simp [ios])
    have hkr : k ∉ ios r := fun z => by
      have := hn.1
      simp [z] at this
    have e0 : putBack (.io k :: r) (outsOf (.bor o :: t)) env = putBack r (outsOf t) (env.set k (borWith env[k]? o)) := by
      simp only [outsOf, putBack]
    rw [e0]
    obtain ⟨a, b, c⟩ := putBack_spec (avs := r) (env' := t) (env := env.set k (borWith env[k]? o)) hn.2 h' (fun i hi => by rw [List.length_set]; exact hl i (by simp [ios, hi]))
    refine ⟨by rw [a, List.length_set], fun i hi => ?_, fun j i o' e1 e2 => ?_⟩
    · have hi' : i ≠ k ∧ i ∉ ios r := by simpa [ios] using hi
      rw [b i hi'.2, List.getElem?_set_ne (Ne.symm hi'.1)]
    · cases j with
      | zero =>
        simp at e1 e2
        cases e1
        subst e2
        rw [b k hkr, List.getElem?_set_self hk]
      | succ j =>
        have e1' : r[j]? = some (.io i) := by simpa using e1
        have hne : i ≠ k := fun e => hkr (e ▸ ios_mem.mpr ⟨j, e1'⟩)
        rw [c j i o' e1' (by simpa using e2), List.getElem?_set_ne (Ne.symm hne)]

/-! ### the promise -/
def RetR (g : Gm) (r : RC) (s : S) (σ : Sg) (H : Hp) : Arg → V → Prop
  | .val d, v => VR g r d v
  | .obj o, v => ∃ p u, v = .ref p ∧ H p = some u ∧ OR g r o u ∧ r.fz p = none ∧ r.gd p = none ∧ ∀ q a, AtS r s σ q a → a ≠ p
def PFn (g : Gm) (r : RC) (fr : FR) (Q : VK) (E : XK) : Prop := match fr with
  | .ok ret outs st => ∀ r' s' σ' v H', r.le r' → Rel g r' s' σ' H' → outsOf s'.env = outs → s'.st = st → RetR g r' s' σ' H' ret v → Q v H'
  | .exc x outs st => ∀ r' s' σ' cls d H', r.le r' → Rel g r' s' σ' H' → outsOf s'.env = outs → s'.st = st → XR g r' H' x cls d → E cls d H'
  | .stuck => False
/-- what the def f promises, of which Φ tells the value -/
def spF (g : Gm) (Φ : Fns) (f : String) (k : Nat) : Sp := fun vs H Q E => vs.length = k ∧ ∃ r st args, Rel g r ⟨args.map argSlot, st⟩ (vs.map some) H ∧ PFn g r (Φ f args st) Q E

open Classical in
/-- what a callee is not to touch: what the caller was not to touch, and the caller's own objects that are not handed over -/
noncomputable def gdOf (r : RC) (s : S) (σ : Sg) (H : Hp) (avs : List AV) : Hp := fun a =>
  if (r.gd a).isSome then r.gd a else if ∃ i, AtS r s σ (.inl i) a ∧ i ∉ ios avs then H a else none
def boOf (σ : Sg) (avs : List AV) : Nat → Option Addr := fun j => match avs[j]? with
  | some (.io i) => match σ[i]? with
    | some (some (.ref a)) => some a
    | _ => none
  | _ => none
noncomputable def rcIn (r : RC) (s : S) (σ : Sg) (H : Hp) (avs : List AV) : RC := ⟨r.fz, r.rho, gdOf r s σ H avs, boOf σ avs⟩
def rcOut (r r' : RC) : RC := ⟨r'.fz, r'.rho, r.gd, r.bo⟩

section
variable {g : Gm} {r : RC} {s : S} {σ : Sg} {H : Hp} {avs : List AV} {args : List Arg} {vs : List V}
theorem gdOf_some {a : Addr} {u : HO} (h : gdOf r s σ H avs a = some u) : r.gd a = some u ∨ (H a = some u ∧ ∃ i, AtS r s σ (.inl i) a ∧ i ∉ ios avs) := by
  unfold gdOf at h
  split at h
  · exact .inl h
  · split at h
    · rename_i h2
      exact .inr ⟨h, h2⟩
    · cases h
theorem gdOf_none {a : Addr} (h : gdOf r s σ H avs a = none) (hH : ∀ i, AtS r s σ (.inl i) a → ∃ u, H a = some u) : r.gd a = none ∧ ∀ i, AtS r s σ (.inl i) a → i ∈ ios avs := by
  unfold gdOf at h
  split at h
  · rename_i h1
    rw [h] at h1
    cases h1
  · rename_i h1
    refine ⟨by simpa using h1, fun i hi => ?_⟩
    split at h
    · obtain ⟨u, e⟩ := hH i hi
      rw [h] at e
      cases e
    · rename_i h2
      exact Classical.byContradiction fun z => h2 ⟨i, hi, z⟩
theorem gdOf_own {a : Addr} {u : HO} {i : Nat} (hg : r.gd a = none) (hi : AtS r s σ (.inl i) a) (hn : i ∉ ios avs) (e : H a = some u) : gdOf r s σ H avs a = some u := by
  unfold gdOf
  rw [if_neg (by rw [hg]; simp), if_pos ⟨i, hi, hn⟩, e]
theorem gdOf_gd {a : Addr} {u : HO} (e : r.gd a = some u) : gdOf r s σ H avs a = some u := by
  unfold gdOf
  rw [if_pos (by rw [e]; rfl), e]
/-- the state a callee begins with -/
theorem Rel.callIn (R : Rel g r s σ H) (hf : fetch avs s.env = some args) (hn : nodupB (ios avs) = true) (hv : AVs g r σ avs vs) : Rel g (rcIn r s σ H avs) ⟨args.map argSlot, s.st⟩ (vs.map some) H := by
  obtain ⟨flen, fval, fio⟩ := fetch_spec hf
  have hlen := hv.length
  have avAt : ∀ (j : Nat) (x : Slot), (args.map argSlot)[j]? = some x → (∃ d, avs[j]? = some (.val d) ∧ x = .val d) ∨ (∃ i o, avs[j]? = some (.io i) ∧ x = .bor o ∧ (s.env[i]? = some (.own o) ∨ s.env[i]? = some (.bor o))) := fun j x e => by
    rw [List.getElem?_map] at e
    obtain ⟨ar, e1, rfl⟩ := Option.map_eq_some_iff.mp e
    have hj : j < avs.length := by rw [← flen]; exact (List.getElem?_eq_some_iff.mp e1).1
    cases hav : avs[j] with
    | val d =>
      have h1 : avs[j]? = some (.val d) := by rw [List.getElem?_eq_getElem hj, hav]
      have := fval j d h1
      rw [e1] at this
      cases this
      exact .inl ⟨d, h1, rfl⟩
    | io i =>
      have h1 : avs[j]? = some (.io i) := by rw [List.getElem?_eq_getElem hj, hav]
      obtain ⟨o, h2, h3⟩ := fio j i h1
      rw [e1] at h2
      cases h2
      exact .inr ⟨i, o, h1, rfl, h3⟩
  -- the address of a handed-over slot
  have ioAt : ∀ (j i : Nat) (o : Ob), avs[j]? = some (.io i) → (s.env[i]? = some (.own o) ∨ s.env[i]? = some (.bor o)) → ∃ a u, vs[j]? = some (.ref a) ∧ σ[i]? = some (some (.ref a)) ∧ H a = some u ∧ OR g r o u ∧ AtS r s σ (.inl i) a := fun j i o h1 h2 => by
    obtain ⟨v, e1, a, rfl, e2⟩ := hv.get h1
    rcases h2 with h2 | h2
    · obtain ⟨y, ey, q⟩ := R.env i _ h2
      rw [e2] at ey
      cases ey
      obtain ⟨b, u, e3, e4, e5⟩ := q
      cases e3
      exact ⟨a, u, e1, e2, e4, e5, ⟨_, h2, trivial⟩, e2⟩
    · obtain ⟨y, ey, q⟩ := R.env i _ h2
      rw [e2] at ey
      cases ey
      obtain ⟨b, u, e3, e4, e5⟩ := q
      cases e3
      exact ⟨a, u, e1, e2, e4, e5, ⟨_, h2, trivial⟩, e2⟩
  have atIn : ∀ p a, AtS (rcIn r s σ H avs) ⟨args.map argSlot, s.st⟩ (vs.map some) p a → ∃ q, AtS r s σ q a ∧ ((∃ j i, p = .inl j ∧ q = .inl i ∧ avs[j]? = some (.io i)) ∨ (∃ n, p = .inr n ∧ q = .inr n)) := fun p a h => by
    cases p with
    | inl j =>
      obtain ⟨⟨x, e, ob⟩, e2⟩ := h
      rcases avAt j x e with ⟨d, h1, rfl⟩ | ⟨i, o, h1, rfl, h3⟩
      · cases ob
      · obtain ⟨b, u, e3, e4, e5, e6, e7⟩ := ioAt j i o h1 h3
        have e2 : (vs.map some)[j]? = some (some (V.ref a)) := e2
        rw [List.getElem?_map, e3] at e2
        cases e2
        exact ⟨.inl i, e7, .inl ⟨j, i, rfl, rfl, h1⟩⟩
    | inr n => exact ⟨.inr n, h, .inr ⟨n, rfl, rfl⟩⟩
  refine ⟨R.fz, fun a u e => ?_, fun a u e => ?_, ?_, fun j x e => ?_, R.stl, fun n o a e1 e2 => R.sto n o a e1 e2, fun p q a h1 h2 => ?_, fun p a h => ?_, fun j a e => ?_, fun j o e => ?_⟩
  · rcases gdOf_some e with e | ⟨e, _⟩
    · exact R.gd a u e
    · exact e
  · rcases gdOf_some e with e | ⟨e, i, hi, _⟩
    · exact R.gm a u e
    · obtain ⟨u', e', m⟩ := R.at_some hi
      rw [e] at e'
      cases e'
      exact ⟨m, (R.sep _ _ hi).1⟩
  · show (args.map argSlot).length = (vs.map some).length
    rw [List.length_map, List.length_map, flen, hlen]
  · rcases avAt j x e with ⟨d, h1, rfl⟩ | ⟨i, o, h1, rfl, h3⟩
    · obtain ⟨v, e1, q⟩ := hv.get h1
      exact ⟨some v, by rw [List.getElem?_map, e1]; rfl, v, rfl, q⟩
    · obtain ⟨a, u, e3, e4, e5, e6, e7⟩ := ioAt j i o h1 h3
      exact ⟨some (.ref a), by rw [List.getElem?_map, e3]; rfl, a, u, rfl, e5, e6⟩
  · obtain ⟨p', hp, cp⟩ := atIn p a h1
    obtain ⟨q', hq, cq⟩ := atIn q a h2
    have e := R.inj _ _ _ hp hq
    subst e
    rcases cp with ⟨j, i, rfl, rfl, c1⟩ | ⟨n, rfl, rfl⟩
    · rcases cq with ⟨k, i', rfl, e2, c2⟩ | ⟨n, _, e2⟩
      · cases e2
        rw [nodup_io hn j k i c1 c2]
      · cases e2
    · rcases cq with ⟨k, i', _, e2, _⟩ | ⟨n', rfl, e2⟩
      · cases e2
      · cases e2
        rfl
  · obtain ⟨p', hp, cp⟩ := atIn p a h
    obtain ⟨z1, z2⟩ := R.sep _ _ hp
    refine ⟨z1, ?_⟩
    cases hg : gdOf r s σ H avs a with
    | none => exact hg
    | some u =>
      rcases gdOf_some hg with e | ⟨_, i, hi, hni⟩
      · rw [z2] at e
        cases e
      · have e := R.inj _ _ _ hp hi
        subst e
        rcases cp with ⟨j, i', _, e2, c1⟩ | ⟨n, _, e2⟩
        · cases e2
          exact absurd (ios_mem.mpr ⟨j, c1⟩) hni
        · cases e2
  · have e : boOf σ avs j = some a := e
    unfold boOf at e
    split at e
    · rename_i i h1
      split at e
      · rename_i b e2
        cases e
        obtain ⟨o, h2, h3⟩ := fio j i h1
        obtain ⟨a', u, e3, e4, _⟩ := ioAt j i o h1 h3
        rw [e2] at e4
        cases e4
        exact ⟨⟨o, by rw [List.getElem?_map, h2]; rfl⟩, by rw [List.getElem?_map, e3]; rfl⟩
      · cases e
    · cases e
  · rcases avAt j _ e with ⟨d, h1, e2⟩ | ⟨i, o', h1, e2, h3⟩
    · cases e2
    · obtain ⟨a, u, e3, e4, _⟩ := ioAt j i o' h1 h3
      refine ⟨a, ?_⟩
      show boOf σ avs j = some a
      unfold boOf
      rw [h1]
      simp only [e4]
/-- the caller's state behind the call -/
theorem Rel.callOut (R : Rel g r s σ H) (hf : fetch avs s.env = some args) (hn : nodupB (ios avs) = true) (hv : AVs g r σ avs vs) {r' : RC} {s' : S} {σ' : Sg} {H' : Hp} (le : (rcIn r s σ H avs).le r') (R' : Rel g r' s' σ' H') :
    r.le (rcOut r r') ∧ Rel g (rcOut r r') ⟨putBack avs (outsOf s'.env) s.env, s'.st⟩ σ H' ∧
    ∀ q a, AtS (rcOut r r') ⟨putBack avs (outsOf s'.env) s.env, s'.st⟩ σ q a → (r'.gd a ≠ none ∨ ∃ q', AtS r' s' σ' q' a) := by
  obtain ⟨flen, fval, fio⟩ := fetch_spec hf
  have R0 := R.callIn hf hn hv
  have hle : r.le (rcOut r r') := ⟨le.fz, le.tup, le.rho, rfl, rfl⟩
  have hgd : r'.gd = gdOf r s σ H avs := le.gd
  have hbo : r'.bo = boOf σ avs := le.bo
  -- the callee's borrowed slots
  have hbor : ∀ (j : Nat), (∃ i, avs[j]? = some (.io i)) ↔ ∃ o, s'.env[j]? = some (.bor o) := fun j => by
    constructor
    · rintro ⟨i, h1⟩
      obtain ⟨o, h2, h3⟩ := fio j i h1
      have : (args.map argSlot)[j]? = some (.bor o) := by rw [List.getElem?_map, h2]; rfl
      obtain ⟨a, e⟩ := R0.bo2 j o this
      have e' : r'.bo j = some a := by rw [hbo]; exact e
      exact (R'.bo j a e').1
    · rintro ⟨o, h1⟩
      obtain ⟨a, e⟩ := R'.bo2 j o h1
      rw [hbo] at e
      unfold boOf at e
      split at e
      · rename_i i h2
        exact ⟨i, h2⟩
      · cases e
  have hin : ∀ i ∈ ios avs, i < s.env.length := fun i hi => by
    obtain ⟨j, h1⟩ := ios_mem.mp hi
    obtain ⟨o, h2, h3⟩ := fio j i h1
    rcases h3 with h3 | h3 <;> exact (List.getElem?_eq_some_iff.mp h3).1
  obtain ⟨plen, pne, pio⟩ := putBack_spec hn hbor hin
  -- a handed-over slot, at the end
  have ioAt : ∀ i ∈ ios avs, ∃ j o a u, avs[j]? = some (.io i) ∧ s'.env[j]? = some (.bor o) ∧ σ[i]? = some (some (.ref a)) ∧ H' a = some u ∧ OR g r' o u ∧ AtS r' s' σ' (.inl j) a ∧ AtS r s σ (.inl i) a ∧
      (putBack avs (outsOf s'.env) s.env)[i]? = some (borWith s.env[i]? o) := fun i hi => by
    obtain ⟨j, h1⟩ := ios_mem.mp hi
    obtain ⟨o0, h2, h3⟩ := fio j i h1
    obtain ⟨o, h4⟩ := (hbor j).mp ⟨i, h1⟩
    obtain ⟨v, e1, a, rfl, e2⟩ := hv.get h1
    have eb : r'.bo j = some a := by
      rw [hbo]
      unfold boOf
      rw [h1]
      simp only [e2]
    obtain ⟨_, e3⟩ := R'.bo j a eb
    obtain ⟨y, ey, q⟩ := R'.env j _ h4
    rw [e3] at ey
    cases ey
    obtain ⟨b, u, e4, e5, e6⟩ := q
    cases e4
    refine ⟨j, o, a, u, h1, h4, e2, e5, e6, ⟨⟨_, h4, trivial⟩, e3⟩, ?_, pio j i o h1 h4⟩
    rcases h3 with h3 | h3
    · exact ⟨⟨_, h3, trivial⟩, e2⟩
    · exact ⟨⟨_, h3, trivial⟩, e2⟩
  -- one's own object that was not handed over
  have ownAt : ∀ (i : Nat) (x : Slot) (a : Addr), s.env[i]? = some x → x.isOb → i ∉ ios avs → σ[i]? = some (some (.ref a)) → ∃ u, H a = some u ∧ H' a = some u ∧ r'.gd a = some u ∧ AtS r s σ (.inl i) a := fun i x a h1 h2 h3 h4 => by
    have at' : AtS r s σ (.inl i) a := ⟨⟨x, h1, h2⟩, h4⟩
    obtain ⟨u, e, m⟩ := R.at_some at'
    have e2 : gdOf r s σ H avs a = some u := gdOf_own (R.sep _ _ at').2 at' h3 e
    exact ⟨u, e, R'.gd a u (by rw [hgd]; exact e2), by rw [hgd]; exact e2, at'⟩
  have borIs : ∀ (x : Option Slot) (o : Ob), (borWith x o).isOb := fun x o => by
    unfold borWith
    split <;> trivial
  have at_of : ∀ q a, AtS (rcOut r r') ⟨putBack avs (outsOf s'.env) s.env, s'.st⟩ σ q a → (∃ i j, q = .inl i ∧ i ∈ ios avs ∧ avs[j]? = some (.io i) ∧ AtS r' s' σ' (.inl j) a ∧ AtS r s σ (.inl i) a) ∨ (∃ i u, q = .inl i ∧ i ∉ ios avs ∧ r'.gd a = some u ∧ AtS r s σ (.inl i) a) ∨ (∃ n, q = .inr n ∧ AtS r' s' σ' (.inr n) a) := fun q a h => by
    cases q with
    | inl i =>
      obtain ⟨⟨x, e, ob⟩, e2⟩ := h
      have e2 : σ[i]? = some (some (V.ref a)) := e2
      by_cases hi : i ∈ ios avs
      · obtain ⟨j, o, a', u, h1, h2, h3, h4, h5, h6, h7, h8⟩ := ioAt i hi
        rw [h3] at e2
        cases e2
        exact .inl ⟨i, j, rfl, hi, h1, h6, h7⟩
      · have e : (putBack avs (outsOf s'.env) s.env)[i]? = some x := e
        rw [pne i hi] at e
        obtain ⟨u, _, _, h3, h4⟩ := ownAt i x a e ob hi e2
        exact .inr (.inl ⟨i, u, rfl, hi, h3, h4⟩)
    | inr n => exact .inr (.inr ⟨n, rfl, h⟩)
  refine ⟨hle, ⟨R'.fz, fun a u e => ?_, fun a u e => ?_, ?_, fun i x e => ?_, R'.stl, fun n o a e1 e2 => ?_, fun p q a h1 h2 => ?_, fun p a h => ?_, fun i a e => ?_, fun i o e => ?_⟩, fun q a h => ?_⟩
  · exact R'.gd a u (by rw [hgd]; exact gdOf_gd e)
  · exact R'.gm a u (by rw [hgd]; exact gdOf_gd e)
  · show (putBack avs (outsOf s'.env) s.env).length = σ.length
    rw [plen]
    exact R.len
  · by_cases hi : i ∈ ios avs
    · obtain ⟨j, o, a, u, h1, h2, h3, h4, h5, h6, h7, h8⟩ := ioAt i hi
      have e : (putBack avs (outsOf s'.env) s.env)[i]? = some x := e
      rw [h8] at e
      cases e
      refine ⟨_, h3, ?_⟩
      unfold borWith
      split
      · exact ⟨a, u, rfl, h4, h5⟩
      · exact ⟨a, u, rfl, h4, h5⟩
    · have e : (putBack avs (outsOf s'.env) s.env)[i]? = some x := e
      rw [pne i hi] at e
      obtain ⟨y, ey, q⟩ := R.env i x e
      refine ⟨y, ey, q.mono hle fun a u ob ex ea => ?_⟩
      subst ex
      obtain ⟨u', h1, h2, _⟩ := ownAt i x a e ob hi ey
      rw [ea] at h1
      cases h1
      exact h2
  · exact R'.sto n o a e1 e2
  · rcases at_of p a h1 with ⟨i, j, rfl, i1, i2, i3, i4⟩ | ⟨i, u, rfl, i1, i2, i3⟩ | ⟨n, rfl, i1⟩ <;> rcases at_of q a h2 with ⟨i', j', rfl, k1, k2, k3, k4⟩ | ⟨i', u', rfl, k1, k2, k3⟩ | ⟨n', rfl, k1⟩
    · exact R.inj _ _ _ i4 k4
    · exact R.inj _ _ _ i4 k3
    · have := R'.inj _ _ _ i3 k1
      cases this
    · exact R.inj _ _ _ i3 k4
    · exact R.inj _ _ _ i3 k3
    · have := (R'.sep _ _ k1).2
      rw [i2] at this
      cases this
    · have := R'.inj _ _ _ i1 k3
      cases this
    · have := (R'.sep _ _ i1).2
      rw [k2] at this
      cases this
    · exact R'.inj _ _ _ i1 k1
  · rcases at_of p a h with ⟨i, j, rfl, i1, i2, i3, i4⟩ | ⟨i, u, rfl, i1, i2, i3⟩ | ⟨n, rfl, i1⟩
    · exact ⟨(R'.sep _ _ i3).1, (R.sep _ _ i4).2⟩
    · exact ⟨(R'.gm a u i2).2, (R.sep _ _ i3).2⟩
    · obtain ⟨z1, z2⟩ := R'.sep _ _ i1
      refine ⟨z1, ?_⟩
      show r.gd a = none
      cases hq : r.gd a with
      | none => rfl
      | some u =>
        rw [hgd, gdOf_gd hq] at z2
        cases z2
  · obtain ⟨⟨o, e1⟩, e2⟩ := R.bo i a e
    refine ⟨?_, e2⟩
    by_cases hi : i ∈ ios avs
    · obtain ⟨j, o', a', u, h1, h2, h3, h4, h5, h6, h7, h8⟩ := ioAt i hi
      refine ⟨o', ?_⟩
      show (putBack avs (outsOf s'.env) s.env)[i]? = _
      rw [h8, e1]
      rfl
    · exact ⟨o, by show (putBack avs (outsOf s'.env) s.env)[i]? = _; rw [pne i hi]; exact e1⟩
  · have e : (putBack avs (outsOf s'.env) s.env)[i]? = some (.bor o) := e
    by_cases hi : i ∈ ios avs
    · obtain ⟨j, o', a', u, h1, h2, h3, h4, h5, h6, h7, h8⟩ := ioAt i hi
      rw [h8] at e
      unfold borWith at e
      split at e
      · rename_i o2 e2
        exact R.bo2 i o2 e2
      · cases e
    · rw [pne i hi] at e
      exact R.bo2 i o e
  · rcases at_of q a h with ⟨i, j, rfl, i1, i2, i3, i4⟩ | ⟨i, u, rfl, i1, i2, i3⟩ | ⟨n, rfl, i1⟩
    · exact .inr ⟨_, i3⟩
    · exact .inl (by rw [i2]; exact fun z => nomatch z)
    · exact .inr ⟨_, i1⟩
end
end RS

/-! RsIter: what is walked. -/
namespace RS
open PySem PySem.Spec PyProof.Rows L2

/-- more is known of what never changes -/
structure RC.lv (r r' : RC) : Prop where
  fz : ∀ a u, Rd r.fz a u → Rd r'.fz a u
  tup : ∀ a u, r.fz a = some u → HSeq u → r'.fz a = some u
  rho : ∃ l, r'.rho = r.rho ++ l
theorem RC.le.lv {r r' : RC} (h : r.le r') : r.lv r' := ⟨h.fz, h.tup, h.rho⟩
theorem RC.lv.trans {a b c : RC} (h : a.lv b) (k : b.lv c) : a.lv c :=
  ⟨fun x u q => k.fz x u (h.fz x u q), fun x u q z => k.tup x u (h.tup x u q z) z, by
    obtain ⟨l, e⟩ := h.rho
    obtain ⟨m, e'⟩ := k.rho
    exact ⟨l ++ m, by rw [e', e, List.append_assoc]⟩⟩
theorem RC.lv.refl (r : RC) : r.lv r := (RC.le.refl r).lv
/-- the same, with other guards -/
theorem RC.lv.mk' {r r' : RC} (h : r.lv r') : r.le ⟨r'.fz, r'.rho, r.gd, r.bo⟩ := ⟨h.fz, h.tup, h.rho, rfl, rfl⟩
theorem VR.lv {g : Gm} {r r' : RC} (h : r.lv r') {d : D} {v : V} (q : VR g r d v) : VR g r' d v := VR.mono h.mk' q
theorem VRs.lv {g : Gm} {r r' : RC} (h : r.lv r') {d : List D} {v : List V} (q : VRs g r d v) : VRs g r' d v := VRs.mono h.mk' q
theorem OR.lv {g : Gm} {r r' : RC} (h : r.lv r') {d : Ob} {v : HO} (q : OR g r d v) : OR g r' d v := OR.mono h.mk' q

/-- an iterator walks these items -/
structure ItOk (g : Gm) (r : RC) (J : L2.It) (ds : List D) : Prop where
  go : ∀ {r' s σ H i d}, r.lv r' → Rel g r' s σ H → ds[i]? = some d → J.go i H
  yld : ∀ {r' s σ H i d x H'}, r.lv r' → Rel g r' s σ H → ds[i]? = some d → J.yld i H x H' → ∃ r'', r'.le r'' ∧ Rel g r'' s σ H' ∧ VR g r'' d x
  stop : ∀ {r' s σ H}, r.lv r' → Rel g r' s σ H → J.stop ds.length H
theorem ItOk.lv {g : Gm} {r r' : RC} {J : L2.It} {ds : List D} (h : r.lv r') (q : ItOk g r J ds) : ItOk g r' J ds :=
  ⟨fun l R e => q.go (h.trans l) R e, fun l R e y => q.yld (h.trans l) R e y, fun l R => q.stop (h.trans l) R⟩


section
variable {g : Gm} {r r' : RC} {s : S} {σ : Sg} {H : Hp}
theorem sqL_lv (h : r.lv r') {a : Addr} {xs : List V} (q : SqL g.K r.fz a xs) : SqL g.K r'.fz a xs := sqL_mono h.fz q
theorem sqT_lv (h : r.lv r') {a : Addr} {xs : List V} (q : SqT g.K r.fz a xs) : SqT g.K r'.fz a xs := sqT_mono h.fz q
theorem VRs.at {ds : List D} {xs : List V} {i : Nat} {d : D} {x : V} (h : VRs g r ds xs) (hd : ds[i]? = some d) (hx : xs[i]? = some x) : VR g r d x := by
  obtain ⟨v, e, q⟩ := h.get hd
  rw [hx] at e
  cases e
  exact q
theorem it_list {a : Addr} {xs : List V} {ds : List D} (h : SqL g.K r.fz a xs) (q : VRs g r ds xs) : ItOk g r (Itl g.K a) ds where
  go := fun {r' s σ H i d} l R e => by
    obtain ⟨x, ex, _⟩ := (q.lv l).get e
    exact ⟨xs, x, R.sqL (sqL_lv l h), ex⟩
  yld := fun {r' s σ H i d x H'} l R e ⟨eh, y⟩ => by
    subst eh
    exact ⟨r', .refl _, R, (q.lv l).at e (y xs (R.sqL (sqL_lv l h)))⟩
  stop := fun {r' s σ H} l R => ⟨xs, R.sqL (sqL_lv l h), by rw [q.length]; exact Nat.le_refl _⟩
theorem it_tup {a : Addr} {xs : List V} {ds : List D} (h : SqT g.K r.fz a xs) (q : VRs g r ds xs) : ItOk g r (Itt g.K a) ds where
  go := fun {r' s σ H i d} l R e => by
    obtain ⟨x, ex, _⟩ := (q.lv l).get e
    exact ⟨xs, x, R.sqT (sqT_lv l h), ex⟩
  yld := fun {r' s σ H i d x H'} l R e ⟨eh, y⟩ => by
    subst eh
    exact ⟨r', .refl _, R, (q.lv l).at e (y xs (R.sqT (sqT_lv l h)))⟩
  stop := fun {r' s σ H} l R => ⟨xs, R.sqT (sqT_lv l h), by rw [q.length]; exact Nat.le_refl _⟩
theorem it_str (cs : Txt) : ItOk g r (Its (toStr cs)) (strItems cs) where
  go := fun {r' s σ H i d} l R e => by
    have h : i < (strItems cs).length := (List.getElem?_eq_some_iff.mp e).1
    show i < (toStr cs).cps.size
    simpa [toStr, strItems] using h
  yld := fun {r' s σ H i d x H'} l R e y => by
    obtain ⟨eh, c, ec, ex⟩ := y
    subst eh ex
    refine ⟨r', .refl _, R, ?_⟩
    have ec' : cs[i]? = some c := by simpa [toStr] using ec
    have e' : d = .str [c] := by
      have : (strItems cs)[i]? = some (.str [c]) := by simp [strItems, ec']
      rw [this] at e
      cases e
      rfl
    subst e'
    exact ⟨rfl, by show 1 ≤ szL; decide⟩
  stop := fun {r' s σ H} l R => by
    show (toStr cs).cps.size ≤ _
    simp [toStr, strItems]
theorem ups_length (lo : Int) : ∀ n : Nat, (ups lo n).length = n
  | 0 => rfl
  | n + 1 => by rw [ups, List.length_cons, ups_length (lo + 1) n]
theorem ups_get : ∀ (n : Nat) (lo : Int) (i : Nat), i < n → (ups lo n)[i]? = some (.int (lo + i))
  | 0, _, _, h => absurd h (Nat.not_lt_zero _)
  | n + 1, lo, 0, _ => by simp [ups]
  | n + 1, lo, i + 1, h => by
    rw [ups, List.getElem?_cons_succ, ups_get n (lo + 1) i (by omega)]
    have : lo + 1 + (i : Int) = lo + ((i + 1 : Nat) : Int) := by omega
    rw [this]
theorem it_rng (lo : Int) (n : Nat) : ItOk g r (Itr lo n) (ups lo n) where
  go := fun {r' s σ H i d} l R e => by
    have h := (List.getElem?_eq_some_iff.mp e).1
    rw [ups_length] at h
    exact h
  yld := fun {r' s σ H i d x H'} l R e y => by
    obtain ⟨eh, ex⟩ := y
    subst eh ex
    have h := (List.getElem?_eq_some_iff.mp e).1
    rw [ups_length] at h
    rw [ups_get n lo i h] at e
    cases e
    exact ⟨r', .refl _, R, rfl⟩
  stop := fun {r' s σ H} l R => by
    show n ≤ _
    rw [ups_length]
    exact Nat.le_refl _
theorem it_keysK {a : Addr} {o : Obj} {kvs : List (Key × V)} (h : r.fz a = some (.frz o (.dK kvs))) (hk : ∀ p ∈ kvs, kOk p.1) : ItOk g r (Itk a o kvs) (kvs.map fun p => kD p.1) where
  go := fun {r' s σ H i d} l R e => by
    have h' := (List.getElem?_eq_some_iff.mp e).1
    rw [List.length_map] at h'
    exact ⟨R.fz _ _ (l.tup _ _ h trivial), h'⟩
  yld := fun {r' s σ H i d x H'} l R e y => by
    obtain ⟨eh, k, v, e1, e2⟩ := y
    subst eh e2
    rw [List.getElem?_map, e1] at e
    cases e
    exact ⟨r', .refl _, R, keyV (hk _ (List.mem_of_getElem? e1))⟩
  stop := fun {r' s σ H} l R => ⟨R.fz _ _ (l.tup _ _ h trivial), by rw [List.length_map]; exact Nat.le_refl _⟩
theorem it_keysT {a : Addr} {o : Obj} {kvs : List (List Key × V)} (h : r.fz a = some (.frz o (.dT kvs))) (hk : ∀ p ∈ kvs, p.1.length ≤ szL ∧ ∀ k ∈ p.1, kOk k) : ItOk g r (Itkt a o kvs) (kvs.map fun p => .tup (p.1.map kD)) where
  go := fun {r' s σ H i d} l R e => by
    have h' := (List.getElem?_eq_some_iff.mp e).1
    rw [List.length_map] at h'
    exact ⟨R.fz _ _ (l.tup _ _ h trivial), h'⟩
  yld := fun {r' s σ H i d x H'} l R e y => by
    obtain ⟨eh, k, v, q, e1, e2, e3⟩ := y
    subst eh e2
    rw [List.getElem?_map, e1] at e
    cases e
    obtain ⟨R', l'⟩ := R.tup e3
    obtain ⟨z1, z2⟩ := hk _ (List.mem_of_getElem? e1)
    exact ⟨_, l', R', ⟨q, k.map kV, rfl, upd_same, by rw [List.length_map]; exact z1, keyVs z2⟩⟩
  stop := fun {r' s σ H} l R => ⟨R.fz _ _ (l.tup _ _ h trivial), by rw [List.length_map]; exact Nat.le_refl _⟩
theorem numbered_length : ∀ (ds : List D) (i : Int), (numbered i ds).length = ds.length
  | [], _ => rfl
  | _ :: ds, i => by rw [numbered, List.length_cons, List.length_cons, numbered_length ds]
theorem numbered_get : ∀ (ds : List D) (k : Int) (i : Nat), (numbered k ds)[i]? = (ds[i]?).map fun d => .tup [.int (k + i), d]
  | [], _, _ => by simp [numbered]
  | d :: ds, k, 0 => by simp [numbered]
  | d :: ds, k, i + 1 => by
    rw [numbered, List.getElem?_cons_succ, List.getElem?_cons_succ, numbered_get ds (k + 1) i]
    have : k + 1 + (i : Int) = k + ((i + 1 : Nat) : Int) := by omega
    rw [this]
theorem two_le : (2 : Nat) ≤ szL := by decide
theorem it_enum {a : Addr} {xs : List V} {ds : List D} (h : SqL g.K r.fz a xs) (q : VRs g r ds xs) : ItOk g r (Ite g.K a) (numbered 0 ds) where
  go := fun {r' s σ H i d} l R e => by
    have h' := (List.getElem?_eq_some_iff.mp e).1
    rw [numbered_length] at h'
    obtain ⟨x, ex, _⟩ := (q.lv l).get (List.getElem?_eq_getElem h')
    exact ⟨xs, x, R.sqL (sqL_lv l h), ex⟩
  yld := fun {r' s σ H i d x H'} l R e y => by
    obtain ⟨T, y, e1, e2, e3, e4⟩ := y
    subst e1 e3
    have h' := (List.getElem?_eq_some_iff.mp e).1
    rw [numbered_length] at h'
    rw [numbered_get, List.getElem?_eq_getElem h'] at e
    cases e
    have qv := (q.lv l).at (List.getElem?_eq_getElem h') (e4 xs (R.sqL (sqL_lv l h)))
    obtain ⟨R', l'⟩ := R.fresh e2 (.tup [.int (i : Nat), y])
    refine ⟨_, l', R', ⟨T, [.int (i : Nat), y], rfl, upd_same, two_le, ?_⟩⟩
    exact VRs.cons (show VR _ _ (.int (0 + (i : Int))) _ by rw [Int.zero_add]; rfl) (VRs.cons (qv.mono l') VRs.nil)
  stop := fun {r' s σ H} l R => ⟨xs, R.sqL (sqL_lv l h), by rw [numbered_length, q.length]; exact Nat.le_refl _⟩
theorem zipped_get : ∀ (ds es : List D) (i : Nat), (zipped ds es)[i]? = (ds[i]?).bind fun d => (es[i]?).map fun e => .tup [d, e]
  | [], _, _ => by simp [zipped]
  | _ :: _, [], i => by
    simp only [zipped, List.getElem?_nil, Option.map_none, Option.bind_fun_none]
  | d :: ds, e :: es, 0 => by simp [zipped]
  | d :: ds, e :: es, i + 1 => by
    rw [zipped, List.getElem?_cons_succ, List.getElem?_cons_succ, List.getElem?_cons_succ, zipped_get ds es i]
theorem zipped_length : ∀ (ds es : List D), (zipped ds es).length = min ds.length es.length
  | [], _ => by simp [zipped]
  | _ :: _, [] => by simp [zipped]
  | d :: ds, e :: es => by
    rw [zipped, List.length_cons, List.length_cons, List.length_cons, zipped_length ds es]
    omega
theorem zipped_at {ds es : List D} {i : Nat} {d : D} (h : (zipped ds es)[i]? = some d) : ∃ x y, ds[i]? = some x ∧ es[i]? = some y ∧ d = .tup [x, y] := by
  rw [zipped_get] at h
  obtain ⟨x, e1, h⟩ := Option.bind_eq_some_iff.mp h
  obtain ⟨y, e2, h⟩ := Option.map_eq_some_iff.mp h
  exact ⟨x, y, e1, e2, h.symm⟩
theorem Rel.pair (R : Rel g r s σ H) {T : Addr} {x y : V} {d e : D} (hT : H T = none) (h1 : VR g r d x) (h2 : VR g r e y) : ∃ r', r.le r' ∧ Rel g r' s σ (upd H T (.tup [x, y])) ∧ VR g r' (.tup [d, e]) (.ref T) := by
  obtain ⟨R', l'⟩ := R.fresh hT (.tup [x, y])
  exact ⟨_, l', R', ⟨T, [x, y], rfl, upd_same, two_le, VRs.cons (h1.mono l') (VRs.cons (h2.mono l') VRs.nil)⟩⟩
theorem it_zipL {a b : Addr} {xs ys : List V} {ds es : List D} (h : SqL g.K r.fz a xs) (h2 : SqL g.K r.fz b ys) (q : VRs g r ds xs) (q2 : VRs g r es ys) : ItOk g r (Itz g.K a b) (zipped ds es) where
  go := fun {r' s σ H i d} l R e => by
    obtain ⟨d1, d2, e1, e2, _⟩ := zipped_at e
    obtain ⟨x, ex, _⟩ := (q.lv l).get e1
    obtain ⟨y, ey, _⟩ := (q2.lv l).get e2
    exact ⟨xs, ys, x, y, R.sqL (sqL_lv l h), R.sqL (sqL_lv l h2), ex, ey⟩
  yld := fun {r' s σ H i d x H'} l R e y => by
    obtain ⟨T, y, z, e1, e2, e3, e4, e5⟩ := y
    subst e1 e3
    obtain ⟨d1, d2, k1, k2, rfl⟩ := zipped_at e
    exact R.pair e2 ((q.lv l).at k1 (e4 xs (R.sqL (sqL_lv l h)))) ((q2.lv l).at k2 (e5 ys (R.sqL (sqL_lv l h2))))
  stop := fun {r' s σ H} l R => ⟨xs, ys, R.sqL (sqL_lv l h), R.sqL (sqL_lv l h2), by rw [zipped_length, q.length, q2.length]; omega⟩
theorem it_zipT {a b : Addr} {xs ys : List V} {ds es : List D} (h : SqT g.K r.fz a xs) (h2 : SqT g.K r.fz b ys) (q : VRs g r ds xs) (q2 : VRs g r es ys) : ItOk g r (RZ.ItzT g.K a b) (zipped ds es) where
  go := fun {r' s σ H i d} l R e => by
    obtain ⟨d1, d2, e1, e2, _⟩ := zipped_at e
    obtain ⟨x, ex, _⟩ := (q.lv l).get e1
    obtain ⟨y, ey, _⟩ := (q2.lv l).get e2
    exact ⟨xs, ys, x, y, R.sqT (sqT_lv l h), R.sqT (sqT_lv l h2), ex, ey⟩
  yld := fun {r' s σ H i d x H'} l R e y => by
    obtain ⟨T, y, z, e1, e2, e3, e4, e5⟩ := y
    subst e1 e3
    obtain ⟨d1, d2, k1, k2, rfl⟩ := zipped_at e
    exact R.pair e2 ((q.lv l).at k1 (e4 xs (R.sqT (sqT_lv l h)))) ((q2.lv l).at k2 (e5 ys (R.sqT (sqT_lv l h2))))
  stop := fun {r' s σ H} l R => ⟨xs, ys, R.sqT (sqT_lv l h), R.sqT (sqT_lv l h2), by rw [zipped_length, q.length, q2.length]; omega⟩
/-- a dict is locked -/
theorem Rel.lockF (R : Rel g r s σ H) {d : Addr} {u : HO} (h : r.fz d = some u) (hu : ¬ HSeq u) (o : Obj) : Rel g { r with fz := upd r.fz d (.frz o u) } s σ (upd H d (.frz o u)) ∧ r.le { r with fz := upd r.fz d (.frz o u) } := by
  refine R.grow (fun a w q => ?_) (fun a w q z => ?_) (fun a w q => ?_) (fun a w q m z => ?_) (fun a w q m z => ?_)
  · by_cases e : a = d
    · subst e
      rcases q with q | ⟨o', q⟩
      · rw [h] at q
        cases q
        exact .inr ⟨o, upd_same⟩
      · rw [h] at q
        cases q
        exact (hu trivial).elim
    · exact q.imp (fun q => by rw [upd_ne e]; exact q) fun ⟨o, q⟩ => ⟨o, by rw [upd_ne e]; exact q⟩
  · have : a ≠ d := fun e => by
      subst e
      rw [h] at q
      cases q
      exact hu z
    rw [upd_ne this]
    exact q
  · by_cases e : a = d
    · subst e
      rw [upd_same] at q ⊢
      exact q
    · rw [upd_ne e] at q ⊢
      exact R.fz _ _ q
  · have : a ≠ d := fun e => by
      subst e
      rw [h] at z
      cases z
    rw [upd_ne this]
    exact q
  · have : a ≠ d := fun e => by
      subst e
      rw [h] at z
      cases z
    rw [upd_ne this]
    exact z
end

/-! ### what is walked, by what it is -/
def iAny (K : PySem.W.Frag) (te : TE) : TI := fun σ H R => te σ H fun x H1 => (∃ a xs, x = .ref a ∧ SqL K H1 a xs ∧ R (Itl K a) H1) ∨ (∃ a xs, x = .ref a ∧ SqT K H1 a xs ∧ R (Itt K a) H1) ∨ (∃ z, x = .str z ∧ R (Its z) H1) ∨
  (∃ d o, x = .ref d ∧ ((∃ kvs, H1 d = some (.frz o (.dK kvs)) ∧ R (Itk d o kvs) H1) ∨ ∃ kvs, H1 d = some (.frz o (.dT kvs)) ∧ R (Itkt d o kvs) H1)) ∨
  (∃ d, x = .ref d ∧ ((∃ kvs, H1 d = some (.dK kvs) ∧ ∀ o, R (Itk d o kvs) (upd H1 d (.frz o (.dK kvs)))) ∨ ∃ kvs, H1 d = some (.dT kvs) ∧ ∀ o, R (Itkt d o kvs) (upd H1 d (.frz o (.dT kvs)))))
theorem pi_any {X : Cx} {tg l : Expr} {tl : TE} (hl : PE X l tl) : PI X tg l (iAny X.K tl) := by
  refine ⟨fun pins s σ H R I h => ?_⟩
  refine thn (hl.run pins s σ H _ I h) fun v s1 ⟨x, H1, I1, r1, q1⟩ => ?_
  have keyed : ∀ (d : Addr) (o : Obj) (H1 : Hp), Inv X pins σ H1 s1 → ((∃ kvs, H1 d = some (.frz o (.dK kvs)) ∧ R (Itk d o kvs) H1) ∨ ∃ kvs, H1 d = some (.frz o (.dT kvs)) ∧ R (Itkt d o kvs) H1) → wpAny (model X.prog X.w) X.A (pyIter (.ref d)) (PIE X pins σ tg R) X.xe s1 := fun d o H1 I1 q => by
    rcases q with ⟨kvs, hd, q⟩ | ⟨kvs, hd, q⟩
    · obtain ⟨hs, hgd, hx, es, ep, vs, hdt, hsz, kv, hm⟩ := I1.frzK hd
      refine iter_keys hs hgd hx hdt (pi_one (tk := s1.toks) I1 _ (turn_keys _ hdt) ⟨_, Heap.get?_push_size _ rfl, rfl, ?_⟩ q)
      rw [hsz] <;> rfl
    · obtain ⟨hs, hgd, hx, es, ep, hdt, hsz, ent⟩ := I1.frzT hd
      refine iter_keys hs hgd hx hdt (pi_one (tk := s1.toks) I1 _ (turn_keysT _ hdt) ⟨_, Heap.get?_push_size _ rfl, rfl, ?_⟩ q)
      rw [hsz] <;> rfl
  rcases q1 with ⟨a, xs, rfl, hq, q⟩ | ⟨a, xs, rfl, hq, q⟩ | ⟨z, rfl, q⟩ | ⟨d, o, rfl, q⟩ | ⟨d, rfl, q⟩
  · cases r1
    obtain ⟨its, rv, p, hz⟩ := I1.list hq
    refine wpAny_pyIter_list p.isList ?_
    exact pi_one (tk := s1.toks) I1 _ (turn_list a _) ⟨_, Heap.get?_push_size _ rfl, rfl, rfl⟩ q
  · cases r1
    obtain ⟨its, rv, p, hz⟩ := I1.tuple hq
    refine wpAny_pyIter_tuple (show s1.heap.IsTuple a its.toArray from p) ?_
    exact pi_one (tk := s1.toks) I1 _ (turn_tuple a _) ⟨_, Heap.get?_push_size _ rfl, rfl, rfl⟩ q
  · obtain ⟨t, rfl⟩ := r1
    cases ha : z.cps.all (· < 128)
    · exact wpAny_pyIter_wide ha (pi_one (tk := s1.toks) I1 _ (turn_str _ z t "str_iterator" (.inr rfl)) ⟨_, Heap.get?_push_size _ rfl, rfl, rfl⟩ q)
    · exact wpAny_pyIter_ascii ha (pi_one (tk := s1.toks) I1 _ (turn_str _ z t "str_ascii_iterator" (.inl rfl)) ⟨_, Heap.get?_push_size _ rfl, rfl, rfl⟩ q)
  · cases r1
    exact keyed d o H1 I1 q
  · cases r1
    rcases q with ⟨kvs, hd, q⟩ | ⟨kvs, hd, q⟩
    · obtain ⟨od, I2⟩ := I1.lock hd trivial
      exact keyed d od _ I2 (.inl ⟨kvs, upd_same, q od⟩)
    · obtain ⟨od, I2⟩ := I1.lock hd trivial
      exact keyed d od _ I2 (.inr ⟨kvs, upd_same, q od⟩)
/-- by values -/
theorem s_iter {X : Cx} {r : RC} {s : S} {σ : Sg} {H : Hp} {d : D} {v : V} {ds : List D} {R : L2.It → Hp → Prop} (Re : Rel (gX X) r s σ H) (q : VR (gX X) r d v) (e : itemsOf d = some ds) (k : ∀ r' J H', r.le r' → Rel (gX X) r' s σ H' → ItOk (gX X) r' J ds → R J H') :
    (∃ a xs, v = .ref a ∧ SqL X.K H a xs ∧ R (Itl X.K a) H) ∨ (∃ a xs, v = .ref a ∧ SqT X.K H a xs ∧ R (Itt X.K a) H) ∨ (∃ z, v = .str z ∧ R (Its z) H) ∨
  (∃ d o, v = .ref d ∧ ((∃ kvs, H d = some (.frz o (.dK kvs)) ∧ R (Itk d o kvs) H) ∨ ∃ kvs, H d = some (.frz o (.dT kvs)) ∧ R (Itkt d o kvs) H)) ∨
  (∃ d, v = .ref d ∧ ((∃ kvs, H d = some (.dK kvs) ∧ ∀ o, R (Itk d o kvs) (upd H d (.frz o (.dK kvs)))) ∨ ∃ kvs, H d = some (.dT kvs) ∧ ∀ o, R (Itkt d o kvs) (upd H d (.frz o (.dT kvs))))) := by
  cases d with
  | lst xs =>
    cases e
    obtain ⟨a, vs, rfl, h, _, qs⟩ := q
    exact .inl ⟨a, vs, rfl, .inl (.inl (Re.fz _ _ h)), k _ _ _ (.refl r) Re (it_list (.inl (.inl h)) qs)⟩
  | tup xs =>
    cases e
    obtain ⟨a, vs, rfl, h, _, qs⟩ := q
    exact .inr (.inl ⟨a, vs, rfl, .inl (.inl (Re.fz _ _ h)), k _ _ _ (.refl r) Re (it_tup (.inl (.inl h)) qs)⟩)
  | str cs =>
    cases e
    obtain ⟨rfl, _⟩ := q
    exact .inr (.inr (.inl ⟨_, rfl, k _ _ _ (.refl r) Re (it_str cs)⟩))
  | dct t ks vs =>
    cases e
    obtain ⟨a, u, ws, rfl, rd, dr, _, _⟩ := q
    rcases dr with ⟨_, kvs, rfl, rfl, _, hk⟩ | ⟨_, kvs, rfl, rfl, _, hk⟩
    · rcases rd with h | ⟨o, h⟩
      · refine .inr (.inr (.inr (.inr ⟨a, rfl, .inl ⟨kvs, Re.fz _ _ h, fun o => ?_⟩⟩)))
        obtain ⟨R', l'⟩ := Re.lockF h (fun z => z) o
        exact k _ _ _ l' R' (it_keysK upd_same hk)
      · exact .inr (.inr (.inr (.inl ⟨a, o, rfl, .inl ⟨kvs, Re.fz _ _ h, k _ _ _ (.refl r) Re (it_keysK h hk)⟩⟩)))
    · rcases rd with h | ⟨o, h⟩
      · refine .inr (.inr (.inr (.inr ⟨a, rfl, .inr ⟨kvs, Re.fz _ _ h, fun o => ?_⟩⟩)))
        obtain ⟨R', l'⟩ := Re.lockF h (fun z => z) o
        exact k _ _ _ l' R' (it_keysT upd_same hk)
      · exact .inr (.inr (.inr (.inl ⟨a, o, rfl, .inr ⟨kvs, Re.fz _ _ h, k _ _ _ (.refl r) Re (it_keysT h hk)⟩⟩)))
  | _ => cases e
end RS

/-! RsZip: zip of texts, enumerate of a text. -/
namespace RS
open PySem PySem.Spec PyProof.Rows L2

/-- two texts side by side -/
def ItzS (z w : Str) : L2.It := ⟨fun i _ => i < min z.cps.size w.cps.size, fun i H x H' => ∃ (T : Addr) (c d : Nat), x = .ref T ∧ H T = none ∧ H' = upd H T (.tup [.str ⟨#[c]⟩, .str ⟨#[d]⟩]) ∧ z.cps[i]? = some c ∧ w.cps[i]? = some d, fun i _ => i = min z.cps.size w.cps.size⟩
def IteS (z : Str) : L2.It := ⟨fun i _ => i < z.cps.size, fun i H x H' => ∃ (T : Addr) (c : Nat), x = .ref T ∧ H T = none ∧ H' = upd H T (.tup [.int (i : Nat), .str ⟨#[c]⟩]) ∧ z.cps[i]? = some c, fun i _ => i = z.cps.size⟩
theorem strIter_obj {h : Heap} {a : Addr} {ty : String} {x : Str} {t : Tok} {i : Nat} (st : h.IsStrIter a ty x t i) : ∃ o, h.get? a = some o ∧ ∀ v, o.data ≠ .cell v := by
  obtain ⟨o, e, c, d⟩ := st
  exact ⟨o, e, fun v z => by rw [d] at z; cases z⟩
theorem turn_zipS {P : Program} {w : World} {K : PySem.W.Frag} {elts : List Expr} {kk : Nat} {tpos : Pos} {x y : Str} {t u : Tok} {z TI TO i1 i2 : Addr} (S : ZipSep2 z TI TO i1 i2 [i1] [i2]) :
    Turn P w K (.Tuple elts kk tpos) (ItzS x y) (z :: TI :: TO :: ([i1] ++ [i2])) z (fun i h => IsZip h z TI TO .none ∧ IsTupOf2 h TI (.ref i1) (.ref i2) ∧ (∃ a1 a2, IsTupOf2 h TO a1 a2) ∧ h.IsStrIter i1 (strIterType x) x t i ∧ h.IsStrIter i2 (strIterType y) y u i) where
  mem := by simp
  obj := fun i h st b hb => by
    obtain ⟨hz, hTI, ⟨a1, a2, hTO⟩, s1, s2⟩ := st
    have e' : b = z ∨ b = TI ∨ b = TO ∨ b = i1 ∨ b = i2 := by simpa using hb
    rcases e' with rfl | rfl | rfl | rfl | rfl
    · exact ⟨_, hz, fun v q => nomatch q⟩
    · exact ⟨_, hTI, fun v q => nomatch q⟩
    · exact ⟨_, hTO, fun v q => nomatch q⟩
    · exact strIter_obj s1
    · exact strIter_obj s2
  keep := fun i h h' st k => by
    obtain ⟨hz, hTI, ⟨a1, a2, hTO⟩, ⟨o1, e1, r1⟩, ⟨o2, e2, r2⟩⟩ := st
    exact ⟨k z (by simp) _ hz, k TI (by simp) _ hTI, ⟨a1, a2, k TO (by simp) _ hTO⟩, ⟨o1, k i1 (by simp) _ e1, r1⟩, ⟨o2, k i2 (by simp) _ e2, r2⟩⟩
  item := by
    intro X hP hw hK hc i pins s σ H E I hf st hg
    subst hP hw hK
    have hh := I.ok.hd hc
    have W := GoesN.zip2 (prog := X.prog) (w := X.w) (A := X.A) (elts := elts) (x1 := kk) (pos := tpos) S (Draws.text (A := X.A.in1) hh i1 x t) (Draws.text (A := X.A.in1) hh i2 y u)
    refine wpAny_mono (W.goes i s (fun v s2 => ∃ x' H', Inv X pins σ H' s2 ∧ RelV x' v ∧ (ItzS x y).yld i H x' H' ∧ (IsZip s2.heap z TI TO .none ∧ IsTupOf2 s2.heap TI (.ref i1) (.ref i2) ∧ (∃ a1 a2, IsTupOf2 s2.heap TO a1 a2) ∧ s2.heap.IsStrIter i1 (strIterType x) x t (i + 1) ∧ s2.heap.IsStrIter i2 (strIterType y) y u (i + 1)) ∧ ∀ b ∈ (z :: TI :: TO :: ([i1] ++ [i2])), H' b = none) E hg st ?_) (fun r s1 q => q) (fun _ _ q => q)
    intro v h' tk ⟨T, a, b, ev, hT, ⟨c, t1, hc1, ea⟩, ⟨d, t2, hd1, eb⟩, hit⟩ st' kk' _
    subst ev ea eb
    have new : ObjOk X.prog X.w (upd H T (.tup [.str ⟨#[c]⟩, .str ⟨#[d]⟩])) h' T (.tup [.str ⟨#[c]⟩, .str ⟨#[d]⟩]) :=
      ⟨by show 2 ≤ sizeLine; decide, [.str ⟨#[c]⟩ t1, .str ⟨#[d]⟩ t2], .cons ⟨_, rfl⟩ (.cons ⟨_, rfl⟩ .nil), hit⟩
    have I1 := I.turnedNew (t' := tk) (ch := z :: TI :: TO :: ([i1] ++ [i2])) (fun c o hb e => kk' c o (fun q => hb (by
      have q' : c = z ∨ c = TO ∨ c = i1 ∨ c = i2 := by simpa using q
      rcases q' with rfl | rfl | rfl | rfl <;> simp)) e) hf hT new
    refine ⟨.ref T, _, I1, rfl, ⟨T, c, d, rfl, I.hok.fresh hT, rfl, hc1, hd1⟩, st', fun b hb => ?_⟩
    have lt : b < s.heap.objs.size := by
      obtain ⟨hz, hTI, ⟨a1, a2, hTO⟩, s1, s2⟩ := st
      have e' : b = z ∨ b = TI ∨ b = TO ∨ b = i1 ∨ b = i2 := by simpa using hb
      rcases e' with rfl | rfl | rfl | rfl | rfl
      · exact Heap.lt_size hz
      · exact Heap.lt_size hTI
      · exact Heap.lt_size hTO
      · obtain ⟨_, e, _⟩ := strIter_obj s1; exact Heap.lt_size e
      · obtain ⟨_, e, _⟩ := strIter_obj s2; exact Heap.lt_size e
    rw [upd_ne (Nat.ne_of_lt (Nat.lt_of_lt_of_le lt hT))]
    exact (hf b hb).1
  done := by
    intro X hP hw hK hc i pins s σ H E I hf st hg
    subst hP hw hK
    have hh := I.ok.hd hc
    have W := GoesN.zip2 (prog := X.prog) (w := X.w) (A := X.A) (elts := elts) (x1 := kk) (pos := tpos) S (Draws.text (A := X.A.in1) hh i1 x t) (Draws.text (A := X.A.in1) hh i2 y u)
    have hg : i = min x.cps.size y.cps.size := hg
    subst hg
    exact W.stops s (fun s1 => Inv X pins σ H s1) E st fun h' tk kk' _ => I.turnedL (ch := z :: TI :: TO :: ([i1] ++ [i2])) (fun c o hb e => kk' c o (fun q => hb (by
      have q' : c = z ∨ c = TO ∨ c = i1 ∨ c = i2 := by simpa using q
      rcases q' with rfl | rfl | rfl | rfl <;> simp)) e) hf
  self := fun A i s Q E st h => wpAny_pyIter_zip st.1 h
theorem turn_enumS {P : Program} {w : World} {K : PySem.W.Frag} {elts : List Expr} {kk : Nat} {tpos : Pos} {x : Str} {t : Tok} {e it : Addr} (hei : e ≠ it) :
    Turn P w K (.Tuple elts kk tpos) (IteS x) (e :: [it]) e (fun i h => (∃ old, IsEnum h e it (0 + (i : Int)) old) ∧ h.IsStrIter it (strIterType x) x t i) where
  mem := by simp
  obj := fun i h st b hb => by
    obtain ⟨⟨old, he⟩, s1⟩ := st
    have e' : b = e ∨ b = it := by simpa using hb
    rcases e' with rfl | rfl
    · exact ⟨_, he, fun v q => nomatch q⟩
    · exact strIter_obj s1
  keep := fun i h h' st k => by
    obtain ⟨⟨old, he⟩, ⟨o1, e1, r1⟩⟩ := st
    exact ⟨⟨old, k e (by simp) _ he⟩, ⟨o1, k it (by simp) _ e1, r1⟩⟩
  item := by
    intro X hP hw hK hc i pins s σ H E I hf st hg
    subst hP hw hK
    have hh := I.ok.hd hc
    have W := GoesN.enumFrom (prog := X.prog) (w := X.w) (A := X.A) (elts := elts) (x1 := kk) (pos := tpos) 0 (Draws.text (A := X.A.in1) hh it x t) e hei (by simpa using hei) (by simp)
    refine wpAny_mono (W.goes i s (fun v s2 => ∃ x' H', Inv X pins σ H' s2 ∧ RelV x' v ∧ (IteS x).yld i H x' H' ∧ ((∃ old, IsEnum s2.heap e it (0 + ((i + 1 : Nat) : Int)) old) ∧ s2.heap.IsStrIter it (strIterType x) x t (i + 1)) ∧ ∀ b ∈ (e :: [it]), H' b = none) E hg st ?_) (fun r s1 q => q) (fun _ _ q => q)
    intro v h' tk ⟨T, t0, a, ev, hT, ⟨c, t1, hc1, ea⟩, hit⟩ st' kk' _
    subst ev ea
    rw [Int.zero_add] at hit
    have new : ObjOk X.prog X.w (upd H T (.tup [.int (i : Nat), .str ⟨#[c]⟩])) h' T (.tup [.int (i : Nat), .str ⟨#[c]⟩]) :=
      ⟨by show 2 ≤ sizeLine; decide, [.int (i : Nat) t0, .str ⟨#[c]⟩ t1], .cons ⟨_, rfl⟩ (.cons ⟨_, rfl⟩ .nil), hit⟩
    have I1 := I.turnedNew (t' := tk) (ch := e :: [it]) (fun c o hb q => kk' c o hb q) hf hT new
    refine ⟨.ref T, _, I1, rfl, ⟨T, c, rfl, I.hok.fresh hT, rfl, hc1⟩, st', fun b hb => ?_⟩
    have lt : b < s.heap.objs.size := by
      obtain ⟨⟨old, he⟩, s1⟩ := st
      have e' : b = e ∨ b = it := by simpa using hb
      rcases e' with rfl | rfl
      · exact Heap.lt_size he
      · obtain ⟨_, e, _⟩ := strIter_obj s1; exact Heap.lt_size e
    rw [upd_ne (Nat.ne_of_lt (Nat.lt_of_lt_of_le lt hT))]
    exact (hf b hb).1
  done := by
    intro X hP hw hK hc i pins s σ H E I hf st hg
    subst hP hw hK
    have hh := I.ok.hd hc
    have W := GoesN.enumFrom (prog := X.prog) (w := X.w) (A := X.A) (elts := elts) (x1 := kk) (pos := tpos) 0 (Draws.text (A := X.A.in1) hh it x t) e hei (by simpa using hei) (by simp)
    have hg : i = x.cps.size := hg
    subst hg
    exact W.stops s (fun s1 => Inv X pins σ H s1) E st fun h' tk kk' _ => I.turnedL (ch := e :: [it]) (fun c o hb q => kk' c o hb q) hf
  self := fun A i s Q E st h => let ⟨⟨_, he⟩, _⟩ := st; wpAny_pyIter_enum he h

def iEnumX (K : PySem.W.Frag) (ta : TA) : TI := fun σ H R => ta σ H fun vs H1 => ∃ x, vs = [x] ∧ ((∃ a xs, x = .ref a ∧ SqL K H1 a xs ∧ R (Ite K a) H1) ∨ (∃ z, x = .str z ∧ R (IteS z) H1))
theorem pi_enumX {X : Cx} {e : Expr} {ta : TA} {p pos tpos : Pos} {elts : List Expr} {kk : Nat} (hg : Gl X "enumerate") (hm : X.mg "enumerate" = none) (ha : PA X [e] ta) (hs : starEach [e] X.env = [(false, eval e X.env)]) :
    PI X (.Tuple elts kk tpos) (.Call (.Name "enumerate" p) [e] [] pos) (iEnumX X.K ta) := by
  refine ⟨fun pins s σ H R I h => ?_⟩
  refine Call_ (ld_blt I hg hm boot_enumerate (PyProof.Rows.callWith_type1 (thn (ha.run pos pins s σ H _ I h) fun us s1 ⟨vs, H1, I1, r1, q1⟩ => ?_) hs rfl))
  obtain ⟨x, ex, q1⟩ := q1
  subst ex
  cases r1 with
  | cons r rr =>
    cases rr
    have fresh : ∀ {b : Addr}, b ∈ [s1.heap.objs.size + 1, s1.heap.objs.size] → FpOk X pins H1 b := fun {b} hb => by
      have e' : b = s1.heap.objs.size + 1 ∨ b = s1.heap.objs.size := by simpa using hb
      have hle : s1.heap.objs.size ≤ b := by rcases e' with e' | e' <;> rw [e'] <;> omega
      exact I1.fpOk hle (I1.hok.fresh hle)
    rcases q1 with ⟨a, xs, rfl, hq, q⟩ | ⟨z, rfl, q⟩
    · cases r
      obtain ⟨its, rv, p', hz⟩ := I1.list hq
      refine call_enumerate_list p'.isList fun h' he hit hsz hk => wpAny_pyIter_enum he ?_
      exact ⟨s1.heap.objs.size + 1, [s1.heap.objs.size + 1, s1.heap.objs.size], _, _, H1, rfl, I1.kept (t' := s1.toks) hk, turn_enum a (s1.heap.objs.size + 1) s1.heap.objs.size, ⟨⟨.none, he⟩, hit, Nat.succ_ne_self _⟩, fun b hb => fresh hb, q⟩
    · obtain ⟨t, rfl⟩ := r
      refine call_enumerate_str fun h' he hit hsz hk => wpAny_pyIter_enum he ?_
      exact ⟨s1.heap.objs.size + 1, [s1.heap.objs.size + 1, s1.heap.objs.size], _, _, H1, rfl, I1.kept (t' := s1.toks) hk, turn_enumS (Nat.succ_ne_self _), ⟨⟨.none, he⟩, hit⟩, fun b hb => fresh hb, q⟩
def iZipX (K : PySem.W.Frag) (ta : TA) : TI := fun σ H R => ta σ H fun vs H1 => ∃ x y, vs = [x, y] ∧ ((∃ a b xs ys, x = .ref a ∧ y = .ref b ∧ SqL K H1 a xs ∧ SqL K H1 b ys ∧ R (Itz K a b) H1) ∨ (∃ a b xs ys, x = .ref a ∧ y = .ref b ∧ SqT K H1 a xs ∧ SqT K H1 b ys ∧ R (RZ.ItzT K a b) H1) ∨ (∃ z w, x = .str z ∧ y = .str w ∧ R (ItzS z w) H1))
theorem pi_zipX {X : Cx} {e e2 : Expr} {ta : TA} {p pos tpos : Pos} {elts : List Expr} {kk : Nat} (hg : Gl X "zip") (hm : X.mg "zip" = none) (ha : PA X [e, e2] ta)
    (hs : starEach [e, e2] X.env = (false, eval e X.env) :: starEach [e2] X.env) (hpl : (backTo pos (starEach [e2] X.env)).any (·.1) = false) :
    PI X (.Tuple elts kk tpos) (.Call (.Name "zip" p) [e, e2] [] pos) (iZipX X.K ta) := by
  refine ⟨fun pins s σ H R I h => ?_⟩
  refine Call_ (ld_blt I hg hm PyProof.Rows.boot_zip (PyProof.Rows.callWith_type1 (thn (ha.run pos pins s σ H _ I h) fun us s1 ⟨vs, H1, I1, r1, q1⟩ => ?_) hs hpl))
  obtain ⟨x, y, ex, q1⟩ := q1
  subst ex
  cases r1 with
  | cons r rr =>
    cases rr with
    | cons r' rr =>
      cases rr
      have fresh5 : ∀ {c}, c ∈ [s1.heap.objs.size + 4, s1.heap.objs.size + 2, s1.heap.objs.size + 3, s1.heap.objs.size, s1.heap.objs.size + 1] → FpOk X pins H1 c := fun {c} hcm => by
        have e' : c = s1.heap.objs.size + 4 ∨ c = s1.heap.objs.size + 2 ∨ c = s1.heap.objs.size + 3 ∨ c = s1.heap.objs.size ∨ c = s1.heap.objs.size + 1 := by simpa using hcm
        have hle : s1.heap.objs.size ≤ c := by rcases e' with e' | e' | e' | e' | e' <;> rw [e'] <;> omega
        exact I1.fpOk hle (I1.hok.fresh hle)
      rcases q1 with ⟨a, b, xs, ys, rfl, rfl, hqx, hqy, q⟩ | ⟨a, b, xs, ys, rfl, rfl, hqx, hqy, q⟩ | ⟨z, w, rfl, rfl, q⟩
      · cases r
        cases r'
        obtain ⟨its, rv, p1, _⟩ := I1.list hqx
        obtain ⟨its2, rv2, p2, _⟩ := I1.list hqy
        refine call_zip_2 p1.isList p2.isList fun h' hz hTI hTO h1 h2 hsz hk => wpAny_pyIter_zip hz ?_
        exact ⟨s1.heap.objs.size + 4, [s1.heap.objs.size + 4, s1.heap.objs.size + 2, s1.heap.objs.size + 3, s1.heap.objs.size, s1.heap.objs.size + 1], _, _, H1, rfl, I1.kept (t' := s1.toks) hk, turn_zip (PySem.W.ktu_apart s1.heap.objs.size a b p1.lt p2.lt), ⟨hz, hTI, ⟨_, _, hTO⟩, h1, h2⟩, fun b hb => fresh5 hb, q⟩
      · cases r
        cases r'
        obtain ⟨its, rv, p1, _⟩ := I1.tuple hqx
        obtain ⟨its2, rv2, p2, _⟩ := I1.tuple hqy
        obtain ⟨o1, ho1, _⟩ := id p1
        obtain ⟨o2, ho2, _⟩ := id p2
        refine RZ.call_zipT (show s1.heap.IsTuple a its.toArray from p1) (show s1.heap.IsTuple b its2.toArray from p2) fun h' hz hTI hTO h1 h2 hsz hk => wpAny_pyIter_zip hz ?_
        exact ⟨s1.heap.objs.size + 4, [s1.heap.objs.size + 4, s1.heap.objs.size + 2, s1.heap.objs.size + 3, s1.heap.objs.size, s1.heap.objs.size + 1], _, _, H1, rfl, I1.kept (t' := s1.toks) hk, RZ.turn_zipT (PySem.W.ktu_apart s1.heap.objs.size a b (Heap.lt_size ho1) (Heap.lt_size ho2)), ⟨hz, hTI, ⟨_, _, hTO⟩, h1, h2⟩, fun b hb => fresh5 hb, q⟩
      · obtain ⟨t, rfl⟩ := r
        obtain ⟨u, rfl⟩ := r'
        refine zip_begins2 (begins_text z t) (begins_text w u) trivial trivial fun h' hz hTI hTO h1 h2 hsz hk => wpAny_pyIter_zip hz ?_
        refine ⟨s1.heap.objs.size + 4, (s1.heap.objs.size + 4) :: (s1.heap.objs.size + 2) :: (s1.heap.objs.size + 3) :: ([s1.heap.objs.size] ++ [s1.heap.objs.size + 1]), _, _, H1, rfl, I1.kept (t' := s1.toks) hk, turn_zipS (x := z) (y := w) (t := t) (u := u) ?_, ⟨hz, hTI, ⟨_, _, hTO⟩, ⟨_, h1, rfl, rfl⟩, ⟨_, h2, rfl, rfl⟩⟩, fun b hb => fresh5 hb, q⟩
        constructor <;> simp <;> omega
section
variable {g : Gm} {r r' : RC} {s : S} {σ : Sg} {H : Hp}
theorem strItems_at {cs : Txt} {i : Nat} {d : D} (h : (strItems cs)[i]? = some d) : ∃ c, cs[i]? = some c ∧ d = .str [c] := by
  unfold strItems at h
  rw [List.getElem?_map] at h
  obtain ⟨c, e, q⟩ := Option.map_eq_some_iff.mp h
  exact ⟨c, e, q.symm⟩
theorem it_zipS (cs ds : Txt) : ItOk g r (ItzS (toStr cs) (toStr ds)) (zipped (strItems cs) (strItems ds)) where
  go := fun {r' s σ H i d} l R e => by
    have h := (List.getElem?_eq_some_iff.mp e).1
    rw [zipped_length] at h
    show i < min (toStr cs).cps.size (toStr ds).cps.size
    simpa [toStr, strItems] using h
  yld := fun {r' s σ H i d x H'} l R e y => by
    obtain ⟨T, c, d', e1, e2, e3, e4, e5⟩ := y
    subst e1 e3
    obtain ⟨x, y, k1, k2, rfl⟩ := zipped_at e
    obtain ⟨c1, m1, rfl⟩ := strItems_at k1
    obtain ⟨d1, m2, rfl⟩ := strItems_at k2
    have e4' : cs[i]? = some c := by simpa [toStr] using e4
    have e5' : ds[i]? = some d' := by simpa [toStr] using e5
    rw [m1] at e4'
    rw [m2] at e5'
    cases e4'
    cases e5'
    exact R.pair e2 ⟨rfl, by show 1 ≤ szL; decide⟩ ⟨rfl, by show 1 ≤ szL; decide⟩
  stop := fun {r' s σ H} l R => by
    show _ = min (toStr cs).cps.size (toStr ds).cps.size
    rw [zipped_length]
    simp [toStr, strItems]
theorem it_enumS (cs : Txt) : ItOk g r (IteS (toStr cs)) (numbered 0 (strItems cs)) where
  go := fun {r' s σ H i d} l R e => by
    have h := (List.getElem?_eq_some_iff.mp e).1
    rw [numbered_length] at h
    show i < (toStr cs).cps.size
    simpa [toStr, strItems] using h
  yld := fun {r' s σ H i d x H'} l R e y => by
    obtain ⟨T, c, e1, e2, e3, e4⟩ := y
    subst e1 e3
    rw [numbered_get] at e
    obtain ⟨x, k1, rfl⟩ := Option.map_eq_some_iff.mp e
    obtain ⟨c1, m1, rfl⟩ := strItems_at k1
    have e4' : cs[i]? = some c := by simpa [toStr] using e4
    rw [m1] at e4'
    cases e4'
    exact R.pair e2 (by show _ = _; rw [Int.zero_add]) ⟨rfl, by show 1 ≤ szL; decide⟩
  stop := fun {r' s σ H} l R => by
    show _ = (toStr cs).cps.size
    rw [numbered_length]
    simp [toStr, strItems]
end
end RS

/-! RsFn0: a def's promise where nothing is under way (so that repr is known). -/
namespace RS
open PySem PySem.Spec PyProof.Rows L2

structure FnG (P : Program) (w : World) (K : PySem.W.Frag) (mg : Str → Option Value) (base : Heap) (k : Nat) (f : Addr) (fd : FuncData) (ps : List Str) (sp : Sp) : Prop where
  len : ∀ vs H Q E, sp vs H Q E → vs.length = ps.length
  run : ∀ (A : Around) (outer : List Env) (s : Shared) (H : Hp) (args : Args) (us : List Value) (vs : List V) (Q : VK) (E : XK), A.guards = some [] → Room k A → Env0 P w K mg base A outer s H → BindsTo s fd args (ps.zip us) → Vals vs us → sp vs H Q E →
    codeAny (model P w) A (.call (.ref f) args) (CR (L2.CX P w) outer P w H s Q E) s
section
variable {X : Cx} {k : Nat} {f : Addr} {fd : FuncData} {ps : List Str} {sp : Sp} {E : Sg → XK} {x : Str} {p pos : Pos} {e : Expr} {es : List Expr} {t : TA}
theorem run_G {pins : List (Addr × Obj)} {σ : Sg} {H : Hp} {s : Shared} {Q : VK} {us : List Value} {vs : List V} (F : FnG X.prog X.w X.K X.mg X.base k f fd ps sp) (hq : X.A.guards = some []) (hr : Room k X.A) (hb : Binds X.K fd ps []) (hx : PassesAt (L2.CX X.prog X.w) X σ (E σ))
    (I : Inv X pins σ H s) (r : Vals vs us) (h : sp vs H Q (E σ)) : wpAny (model X.prog X.w) X.A (call (.ref f) us) (EP X pins σ Q) X.xe s := by
  have hl : us.length = ps.length := by rw [← r.length]; exact F.len _ _ _ _ h
  have b := hb s us I.kIn (by rw [List.append_nil]; exact hl)
  rw [List.append_nil] at b
  refine wpAny_call (codeAny_mono (F.run X.A X.stack s H ⟨us, []⟩ us vs Q (E σ) hq hr I.env0 b r h) fun r s' hz => ?_)
  match r, hz with
  | .error e, hz => exact hx pins H s e s' I hz
  | .ok (.ret u), hz => exact I.after hz
theorem pe_callG (F : FnG X.prog X.w X.K X.mg X.base k f fd ps sp) (hq : X.A.guards = some []) (hr : Room k X.A) (hg : Gl X x) (hm : X.mg x = some (.ref f)) (hk : PySem.W.keepIn X.K (.ref f) = true) (hb : Binds X.K fd ps []) (hx : ∀ σ, PassesAt (L2.CX X.prog X.w) X σ (E σ))
    (ha : PA X (e :: es) t) (hdb : (x == ("__debug__" : Str)) = false) (he : starEach (e :: es) X.env = (false, eval e X.env) :: starEach es X.env) (hpl : (backTo pos (starEach es X.env)).any (·.1) = false) :
    PE X (.Call (.Name x p) (e :: es) [] pos) (tCallS sp E t) :=
  ⟨fun pins s σ H Q I h => wpAny_Call_Name_kw (ld_glob I hg hm (PySem.W.callWith_K (h₀ := X.base) I.ok.mod.kin hk (thn (ha.run pos pins s σ H _ I h) fun us s1 ⟨vs, H1, I1, r, q⟩ => ⟨I1.kIn, run_G F hq hr hb (hx σ) I1 r q⟩) he hpl) hdb)⟩
end
section
variable {P : Program} {w : World} {K : PySem.W.Frag} {mg : Str → Option Value} {base : Heap}
theorem guards_deeper {A : Around} {env : Env} (h : A.guards = some []) : (A.deeper env).guards = some [] := by
  simp [Around.deeper, h]
/-- a def by its body -/
theorem _root_.L2.Fun.okG {x qual : Str} {st : Stmt} {f : Addr} {fd : FuncData} {N ps : List Str} {k : Nat} {sp : Sp} (F : Fun K x qual st f fd) (S : FnScope N ps (defScope st)) (len : ∀ vs H Q E, sp vs H Q E → vs.length = ps.length)
    (hbody : ∀ (cdv : Value) (A : Around) (outer : List Env) (s : Shared) (H : Hp) (vs : List V) (Q : VK) (E : XK), (A.deeper (envOfC qual (defScope st) s.heap.objs.size f cdv)).guards = some [] → Room k (A.deeper (envOfC qual (defScope st) s.heap.objs.size f cdv)) → sp vs H Q E →
      ∃ t, PSs (cxOf (L2.CX P w) P w K mg base N qual (defScope st) f cdv A outer s H E) (defBody st) t ∧ t { nx := fun _ H' => Q .non H', rt := Q } (start N vs) H) : FnG P w K mg base (k + 1) f fd ps sp := by
  obtain ⟨oc, od, kV, doc, pm, an, cdv, ct, osl, rfl, lk, hcd⟩ := F.ex
  refine ⟨len, fun A outer s H args us vs Q E hq hr e0 hb r hsp => ?_⟩
  have hl := len _ _ _ _ hsp
  have KX : K.In s.heap := e0.mod.kin.keeps fun b o e => (e0.bs b o e).1
  have lim : s.heap.NoLimit := e0.mod.nolimit.keeps fun b o e => (e0.bs b o e).1
  have hkind : ∀ y ∈ ps.zip us, (defScope st).names.lookup y.1 = some .local ∨ ((defScope st).names.lookup y.1 = some .cell ∧ ((cellsFrom (s.heap.objs.size + 1) (defScope st).names []).lookup y.1).isSome = true) := fun ⟨n, v⟩ hy =>
    (S.par n (List.of_mem_zip hy).1).imp id fun q => ⟨q, PySem.W.cellsFrom_some _ _ _ (.inl q)⟩
  refine codeAny_call_function hr.depth (KX _ _ lk) rfl S.co S.gen rfl (PySem.W.codeRec_of KX hcd) (hb _ _ _ _ ?_)
  refine wpAny_newFunctionEnv_cells S.kind hkind fun env he s1 x => ?_
  subst he
  refine ⟨lim.keeps x.toInCall.keep, codeAny_func ?_⟩
  obtain ⟨t, ht, hz⟩ := hbody cdv A outer s H vs Q E (guards_deeper hq) (hr.deeper _) hsp
  refine wpAny_mono (ht.run [] s1 (start N vs) H _ (inv_start S hr.hd e0 hl r x) hz) (fun fl s' hs => ?_) fun e s' hs => hs
  match fl, hs with
  | .ret u, ⟨v, σ', H', J, rv, q⟩ => exact ⟨v, H', J.os, J.bare, J.base, J.hok, rv, q⟩
  | .next, ⟨σ', H', J, q⟩ => exact ⟨.non, H', J.os, J.bare, J.base, J.hok, rfl, q⟩
  | .brk, ⟨_, _, _, q⟩ => exact q.elim
  | .cont, ⟨_, _, _, q⟩ => exact q.elim
end
end RS

/-! RsSnd1: each form of an expression, by its parts. -/
namespace RS
open PySem PySem.Spec PyProof.Rows L2

def blts : List String := ["len", "abs", "int", "str", "repr", "all", "any", "sum", "max", "min", "tuple", "isinstance", "sorted", "set", "list", "dict", "bool", "range", "enumerate", "zip"]
structure Okc (P : Prog) (n : Nat) (N : List Str) (sc : Scope) (X : Cx) (W : WX) : Prop where
  scq : X.env.scope = sc
  Nq : X.N = N
  nd : N.Nodup
  calm : X.calm = true
  gq : X.A.guards = some []
  room : Room n X.A
  tk : Takes X W
  fns : ∀ f fd, P.fns f = some fd → ∃ a fdt ps, X.mg (nm f) = some (.ref a) ∧ PySem.W.keepIn X.K (.ref a) = true ∧ Binds X.K fdt ps [] ∧ ps.length = fd.params ∧
    FnG X.prog X.w X.K X.mg X.base n a fdt ps (spF (gX X) (fnAt P n) f ps.length)
  glob : ∀ x d, P.glob x = some d → ∃ v u, X.mg (nm x) = some u ∧ RelV v u ∧ ∀ r, VR (gX X) r d v
  blt : ∀ x, x ∈ blts → X.mg (nm x) = none

section
variable {P : Prog} {n : Nat} {N : List Str} {sc : Scope} {X : Cx} {W : WX}
theorem Okc.gl (ok : Okc P n N sc X W) {x : Str} (h : RS.glob sc x = true) : Gl X x := by
  simp only [RS.glob, Bool.and_eq_true, beq_iff_eq] at h
  show X.env.scope.names.lookup x = _
  rw [ok.scq]
  exact h.1.1
theorem glob_dbg {x : Str} (h : glob sc x = true) : (x == ("__debug__" : Str)) = false := by
  simp only [RS.glob, Bool.and_eq_true, Bool.not_eq_true'] at h
  exact h.1.2
theorem glob_nm {x : Str} (h : glob sc x = true) : x ≠ "__name__" := by
  simp only [RS.glob, Bool.and_eq_true, Bool.not_eq_true'] at h
  intro e
  subst e
  exact absurd h.2 (by decide)
theorem Okc.vis (ok : Okc P n N sc X W) {i : Nat} {x : Str} (h : RS.vis N sc i x = true) : X.N[i]? = some x ∧ Vis X.env.scope x ∧ (x == ("__debug__" : Str)) = false ∧ (x == ("__classdict__" : Str)) = false := by
  simp only [RS.vis, Bool.and_eq_true, Bool.or_eq_true, beq_iff_eq, Bool.not_eq_true'] at h
  obtain ⟨⟨⟨h1, h2⟩, h3⟩, h4⟩ := h
  refine ⟨by rw [ok.Nq]; exact h1, ?_, h3, h4⟩
  unfold Vis
  rw [ok.scq]
  rcases h2 with (h2 | h2) | h2
  · exact .inl h2
  · exact .inr (.inl h2)
  · exact .inr (.inr h2)
theorem Okc.hu (ok : Okc P n N sc X W) : X.A.units + 64 < cLine := by
  have := ok.room.un
  omega
end

section
variable {X : Cx} {W : WX} {e a b c : Expr} {pos : Pos} {fa fb fc : S → Res D}
theorem _root_.L2.PE.ev {f f' : S → Res D} (h : PE X e (tE X W f)) (k : ∀ s, f' s = f s) : PE X e (tE X W f') := by
  rw [show f' = f from funext k]
  exact h
theorem _root_.L2.PT.ev {f f' : S → Res Bool} (h : PT X e (tT X W f)) (k : ∀ s, f' s = f s) : PT X e (tT X W f') := by
  rw [show f' = f from funext k]
  exact h
theorem _root_.L2.PW.ev {f f' : S → Res Bool} (h : PW X e (tT X W f)) (k : ∀ s, f' s = f s) : PW X e (tT X W f') := by
  rw [show f' = f from funext k]
  exact h
theorem snd_ok {d : D} {v : V} (hp : PE X e (tC v)) (hv : ∀ r, VR (gX X) r d v) : PE X e (tE X W (fun s => .ok d s)) :=
  hp.weak fun σ H Q ⟨r, s, R, h⟩ => h r v H (.refl r) R (VX.of (hv r))
def fVar (i : Nat) (s : S) : Res D := match s.env[i]? with
  | some (.val d) => .ok d s
  | some (.own _) => .ok (.loc i) s
  | some (.bor _) => .ok (.loc i) s
  | _ => .stuck
theorem snd_var {i : Nat} {x : Str} (hN : X.N[i]? = some x) (hv : Vis X.env.scope x) (hd : (x == ("__debug__" : Str)) = false) (hcd : (x == ("__classdict__" : Str)) = false) : PE X (.Name x pos) (tE X W (fVar i)) :=
  (pe_var hN hv hd hcd).weak fun σ H Q ⟨r, s, R, h⟩ => by
    unfold fVar at h
    split at h
    · rename_i d e
      obtain ⟨y, ey, v, e1, q⟩ := R.env i _ e
      subst e1
      exact ⟨v, ey, h r v H (.refl r) R (VX.of q)⟩
    · rename_i d e
      obtain ⟨y, ey, p, u, e1, q⟩ := R.env i _ e
      subst e1
      exact ⟨_, ey, h r _ H (.refl r) R ⟨p, rfl, ey⟩⟩
    · rename_i d e
      obtain ⟨y, ey, p, u, e1, q⟩ := R.env i _ e
      subst e1
      exact ⟨_, ey, h r _ H (.refl r) R ⟨p, rfl, ey⟩⟩
    · exact h.elim
theorem vw2 {g : Gm} {r : RC} {s : S} {σ : Sg} {H : Hp} {x y d : D} {v w : V} {f : D → D → Option D} (R : Rel g r s σ H) (hx : VX g r σ x v) (hy : VX g r σ y w) (h : ((vw x s).bind fun x => (vw y s).bind fun y => f x y) = some d) :
    ∃ x' y', CV g r H x' v ∧ CV g r H y' w ∧ f x' y' = some d := by
  obtain ⟨x', e1, h⟩ := Option.bind_eq_some_iff.mp h
  obtain ⟨y', e2, h⟩ := Option.bind_eq_some_iff.mp h
  exact ⟨x', y', R.vw hx e1, R.vw hy e2, h⟩
theorem ansE {r : RC} {s : S} {σ : Sg} {d : D} {Q : VK} (k : ∀ r' v H', r.le r' → Rel (gX X) r' s σ H' → VX (gX X) r' σ d v → Q v H') : Ans X r s σ d Q := fun r' v H' l R q => k r' v H' l R (VX.of q)
def f2 (fa fb : S → Res D) (f : D → D → Option D) (s : S) : Res D := (fa s).bind fun x s => (fb s).bind fun y s => lift ((vw x s).bind fun x => (vw y s).bind fun y => f x y) s
theorem t2_weak {f : D → D → Option D} {rel : R2} {σ : Sg} {H : Hp} {Q : VK} (hs : ∀ (r : RC) (s : S) (σ : Sg) (H : Hp) (x y d : D) (v1 v2 : V) (Q : VK), Rel (gX X) r s σ H → CV (gX X) r H x v1 → CV (gX X) r H y v2 → f x y = some d → Ans X r s σ d Q → rel v1 v2 H Q)
    (h : tE X W (f2 fa fb f) σ H Q) : tOp rel (tE X W fa) (tE X W fb) σ H Q := by
  obtain ⟨r, s, R, h⟩ := h
  refine tA_step (Rv := RE) R h fun r1 s1 x v H1 l1 R1 v1 e1 h1 => ?_
  refine tA_step (Rv := RE) R1 h1 fun r2 s2 y w H2 l2 R2 v2 e2 h2 => ?_
  obtain ⟨d, e3, k⟩ := lift_ok h2
  obtain ⟨x', y', c1, c2, e4⟩ := vw2 R2 (v1.mono l2) v2 e3
  exact hs r2 s2 σ H2 x' y' d v w Q R2 c1 c2 e4 (ansE k)
theorem snd_bin {o : Op2} {p : Operator} (hp : bop o = some p) (ha : PE X a (tE X W fa)) (hb : PE X b (tE X W fb)) : PE X (.BinOp a p b pos) (tE X W (f2 fa fb (op2 o))) := by
  obtain ⟨rel, h1, h2⟩ := bop_snd (X := X) hp
  exact (pe_op h1 ha hb).weak fun σ H Q h => t2_weak h2 h
theorem snd_cmp {o : Op2} {p : CmpOp} (hu : X.A.units + 64 < cLine) (hp : cop o = some p) (hm : behindInMarks p b = false) (ha : PE X a (tE X W fa)) (hb : PE X b (tE X W fb)) : PE X (.Compare a [p] [b] pos) (tE X W (f2 fa fb (op2 o))) := by
  obtain ⟨rel, h1, h2⟩ := cop_snd hu hp
  exact (pe_cmpR h1 ha hb hm).weak fun σ H Q h => t2_weak h2 h
def f1 (fa : S → Res D) (f : D → Option D) (s : S) : Res D := (fa s).bind fun x s => lift ((vw x s).bind fun x => f x) s
theorem t1_weak {f : D → Option D} {rel : V → Hp → VK → Prop} {σ : Sg} {H : Hp} {Q : VK} (hs : ∀ (r : RC) (s : S) (σ : Sg) (H : Hp) (x d : D) (v1 : V) (Q : VK), Rel (gX X) r s σ H → CV (gX X) r H x v1 → f x = some d → Ans X r s σ d Q → rel v1 H Q)
    (h : tE X W (f1 fa f) σ H Q) : tUn rel (tE X W fa) σ H Q := by
  obtain ⟨r, s, R, h⟩ := h
  refine tA_step (Rv := RE) R h fun r1 s1 x v H1 l1 R1 v1 e1 h1 => ?_
  obtain ⟨d, e3, k⟩ := lift_ok h1
  obtain ⟨x', e4, e5⟩ := Option.bind_eq_some_iff.mp e3
  exact hs r1 s1 σ H1 x' d v Q R1 (R1.vw v1 e4) e5 (ansE k)
theorem s_neg {r : RC} {s : S} {σ : Sg} {H : Hp} {x d : D} {v1 : V} {Q : VK} (R : Rel (gX X) r s σ H) (c : CV (gX X) r H x v1) (e : op1 .neg x = some d) (k : Ans X r s σ d Q) : rU (fun i => .int (-i)) v1 H Q := by
  cases x <;> simp only [op1, reduceCtorEq] at e
  cases e
  rename_i i
  have c : v1 = .int i := c
  subst c
  exact ⟨i, rfl, k.here R rfl⟩
theorem snd_neg (ha : PE X a (tE X W fa)) : PE X (.UnaryOp .USub a pos) (tE X W (f1 fa (op1 .neg))) :=
  (pe_un un_neg ha).weak fun σ H Q h => t1_weak (fun _ _ _ _ _ _ _ _ R c e k => s_neg R c e k) h
theorem snd_idx (hu : X.A.units + 64 < cLine) (hn : PlainIx b) (ha : PE X a (tE X W fa)) (hb : PE X b (tE X W fb)) : PE X (.Subscript a b pos) (tE X W (f2 fa fb idx)) :=
  (pe_ix (ix_all hu) ha hb hn).weak fun σ H Q h => t2_weak (fun _ _ _ _ _ _ _ _ _ _ R c1 c2 e k => s_idx R c1 c2 e k) h
theorem snd_rev {k : Nat} {p1 p2 p3 : Pos} (ha : PE X a (tE X W fa)) : PE X (.Subscript a (.Slice none none (some (.UnaryOp .USub (.Constant (.int 1) k p1) p2)) p3) pos) (tE X W (f1 fa revD)) :=
  (pe_revA ha).weak fun σ H Q h => t1_weak (rel := fun x H1 Q => (∃ a xs, x = .ref a ∧ H1 a = some (.lst xs) ∧ ∀ p, H1 p = none → Q (.ref p) (upd H1 p (.lst xs.reverse))) ∨ (∃ cs, x = .str (toStr cs) ∧ cs.length ≤ szL ∧ Q (.str (toStr cs.reverse)) H1)) (fun _ _ _ _ _ _ _ _ R c e k => s_rev R c e k) h
end
end RS

/-! RsSnd2: tests, and, or, chains, slices, displays, lists of arguments. -/
namespace RS
open PySem PySem.Spec PyProof.Rows L2

section
variable {X : Cx} {W : WX} {e a b c : Expr} {pos : Pos} {fa fb fc : S → Res D} {ga gb : S → Res Bool}
theorem vx_bl {g : Gm} {r : RC} {σ : Sg} {k : Bool} {v : V} (h : VX g r σ (.bl k) v) : v = .bl k := h
theorem vx_int {g : Gm} {r : RC} {σ : Sg} {k : Int} {v : V} (h : VX g r σ (.int k) v) : v = .int k := h

/-! ### tests -/
def fTru (fa : S → Res D) (s : S) : Res Bool := (fa s).bind fun x s => lift ((vw x s).bind D.truth) s
theorem toStr_len0 (cs : Txt) : (((toStr cs).length : Int) != 0) = !cs.isEmpty := by
  rw [toStr_len]
  cases cs with
  | nil => rfl
  | cons c r =>
    simp only [List.length_cons, List.isEmpty_cons, Bool.not_false, bne_iff_ne, ne_eq]
    omega
theorem VRs.isEmpty {g : Gm} {r : RC} {ds : List D} {xs : List V} (h : VRs g r ds xs) : ds.isEmpty = xs.isEmpty := by
  have := h.length
  cases ds <;> cases xs <;> simp_all
theorem tru_cv {r : RC} {H : Hp} {d : D} {v : V} {k : Bool} (c : CV (gX X) r H d v) (h : D.truth d = some k) : TruV X.K v H k := by
  cases d <;> simp only [D.truth, reduceCtorEq, Option.some.injEq] at h
  case non =>
    have c : v = .non := c
    subst c h
    exact rfl
  case bl b =>
    have c : v = .bl b := c
    subst c h
    exact rfl
  case int i =>
    have c : v = .int i := c
    subst c h
    exact rfl
  case str cs =>
    obtain ⟨rfl, l⟩ := c
    subst h
    exact ⟨by rw [toStr_len, lineEq]; exact l, (toStr_len0 cs).symm⟩
  case tup ds =>
    obtain ⟨p, xs, rfl, e, l, q⟩ := c
    subst h
    exact .inr (.inl ⟨xs, .inl (.inl e), by rw [q.isEmpty]⟩)
  case lst ds =>
    obtain ⟨p, xs, rfl, e, l, q⟩ := c
    subst h
    exact .inl ⟨xs, .inl (.inl e), by rw [q.isEmpty]⟩
theorem snd_plainT (hp : plainT a = true) (ha : PE X a (tE X W fa)) : PT X a (tT X W (fTru fa)) := by
  refine (pt_truth ha (fun whole => ?_)).weak fun σ H Q h => ?_
  · cases a
    case UnaryOp o x p => cases o <;> first | rfl | cases hp
    all_goals first | rfl | cases hp
  · obtain ⟨r, s, R, h⟩ := h
    refine tA_step (Rv := RE) R h fun r1 s1 x v H1 l1 R1 v1 e1 h1 => ?_
    obtain ⟨k, e3, kk⟩ := lift_ok h1
    obtain ⟨x', e4, e5⟩ := Option.bind_eq_some_iff.mp e3
    exact ⟨k, tru_cv (R1.vw v1 e4) e5, kk r1 k H1 (.refl _) R1 rfl⟩
theorem cop_bl {o : Op2} {p : CmpOp} (hp : cop o = some p) {x y d : D} (h : op2 o x y = some d) : ∃ k, d = .bl k := by
  cases o <;> simp only [cop, reduceCtorEq] at hp <;> simp only [op2, Option.map_eq_some_iff] at h
  all_goals first
    | (obtain ⟨k, _, rfl⟩ := h; exact ⟨_, rfl⟩)
    | (split at h <;> first | (cases h; exact ⟨_, rfl⟩) | cases h)
theorem f2_res {f : D → D → Option D} {s s' : S} {d : D} (h : f2 fa fb f s = .ok d s') : ∃ x y, f x y = some d := by
  unfold f2 at h
  cases h1 : fa s with
  | ok x s1 =>
    rw [h1] at h
    simp only [Res.bind] at h
    cases h2 : fb s1 with
    | ok y s2 =>
      rw [h2] at h
      simp only [Res.bind] at h
      cases h3 : (vw x s2).bind fun x => (vw y s2).bind fun y => f x y with
      | some d' =>
        rw [h3] at h
        simp only [lift] at h
        cases h
        obtain ⟨x', _, h3⟩ := Option.bind_eq_some_iff.mp h3
        obtain ⟨y', _, h3⟩ := Option.bind_eq_some_iff.mp h3
        exact ⟨x', y', h3⟩
      | none => rw [h3] at h; cases h
    | exc x s => rw [h2] at h; cases h
    | stuck => rw [h2] at h; cases h
  | exc x s => rw [h1] at h; cases h
  | stuck => rw [h1] at h; cases h
/-- a value's truth, of a value that is a bool -/
theorem tB_weak {f : S → Res D} {σ : Sg} {H : Hp} {Q : Bool → Hp → Prop} (hb : ∀ s d s', f s = .ok d s' → ∃ k, d = .bl k) (h : tT X W (fTru f) σ H Q) : tE X W f σ H fun x H1 => ∃ k, x = .bl k ∧ Q k H1 := by
  obtain ⟨r, s, R, h⟩ := h
  refine tA_step (Rv := RE) R h fun r1 s1 x v H1 l1 R1 v1 e1 h1 => ?_
  obtain ⟨k, rfl⟩ := hb _ _ _ e1
  exact ⟨k, v1, h1 r1 k H1 (.refl _) R1 rfl⟩
theorem snd_tcmp {o : Op2} {p : CmpOp} (hu : X.A.units + 64 < cLine) (hp : cop o = some p) (hm : behindInMarks p b = false) (ha : PE X a (tE X W fa)) (hb : PE X b (tE X W fb)) : PT X (.Compare a [p] [b] pos) (tT X W (fTru (f2 fa fb (op2 o)))) := by
  obtain ⟨rel, h1, h2⟩ := cop_snd hu hp
  refine (pt_cmpR h1 ha hb hm).weak fun σ H Q h => ?_
  exact t2_weak h2 (tB_weak (fun s d s' e => let ⟨x, y, e⟩ := f2_res e; cop_bl hp e) h)
/-! ### chains -/
def fChain (o1 o2 : Op2) (fa fb fc : S → Res D) (s : S) : Res D := (fa s).bind fun x s => (fb s).bind fun y s => (lift ((vw x s).bind fun x => (vw y s).bind fun y => op2 o1 x y) s).bind fun r s => match r with
    | .bl true => (fc s).bind fun z s => lift ((vw y s).bind fun y => (vw z s).bind fun z => op2 o2 y z) s
    | .bl false => .ok (.bl false) s
    | _ => .stuck
theorem lift_bind {α β γ : Type} {Rv : RC → β → γ → Prop} {g : Gm} {r : RC} {σ : Sg} {o : Option α} {s : S} {f : α → S → Res β} {Q : γ → Hp → Prop} (h : PA1 Rv g W r σ ((lift o s).bind f) Q) : ∃ a, o = some a ∧ PA1 Rv g W r σ (f a s) Q := by
  cases o with
  | none => exact h.elim
  | some a => exact ⟨a, rfl, h⟩
theorem chain_weak {o1 o2 : Op2} {r1 r2 : R2} (h1 : Op2S X o1 r1) (h2 : Op2S X o2 r2) {σ : Sg} {H : Hp} {Q : VK} (h : tE X W (fChain o1 o2 fa fb fc) σ H Q) : tChain r1 r2 (tE X W fa) (tE X W fb) (tE X W fc) σ H Q := by
  obtain ⟨r, s, R, h⟩ := h
  refine tA_step (Rv := RE) R h fun ra sa x v Ha la Ra va ea h => ?_
  refine tA_step (Rv := RE) Ra h fun rb sb y w Hb lb Rb vb eb h => ?_
  obtain ⟨d, e3, h⟩ := lift_bind h
  obtain ⟨x', y', c1, c2, e4⟩ := vw2 Rb (va.mono lb) vb e3
  refine h1 rb sb σ Hb x' y' d v w _ Rb c1 c2 e4 fun r' u H' l' R' q => ?_
  split at h
  · have q : u = .bl true := q
    subst q
    refine ⟨true, rfl, ?_⟩
    rw [if_pos rfl]
    have h := PA1.up h l'
    refine tA_step (Rv := RE) R' h fun rc sc z w' Hc lc Rc vc ec h => ?_
    obtain ⟨d2, e5, k⟩ := lift_ok h
    obtain ⟨y2, z2, c3, c4, e6⟩ := vw2 Rc ((vb.mono l').mono lc) vc e5
    exact h2 rc sc σ Hc y2 z2 d2 w w' Q Rc c3 c4 e6 (ansE k)
  · have q : u = .bl false := q
    subst q
    refine ⟨false, rfl, ?_⟩
    rw [if_neg Bool.false_ne_true]
    exact h r' _ H' l' R' rfl
  · exact h.elim
theorem lastMarks_nice {p q : CmpOp} (hc : nice c = true) : lastMarks [p, q] [b, c] = false := by
  show lastMarks [q] [c] = false
  exact nice_mark hc q
theorem snd_chain {o1 o2 : Op2} {p1 p2 : CmpOp} (hu : X.A.units + 64 < cLine) (hp : cop o1 = some p1) (hq : cop o2 = some p2) (hm : nice c = true) (ha : PE X a (tE X W fa)) (hb : PE X b (tE X W fb)) (hc : PE X c (tE X W fc)) :
    PE X (.Compare a [p1, p2] [b, c] pos) (tE X W (fChain o1 o2 fa fb fc)) := by
  obtain ⟨r1, k1, k2⟩ := cop_snd hu hp
  obtain ⟨r2, k3, k4⟩ := cop_snd hu hq
  exact (pe_chain k1 k3 ha hb hc (lastMarks_nice hm)).weak fun σ H Q h => chain_weak k2 k4 h
theorem chain_bl {o1 o2 : Op2} {p2 : CmpOp} (hq : cop o2 = some p2) {s s' : S} {d : D} (h : fChain o1 o2 fa fb fc s = .ok d s') : ∃ k, d = .bl k := by
  unfold fChain at h
  cases h1 : fa s with
  | exc x s => rw [h1] at h; cases h
  | stuck => rw [h1] at h; cases h
  | ok x s1 =>
    rw [h1] at h
    simp only [Res.bind] at h
    cases h2 : fb s1 with
    | exc x s => rw [h2] at h; cases h
    | stuck => rw [h2] at h; cases h
    | ok y s2 =>
      rw [h2] at h
      simp only [Res.bind] at h
      cases h3 : (vw x s2).bind fun x => (vw y s2).bind fun y => op2 o1 x y with
      | none => rw [h3] at h; cases h
      | some d' =>
        rw [h3] at h
        simp only [lift, Res.bind] at h
        split at h
        · cases h4 : fc s2 with
          | exc x s => rw [h4] at h; cases h
          | stuck => rw [h4] at h; cases h
          | ok z s3 =>
            rw [h4] at h
            simp only [Res.bind] at h
            cases h5 : (vw y s3).bind fun y => (vw z s3).bind fun z => op2 o2 y z with
            | none => rw [h5] at h; cases h
            | some d2 =>
              rw [h5] at h
              simp only [lift] at h
              cases h
              obtain ⟨y', _, h5⟩ := Option.bind_eq_some_iff.mp h5
              obtain ⟨z', _, h5⟩ := Option.bind_eq_some_iff.mp h5
              exact cop_bl hq h5
        · cases h
          exact ⟨_, rfl⟩
        · cases h
theorem snd_tchain {o1 o2 : Op2} {p1 p2 : CmpOp} (hu : X.A.units + 64 < cLine) (hp : cop o1 = some p1) (hq : cop o2 = some p2) (hm : nice c = true) (ha : PE X a (tE X W fa)) (hb : PE X b (tE X W fb)) (hc : PE X c (tE X W fc)) :
    PT X (.Compare a [p1, p2] [b, c] pos) (tT X W (fTru (fChain o1 o2 fa fb fc))) := by
  obtain ⟨r1, k1, k2⟩ := cop_snd hu hp
  obtain ⟨r2, k3, k4⟩ := cop_snd hu hq
  exact (pt_chain k1 k3 ha hb hc (lastMarks_nice hm)).weak fun σ H Q h => chain_weak k2 k4 (tB_weak (fun s d s' e => chain_bl hq e) h)
/-! ### and, or, not, if -/
def fAnd (fa fb : S → Res D) (s : S) : Res D := (fa s).bind fun x s => match x with
    | .bl true => fb s
    | .bl false => .ok (.bl false) s
    | _ => .stuck
def fOr (fa fb : S → Res D) (s : S) : Res D := (fa s).bind fun x s => match x with
    | .bl true => .ok (.bl true) s
    | .bl false => fb s
    | _ => .stuck
def fNot (fa : S → Res D) (s : S) : Res D := (fa s).bind fun x s => match x with
    | .bl b => .ok (.bl (!b)) s
    | _ => .stuck
theorem snd_and {rest : List Expr} (ha : PE X a (tE X W fa)) (hb : PE X (.BoolOp .And (b :: rest) pos) (tE X W fb)) : PE X (.BoolOp .And (a :: b :: rest) pos) (tE X W (fAnd fa fb)) :=
  (pe_and ha hb).weak fun σ H Q ⟨r, s, R, h⟩ => by
    refine tA_step (Rv := RE) R h fun ra sa x v Ha la Ra va ea h => ?_
    split at h
    · exact ⟨true, va, by rw [if_pos rfl]; exact ⟨ra, sa, Ra, h⟩⟩
    · exact ⟨false, va, by rw [if_neg Bool.false_ne_true]; exact h ra _ Ha (.refl _) Ra rfl⟩
    · exact h.elim
theorem snd_or {rest : List Expr} (ha : PE X a (tE X W fa)) (hb : PE X (.BoolOp .Or (b :: rest) pos) (tE X W fb)) : PE X (.BoolOp .Or (a :: b :: rest) pos) (tE X W (fOr fa fb)) :=
  (pe_or ha hb).weak fun σ H Q ⟨r, s, R, h⟩ => by
    refine tA_step (Rv := RE) R h fun ra sa x v Ha la Ra va ea h => ?_
    split at h
    · exact ⟨true, va, by rw [if_pos rfl]; exact h ra _ Ha (.refl _) Ra rfl⟩
    · exact ⟨false, va, by rw [if_neg Bool.false_ne_true]; exact ⟨ra, sa, Ra, h⟩⟩
    · exact h.elim
theorem snd_not (ha : PE X a (tE X W fa)) : PE X (.UnaryOp .Not a pos) (tE X W (fNot fa)) :=
  (pe_not ha).weak fun σ H Q ⟨r, s, R, h⟩ => by
    refine tA_step (Rv := RE) R h fun ra sa x v Ha la Ra va ea h => ?_
    split at h
    · rename_i k
      exact ⟨k, va, h ra _ Ha (.refl _) Ra rfl⟩
    · exact h.elim
def fAndT (ga gb : S → Res Bool) (s : S) : Res Bool := (ga s).bind fun t s => if t then gb s else .ok false s
def fOrT (ga gb : S → Res Bool) (s : S) : Res Bool := (ga s).bind fun t s => if t then .ok true s else gb s
def fNotT (ga : S → Res Bool) (s : S) : Res Bool := (ga s).bind fun t s => .ok (!t) s
theorem snd_tand {rest : List Expr} (ha : PT X a (tT X W ga)) (hb : PW X (.BoolOp .And (b :: rest) pos) (tT X W gb)) : PW X (.BoolOp .And (a :: b :: rest) pos) (tT X W (fAndT ga gb)) :=
  (pw_and ha hb).weak fun σ H Q ⟨r, s, R, h⟩ => by
    refine tA_step (Rv := RB) R h fun ra sa x v Ha la Ra va ea h => ?_
    have va : x = v := va
    subst va
    cases x with
    | true => rw [if_pos rfl] at h ⊢; exact ⟨ra, sa, Ra, h⟩
    | false => rw [if_neg Bool.false_ne_true] at h ⊢; exact h ra _ Ha (.refl _) Ra rfl
theorem snd_tor {rest : List Expr} (ha : PT X a (tT X W ga)) (hb : PW X (.BoolOp .Or (b :: rest) pos) (tT X W gb)) : PW X (.BoolOp .Or (a :: b :: rest) pos) (tT X W (fOrT ga gb)) :=
  (pw_or ha hb).weak fun σ H Q ⟨r, s, R, h⟩ => by
    refine tA_step (Rv := RB) R h fun ra sa x v Ha la Ra va ea h => ?_
    have va : x = v := va
    subst va
    cases x with
    | true => rw [if_pos rfl] at h ⊢; exact h ra _ Ha (.refl _) Ra rfl
    | false => rw [if_neg Bool.false_ne_true] at h ⊢; exact ⟨ra, sa, Ra, h⟩
theorem snd_tnot (ha : PT X a (tT X W ga)) : PT X (.UnaryOp .Not a pos) (tT X W (fNotT ga)) :=
  (pt_not ha).weak fun σ H Q ⟨r, s, R, h⟩ => by
    refine tA_step (Rv := RB) R h fun ra sa x v Ha la Ra va ea h => ?_
    have va : x = v := va
    subst va
    exact h ra _ Ha (.refl _) Ra rfl
def fIte (ga : S → Res Bool) (fa fb : S → Res D) (s : S) : Res D := (ga s).bind fun t s => if t then fa s else fb s
theorem snd_ite (hc : PT X c (tT X W ga)) (ha : PE X a (tE X W fa)) (hb : PE X b (tE X W fb)) : PE X (.IfExp c a b pos) (tE X W (fIte ga fa fb)) :=
  (pe_ifExp hc ha hb).weak fun σ H Q ⟨r, s, R, h⟩ => by
    refine tA_step (Rv := RB) R h fun ra sa x v Ha la Ra va ea h => ?_
    have va : x = v := va
    subst va
    cases x with
    | true => rw [if_pos rfl] at h ⊢; exact ⟨ra, sa, Ra, h⟩
    | false => rw [if_neg Bool.false_ne_true] at h ⊢; exact ⟨ra, sa, Ra, h⟩
/-! ### slices -/
abbrev RO : Gm → Sg → RC → Option Int → Option Int → Prop := fun _ _ _ a b => a = b
abbrev tO (X : Cx) (W : WX) (f : S → Res (Option Int)) : TO := tA RO X W f
theorem snd_o_none : PO X none (tO X W (fun s => .ok none s)) :=
  ⟨fun pins s σ H Q I ⟨r, s0, R, h⟩ => po_none.run pins s σ H Q I (h r none H (.refl _) R rfl)⟩
def fPart (fa : S → Res D) (s : S) : Res (Option Int) := (fa s).bind fun d s => match d with
    | .int i => .ok (some i) s
    | _ => .stuck
theorem snd_o_some (ha : PE X a (tE X W fa)) : PO X (some a) (tO X W (fPart fa)) :=
  ⟨fun pins s σ H Q I ⟨r, s0, R, h⟩ => (po_some ha).run pins s σ H Q I (by
    refine tA_step (Rv := RE) R h fun ra sa x v Ha la Ra va ea h => ?_
    split at h
    · rename_i i
      exact ⟨i, va, h ra _ Ha (.refl _) Ra rfl⟩
    · exact h.elim)⟩
def fSlc (fa : S → Res D) (fl fh : S → Res (Option Int)) (s : S) : Res D := (fa s).bind fun x s => (fl s).bind fun l s => (fh s).bind fun h s => lift ((vw x s).bind fun x => slc x l h) s
theorem snd_slc {lo hi : Option Expr} {p2 : Pos} {fl fh : S → Res (Option Int)} (ha : PE X a (tE X W fa)) (hl : PO X lo (tO X W fl)) (hh : PO X hi (tO X W fh)) : PE X (.Subscript a (.Slice lo hi none p2) pos) (tE X W (fSlc fa fl fh)) :=
  (pe_slice sl_all ha hl hh).weak fun σ H Q ⟨r, s, R, h⟩ => by
    refine tA_step (Rv := RE) R h fun ra sa x v Ha la Ra va ea h => ?_
    refine tA_step (Rv := RO) Ra h fun rb sb l l' Hb lb Rb vb eb h => ?_
    refine tA_step (Rv := RO) Rb h fun rc sc u u' Hc lc Rc vc ec h => ?_
    have vb : l = l' := vb
    have vc : u = u' := vc
    subst vb vc
    obtain ⟨d, e3, k⟩ := lift_ok h
    obtain ⟨x', e4, e5⟩ := Option.bind_eq_some_iff.mp e3
    exact s_slc Rc (Rc.vw ((va.mono lb).mono lc) e4) e5 (ansE k)
end

/-! ### lists of expressions -/
section
variable {X : Cx} {W : WX} {e : Expr} {es : List Expr} {fa : S → Res D} {fr : S → Res (List D)}
theorem esc_step {γ δ : Type} {Ru : RC → γ → δ → Prop} {g : Gm} {r : RC} {σ : Sg} {s : S} {H : Hp} {d : D} {v : V} {f : D → S → Res γ} {Q : δ → Hp → Prop} (h : PA1 Ru g W r σ ((esc d s).bind f) Q) (R : Rel g r s σ H) (q : VX g r σ d v) :
    ∃ r' d' s', r.le r' ∧ Rel g r' s' σ H ∧ VR g r' d' v ∧ esc d s = .ok d' s' ∧ PA1 Ru g W r' σ (f d' s') Q := by
  cases e : esc d s with
  | stuck => rw [e] at h; exact h.elim
  | exc x s' => exact (esc_noexc e).elim
  | ok d' s' =>
    rw [e] at h
    obtain ⟨r', l, R', q'⟩ := R.esc q e
    exact ⟨r', d', s', l, R', q', rfl, PA1.up h l⟩
theorem VXs.cons {g : Gm} {r : RC} {σ : Sg} {d : D} {ds : List D} {v : V} {xs : List V} (a : VX g r σ d v) (b : VXs g r σ ds xs) : VXs g r σ (d :: ds) (v :: xs) := ⟨v, xs, rfl, a, b⟩
def fCons (fa : S → Res D) (fr : S → Res (List D)) (s : S) : Res (List D) := (fa s).bind fun d s => (fr s).bind fun ds s => .ok (d :: ds) s
def fConsX (fa : S → Res D) (fr : S → Res (List D)) (s : S) : Res (List D) := (fa s).bind fun d s => (esc d s).bind fun d s => (fr s).bind fun ds s => .ok (d :: ds) s
theorem snd_nil : PA X [] (tXs X W (fun s => .ok [] s)) := pa_nil.weak fun σ H Q ⟨r, s, R, h⟩ => h r [] H (.refl _) R rfl
theorem snd_cons (hn : nice e = true) (ha : PE X e (tE X W fa)) (hr : PA X es (tXs X W fr)) : PA X (e :: es) (tXs X W (fCons fa fr)) :=
  (pa_cons ha hr (nice_star hn es _)).weak fun σ H Q ⟨r, s, R, h⟩ => by
    refine tA_step (Rv := RE) R h fun ra sa x v Ha la Ra va ea h => ?_
    refine tA_step (Rv := RXs) Ra h fun rb sb xs vs Hb lb Rb vb eb h => ?_
    exact h rb _ Hb (.refl _) Rb (VXs.cons (va.mono lb) vb)
theorem snd_nilX : PA X [] (tVs X W (fun s => .ok [] s)) := pa_nil.weak fun σ H Q ⟨r, s, R, h⟩ => h r [] H (.refl _) R rfl
theorem snd_consX (hn : nice e = true) (ha : PE X e (tE X W fa)) (hr : PA X es (tVs X W fr)) : PA X (e :: es) (tVs X W (fConsX fa fr)) :=
  (pa_cons ha hr (nice_star hn es _)).weak fun σ H Q ⟨r, s, R, h⟩ => by
    refine tA_step (Rv := RE) R h fun ra sa x v Ha la Ra va ea h => ?_
    obtain ⟨r', d', s', l', R', q', _, h⟩ := esc_step h Ra va
    refine tA_step (Rv := RVs) R' h fun rb sb xs vs Hb lb Rb vb eb h => ?_
    exact h rb _ Hb (.refl _) Rb (VRs.cons (q'.mono lb) vb)
/-- handed to a def -/
abbrev RAv : Gm → Sg → RC → List AV → List V → Prop := fun g σ r d v => AVs g r σ d v
abbrev tAv (X : Cx) (W : WX) (f : S → Res (List AV)) : TA := tA RAv X W f
def fConsA (fa : S → Res D) (fr : S → Res (List AV)) (s : S) : Res (List AV) := (fa s).bind fun d s => (esc d s).bind fun d s => (fr s).bind fun ds s => .ok (.val d :: ds) s
def fIoA (i : Nat) (fr : S → Res (List AV)) (s : S) : Res (List AV) := match s.env[i]? with
    | some (.own _) => (fr s).bind fun ds s => .ok (.io i :: ds) s
    | some (.bor _) => (fr s).bind fun ds s => .ok (.io i :: ds) s
    | _ => .stuck
theorem snd_nilA : PA X [] (tAv X W (fun s => .ok [] s)) := pa_nil.weak fun σ H Q ⟨r, s, R, h⟩ => h r [] H (.refl _) R rfl
theorem snd_consA {fr : S → Res (List AV)} (hn : nice e = true) (ha : PE X e (tE X W fa)) (hr : PA X es (tAv X W fr)) : PA X (e :: es) (tAv X W (fConsA fa fr)) :=
  (pa_cons ha hr (nice_star hn es _)).weak fun σ H Q ⟨r, s, R, h⟩ => by
    refine tA_step (Rv := RE) R h fun ra sa x v Ha la Ra va ea h => ?_
    obtain ⟨r', d', s', l', R', q', _, h⟩ := esc_step h Ra va
    refine tA_step (Rv := RAv) R' h fun rb sb xs vs Hb lb Rb vb eb h => ?_
    exact h rb _ Hb (.refl _) Rb ⟨v, vs, rfl, q'.mono lb, vb⟩
theorem snd_ioA {fr : S → Res (List AV)} {i : Nat} {x : Str} {pos : Pos} (hN : X.N[i]? = some x) (hv : Vis X.env.scope x) (hd : (x == ("__debug__" : Str)) = false) (hcd : (x == ("__classdict__" : Str)) = false) (hr : PA X es (tAv X W fr)) : PA X (.Name x pos :: es) (tAv X W (fIoA i fr)) :=
  (pa_cons (pe_var hN hv hd hcd) hr (nice_star rfl es _)).weak fun σ H Q ⟨r, s, R, h⟩ => by
    have key : ∀ {y : Slot} {Qf : List AV → S → Res (List AV)}, s.env[i]? = some y → y.isOb → ∃ p, σ[i]? = some (some (.ref p)) := fun {y Qf} e ob => by
      obtain ⟨z, ez, q⟩ := R.env i _ e
      cases y with
      | un => cases ob
      | val _ => cases ob
      | own _ => obtain ⟨p, u, e1, _⟩ := q; exact ⟨p, by rw [ez, e1]⟩
      | bor _ => obtain ⟨p, u, e1, _⟩ := q; exact ⟨p, by rw [ez, e1]⟩
    unfold fIoA at h
    split at h
    · rename_i o eo
      obtain ⟨p, ep⟩ := key (Qf := fun _ _ => .stuck) eo trivial
      refine ⟨_, ep, ?_⟩
      refine tA_step (Rv := RAv) R h fun rb sb xs vs Hb lb Rb vb eb h => ?_
      exact h rb _ Hb (.refl _) Rb ⟨_, vs, rfl, ⟨p, rfl, ep⟩, vb⟩
    · rename_i o eo
      obtain ⟨p, ep⟩ := key (Qf := fun _ _ => .stuck) eo trivial
      refine ⟨_, ep, ?_⟩
      refine tA_step (Rv := RAv) R h fun rb sb xs vs Hb lb Rb vb eb h => ?_
      exact h rb _ Hb (.refl _) Rb ⟨_, vs, rfl, ⟨p, rfl, ep⟩, vb⟩
    · exact h.elim

/-! ### displays -/
def fTup (fr : S → Res (List D)) (s : S) : Res D := (fr s).bind fun ds s => if D.fit ds.length then .ok (.tup ds) s else .stuck
def fLst (fr : S → Res (List D)) (s : S) : Res Ob := (fr s).bind fun ds s => if D.fit ds.length then .ok (.lst ds) s else .stuck
theorem snd_tup {x1 : Nat} {pos : Pos} (hr : PA X es (tVs X W fr)) : PE X (.Tuple es x1 pos) (tE X W (fTup fr)) :=
  (pe_tup hr).weak fun σ H Q ⟨r, s, R, h⟩ => by
    refine tA_step (Rv := RVs) R h fun rb sb ds vs Hb lb Rb vb eb h => ?_
    split at h
    · rename_i hf
      have hl := fit_le hf
      have hv : VRs (gX X) rb ds vs := vb
      refine ⟨by rw [← hv.length, lineEq]; exact hl, fun p hp => ?_⟩
      exact Ans.tup (X := X) (ds := ds) (fun r' v H' l R q => h r' v H' l R (VX.of q)) Rb hv hl hp
    · exact h.elim
theorem PF1.up {g : Gm} {r r' : RC} {σ : Sg} {m : Res Ob} {Q : VK} (h : PF1 g W r σ m Q) (k : r.le r') : PF1 g W r' σ m Q := by
  cases m with
  | ok a s' => exact fun r2 p u H h2 => h r2 p u H (k.trans h2)
  | exc x s' => exact PX.up h k
  | stuck => exact h
theorem tF_step {α β : Type} {Rv : Gm → Sg → RC → α → β → Prop} {m : S → Res α} {f : α → S → Res Ob} {r : RC} {s : S} {σ : Sg} {H : Hp} {Q : VK} {Q' : β → Hp → Prop}
    (R : Rel (gX X) r s σ H) (h : PF1 (gX X) W r σ ((m s).bind f) Q)
    (k : ∀ r1 s1 a b H1, r.le r1 → Rel (gX X) r1 s1 σ H1 → Rv (gX X) σ r1 a b → m s = .ok a s1 → PF1 (gX X) W r1 σ (f a s1) Q → Q' b H1) : tA Rv X W m σ H Q' := by
  refine ⟨r, s, R, ?_⟩
  cases e : m s with
  | stuck => rw [e] at h; exact h.elim
  | exc x s' => rw [e] at h; exact h
  | ok a s' =>
    rw [e] at h
    exact fun r1 b H1 l R1 q => k r1 s' a b H1 l R1 q e (PF1.up h l)
theorem snd_lst {pos : Pos} (hr : PA X es (tVs X W fr)) : PE X (.List es pos) (tF X W (fLst fr)) :=
  (pe_lst hr).weak fun σ H Q ⟨r, s, R, h⟩ => by
    refine tF_step (Rv := RVs) R h fun rb sb ds vs Hb lb Rb vb eb h => ?_
    split at h
    · rename_i hf
      have hl := fit_le hf
      have hv : VRs (gX X) rb ds vs := vb
      exact ⟨by rw [← hv.length, lineEq]; exact hl, fun p hp => h rb p _ Hb (.refl _) Rb hp ⟨vs, rfl, hl, hv⟩⟩
    · exact h.elim
theorem snd_dct {pos : Pos} (t : Bool) : PE X (.Dict [] [] pos) (tF X W (fun s => .ok (.dct t [] []) s)) := by
  cases t with
  | false => exact pe_dnewK.weak fun σ H Q ⟨r, s, R, h⟩ p hp => h r p _ H (.refl _) R hp ⟨[], .inl ⟨rfl, [], rfl, rfl, rfl, fun p hp => by cases hp⟩, Nat.zero_le _, rfl⟩
  | true => exact pe_dnewT.weak fun σ H Q ⟨r, s, R, h⟩ p hp => h r p _ H (.refl _) R hp ⟨[], .inr ⟨rfl, [], rfl, rfl, rfl, fun p hp => by cases hp⟩, Nat.zero_le _, rfl⟩
/-- a new object as a value: it is changed no more -/
def fFr (ff : S → Res Ob) (s : S) : Res D := (ff s).bind fun o s => lift o.frz s
theorem frz_fresh {g : Gm} {r : RC} {s : S} {σ : Sg} {H : Hp} {o : Ob} {d : D} {p : Addr} {u : HO} (R : Rel g r s σ H) (hp : H p = none) (ho : OR g r o u) (hf : o.frz = some d) : ∃ r', r.le r' ∧ Rel g r' s σ (upd H p u) ∧ VR g r' d (.ref p) := by
  obtain ⟨R', l'⟩ := R.fresh hp u
  refine ⟨_, l', R', ?_⟩
  cases o with
  | lst ds =>
    cases hf
    obtain ⟨xs, e', l, q⟩ := ho
    subst e'
    exact ⟨p, xs, rfl, upd_same, l, VRs.mono l' q⟩
  | dct t ks vs =>
    cases hf
    obtain ⟨ws, q, l, z⟩ := ho
    exact ⟨p, u, ws, rfl, .inl upd_same, q, l, VRs.mono l' z⟩
  | ins _ _ => cases hf
theorem fr_weak {ff : S → Res Ob} {σ : Sg} {H : Hp} {Q : VK} (h : tE X W (fFr ff) σ H Q) : tF X W ff σ H Q := by
  obtain ⟨r, s, R, h⟩ := h
  refine ⟨r, s, R, ?_⟩
  unfold fFr at h
  cases e : ff s with
  | stuck => rw [e] at h; exact h.elim
  | exc x s' => rw [e] at h; exact h
  | ok o s' =>
    rw [e] at h
    obtain ⟨d, hf, k⟩ := lift_ok h
    intro r1 p u H1 l R1 hp ho
    obtain ⟨r', l', R', q⟩ := frz_fresh R1 hp ho hf
    exact k r' _ _ (l.trans l') R' (VX.of q)
theorem snd_fr {ff : S → Res Ob} (h : PE X e (tF X W ff)) : PE X e (tE X W (fFr ff)) := h.weak fun σ H Q q => fr_weak q
end
end RS

/-! RsSnd3: calls of defs. -/
namespace RS
open PySem PySem.Spec PyProof.Rows L2

/-- without what stands at p -/
def rm (H : Hp) (p : Addr) : Hp := fun a => if a = p then none else H a
theorem rm_same {H : Hp} {p : Addr} : rm H p p = none := by unfold rm; rw [if_pos rfl]
theorem rm_ne {H : Hp} {p a : Addr} (h : a ≠ p) : rm H p a = H a := by unfold rm; rw [if_neg h]
theorem upd_rm {H : Hp} {p : Addr} {u : HO} (h : H p = some u) : upd (rm H p) p u = H := by
  funext a
  by_cases e : a = p
  · subst e; rw [upd_same, h]
  · rw [upd_ne e, rm_ne e]
section
variable {g : Gm} {r r' : RC} {s : S} {σ : Sg} {H : Hp}
/-- a fresh thing that nobody knows is set aside -/
theorem Rel.minus (R : Rel g r s σ H) {p : Addr} (zf : r.fz p = none) (zg : r.gd p = none) (za : ∀ q a, AtS r s σ q a → a ≠ p) : Rel g r s σ (rm H p) := by
  refine ⟨fun a u e => ?_, fun a u e => ?_, R.gm, R.len, fun i x e => ?_, R.stl, fun n o a e1 e2 => ?_, R.inj, R.sep, R.bo, R.bo2⟩
  · rw [rm_ne (fun z => by subst z; rw [zf] at e; cases e)]
    exact R.fz a u e
  · rw [rm_ne (fun z => by subst z; rw [zg] at e; cases e)]
    exact R.gd a u e
  · obtain ⟨y, ey, q⟩ := R.env i x e
    refine ⟨y, ey, q.mono (.refl r) fun a u ob ex ea => ?_⟩
    subst ex
    rw [rm_ne (za (.inl i) a ⟨⟨x, e, ob⟩, ey⟩)]
    exact ea
  · obtain ⟨u, e, q⟩ := R.sto n o a e1 e2
    refine ⟨u, ?_, q⟩
    rw [rm_ne (za (.inr n) a ⟨(List.getElem?_eq_some_iff.mp e1).1, e2⟩)]
    exact e
end
/-- what a call hands back, as a value or as an object -/
def retD (m : Res Arg) : Res D := m.bind fun r s => lift r.frz s
def retO (m : Res Arg) : Res Ob := m.bind fun r s => lift r.ob s
section
variable {X : Cx} {W : WX} {Φ : Fns} {f : String}
/-- the call's reading -/
theorem call_sp {k : Nat} {r : RC} {s : S} {σ : Sg} {H : Hp} {avs : List AV} {vs : List V} {Q : VK} (R : Rel (gX X) r s σ H) (hv : AVs (gX X) r σ avs vs) (hk : avs.length = k)
    (hok : ∀ ret s1, callF Φ f avs s = .ok ret s1 → ∀ r1 v H1, r.le r1 → Rel (gX X) r1 s1 σ H1 → (match ret with
      | .val d => VR (gX X) r1 d v
      | .obj o => ∃ p u, v = .ref p ∧ H1 p = some u ∧ OR (gX X) r1 o u ∧ r1.fz p = none ∧ r1.gd p = none ∧ ∀ q a, AtS r1 s1 σ q a → a ≠ p) → Q v H1)
    (hex : ∀ x s1, callF Φ f avs s = .exc x s1 → PX (gX X) W r σ x s1) (hst : callF Φ f avs s ≠ .stuck) : spF (gX X) Φ f k vs H Q (WE W σ) := by
  refine ⟨by rw [← hv.length]; exact hk, ?_⟩
  unfold callF at hok hex hst
  cases hf : fetch avs s.env with
  | none => rw [hf] at hst; exact (hst rfl).elim
  | some args =>
    rw [hf] at hok hex hst
    simp only at hok hex hst
    split at hst
    · exact (hst rfl).elim
    · rename_i hn
      have hn : nodupB (ios avs) = true := by
        cases e : nodupB (ios avs)
        · exact (hn e).elim
        · rfl
      simp only [hn, if_neg (show ¬ (true = false) from fun z => nomatch z)] at hok hex hst
      refine ⟨rcIn r s σ H avs, s.st, args, R.callIn hf hn hv, ?_⟩
      cases ef : Φ f args s.st with
      | stuck => rw [ef] at hst; exact (hst rfl).elim
      | exc x outs st =>
        rw [ef] at hex
        intro r' s' σ' cls d H' le R' eo es xr
        obtain ⟨l2, R2, _⟩ := R.callOut hf hn hv le R'
        rw [eo, es] at R2
        refine hex x _ rfl (rcOut r r') H' cls d l2 R2 ?_
        obtain ⟨C, m1, m2, m3⟩ := xr
        refine ⟨C, m1, m2, m3.imp id fun ⟨a, ws, h1, h2, h3⟩ => ⟨a, ws, h1, h2, h3.1, ?_⟩⟩
        exact VRs.lv ⟨fun _ _ h => h, fun _ _ h _ => h, ⟨[], by simp [rcOut]⟩⟩ h3.2
      | ok ret outs st =>
        rw [ef] at hok
        intro r' s' σ' v H' le R' eo es rr
        obtain ⟨l2, R2, at2⟩ := R.callOut hf hn hv le R'
        rw [eo, es] at R2 at2
        have lv : r'.lv (rcOut r r') := ⟨fun _ _ h => h, fun _ _ h _ => h, ⟨[], by simp [rcOut]⟩⟩
        refine hok ret _ rfl (rcOut r r') v H' l2 R2 ?_
        cases ret with
        | val d => exact VR.lv lv rr
        | obj o =>
          obtain ⟨p, u, e1, e2, e3, e4, e5, e6⟩ := rr
          refine ⟨p, u, e1, e2, OR.lv lv e3, e4, ?_, fun q a h z => ?_⟩
          · show r.gd p = none
            cases hg : r.gd p with
            | none => rfl
            | some w =>
              have hgd : r'.gd = gdOf r s σ H avs := le.gd
              rw [hgd, gdOf_gd hg] at e5
              cases e5
          · subst z
            rcases at2 q a h with z | ⟨q', z⟩
            · exact z e5
            · exact e6 q' a z rfl
def fCallE (Φ : Fns) (f : String) (fr : S → Res (List AV)) (s : S) : Res D := (fr s).bind fun avs s => retD (callF Φ f avs s)
def fCallF (Φ : Fns) (f : String) (fr : S → Res (List AV)) (s : S) : Res Ob := (fr s).bind fun avs s => retO (callF Φ f avs s)
theorem callE_weak {k : Nat} {fr : S → Res (List AV)} {σ : Sg} {H : Hp} {Q : VK} (hk : ∀ avs s, callF Φ f avs s ≠ .stuck → avs.length = k) (h : tE X W (fCallE Φ f fr) σ H Q) : tCallS (spF (gX X) Φ f k) (WE W) (tAv X W fr) σ H Q := by
  obtain ⟨r, s, R, h⟩ := h
  refine tA_step (Rv := RAv) R h fun r1 s1 avs vs H1 l1 R1 hv e1 h => ?_
  have ns : callF Φ f avs s1 ≠ .stuck := fun z => by rw [z] at h; exact h
  refine call_sp R1 hv (hk _ _ ns) (fun ret s2 e r2 v H2 l2 R2 q => ?_) (fun x s2 e => ?_) ns
  · rw [e] at h
    obtain ⟨d, hf, k⟩ := lift_ok h
    cases ret with
    | val d' =>
      cases hf
      exact k r2 v H2 l2 R2 (VX.of q)
    | obj o =>
      obtain ⟨p, u, e1, e2, e3, e4, e5, e6⟩ := q
      subst e1
      obtain ⟨r3, l3, R3, q3⟩ := frz_fresh (R2.minus e4 e5 e6) rm_same e3 hf
      rw [upd_rm e2] at R3
      exact k r3 _ H2 (l2.trans l3) R3 (VX.of q3)
  · rw [e] at h
    exact h
theorem callF_weak {k : Nat} {fr : S → Res (List AV)} {σ : Sg} {H : Hp} {Q : VK} (hk : ∀ avs s, callF Φ f avs s ≠ .stuck → avs.length = k) (h : tF X W (fCallF Φ f fr) σ H Q) : tCallS (spF (gX X) Φ f k) (WE W) (tAv X W fr) σ H Q := by
  obtain ⟨r, s, R, h⟩ := h
  refine tF_step (Rv := RAv) R h fun r1 s1 avs vs H1 l1 R1 hv e1 h => ?_
  have ns : callF Φ f avs s1 ≠ .stuck := fun z => by rw [z] at h; exact h
  refine call_sp R1 hv (hk _ _ ns) (fun ret s2 e r2 v H2 l2 R2 q => ?_) (fun x s2 e => ?_) ns
  · rw [e] at h
    cases ret with
    | val d' => exact h.elim
    | obj o =>
      obtain ⟨p, u, e1, e2, e3, e4, e5, e6⟩ := q
      subst e1
      have := h r2 p u (rm H2 p) l2 (R2.minus e4 e5 e6) rm_same e3
      rw [upd_rm e2] at this
      exact this
  · rw [e] at h
    exact h
theorem callF_args {Φ : Fns} {avs : List AV} {s : S} (h : callF Φ f avs s ≠ .stuck) : ∃ args, args.length = avs.length ∧ Φ f args s.st ≠ .stuck := by
  unfold callF at h
  cases hf : fetch avs s.env with
  | none => rw [hf] at h; exact (h rfl).elim
  | some args =>
    rw [hf] at h
    simp only at h
    refine ⟨args, (fetch_spec hf).1, fun z => ?_⟩
    rw [z] at h
    split at h <;> exact h rfl
theorem fnAt_len {P : Prog} : ∀ {n : Nat} {fd : Fd} {args : List Arg} {st : List Ob}, P.fns f = some fd → fnAt P n f args st ≠ .stuck → args.length = fd.params
  | 0, _, _, _, _, h => (h rfl).elim
  | n + 1, fd, args, st, hp, h => by
    simp only [fnAt, hp] at h
    unfold runFd at h
    split at h
    · rename_i e
      exact e
    · exact (h rfl).elim
end
section
variable {P : Prog} {n : Nat} {N : List Str} {sc : Scope} {X : Cx} {W : WX} {f : String} {fd : Fd} {x : Str} {p pos : Pos} {e : Expr} {es : List Expr} {fr : S → Res (List AV)}
theorem Okc.call (ok : Okc P n N sc X W) (hf : P.fns f = some fd) (hx : x = nm f) (hg : RS.glob sc x = true) (hn : (e :: es).all nice = true) (ha : PA X (e :: es) (tAv X W fr)) :
    ∃ k, PE X (.Call (.Name x p) (e :: es) [] pos) (tCallS (spF (gX X) (fnAt P n) f k) (WE W) (tAv X W fr)) ∧ ∀ avs s, callF (fnAt P n) f avs s ≠ .stuck → avs.length = k := by
  obtain ⟨a, fdt, ps, h1, h2, h3, h4, h5⟩ := ok.fns f fd hf
  subst hx
  have hn' : nice e = true ∧ es.all nice = true := by simpa using hn
  refine ⟨ps.length, pe_callG h5 ok.gq ok.room (ok.gl hg) h1 h2 h3 (fun σ => passAt ok.tk σ) ha (glob_dbg hg) (nice_star hn'.1 es _) (starEach_plain hn'.2 _ _), fun avs s h => ?_⟩
  obtain ⟨args, l, q⟩ := callF_args h
  rw [h4, ← l]
  exact fnAt_len hf q
theorem snd_callE (ok : Okc P n N sc X W) (hf : P.fns f = some fd) (hx : x = nm f) (hg : RS.glob sc x = true) (hn : (e :: es).all nice = true) (ha : PA X (e :: es) (tAv X W fr)) :
    PE X (.Call (.Name x p) (e :: es) [] pos) (tE X W (fCallE (fnAt P n) f fr)) := by
  obtain ⟨k, h1, h2⟩ := ok.call (p := p) (pos := pos) hf hx hg hn ha
  exact h1.weak fun σ H Q h => callE_weak h2 h
theorem snd_callF (ok : Okc P n N sc X W) (hf : P.fns f = some fd) (hx : x = nm f) (hg : RS.glob sc x = true) (hn : (e :: es).all nice = true) (ha : PA X (e :: es) (tAv X W fr)) :
    PE X (.Call (.Name x p) (e :: es) [] pos) (tF X W (fCallF (fnAt P n) f fr)) := by
  obtain ⟨k, h1, h2⟩ := ok.call (p := p) (pos := pos) hf hx hg hn ha
  exact h1.weak fun σ H Q h => callF_weak h2 h
end
end RS

/-! RsSnd4: built-in functions, methods. -/
namespace RS
open PySem PySem.Spec PyProof.Rows L2

section
variable {X : Cx} {W : WX} {e o : Expr} {es : List Expr} {fr : S → Res (List D)} {fo : S → Res D}
def fBi (b : Bi) (fr : S → Res (List D)) (s : S) : Res D := (fr s).bind fun ds s => lift ((vws ds s).bind fun ds => bi b ds) s
theorem bi_weak {b : Bi} {rel : List V → Hp → VK → Prop} (hs : BiS X b rel) {σ : Sg} {H : Hp} {Q : VK} (h : tE X W (fBi b fr) σ H Q) : tCB rel (tXs X W fr) σ H Q := by
  obtain ⟨r, s, R, h⟩ := h
  refine tA_step (Rv := RXs) R h fun r1 s1 ds vs H1 l1 R1 v1 e1 h1 => ?_
  obtain ⟨d, e3, k⟩ := lift_ok h1
  obtain ⟨ds', e4, e5⟩ := Option.bind_eq_some_iff.mp e3
  exact hs r1 s1 σ H1 ds' d vs Q R1 (R1.vws v1 e4) e5 (ansE k)
def fBf (b : Bf) (fr : S → Res (List D)) (s : S) : Res Ob := (fr s).bind fun ds s => lift ((vws ds s).bind fun ds => bf b ds) s
theorem bf_weak {σ : Sg} {H : Hp} {Q : VK} (h : tF X W (fBf .list fr) σ H Q) : tCB (rListA X.K) (tXs X W fr) σ H Q := by
  obtain ⟨r, s, R, h⟩ := h
  refine tF_step (Rv := RXs) R h fun r1 s1 ds vs H1 l1 R1 v1 e1 h1 => ?_
  cases e3 : (vws ds s1).bind fun ds => bf .list ds with
  | none => rw [e3] at h1; exact h1.elim
  | some ob =>
    rw [e3] at h1
    obtain ⟨ds', e4, e5⟩ := Option.bind_eq_some_iff.mp e3
    exact s_list R1 (R1.vws v1 e4) e5 fun r' p u H1 l R hp q => h1 r' p u H1 l R hp q

section
variable {P : Prog} {n : Nat} {N : List Str} {sc : Scope} {x : Str} {p pos : Pos}
theorem Okc.callB (ok : Okc P n N sc X W) {id nmx : String} {rel : List V → Hp → VK → Prop} {t : TA} (hc : CallR X (.builtin id) rel) (hv : bootBuiltins (nm nmx) = some (.builtin id)) (hb : nmx ∈ blts) (hx : x = nm nmx) (hg : RS.glob sc x = true) (hn : (e :: es).all nice = true) (ha : PA X (e :: es) t) :
    PE X (.Call (.Name x p) (e :: es) [] pos) (tCB rel t) := by
  subst hx
  have hn' : nice e = true ∧ es.all nice = true := by simpa using hn
  exact pe_callB hc (ok.gl hg) (ok.blt _ hb) hv ha (glob_nm hg) (glob_dbg hg) (nice_star hn'.1 es _) (starEach_plain hn'.2 _ _)
theorem Okc.callT (ok : Okc P n N sc X W) {id nmx : String} {rel : List V → Hp → VK → Prop} {t : TA} (hc : CallR X (.type id) rel) (hv : bootBuiltins (nm nmx) = some (.type id)) (hb : nmx ∈ blts) (hx : x = nm nmx) (hg : RS.glob sc x = true) (hn : (e :: es).all nice = true) (ha : PA X (e :: es) t) :
    PE X (.Call (.Name x p) (e :: es) [] pos) (tCB rel t) := by
  subst hx
  have hn' : nice e = true ∧ es.all nice = true := by simpa using hn
  exact pe_callTy hc (ok.gl hg) (ok.blt _ hb) hv ha (glob_nm hg) (glob_dbg hg) (nice_star hn'.1 es _) (starEach_plain hn'.2 _ _)
theorem s_str : BiS X .str (fun xs H Q => ∃ i, xs = [.int i] ∧ i.natAbs.log2 < 1920 ∧ Q (.str (toString i)) H) := by
  intro r s σ H ds d vs Q R c h k
  unfold bi at h
  split at h <;> (first | (cases h; done) | skip) <;> rename_i hb <;> cases hb
theorem boot_len' : bootBuiltins (nm "len") = some (.builtin "len") := by decide +kernel
theorem snd_bi (ok : Okc P n N sc X W) {b : Bi} (hx : x = nm b.name) (hg : RS.glob sc x = true) (hn : (e :: es).all nice = true) (ha : PA X (e :: es) (tXs X W fr)) :
    PE X (.Call (.Name x p) (e :: es) [] pos) (tE X W (fBi b fr)) := by
  have hc := ok.calm
  cases b with
  | len => exact (ok.callB call_lenA boot_len' (by decide) hx hg hn ha).weak fun σ H Q h => bi_weak s_len h
  | abs => exact (ok.callB call_abs boot_abs (by decide) hx hg hn ha).weak fun σ H Q h => bi_weak s_abs h
  | int => exact (ok.callT call_int1 boot_int (by decide) hx hg hn ha).weak fun σ H Q h => bi_weak s_int h
  | str => exact (ok.callT call_str_int boot_str (by decide) hx hg hn ha).weak fun σ H Q h => bi_weak s_str h
  | repr => exact (ok.callB (call_repr ok.gq ok.hu) boot_repr (by decide) hx hg hn ha).weak fun σ H Q h => bi_weak s_repr h
  | all => exact (ok.callB (cr_all hc) boot_all (by decide) hx hg hn ha).weak fun σ H Q h => bi_weak s_all h
  | any => exact (ok.callB (cr_any hc) boot_any (by decide) hx hg hn ha).weak fun σ H Q h => bi_weak s_any h
  | sum => exact (ok.callB (cr_sum hc) boot_sum (by decide) hx hg hn ha).weak fun σ H Q h => bi_weak s_sum h
  | max => exact (ok.callB (cr_max hc) boot_max (by decide) hx hg hn ha).weak fun σ H Q h => bi_weak s_max h
  | min => exact (ok.callB (cr_min hc) boot_min (by decide) hx hg hn ha).weak fun σ H Q h => bi_weak s_min h
  | max2 => exact (ok.callB (call_max2 hc) boot_max (by decide) hx hg hn ha).weak fun σ H Q h => bi_weak s_max2 h
  | min2 => exact (ok.callB (call_min2 hc) boot_min (by decide) hx hg hn ha).weak fun σ H Q h => bi_weak s_min2 h
  | tuple => exact (ok.callT call_tuple_of boot_tuple (by decide) hx hg hn ha).weak fun σ H Q h => bi_weak s_tuple h
theorem snd_bf (ok : Okc P n N sc X W) (hx : x = nm "list") (hg : RS.glob sc x = true) (hn : (e :: es).all nice = true) (ha : PA X (e :: es) (tXs X W fr)) :
    PE X (.Call (.Name x p) (e :: es) [] pos) (tF X W (fBf .list fr)) :=
  (ok.callT (call_listA ok.calm) boot_list (by decide) hx hg hn ha).weak fun σ H Q h => bf_weak h
theorem isi_ty {n : String} {d : D} {b : Bool} (h : isiTy n d = some b) : n ∈ blts ∧ bootBuiltins (nm n) = some (.type n) := by
  unfold isiTy at h
  split at h
  · exact ⟨by decide, boot_int⟩
  · exact ⟨by decide, boot_bool⟩
  · exact ⟨by decide, boot_str⟩
  · exact ⟨by decide, boot_tuple⟩
  · exact ⟨by decide, boot_list⟩
  · exact ⟨by decide, boot_dict⟩
  · cases h
theorem tyOk_ok {n : String} (h : tyOk n = true) : n ∈ blts ∧ bootBuiltins (nm n) = some (.type n) := by
  simp only [tyOk, Bool.or_eq_true, beq_iff_eq] at h
  rcases h with ((((h | h) | h) | h) | h) | h <;> subst h
  · exact ⟨by decide, boot_int⟩
  · exact ⟨by decide, boot_bool⟩
  · exact ⟨by decide, boot_str⟩
  · exact ⟨by decide, boot_tuple⟩
  · exact ⟨by decide, boot_list⟩
  · exact ⟨by decide, boot_dict⟩
def fIsi (n : String) (fa : S → Res D) : S → Res D := f1 fa fun x => (isiTy n x).map .bl
theorem snd_isi (ok : Okc P n N sc X W) {ty : String} {y : Str} {p2 : Pos} {fa : S → Res D} (ht : tyOk ty = true) (hx : x = nm "isinstance") (hy : y = nm ty) (hg : RS.glob sc x = true) (hg2 : RS.glob sc y = true) (hn : nice e = true) (ha : PE X e (tE X W fa)) :
    PE X (.Call (.Name x p) [e, .Name y p2] [] pos) (tE X W (fIsi ty fa)) := by
  obtain ⟨h1, h2⟩ := tyOk_ok ht
  subst hy
  have hb : PE X (.Name (nm ty) p2) (tC (.ty ty)) := pe_bltn (ok.gl hg2) (ok.blt _ h1) h2 rfl (glob_nm hg2) (glob_dbg hg2)
  have hpa : PA X [e, .Name (nm ty) p2] (tCons (tE X W fa) (tCons (tC (.ty ty)) tNil)) := pa_cons ha (pa_cons hb pa_nil (nice_star rfl _ _)) (nice_star hn _ _)
  refine (ok.callB (call_isT ty) boot_isinstance (by decide) hx hg (by show (nice e && (nice (.Name (nm ty) p2) && true)) = true; rw [hn]; rfl) hpa).weak fun σ H Q ⟨r, s, R, h⟩ => ?_
  show tE X W fa σ H fun x H1 => rIsT X.K ty [x, .ty ty] H1 Q
  refine tA_step (Rv := RE) R h fun r1 s1 x v H1 l1 R1 v1 e1 h1 => ?_
  obtain ⟨d, e3, k⟩ := lift_ok h1
  obtain ⟨x', e4, e5⟩ := Option.bind_eq_some_iff.mp e3
  obtain ⟨b, hb, rfl⟩ := Option.map_eq_some_iff.mp e5
  exact s_isi R1 (R1.vw v1 e4) hb (ansE k)
end

/-! ### methods -/
/-- the receiver's type -/
def tyW (K : PySem.W.Frag) (T : String) (x : V) (H : Hp) : Prop := tyV K T x H ∨ (T = "dict" ∧ ∃ a, x = .ref a ∧ IsD H a)
theorem tyW_is {pins : List (Addr × Obj)} {σ : Sg} {H : Hp} {s : Shared} {T : String} {x : V} {v : Value} (I : Inv X pins σ H s) (r : RelV x v) (ty : tyW X.K T x H) :
    s.TypeIs v T ∧ ∀ a, v = .ref a → ∃ ob, s.heap.get? a = some ob ∧ ob.dict = none := by
  rcases ty with ty | ⟨rfl, a, rfl, d⟩
  · exact tyV_is I r ty
  · cases r
    obtain ⟨h1, h2, _⟩ := isD_at I d
    exact ⟨h1, h2⟩
def tWM (K : PySem.W.Frag) (T : String) (r : V → List V → Hp → VK → Prop) (to : TE) (t : TA) : TE := fun σ H Q => to σ H fun x H1 => tyW K T x H1 ∧ t σ H1 fun xs H2 => r x xs H2 Q
variable {to : TE} {t : TA} {name : Str} {apos cpos : Pos} {T id : String} {r : V → List V → Hp → VK → Prop}
theorem few_ok (hn : (e :: es).all nice = true) (hl : es.length < 25) (env : Env) (cp : Pos) : ((backTo cp (starEach (e :: es) env)).all (fun x => !x.1) && (backToKw cp (keywordEach [] env)).all (fun x => x.1.isSome)
      && decide ((e :: es).length + ([] : List Keyword).length + (if ([] : List Keyword).isEmpty then 0 else 1) < 30)) = true := by
  have h1 := starEach_plain (es := e :: es) hn env cp
  have h2 : (backTo cp (starEach (e :: es) env)).all (fun x => !x.1) = true := by
    rw [List.all_eq_true]
    intro x hx
    have := List.any_eq_false.mp h1 x hx
    simpa using this
  rw [h2]
  simp [keywordEach, backToKw]
  omega
theorem pe_wm (pa : PlainAttrs T) (slot : PySem.Slot T name id) (hty : typeOf (.builtin id) = pure (.type "method_descriptor")) (hm : MtR X id r) (ho : PE X o to) (ha : PA X (e :: es) t)
    (hno : nice o = true) (hn : (e :: es).all nice = true) (hl : es.length < 25) (hline : (apos.endLine == cpos.line) = true) :
    PE X (.Call (.Attribute o name apos) (e :: es) [] cpos) (tWM X.K T r to t) := by
  have hn' : nice e = true ∧ es.all nice = true := by simpa using hn
  refine ⟨fun pins s σ H Q I h => ?_⟩
  refine wpAny_Call_method_late (nice_base hno _ _) (few_ok hn hl _ _) hline rfl (thn (ho.run pins s σ H _ I h) fun v s1 ⟨x, H1, I1, r1, ty, q1⟩ => ?_)
  obtain ⟨h1, h2⟩ := tyW_is I1 r1 ty
  refine ⟨T, id, pa, slot, hty, h1, h2, ?_⟩
  have hA := ha.run cpos pins s1 σ H1 _ I1 q1
  rw [nice_star hn'.1] at hA ⊢
  refine Calls.callWith_builtin (by show (false || (backTo cpos (starEach es X.env)).any (·.1)) = false; rw [starEach_plain hn'.2] <;> rfl) (Calls.evalArgs_plain ?_)
  exact thn hA fun us s2 ⟨vs, H2, I2, r2, q2⟩ => hm pins s2 σ H2 x vs v us Q I2 r1 r2 q2
def fMt (m : Mt) (fo : S → Res D) (fr : S → Res (List D)) (s : S) : Res D := (fo s).bind fun x s => if isStrD (vw x s) = false then .stuck else (fr s).bind fun ds s => lift ((vw x s).bind fun x => (vws ds s).bind fun ds => mt m x ds) s
theorem mt_weak {m : Mt} {rel : V → List V → Hp → VK → Prop} (hs : MtS X m rel) {σ : Sg} {H : Hp} {Q : VK} (h : tE X W (fMt m fo fr) σ H Q) : tWM X.K "str" rel (tE X W fo) (tXs X W fr) σ H Q := by
  obtain ⟨r, s, R, h⟩ := h
  refine tA_step (Rv := RE) R h fun r1 s1 x v H1 l1 R1 v1 e1 h => ?_
  split at h
  · exact h.elim
  · rename_i hstr
    refine ⟨.inl ?_, ?_⟩
    · cases hv : vw x s1 with
      | none => rw [hv] at hstr; exact (hstr rfl).elim
      | some d =>
        rw [hv] at hstr
        cases d with
        | str cs =>
          obtain ⟨rfl, _⟩ := R1.vw v1 hv
          rfl
        | _ => exact (hstr rfl).elim
    · refine tA_step (Rv := RXs) R1 h fun r2 s2 ds vs H2 l2 R2 v2 e2 h => ?_
      obtain ⟨d, e3, k⟩ := lift_ok h
      obtain ⟨x', e4, e3⟩ := Option.bind_eq_some_iff.mp e3
      obtain ⟨ds', e5, e6⟩ := Option.bind_eq_some_iff.mp e3
      exact hs r2 s2 σ H2 x' ds' d v vs Q R2 (R2.vw (v1.mono l2) e4) (R2.vws v2 e5) e6 (ansE k)
theorem snd_mt {m : Mt} (ho : PE X o (tE X W fo)) (ha : PA X (e :: es) (tXs X W fr)) (hf : name = nm m.name) (hno : nice o = true) (hn : (e :: es).all nice = true) (hl : es.length < 25) (hline : (apos.endLine == cpos.line) = true) :
    PE X (.Call (.Attribute o name apos) (e :: es) [] cpos) (tE X W (fMt m fo fr)) := by
  subst hf
  cases m with
  | join => exact (pe_wm PySem.F.plainAttrs_str PySem.F.slot_str_join PySem.F.type_str_join mt_join ho ha hno hn hl hline).weak fun σ H Q h => mt_weak s_join h
  | index => exact (pe_wm PySem.F.plainAttrs_str PySem.F.slot_str_index PySem.F.type_str_index mt_sindex ho ha hno hn hl hline).weak fun σ H Q h => mt_weak s_index h
def fMx (m : Mx) (fo : S → Res D) (fr : S → Res (List D)) (s : S) : Res D := (fo s).bind fun x s => if isDctD (vw x s) = false then .stuck else (fr s).bind fun ds s => lift ((vw x s).bind fun x => mx m x ds) s
theorem isD_cv {r : RC} {H : Hp} {t : Bool} {ks vs : List D} {v : V} (c : CV (gX X) r H (.dct t ks vs) v) : ∃ a, v = .ref a ∧ IsD H a := by
  obtain ⟨a, u, ws, rfl, rd, d, _⟩ := c
  rcases d with ⟨_, kvs, rfl, _⟩ | ⟨_, kvs, rfl, _⟩
  · exact ⟨a, rfl, .inl ⟨kvs, rd⟩⟩
  · exact ⟨a, rfl, .inr ⟨kvs, rd⟩⟩
theorem mx_weak {m : Mx} {rel : V → List V → Hp → VK → Prop} (hs : ∀ (r : RC) (s : S) (σ : Sg) (H : Hp) (o : D) (ds : List D) (d : D) (v : V) (vs : List V) (Q : VK), Rel (gX X) r s σ H → CV (gX X) r H o v → VRs (gX X) r ds vs → mx m o ds = some d → Ans X r s σ d Q → rel v vs H Q)
    {σ : Sg} {H : Hp} {Q : VK} (h : tE X W (fMx m fo fr) σ H Q) : tWM X.K "dict" rel (tE X W fo) (tVs X W fr) σ H Q := by
  obtain ⟨r, s, R, h⟩ := h
  refine tA_step (Rv := RE) R h fun r1 s1 x v H1 l1 R1 v1 e1 h => ?_
  split at h
  · exact h.elim
  · rename_i hstr
    refine ⟨.inr ⟨rfl, ?_⟩, ?_⟩
    · cases hv : vw x s1 with
      | none => rw [hv] at hstr; exact (hstr rfl).elim
      | some d =>
        rw [hv] at hstr
        cases d with
        | dct t ks vs => exact isD_cv (R1.vw v1 hv)
        | _ => exact (hstr rfl).elim
    · refine tA_step (Rv := RVs) R1 h fun r2 s2 ds vs H2 l2 R2 v2 e2 h => ?_
      obtain ⟨d, e3, k⟩ := lift_ok h
      obtain ⟨x', e4, e3⟩ := Option.bind_eq_some_iff.mp e3
      exact hs r2 s2 σ H2 x' ds d v vs Q R2 (R2.vw (v1.mono l2) e4) v2 e3 (ansE k)
theorem VRs.one {g : Gm} {r : RC} {d : D} {vs : List V} (h : VRs g r [d] vs) : ∃ v, vs = [v] ∧ VR g r d v := by
  obtain ⟨v, t, rfl, q, rfl⟩ := h
  exact ⟨v, rfl, q⟩
theorem VRs.two {g : Gm} {r : RC} {d e : D} {vs : List V} (h : VRs g r [d, e] vs) : ∃ v w, vs = [v, w] ∧ VR g r d v ∧ VR g r e w := by
  obtain ⟨v, t, rfl, q, w, t', rfl, q', rfl⟩ := h
  exact ⟨v, w, rfl, q, q'⟩
theorem getD_ans {r : RC} {s : S} {σ : Sg} {H : Hp} {Q : VK} {o : Option D} {ov : Option V} {d0 : D} {z : V} (k : Ans X r s σ (o.getD d0) Q) (R : Rel (gX X) r s σ H) (g1 : ∀ d, o = some d → ∃ y, ov = some y ∧ VR (gX X) r d y) (g2 : o = none → ov = none) (hz : VR (gX X) r d0 z) : Q (ov.getD z) H := by
  cases o with
  | none =>
    rw [g2 rfl]
    exact k.here R hz
  | some d =>
    obtain ⟨y, rfl, q⟩ := g1 d rfl
    exact k.here R q
theorem snd_mx (hu : X.A.units + 64 < cLine) {m : Mx} (ho : PE X o (tE X W fo)) (ha : PA X (e :: es) (tVs X W fr)) (hf : name = nm m.name) (hno : nice o = true) (hn : (e :: es).all nice = true) (hl : es.length < 25) (hline : (apos.endLine == cpos.line) = true) :
    PE X (.Call (.Attribute o name apos) (e :: es) [] cpos) (tE X W (fMx m fo fr)) := by
  subst hf
  cases m with
  | get1 =>
    refine (pe_wm PySem.F.plainAttrs_dict PySem.F.slot_dict_get PySem.F.type_dict_get (mt_dget1 hu) ho ha hno hn hl hline).weak fun σ H Q h => mx_weak ?_ h
    intro r s σ H o ds d v vs Q R co c h k
    unfold mx at h
    split at h <;> (first | (cases h; done) | skip) <;> rename_i hm <;> cases hm
    split at h
    · rename_i hk
      cases h
      obtain ⟨y, rfl, qy⟩ := c.one
      obtain ⟨a, u, ws, rfl, rd, dd, _, qw⟩ := co
      obtain ⟨o, g, g1, g2⟩ := dget_of rd dd qw hk (CV.of R qy) R.fz
      exact ⟨a, y, o, rfl, rfl, g, getD_ans k R g1 g2 rfl⟩
    · cases h
  | get2 =>
    refine (pe_wm PySem.F.plainAttrs_dict PySem.F.slot_dict_get PySem.F.type_dict_get (mt_dget2 hu) ho ha hno hn hl hline).weak fun σ H Q h => mx_weak ?_ h
    intro r s σ H o ds d v vs Q R co c h k
    unfold mx at h
    split at h <;> (first | (cases h; done) | skip) <;> rename_i hm <;> cases hm
    split at h
    · rename_i hk
      cases h
      obtain ⟨y, z, rfl, qy, qz⟩ := c.two
      obtain ⟨a, u, ws, rfl, rd, dd, _, qw⟩ := co
      obtain ⟨o, g, g1, g2⟩ := dget_of rd dd qw hk (CV.of R qy) R.fz
      exact ⟨a, y, z, o, rfl, rfl, g, getD_ans k R g1 g2 qz⟩
    · cases h
end
end RS

/-! RsSnd5: what changes an object. -/
namespace RS
open PySem PySem.Spec PyProof.Rows L2

section
variable {g : Gm} {r : RC} {s s' : S} {σ : Sg} {H : Hp}
theorem putS_core (R : Rel g r s σ H) {p : Nat ⊕ Nat} {a : Addr} {o : Ob} {u : HO} (ha : AtS r s σ p a) (ho : OR g r o u) (hl : s'.env.length = s.env.length) (hst : s'.st.length = s.st.length)
    (he : ∀ (i : Nat) x, s'.env[i]? = some x → (p ≠ .inl i ∧ s.env[i]? = some x) ∨ (p = .inl i ∧ ((x = .own o ∧ ∃ o0, s.env[i]? = some (.own o0)) ∨ (x = .bor o ∧ ∃ o0, s.env[i]? = some (.bor o0)))))
    (hs : ∀ (n : Nat) x, s'.st[n]? = some x → (p ≠ .inr n ∧ s.st[n]? = some x) ∨ (p = .inr n ∧ x = o)) (hb : ∀ (i : Nat) o0, s.env[i]? = some (.bor o0) → ∃ o1, s'.env[i]? = some (.bor o1)) : Rel g r s' σ (upd H a u) := by
  obtain ⟨zf, zg⟩ := R.sep _ _ ha
  have at' : ∀ q b, AtS r s' σ q b → AtS r s σ q b := fun q b h => by
    cases q with
    | inl i =>
      obtain ⟨⟨x, e, ob⟩, q⟩ := h
      rcases he i x e with ⟨_, e'⟩ | ⟨_, (⟨rfl, o0, e'⟩ | ⟨rfl, o0, e'⟩)⟩
      · exact ⟨⟨x, e', ob⟩, q⟩
      · exact ⟨⟨_, e', trivial⟩, q⟩
      · exact ⟨⟨_, e', trivial⟩, q⟩
    | inr n => exact ⟨by rw [← hst]; exact h.1, h.2⟩
  refine ⟨fun b w e => ?_, fun b w e => ?_, R.gm, by rw [hl]; exact R.len, fun i x e => ?_, by rw [hst]; exact R.stl, fun n x b e1 e2 => ?_, fun q q' b h1 h2 => R.inj _ _ _ (at' _ _ h1) (at' _ _ h2), fun q b h => R.sep _ _ (at' _ _ h), fun i b e => ?_, fun i x e => ?_⟩
  · rw [upd_ne (fun z => by subst z; rw [zf] at e; cases e)]
    exact R.fz b w e
  · rw [upd_ne (fun z => by subst z; rw [zg] at e; cases e)]
    exact R.gd b w e
  · rcases he i x e with ⟨hp, e'⟩ | ⟨rfl, h⟩
    · obtain ⟨y, ey, q⟩ := R.env i x e'
      refine ⟨y, ey, q.mono (.refl r) fun b w ob ex eb => ?_⟩
      subst ex
      rw [upd_ne (fun z => by
        subst z
        exact hp (R.inj _ _ _ ha (show AtS r s σ (.inl i) b from ⟨⟨x, e', ob⟩, ey⟩)))]
      exact eb
    · have eσ : σ[i]? = some (some (V.ref a)) := ha.2
      rcases h with ⟨rfl, _⟩ | ⟨rfl, _⟩
      · exact ⟨_, eσ, a, u, rfl, upd_same, ho⟩
      · exact ⟨_, eσ, a, u, rfl, upd_same, ho⟩
  · rcases hs n x e1 with ⟨hp, e'⟩ | ⟨rfl, rfl⟩
    · obtain ⟨w, ew, q⟩ := R.sto n x b e' e2
      refine ⟨w, ?_, q⟩
      rw [upd_ne (fun z => by
        subst z
        exact hp (R.inj _ _ _ ha (show AtS r s σ (.inr n) b from ⟨(List.getElem?_eq_some_iff.mp e').1, e2⟩)))]
      exact ew
    · have e3 : r.rho[n]? = some a := ha.2
      rw [e2] at e3
      cases e3
      exact ⟨u, upd_same, ho⟩
  · obtain ⟨⟨o0, e1⟩, e2⟩ := R.bo i b e
    exact ⟨hb i o0 e1, e2⟩
  · rcases he i _ e with ⟨_, e'⟩ | ⟨_, (⟨z, _⟩ | ⟨_, o0, e'⟩)⟩
    · exact R.bo2 i x e'
    · cases z
    · exact R.bo2 i o0 e'
theorem Rel.putS (R : Rel g r s σ H) {x : D} {v : V} {o : Ob} {u : HO} (hx : VX g r σ x v) (e : RS.put x o s = some s') (ho : OR g r o u) : ∃ p a, v = .ref a ∧ AtS r s σ p a ∧ Rel g r s' σ (upd H a u) := by
  cases x with
  | loc i =>
    obtain ⟨a, rfl, ea⟩ := hx
    simp only [RS.put] at e
    split at e
    · rename_i o0 eo
      cases e
      have ha : AtS r s σ (.inl i) a := ⟨⟨_, eo, trivial⟩, ea⟩
      have hi := (List.getElem?_eq_some_iff.mp eo).1
      refine ⟨_, a, rfl, ha, putS_core R ha ho (by simp) rfl (fun j y ey => ?_) (fun n y ey => .inl ⟨(fun z => nomatch z), ey⟩) (fun j o1 ej => ?_)⟩
      · by_cases h : i = j
        · subst h
          have ey : (s.env.set i (.own o))[i]? = some y := ey
          rw [List.getElem?_set_self hi] at ey
          cases ey
          exact .inr ⟨rfl, .inl ⟨rfl, o0, eo⟩⟩
        · have ey : (s.env.set i (.own o))[j]? = some y := ey
          rw [List.getElem?_set_ne h] at ey
          exact .inl ⟨fun z => h (Sum.inl.inj z), ey⟩
      · have h : i ≠ j := fun z => by subst z; rw [eo] at ej; cases ej
        exact ⟨o1, by show (s.env.set i (.own o))[j]? = _; rw [List.getElem?_set_ne h]; exact ej⟩
    · rename_i o0 eo
      cases e
      have ha : AtS r s σ (.inl i) a := ⟨⟨_, eo, trivial⟩, ea⟩
      have hi := (List.getElem?_eq_some_iff.mp eo).1
      refine ⟨_, a, rfl, ha, putS_core R ha ho (by simp) rfl (fun j y ey => ?_) (fun n y ey => .inl ⟨(fun z => nomatch z), ey⟩) (fun j o1 ej => ?_)⟩
      · by_cases h : i = j
        · subst h
          have ey : (s.env.set i (.bor o))[i]? = some y := ey
          rw [List.getElem?_set_self hi] at ey
          cases ey
          exact .inr ⟨rfl, .inr ⟨rfl, o0, eo⟩⟩
        · have ey : (s.env.set i (.bor o))[j]? = some y := ey
          rw [List.getElem?_set_ne h] at ey
          exact .inl ⟨fun z => h (Sum.inl.inj z), ey⟩
      · by_cases h : i = j
        · subst h
          exact ⟨o, by show (s.env.set i (.bor o))[i]? = _; rw [List.getElem?_set_self hi]⟩
        · exact ⟨o1, by show (s.env.set i (.bor o))[j]? = _; rw [List.getElem?_set_ne h]; exact ej⟩
    · cases e
  | ref n =>
    obtain ⟨a, ea, rfl⟩ := hx
    simp only [RS.put] at e
    split at e
    · rename_i hn
      cases e
      have ha : AtS r s σ (.inr n) a := ⟨hn, ea⟩
      refine ⟨_, a, rfl, ha, putS_core R ha ho rfl (by simp) (fun j y ey => .inl ⟨(fun z => nomatch z), ey⟩) (fun m y ey => ?_) (fun j o1 ej => ⟨o1, ej⟩)⟩
      by_cases h : n = m
      · subst h
        have ey : (s.st.set n o)[n]? = some y := ey
        rw [List.getElem?_set_self hn] at ey
        cases ey
        exact .inr ⟨rfl, rfl⟩
      · have ey : (s.st.set n o)[m]? = some y := ey
        rw [List.getElem?_set_ne h] at ey
        exact .inl ⟨fun z => h (Sum.inr.inj z), ey⟩
    · cases e
  | _ => simp only [RS.put, reduceCtorEq] at e
end

/-! ### methods that change a list -/
section
variable {X : Cx} {W : WX} {e o : Expr} {es : List Expr} {fr : S → Res (List D)} {fo : S → Res D} {name : Str} {apos cpos : Pos}
def fMw (m : Mw) (fo : S → Res D) (fr : S → Res (List D)) (s : S) : Res D := (fo s).bind fun x s => if isLstD (vw x s) = false then .stuck else (fr s).bind fun ds s =>
    (lift ((vw x s).bind fun x => mw m x ds) s).bind fun p s => (lift (put x p.2 s) s).bind fun s' _ => .ok p.1 s'
theorem mw_weak {m : Mw} {rel : V → List V → Hp → VK → Prop} (hs : ∀ (r : RC) (H : Hp) (ys : List D) (ds : List D) (d : D) (ob : Ob) (a : Addr) (xs : List V) (vs : List V) (Q : VK), H a = some (.lst xs) → ys.length ≤ szL → VRs (gX X) r ys xs → VRs (gX X) r ds vs → mw m (.lst ys) ds = some (d, ob) →
      (∀ u v, OR (gX X) r ob u → VR (gX X) r d v → Q v (upd H a u)) → rel (.ref a) vs H Q)
    {σ : Sg} {H : Hp} {Q : VK} (h : tE X W (fMw m fo fr) σ H Q) : tWM X.K "list" rel (tE X W fo) (tVs X W fr) σ H Q := by
  obtain ⟨r, s, R, h⟩ := h
  refine tA_step (Rv := RE) R h fun r1 s1 x v H1 l1 R1 v1 e1 h => ?_
  split at h
  · exact h.elim
  · rename_i hstr
    refine ⟨.inl ?_, ?_⟩
    · cases hv : vw x s1 with
      | none => rw [hv] at hstr; exact (hstr rfl).elim
      | some d =>
        rw [hv] at hstr
        cases d with
        | lst ds =>
          obtain ⟨a, xs, rfl, ha, _⟩ := R1.vw v1 hv
          exact .inl ⟨rfl, xs, .inl (.inl ha)⟩
        | _ => exact (hstr rfl).elim
    · refine tA_step (Rv := RVs) R1 h fun r2 s2 ds vs H2 l2 R2 v2 e2 h => ?_
      obtain ⟨⟨d, ob⟩, e3, h⟩ := lift_bind h
      obtain ⟨x', e4, e5⟩ := Option.bind_eq_some_iff.mp e3
      cases ep : put x ob s2 with
      | none => rw [ep] at h; exact h.elim
      | some s3 =>
        rw [ep] at h
        simp only [lift, Res.bind] at h
        have c := R2.vw (v1.mono l2) e4
        cases x' with
        | lst ys =>
          obtain ⟨a, xs, rfl, ha, hl, q⟩ := c
          refine hs r2 H2 ys ds d ob a xs vs Q ha hl q v2 e5 fun u w ho hw => ?_
          obtain ⟨p, a', ea, _, R3⟩ := R2.putS (v1.mono l2) ep ho
          cases ea
          exact h r2 w _ (.refl _) R3 (VX.of hw)
        | _ => cases m <;> simp only [mw, reduceCtorEq] at e5
theorem snd_append (ho : PE X o (tE X W fo)) (ha : PA X (e :: es) (tVs X W fr)) (hf : name = nm "append") (hno : nice o = true) (hn : (e :: es).all nice = true) (hl : es.length < 25) (hline : (apos.endLine == cpos.line) = true) :
    PE X (.Call (.Attribute o name apos) (e :: es) [] cpos) (tE X W (fMw .append fo fr)) := by
  subst hf
  refine (pe_wm PySem.F.plainAttrs_list PySem.F.slot_list_append PySem.F.type_list_append mt_append ho ha hno hn hl hline).weak fun σ H Q h => mw_weak ?_ h
  intro r H ys ds d ob a xs vs Q hH hl q qs em k
  obtain ⟨x, rfl⟩ : ∃ x, ds = [x] := by
    cases ds with
    | nil => cases em
    | cons x r =>
      cases r with
      | nil => exact ⟨x, rfl⟩
      | cons _ _ => cases em
  simp only [mw] at em
  split at em
  · rename_i hz
    cases em
    have hz := of_decide_eq_true hz
    obtain ⟨y, rfl, qy⟩ := qs.one
    refine ⟨a, xs, y, rfl, rfl, hH, by rw [← q.length, lineEq]; exact hz, k _ _ ⟨_, rfl, ?_, q.append (VRs.cons qy VRs.nil)⟩ rfl⟩
    rw [List.length_append]
    show _ + 1 ≤ _
    omega
  · cases em
/-- without arguments -/
theorem pe_wm0 {to : TE} {T id : String} {r : V → List V → Hp → VK → Prop} (pa : PlainAttrs T) (slot : PySem.Slot T name id) (hty : typeOf (.builtin id) = pure (.type "method_descriptor")) (hm : MtR X id r) (ho : PE X o to)
    (hno : nice o = true) (hline : (apos.endLine == cpos.line) = true) : PE X (.Call (.Attribute o name apos) [] [] cpos) (tWM X.K T r to tNil) := by
  refine ⟨fun pins s σ H Q I h => ?_⟩
  refine wpAny_Call_method0_late (nice_base hno _ _) hline (thn (ho.run pins s σ H _ I h) fun v s1 ⟨x, H1, I1, r1, ty, q1⟩ => ?_)
  obtain ⟨h1, h2⟩ := tyW_is I1 r1 ty
  exact ⟨T, id, pa, slot, hty, h1, h2, Calls.callWith_builtin rfl (PySem.evalArgs_none (hm pins s1 σ H1 x [] v [] Q I1 r1 .nil q1))⟩
theorem nil_weak {T : String} {rel : V → List V → Hp → VK → Prop} {to : TE} {σ : Sg} {H : Hp} {Q : VK} (hto : ∀ σ H Q Q', (∀ v H, Q v H → Q' v H) → to σ H Q → to σ H Q') (h : tWM X.K T rel to (tVs X W (fun s => .ok [] s)) σ H Q) : tWM X.K T rel to tNil σ H Q :=
  hto _ _ _ _ (fun v H1 ⟨ty, r, s, R, q⟩ => ⟨ty, q r [] H1 (.refl r) R rfl⟩) h
theorem tE_mono {f : S → Res D} : ∀ (σ : Sg) (H : Hp) (Q Q' : VK), (∀ v H, Q v H → Q' v H) → tE X W f σ H Q → tE X W f σ H Q' := fun σ H Q Q' k ⟨r, s, R, h⟩ => ⟨r, s, R, h.mono k⟩
theorem last_get {α : Type} (l : List α) : l[l.length - 1]? = l.getLast? := by rw [List.getLast?_eq_getElem?]
theorem VRs.dropLast {g : Gm} {r : RC} {ds : List D} {xs : List V} (h : VRs g r ds xs) : VRs g r ds.dropLast xs.dropLast := by
  rw [List.dropLast_eq_take, List.dropLast_eq_take, h.length]
  exact h.take _
theorem snd_pop (ho : PE X o (tE X W fo)) (hf : name = nm "pop") (hno : nice o = true) (hline : (apos.endLine == cpos.line) = true) :
    PE X (.Call (.Attribute o name apos) [] [] cpos) (tE X W (fMw .pop fo (fun s => .ok [] s))) := by
  subst hf
  refine (pe_wm0 PySem.F.plainAttrs_list PySem.F.slot_list_pop PySem.F.type_list_pop mt_pop ho hno hline).weak fun σ H Q h => nil_weak tE_mono (mw_weak ?_ h)
  intro r H ys ds d ob a xs vs Q hH hl q qs em k
  have e0 : ds = [] := by
    cases ds with
    | nil => rfl
    | cons x r => cases em
  subst e0
  simp only [mw] at em
  obtain ⟨y, e1, e2⟩ := Option.map_eq_some_iff.mp em
  cases e2
  have qs : vs = [] := qs
  subst qs
  obtain ⟨v, e3, q3⟩ := q.get e1
  rw [q.length] at e3
  refine ⟨a, xs, v, rfl, rfl, hH, e3, k _ _ ⟨_, rfl, ?_, q.dropLast⟩ q3⟩
  rw [List.length_dropLast]
  omega
theorem snd_clear (ho : PE X o (tE X W fo)) (hf : name = nm "clear") (hno : nice o = true) (hline : (apos.endLine == cpos.line) = true) :
    PE X (.Call (.Attribute o name apos) [] [] cpos) (tE X W (fMw .clear fo (fun s => .ok [] s))) := by
  subst hf
  refine (pe_wm0 PySem.F.plainAttrs_list PySem.F.slot_list_clear PySem.F.type_list_clear mt_clear ho hno hline).weak fun σ H Q h => nil_weak tE_mono (mw_weak ?_ h)
  intro r H ys ds d ob a xs vs Q hH hl q qs em k
  have e0 : ds = [] := by
    cases ds with
    | nil => rfl
    | cons x r => cases em
  subst e0
  cases em
  have qs : vs = [] := qs
  subst qs
  exact ⟨a, xs, rfl, rfl, hH, k _ _ ⟨[], rfl, Nat.zero_le _, rfl⟩ rfl⟩

/-! ### o[i] = v -/
theorem keqs_any (x : Key) : ∀ kvs : List (Key × V), ((kvs.map fun p => kD p.1).any fun k => D.keq k (kD x)) = kvs.any fun kv => decide (kv.1 = x)
  | [] => rfl
  | p :: r => by simp only [List.map_cons, List.any_cons, keq_kD, keqs_any x r]
theorem dPutV_K {g : Gm} {r : RC} (x : Key) {y : D} {w : V} (hy : VR g r y w) : ∀ (kvs : List (Key × V)) (vs : List D), VRs g r vs (kvs.map (·.2)) → VRs g r (dPutV (kvs.map fun p => kD p.1) vs (kD x) y) ((kvs.map fun kv => if kv.1 = x then (kv.1, w) else kv).map (·.2))
  | [], vs, _ => by
    simp [dPutV]
    exact rfl
  | p :: r', [], h => by obtain ⟨_, h⟩ := h
  | p :: r', v :: vs, h => by
    obtain ⟨a, t, e, h1, h2⟩ := h
    cases e
    refine ⟨_, _, rfl, ?_, dPutV_K x hy r' vs h2⟩
    show VR g _ (if D.keq (kD p.1) (kD x) = true then y else v) (if p.1 = x then (p.1, w) else p).2
    rw [keq_kD]
    by_cases h : p.1 = x
    · simp only [h, decide_true, if_true]
      exact hy
    · simp only [h, decide_false, Bool.false_eq_true, if_false]
      exact h1
theorem keqs_anyT (x : List Key) : ∀ kvs : List (List Key × V), ((kvs.map fun p => D.tup (p.1.map kD)).any fun k => D.keq k (.tup (x.map kD))) = kvs.any fun kv => decide (kv.1 = x)
  | [] => rfl
  | p :: r => by
    have e : D.keq (.tup (p.1.map kD)) (.tup (x.map kD)) = decide (p.1 = x) := by rw [D.keq]; exact eqvs_kD _ _
    simp only [List.map_cons, List.any_cons, e, keqs_anyT x r]
theorem dPutV_T {g : Gm} {r : RC} (x : List Key) {y : D} {w : V} (hy : VR g r y w) : ∀ (kvs : List (List Key × V)) (vs : List D), VRs g r vs (kvs.map (·.2)) → VRs g r (dPutV (kvs.map fun p => .tup (p.1.map kD)) vs (.tup (x.map kD)) y) ((kvs.map fun kv => if kv.1 = x then (kv.1, w) else kv).map (·.2))
  | [], vs, _ => by
    simp [dPutV]
    exact rfl
  | p :: r', [], h => by obtain ⟨_, h⟩ := h
  | p :: r', v :: vs, h => by
    obtain ⟨a, t, e, h1, h2⟩ := h
    cases e
    refine ⟨_, _, rfl, ?_, dPutV_T x hy r' vs h2⟩
    show VR g _ (if D.keq (.tup (p.1.map kD)) (.tup (x.map kD)) = true then y else v) (if p.1 = x then (p.1, w) else p).2
    have e : D.keq (.tup (p.1.map kD)) (.tup (x.map kD)) = decide (p.1 = x) := by rw [D.keq]; exact eqvs_kD _ _
    rw [e]
    by_cases h : p.1 = x
    · simp only [h, decide_true, if_true]
      exact hy
    · simp only [h, decide_false, Bool.false_eq_true, if_false]
      exact h1
theorem upd_fst {κ : Type} [DecidableEq κ] (x : κ) (w : V) : ∀ kvs : List (κ × V), (kvs.map fun kv => if kv.1 = x then (kv.1, w) else kv).map (·.1) = kvs.map (·.1)
  | [] => rfl
  | p :: r => by
    simp only [List.map_cons, upd_fst x w r]
    by_cases h : p.1 = x <;> simp [h]
theorem upd_all {κ : Type} [DecidableEq κ] {F : κ → Prop} {x : κ} {w : V} {kvs : List (κ × V)} (h : ∀ p ∈ kvs, F p.1) : ∀ p ∈ kvs.map (fun kv => if kv.1 = x then (kv.1, w) else kv), F p.1 := fun p hp => by
  obtain ⟨q, hq, rfl⟩ := List.mem_map.mp hp
  by_cases e : q.1 = x
  · rw [if_pos e]; exact h q hq
  · rw [if_neg e]; exact h q hq
theorem kOk_of {g : Gm} {r : RC} {d : D} {k : Key} {v : V} (e : toKey d = some k) (h : VR g r d v) : kOk k := by
  cases d <;> simp only [toKey, reduceCtorEq] at e
  · cases e; trivial
  · cases e
    obtain ⟨_, l⟩ := h
    show (Str.length _) ≤ szL
    first | (rw [toStr_len]; exact l) | (simpa [toStr, Str.length] using l)
def rPut (X : Cx) : V → V → V → Hp → (Hp → Prop) → Prop := fun o i v H Q => rSetL o i v H Q ∨ rSetD o i v H Q
theorem set_any (hu : X.A.units + 64 < cLine) : PSet X (rPut X) := fun pins s σ H o i v ov iv u Q I ro ri rv h => by
  rcases h with h | h
  · exact set_list pins s σ H o i v ov iv u Q I ro ri rv h
  · exact set_dict (by omega) pins s σ H o i v ov iv u Q I ro ri rv h

theorem s_put {r : RC} {s s' : S} {σ : Sg} {H : Hp} {x d y w : D} {ob : Ob} {v iv vv : V} {Q : Hp → Prop} (R : Rel (gX X) r s σ H) (hx : VX (gX X) r σ x v) (e1 : vw x s = some d) (hi : VR (gX X) r y iv) (hv : VR (gX X) r w vv) (e2 : putIx d y w = some ob) (e3 : put x ob s = some s')
    (k : ∀ H', Rel (gX X) r s' σ H' → Q H') : rPut X v iv vv H Q := by
  have c := R.vw hx e1
  unfold putIx at e2
  split at e2
  · obtain ⟨j, ej, rfl⟩ := Option.map_eq_some_iff.mp e2
    obtain ⟨a, vs, rfl, ha, hl, q⟩ := c
    have hi : iv = .int _ := hi
    subst hi
    refine .inl ⟨a, vs, _, j, rfl, rfl, ha, by rw [ixN_eq, ← q.length]; exact ej, ?_⟩
    obtain ⟨p, a', ea, _, R'⟩ := R.putS (u := .lst (vs.set j vv)) hx e3 ⟨_, rfl, by rw [List.length_set]; exact hl, q.set j hv⟩
    cases ea
    exact k _ R'
  · rename_i _ t ks vs
    split at e2
    · rename_i hk
      cases e2
      simp only [Bool.and_eq_true, decide_eq_true_eq] at hk
      obtain ⟨hk, hz⟩ := hk
      obtain ⟨a, u, ws, rfl, rd, dd, hl, q⟩ := c
      -- what stands there may be written
      have exact' : ∀ u', OR (gX X) r (.dct t (dPut ks vs y w).1 (dPut ks vs y w).2) u' → (∃ u0, H a = some u0 ∧ Mut (some u0)) ∧ Q (upd H a u') := fun u' ho => by
        obtain ⟨p, a', ea, at', R'⟩ := R.putS (u := u') hx e3 ho
        cases ea
        exact ⟨R.at_some at', k _ R'⟩
      have ex : ∀ {u1 : HO}, Rd H a u1 → (∃ u0, H a = some u0 ∧ Mut (some u0)) → H a = some u1 := fun {u1} h ⟨u0, e0, m0⟩ => by
        rcases h with h | ⟨o, h⟩
        · exact h
        · rw [h] at e0
          cases e0
          exact m0.elim
      rcases dd with ⟨rfl, kvs, rfl, rfl, rfl, hok⟩ | ⟨rfl, kvs, rfl, rfl, rfl, hok⟩
      · have hfl : y.flat = true := by cases y <;> first | rfl | (exact absurd hk (by simp [D.isKey]))
        obtain ⟨kk, ek⟩ := toKey_flat hfl
        have ey := kD_toKey ek
        have ev := kV_of ek hi
        have kok := kOk_of ek hi
        subst ev ey
        have hlen : kvs.length < szL := by simpa using hz
        have ho : OR (gX X) r (.dct false (dPut (kvs.map fun p => kD p.1) vs (kD kk) w).1 (dPut (kvs.map fun p => kD p.1) vs (kD kk) w).2) (.dK (putK kvs kk vv)) := by
          unfold dPut putK
          rw [keqs_any]
          split
          · rename_i hany
            refine ⟨_, .inl ⟨rfl, _, rfl, ?_, rfl, upd_all (F := kOk) hok⟩, ?_, dPutV_K kk hv kvs vs q⟩
            · have := congrArg (List.map kD) (upd_fst kk vv kvs)
              simp only [List.map_map] at this ⊢
              exact this.symm
            · have := (dPutV_K kk hv kvs vs q).length
              rw [this]
              simp only [List.length_map]
              omega
          · refine ⟨_, .inl ⟨rfl, _, rfl, by simp, rfl, fun p hp => ?_⟩, ?_, ?_⟩
            · rcases List.mem_append.mp hp with hp | hp
              · exact hok p hp
              · cases List.mem_singleton.mp hp
                exact kok
            · rw [List.length_append]
              have := q.length
              simp only [List.length_map] at this
              show _ + 1 ≤ _
              omega
            · rw [List.map_append]
              exact q.append (VRs.cons hv VRs.nil)
        obtain ⟨m, qq⟩ := exact' _ ho
        exact .inr ⟨a, _, rfl, .inl ⟨kvs, kk, ex rd m, rfl, by rw [lineEq]; exact hlen, rfl⟩, qq⟩
      · cases y with
        | tup xs =>
          obtain ⟨b, ys, rfl, hb, hbl, qk⟩ := hi
          have hfl : xs.all D.flat = true := by simpa [D.isKey] using hk
          obtain ⟨kk, e1', e2'⟩ := kVs_of hfl qk
          have kok : ∀ k ∈ kk, kOk k := fun k hk' => by
            subst e1' e2'
            obtain ⟨i, hi'⟩ := List.getElem?_of_mem hk'
            obtain ⟨v', ev', qv'⟩ := VRs.get (g := gX X) (r := r) qk (i := i) (d := kD k) (by rw [List.getElem?_map, hi']; rfl)
            cases k with
            | inl _ => trivial
            | inr z =>
              obtain ⟨_, l⟩ := qv'
              show z.length ≤ szL
              simpa [Str.length] using l
          subst e1' e2'
          have hlen : kvs.length < szL := by simpa using hz
          have ho : OR (gX X) r (.dct true (dPut (kvs.map fun p => .tup (p.1.map kD)) vs (.tup (kk.map kD)) w).1 (dPut (kvs.map fun p => .tup (p.1.map kD)) vs (.tup (kk.map kD)) w).2) (.dT (putK kvs kk vv)) := by
            unfold dPut putK
            rw [keqs_anyT]
            split
            · rename_i hany
              refine ⟨_, .inr ⟨rfl, _, rfl, ?_, rfl, upd_all (F := fun k : List Key => k.length ≤ szL ∧ ∀ x ∈ k, kOk x) hok⟩, ?_, dPutV_T kk hv kvs vs q⟩
              · have := congrArg (List.map fun k : List Key => D.tup (k.map kD)) (upd_fst kk vv kvs)
                simp only [List.map_map] at this ⊢
                exact this.symm
              · have := (dPutV_T kk hv kvs vs q).length
                rw [this]
                simp only [List.length_map]
                omega
            · refine ⟨_, .inr ⟨rfl, _, rfl, by simp, rfl, fun p hp => ?_⟩, ?_, ?_⟩
              · rcases List.mem_append.mp hp with hp | hp
                · exact hok p hp
                · cases List.mem_singleton.mp hp
                  exact ⟨by simpa using hbl, kok⟩
              · rw [List.length_append]
                have := q.length
                simp only [List.length_map] at this
                show _ + 1 ≤ _
                omega
              · rw [List.map_append]
                exact q.append (VRs.cons hv VRs.nil)
          obtain ⟨m, qq⟩ := exact' _ ho
          exact .inr ⟨a, _, rfl, .inr ⟨kvs, kk, b, ex rd m, rfl, R.fz _ _ hb, by rw [lineEq]; exact hlen, rfl⟩, qq⟩
        | _ => exact absurd hk (by simp [D.isKey])
    · cases e2
  · cases e2
end
end RS

/-! RsSnd6: targets, what is walked, comprehensions. -/
namespace RS
open PySem PySem.Spec PyProof.Rows L2

section
variable {g : Gm} {r r' : RC} {s s' : S} {σ σ' : Sg} {H : Hp}
/-- some slots hold something else, none of it an object -/
theorem Rel.slots (R : Rel g r s σ H) {env' : List Slot} (hl : env'.length = s.env.length) (hσ : σ'.length = σ.length)
    (h : ∀ (i : Nat) x, env'[i]? = some x → (s.env[i]? = some x ∧ σ'[i]? = σ[i]?) ∨ (x = .un ∧ ¬ ∃ o, s.env[i]? = some (.bor o)) ∨ (∃ d v, x = .val d ∧ σ'[i]? = some (some v) ∧ VR g r d v ∧ ¬ ∃ o, s.env[i]? = some (.bor o)))
    : Rel g r ⟨env', s.st⟩ σ' H := by
  have at' : ∀ p a, AtS r ⟨env', s.st⟩ σ' p a → AtS r s σ p a := fun p a q => by
    cases p with
    | inl i =>
      obtain ⟨⟨x, e, ob⟩, q⟩ := q
      rcases h i x e with ⟨e1, e2⟩ | ⟨rfl, _⟩ | ⟨d, v, rfl, _⟩
      · exact ⟨⟨x, e1, ob⟩, by rw [← e2]; exact q⟩
      · cases ob
      · cases ob
    | inr n => exact q
  refine ⟨R.fz, R.gd, R.gm, by rw [hσ, ← R.len]; exact hl, fun i x e => ?_, R.stl, R.sto, fun p q a h1 h2 => R.inj _ _ _ (at' _ _ h1) (at' _ _ h2), fun p a q => R.sep _ _ (at' _ _ q), fun i a e => ?_, fun i o e => ?_⟩
  · have hi : i < σ'.length := by rw [hσ, ← R.len, ← hl]; exact (List.getElem?_eq_some_iff.mp e).1
    rcases h i x e with ⟨e1, e2⟩ | ⟨rfl, _⟩ | ⟨d, v, rfl, e2, q, _⟩
    · obtain ⟨y, ey, q⟩ := R.env i x e1
      exact ⟨y, by rw [e2]; exact ey, q⟩
    · exact ⟨_, List.getElem?_eq_getElem hi, trivial⟩
    · exact ⟨_, e2, v, rfl, q⟩
  · obtain ⟨⟨o, e1⟩, e2⟩ := R.bo i a e
    have hi : i < env'.length := by rw [hl]; exact (List.getElem?_eq_some_iff.mp e1).1
    rcases h i _ (List.getElem?_eq_getElem hi) with ⟨k1, k2⟩ | ⟨_, k⟩ | ⟨_, _, _, _, _, k⟩
    · rw [e1] at k1
      exact ⟨⟨o, by rw [List.getElem?_eq_getElem hi]; exact k1.symm⟩, by rw [k2]; exact e2⟩
    · exact (k ⟨o, e1⟩).elim
    · exact (k ⟨o, e1⟩).elim
  · rcases h i _ e with ⟨k1, k2⟩ | ⟨z, _⟩ | ⟨_, _, z, _⟩
    · exact R.bo2 i o k1
    · cases z
    · cases z
theorem setN_ok {i : Nat} {d : D} {env env' : List Slot} (h : setN i d env = some env') : env' = env.set i (.val d) ∧ i < env.length ∧ ¬ ∃ o, env[i]? = some (.bor o) := by
  unfold setN at h
  split at h
  · cases h
  · cases h
  · rename_i x hb hx
    cases h
    exact ⟨rfl, (List.getElem?_eq_some_iff.mp hx).1, fun ⟨o, e⟩ => by rw [hx] at e; cases e; exact hb o rfl⟩
theorem Rel.setN (R : Rel g r s σ H) {i : Nat} {d : D} {v : V} {env' : List Slot} (h : RS.setN i d s.env = some env') (q : VR g r d v) : Rel g r ⟨env', s.st⟩ (σ.set i (some v)) H := by
  obtain ⟨rfl, hi, nb⟩ := setN_ok h
  have hi' : i < σ.length := by rw [← R.len]; exact hi
  refine R.slots (by simp) (by simp) fun j x e => ?_
  by_cases hj : i = j
  · subst hj
    rw [List.getElem?_set_self hi] at e
    cases e
    exact .inr (.inr ⟨d, v, rfl, by rw [List.getElem?_set_self hi'], q, nb⟩)
  · rw [List.getElem?_set_ne hj] at e
    exact .inl ⟨e, by rw [List.getElem?_set_ne hj]⟩
end

/-! ### targets -/
def gT (K : PySem.W.Frag) : Tg → TG
  | .nm i => gName i
  | .t2 a b => gTup K 2 (gCons (gT K a) (gCons (gT K b) gNil))
  | .t3 a b c => gTup K 3 (gCons (gT K a) (gCons (gT K b) (gCons (gT K c) gNil)))
theorem wipe_get {σ : Sg} {i : Nat} : ∀ {vs : List Nat}, i ∉ vs → (wipe σ vs)[i]? = σ[i]?
  | [], _ => rfl
  | v :: vs, h => by
    simp only [List.mem_cons, not_or] at h
    unfold wipe
    rw [List.getElem?_set_ne (Ne.symm h.1)]
    exact wipe_get h.2
theorem wipe_none {σ : Sg} {i : Nat} : ∀ {vs : List Nat}, i ∈ vs → i < σ.length → (wipe σ vs)[i]? = some none
  | v :: vs, h, hi => by
    unfold wipe
    by_cases e : v = i
    · subst e
      rw [List.getElem?_set_self (by rw [wipe_length]; exact hi)]
    · rw [List.getElem?_set_ne e]
      exact wipe_none ((List.mem_cons.mp h).resolve_left (Ne.symm e)) hi
theorem wipe_ext {σ σ' : Sg} {vs : List Nat} (hl : σ.length = σ'.length) (h : ∀ i, i ∉ vs → σ[i]? = σ'[i]?) : wipe σ vs = wipe σ' vs := by
  apply List.ext_getElem?
  intro i
  by_cases hi : i ∈ vs
  · by_cases hb : i < σ.length
    · rw [wipe_none hi hb, wipe_none hi (by rw [← hl]; exact hb)]
    · rw [List.getElem?_eq_none (by rw [wipe_length]; omega), List.getElem?_eq_none (by rw [wipe_length]; omega)]
  · rw [wipe_get hi, wipe_get hi]
    exact h i hi
theorem wipe_set {σ : Sg} {vs : List Nat} {i : Nat} {x : Option V} (h : i ∈ vs) : wipe (σ.set i x) vs = wipe σ vs :=
  wipe_ext (by simp) fun j hj => by rw [List.getElem?_set_ne (fun e => by subst e; exact hj h)]
section
variable {X : Cx} {own : List Nat}
theorem s_asg : ∀ (tg : Tg) (d : D) (v : V) {r : RC} {s : S} {σ : Sg} {H : Hp} {env' : List Slot} {Q : Sg → Hp → Prop}, Rel (gX X) r s σ H → VR (gX X) r d v → asg tg d s.env = some env' →
    (∀ σ', Rel (gX X) r ⟨env', s.st⟩ σ' H → (tgIn own tg = true → wipe σ' own = wipe σ own) → Q σ' H) → gT X.K tg v σ H Q
  | .nm i, d, v, r, s, σ, H, env', Q, R, q, e, k => k _ (R.setN e q) fun h => wipe_set (by simpa [tgIn] using h)
  | .t2 a b, d, v, r, s, σ, H, env', Q, R, q, e, k => by
    unfold asg at e
    split at e <;> (first | (cases e; done) | skip) <;> rename_i ht <;> cases ht
    obtain ⟨env1, e1, e2⟩ := Option.bind_eq_some_iff.mp e
    obtain ⟨p, xs, rfl, hp, _, x, t, rfl, qx, y, t', rfl, qy, rfl⟩ := q
    refine ⟨p, [x, y], rfl, .inl (.inl (R.fz _ _ hp)), rfl, x, [y], rfl, ?_⟩
    refine s_asg a _ x R qx e1 fun σ1 R1 w1 => ⟨y, [], rfl, ?_⟩
    refine s_asg b _ y (s := ⟨env1, s.st⟩) R1 qy e2 fun σ2 R2 w2 => ⟨rfl, k σ2 R2 fun h => ?_⟩
    simp only [tgIn, Bool.and_eq_true] at h
    rw [w2 h.2, w1 h.1]
  | .t3 a b c, d, v, r, s, σ, H, env', Q, R, q, e, k => by
    unfold asg at e
    split at e <;> (first | (cases e; done) | skip) <;> rename_i ht <;> cases ht
    obtain ⟨env1, e1, e⟩ := Option.bind_eq_some_iff.mp e
    obtain ⟨env2, e2, e3⟩ := Option.bind_eq_some_iff.mp e
    obtain ⟨p, xs, rfl, hp, _, x, t, rfl, qx, y, t', rfl, qy, z, t2, rfl, qz, rfl⟩ := q
    refine ⟨p, [x, y, z], rfl, .inl (.inl (R.fz _ _ hp)), rfl, x, [y, z], rfl, ?_⟩
    refine s_asg a _ x R qx e1 fun σ1 R1 w1 => ⟨y, [z], rfl, ?_⟩
    refine s_asg b _ y (s := ⟨env1, s.st⟩) R1 qy e2 fun σ2 R2 w2 => ⟨z, [], rfl, ?_⟩
    refine s_asg c _ z (s := ⟨env2, s.st⟩) R2 qz e3 fun σ3 R3 w3 => ⟨rfl, k σ3 R3 fun h => ?_⟩
    simp only [tgIn, Bool.and_eq_true] at h
    rw [w3 h.2, w2 h.1.2, w1 h.1.1]
theorem assignEach_nice {e : Expr} (h : nice e = true) (es : List Expr) (env : Env) : assignEach (e :: es) env = (false, assign e env) :: assignEach es env := by
  cases e <;> first | rfl | (exact absurd h (by simp [nice]))
theorem pg_T (hc : X.calm = true) (hN : X.N.Nodup) {N : List Str} {sc : Scope} (hNq : X.N = N) (hs : X.env.scope = sc) : ∀ {tg : Tg} {e : Expr}, chkTg N sc tg e = true → (∀ i x, N[i]? = some x → tgIn own tg = true → i ∈ own → X.fn x = true ∨ X.env.scope.names.lookup x = some .local) → tgIn own tg = true → PG X e (gT X.K tg)
  | .nm i, e, h, hf, ho => by
    cases e <;> simp only [chkTg, reduceCtorEq, Bool.false_eq_true] at h
    rename_i x p
    simp only [loc, Bool.and_eq_true, Bool.or_eq_true, beq_iff_eq] at h
    have hi : i ∈ own := by simpa [tgIn] using ho
    exact pg_name hN (by rw [hNq]; exact h.1) (by unfold L2.Loc; rw [hs]; exact h.2) (hf i x h.1 ho hi)
  | .t2 a b, e, h, hf, ho => by
    unfold chkTg at h
    split at h <;> (first | (cases h; done) | skip) <;> rename_i ht <;> cases ht
    rename_i x y _ _
    simp only [Bool.and_eq_true] at h
    obtain ⟨⟨⟨h1, h2⟩, h3⟩, h4⟩ := h
    have ho' := ho
    simp only [tgIn, Bool.and_eq_true] at ho'
    have A := assignEach_nice h3 [y] X.env
    have B := assignEach_nice h4 [] X.env
    exact pg_tup hc (pgs_cons (pg_T hc hN hNq hs h1 (fun i x e _ => hf i x e ho) ho'.1) (pgs_cons (pg_T hc hN hNq hs h2 (fun i x e _ => hf i x e ho) ho'.2) pgs_nil (by rw [B]; rfl)) (by rw [A]; rfl)) (by rw [A, B]; rfl) (by rw [A, B]; rfl)
  | .t3 a b c, e, h, hf, ho => by
    unfold chkTg at h
    split at h <;> (first | (cases h; done) | skip) <;> rename_i ht <;> cases ht
    rename_i x y z _ _
    simp only [Bool.and_eq_true] at h
    obtain ⟨⟨⟨⟨⟨h1, h2⟩, h3⟩, h4⟩, h5⟩, h6⟩ := h
    have ho' := ho
    simp only [tgIn, Bool.and_eq_true] at ho'
    have A := assignEach_nice h4 [y, z] X.env
    have B := assignEach_nice h5 [z] X.env
    have C := assignEach_nice h6 [] X.env
    exact pg_tup hc (pgs_cons (pg_T hc hN hNq hs h1 (fun i x e _ => hf i x e ho) ho'.1.1) (pgs_cons (pg_T hc hN hNq hs h2 (fun i x e _ => hf i x e ho) ho'.1.2) (pgs_cons (pg_T hc hN hNq hs h3 (fun i x e _ => hf i x e ho) ho'.2) pgs_nil (by rw [C]; rfl)) (by rw [B]; rfl)) (by rw [A]; rfl)) (by rw [A, B, C]; rfl) (by rw [A, B, C]; rfl)
end

/-! ### what is walked -/
abbrev RI : Gm → Sg → RC → List D → L2.It → Prop := fun g _ r ds J => ItOk g r J ds
abbrev tI (X : Cx) (W : WX) (f : S → Res (List D)) : TI := tA RI X W f
theorem _root_.L2.PI.weak {X : Cx} {tg e : Expr} {w w' : TI} (h : PI X tg e w) (k : ∀ σ H R, w' σ H R → w σ H R) : PI X tg e w' := ⟨fun pins s σ H R I q => h.run pins s σ H R I (k σ H R q)⟩
theorem _root_.L2.PI.ev {X : Cx} {W : WX} {tg e : Expr} {f f' : S → Res (List D)} (h : PI X tg e (tI X W f)) (k : ∀ s, f' s = f s) : PI X tg e (tI X W f') := by
  rw [show f' = f from funext k]
  exact h
section
variable {X : Cx} {W : WX} {a b tg : Expr} {fa fb : S → Res D}
def fIof (fa : S → Res D) (s : S) : Res (List D) := (fa s).bind fun d s => (esc d s).bind fun d s => lift (itemsOf d) s
theorem snd_iOf (ha : PE X a (tE X W fa)) : PI X tg a (tI X W (fIof fa)) :=
  (pi_any ha).weak fun σ H Q ⟨r, s, R, h⟩ => by
    refine tA_step (Rv := RE) R h fun r1 s1 d v H1 l1 R1 q1 e1 h => ?_
    obtain ⟨r2, d2, s2, l2, R2, q2, _, h⟩ := esc_step h R1 q1
    obtain ⟨ds, e3, k⟩ := lift_ok h
    exact s_iter R2 q2 e3 k
variable {P : Prog} {n : Nat} {N : List Str} {sc : Scope} {x : Str} {p pos : Pos}
def fRng1 (fa : S → Res D) (s : S) : Res (List D) := (fa s).bind fun x s => match x with
    | .int i => lift (rngItems 0 i) s
    | _ => .stuck
theorem rng_ok {lo hi : Int} {ds : List D} (h : rngItems lo hi = some ds) : (-(2 ^ 62) ≤ lo ∧ lo < 2 ^ 62 ∧ -(2 ^ 62) ≤ hi ∧ hi < 2 ^ 62) ∧ ds = ups lo (hi - lo).toNat := by
  unfold rngItems at h
  split at h
  · rename_i hc
    cases h
    simp only [Bool.and_eq_true, decide_eq_true_eq] at hc
    exact ⟨⟨hc.1.1.1, hc.1.1.2, hc.1.2, hc.2⟩, rfl⟩
  · cases h
theorem snd_rng1 (ok : Okc P n N sc X W) (hx : x = nm "range") (hg : RS.glob sc x = true) (hn : nice a = true) (ha : PE X a (tE X W fa)) : PI X tg (.Call (.Name x p) [a] [] pos) (tI X W (fRng1 fa)) := by
  subst hx
  refine (pi_range1 (ok.gl hg) (ok.blt "range" (by decide)) (pa_cons ha pa_nil (nice_star hn _ _)) (nice_star hn _ _)).weak fun σ H Q ⟨r, s, R, h⟩ => ?_
  show tE X W fa σ H fun x H1 => ∃ j : Int, [x] = [V.int j] ∧ _
  refine tA_step (Rv := RE) R h fun r1 s1 d v H1 l1 R1 q1 e1 h => ?_
  split at h
  · rename_i i
    obtain ⟨ds, e3, k⟩ := lift_ok h
    obtain ⟨⟨_, _, b1, b2⟩, rfl⟩ := rng_ok e3
    have q1 : v = V.int i := q1
    subst q1
    refine ⟨i, rfl, b1, b2, k r1 _ H1 (.refl _) R1 ?_⟩
    rw [Int.sub_zero]
    exact it_rng 0 i.toNat
  · exact h.elim
def fRng2 (fa fb : S → Res D) (s : S) : Res (List D) := (fa s).bind fun x s => (fb s).bind fun y s => match x, y with
    | .int i, .int j => lift (rngItems i j) s
    | _, _ => .stuck
theorem snd_rng2 (ok : Okc P n N sc X W) (hx : x = nm "range") (hg : RS.glob sc x = true) (hn : nice a = true) (hn2 : nice b = true) (ha : PE X a (tE X W fa)) (hb : PE X b (tE X W fb)) : PI X tg (.Call (.Name x p) [a, b] [] pos) (tI X W (fRng2 fa fb)) := by
  subst hx
  have B := nice_star hn2 [] X.env
  refine (pi_range2 (ok.gl hg) (ok.blt "range" (by decide)) (pa_cons ha (pa_cons hb pa_nil B) (nice_star hn _ _)) (by rw [nice_star hn, B]; rfl) (by rw [B]; rfl)).weak fun σ H Q ⟨r, s, R, h⟩ => ?_
  show tE X W fa σ H fun x H1 => tE X W fb σ H1 fun y H2 => ∃ i j : Int, [x, y] = [V.int i, V.int j] ∧ _
  refine tA_step (Rv := RE) R h fun r1 s1 d v H1 l1 R1 q1 e1 hA => ?_
  refine tA_step (Rv := RE) R1 hA fun r2 s2 d2 v2 H2 l2 R2 q2 e2 hB => ?_
  clear hA
  split at hB
  · rename_i i j
    obtain ⟨ds, e3, k⟩ := lift_ok hB
    obtain ⟨⟨b0, b00, b1, b2⟩, rfl⟩ := rng_ok e3
    have q1 : v = V.int i := q1
    have q2 : v2 = V.int j := q2
    subst q1 q2
    exact ⟨i, j, rfl, ⟨b0, b00, b1, b2⟩, k r2 _ H2 (.refl _) R2 (it_rng i _)⟩
  · exact hB.elim
def fEnum (fa : S → Res D) (s : S) : Res (List D) := (fa s).bind fun d s => (esc d s).bind fun d s => lift ((itemsE d).map (numbered 0)) s
theorem isTup_ex {e : Expr} (h : isTupE e = true) : ∃ es k p, e = .Tuple es k p := by
  cases e <;> simp only [isTupE, Bool.false_eq_true] at h
  exact ⟨_, _, _, rfl⟩
theorem snd_enum (ok : Okc P n N sc X W) (ht : isTupE tg = true) (hx : x = nm "enumerate") (hg : RS.glob sc x = true) (hn : nice a = true) (ha : PE X a (tE X W fa)) : PI X tg (.Call (.Name x p) [a] [] pos) (tI X W (fEnum fa)) := by
  subst hx
  obtain ⟨es, kk, tp, rfl⟩ := isTup_ex ht
  refine (pi_enumX (ok.gl hg) (ok.blt "enumerate" (by decide)) (pa_cons ha pa_nil (nice_star hn _ _)) (nice_star hn _ _)).weak fun σ H Q ⟨r, s, R, h⟩ => ?_
  show tE X W fa σ H fun x H1 => ∃ y, [x] = [y] ∧ _
  refine tA_step (Rv := RE) R h fun r1 s1 d v H1 l1 R1 q1 e1 h => ?_
  obtain ⟨r2, d2, s2, l2, R2, q2, _, h⟩ := esc_step h R1 q1
  obtain ⟨ds, e3, k⟩ := lift_ok h
  refine ⟨v, rfl, ?_⟩
  cases d2 <;> simp only [itemsE, Option.map_none, Option.map_some, reduceCtorEq, Option.some.injEq] at e3
  · subst e3
    obtain ⟨rfl, _⟩ := q2
    exact .inr ⟨_, rfl, k r2 _ H1 (.refl _) R2 (it_enumS _)⟩
  · subst e3
    obtain ⟨p, xs, rfl, hp, _, qs⟩ := q2
    exact .inl ⟨p, xs, rfl, .inl (.inl (R2.fz _ _ hp)), k r2 _ H1 (.refl _) R2 (it_enum (.inl (.inl hp)) qs)⟩
def fZip (fa fb : S → Res D) (s : S) : Res (List D) := (fa s).bind fun d s => (esc d s).bind fun d s => (fb s).bind fun e s => (esc e s).bind fun e s => lift (zipD d e) s
theorem snd_zip (ok : Okc P n N sc X W) (ht : isTupE tg = true) (hx : x = nm "zip") (hg : RS.glob sc x = true) (hn : nice a = true) (hn2 : nice b = true) (ha : PE X a (tE X W fa)) (hb : PE X b (tE X W fb)) : PI X tg (.Call (.Name x p) [a, b] [] pos) (tI X W (fZip fa fb)) := by
  subst hx
  obtain ⟨es, kk, tp, rfl⟩ := isTup_ex ht
  have B := nice_star hn2 [] X.env
  refine (pi_zipX (ok.gl hg) (ok.blt "zip" (by decide)) (pa_cons ha (pa_cons hb pa_nil B) (nice_star hn _ _)) (nice_star hn _ _) (by rw [B]; rfl)).weak fun σ H Q ⟨r, s, R, h⟩ => ?_
  show tE X W fa σ H fun x H1 => tE X W fb σ H1 fun y H2 => ∃ x' y', [x, y] = [x', y'] ∧ _
  refine tA_step (Rv := RE) R h fun r1 s1 d v H1 l1 R1 q1 e1 h => ?_
  obtain ⟨r2, d2, s2, l2, R2, q2, _, h⟩ := esc_step h R1 q1
  refine tA_step (Rv := RE) R2 h fun r3 s3 d3 v3 H3 l3 R3 q3 e3 h => ?_
  obtain ⟨r4, d4, s4, l4, R4, q4, _, h⟩ := esc_step h R3 q3
  obtain ⟨ds, e5, k⟩ := lift_ok h
  have q2 := (q2.mono l3).mono l4
  refine ⟨v, v3, rfl, ?_⟩
  unfold zipD at e5
  split at e5
  · cases e5
    obtain ⟨p, xs, rfl, hp, _, qs⟩ := q2
    obtain ⟨p', ys, rfl, hp', _, qs'⟩ := q4
    exact .inl ⟨p, p', xs, ys, rfl, rfl, .inl (.inl (R4.fz _ _ hp)), .inl (.inl (R4.fz _ _ hp')), k r4 _ H3 (.refl _) R4 (it_zipL (.inl (.inl hp)) (.inl (.inl hp')) qs qs')⟩
  · cases e5
    obtain ⟨p, xs, rfl, hp, _, qs⟩ := q2
    obtain ⟨p', ys, rfl, hp', _, qs'⟩ := q4
    exact .inr (.inl ⟨p, p', xs, ys, rfl, rfl, .inl (.inl (R4.fz _ _ hp)), .inl (.inl (R4.fz _ _ hp')), k r4 _ H3 (.refl _) R4 (it_zipT (.inl (.inl hp)) (.inl (.inl hp')) qs qs')⟩)
  · cases e5
    obtain ⟨rfl, _⟩ := q2
    obtain ⟨rfl, _⟩ := q4
    exact .inr (.inr ⟨_, _, rfl, rfl, k r4 _ H3 (.refl _) R4 (it_zipS _ _)⟩)
  · cases e5
end
end RS

/-! RsSnd7: list comprehensions. -/
namespace RS
open PySem PySem.Spec PyProof.Rows L2

section
variable {g : Gm} {r r' : RC} {s s' : S} {σ σ' : Sg} {H : Hp}
theorem wip_length (env : List Slot) : ∀ vs : List Nat, (wip vs env).length = env.length
  | [] => rfl
  | v :: vs => by unfold wip; rw [List.length_set, wip_length env vs]
theorem wip_get {env : List Slot} {i : Nat} : ∀ {vs : List Nat}, i ∉ vs → (wip vs env)[i]? = env[i]?
  | [], _ => rfl
  | v :: vs, h => by
    simp only [List.mem_cons, not_or] at h
    unfold wip
    rw [List.getElem?_set_ne (Ne.symm h.1)]
    exact wip_get h.2
theorem wip_un {env : List Slot} {i : Nat} {x : Slot} : ∀ {vs : List Nat}, i ∈ vs → (wip vs env)[i]? = some x → x = .un
  | v :: vs, h, e => by
    unfold wip at e
    by_cases hv : v = i
    · subst hv
      by_cases hb : v < (wip vs env).length
      · rw [List.getElem?_set_self hb] at e
        cases e
        rfl
      · rw [List.getElem?_eq_none (by simpa using hb)] at e
        cases e
    · rw [List.getElem?_set_ne hv] at e
      exact wip_un ((List.mem_cons.mp h).resolve_left (Ne.symm hv)) e
/-- the block's own names are forgotten -/
theorem Rel.wip (R : Rel g r s σ H) {own : List Nat} (nb : ∀ i ∈ own, r.bo i = none) : Rel g r ⟨RS.wip own s.env, s.st⟩ (wipe σ own) H := by
  refine R.slots (wip_length _ _) (wipe_length _ _) fun i x e => ?_
  by_cases hi : i ∈ own
  · exact .inr (.inl ⟨wip_un hi e, fun ⟨o, eo⟩ => by
      obtain ⟨a, ea⟩ := R.bo2 i o eo
      rw [nb i hi] at ea
      cases ea⟩)
  · rw [wip_get hi] at e
    exact .inl ⟨e, wipe_get hi⟩
theorem noOwn_ok : ∀ {own : List Nat} {env : List Slot}, noOwn own env = true → ∀ i ∈ own, ∀ x, env[i]? = some x → ¬ x.isOb
  | v :: vs, env, h, i, hi, x, e => by
    simp only [noOwn, Bool.and_eq_true] at h
    rcases List.mem_cons.mp hi with rfl | hi
    · have h1 := h.1
      rw [e] at h1
      cases x <;> simp_all [Slot.isOb]
    · exact noOwn_ok h.2 i hi x e
theorem noOwn_bo (R : Rel g r s σ H) {own : List Nat} (h : noOwn own s.env = true) : ∀ i ∈ own, r.bo i = none := fun i hi => by
  cases e : r.bo i with
  | none => rfl
  | some a =>
    obtain ⟨⟨o, eo⟩, _⟩ := R.bo i a e
    exact (noOwn_ok h i hi _ eo trivial).elim
theorem back_spec : ∀ {own : List Nat} {old env : List Slot}, old.length = env.length → (RS.back own old env).length = env.length ∧ (∀ i ∈ own, (RS.back own old env)[i]? = old[i]?) ∧ ∀ i, i ∉ own → (RS.back own old env)[i]? = env[i]?
  | [], old, env, _ => ⟨rfl, (fun i hi => by cases hi), fun i _ => rfl⟩
  | v :: vs, old, env, hl => by
    obtain ⟨a, b, c⟩ := back_spec (own := vs) hl
    unfold RS.back
    split
    · rename_i x hx
      have hv : v < env.length := by rw [← hl]; exact (List.getElem?_eq_some_iff.mp hx).1
      refine ⟨by rw [List.length_set]; exact a, fun i hi => ?_, fun i hi => ?_⟩
      · by_cases e : v = i
        · subst e
          rw [List.getElem?_set_self (by rw [a]; exact hv), hx]
        · rw [List.getElem?_set_ne e]
          exact b i ((List.mem_cons.mp hi).resolve_left (Ne.symm e))
      · simp only [List.mem_cons, not_or] at hi
        rw [List.getElem?_set_ne (Ne.symm hi.1)]
        exact c i hi.2
    · rename_i hx
      have hn : env.length ≤ v := by rw [← hl]; exact List.getElem?_eq_none_iff.mp hx
      refine ⟨a, fun i hi => ?_, fun i hi => ?_⟩
      · by_cases e : v = i
        · subst e
          rw [List.getElem?_eq_none (by rw [a]; exact hn), hx]
        · exact b i ((List.mem_cons.mp hi).resolve_left (Ne.symm e))
      · simp only [List.mem_cons, not_or] at hi
        exact c i hi.2
/-- .. and come back -/
theorem Rel.back {r0 : RC} {s0 : S} {H0 : Hp} (R0 : Rel g r0 s0 σ H0) (R : Rel g r s (wipe σ own) H) (lv : r0.lv r) (hb : r.bo = r0.bo) (no : noOwn own s0.env = true) : Rel g r ⟨RS.back own s0.env s.env, s.st⟩ σ H := by
  have hl : s0.env.length = s.env.length := by rw [R0.len, R.len, wipe_length]
  obtain ⟨b1, b2, b3⟩ := back_spec (own := own) hl
  have nb := noOwn_bo R0 no
  refine R.slots b1 (wipe_length _ _).symm fun i x e => ?_
  have nbor : i ∈ own → ¬ ∃ o, s.env[i]? = some (.bor o) := fun hi ⟨o, eo⟩ => by
    obtain ⟨a, ea⟩ := R.bo2 i o eo
    rw [hb, nb i hi] at ea
    cases ea
  by_cases hi : i ∈ own
  · rw [b2 i hi] at e
    obtain ⟨y, ey, q⟩ := R0.env i x e
    cases x with
    | un => exact .inr (.inl ⟨rfl, nbor hi⟩)
    | val d =>
      obtain ⟨v, rfl, q⟩ := q
      exact .inr (.inr ⟨d, v, rfl, ey, q.lv lv, nbor hi⟩)
    | own o => exact (noOwn_ok no i hi _ e trivial).elim
    | bor o => exact (noOwn_ok no i hi _ e trivial).elim
  · rw [b3 i hi] at e
    exact .inl ⟨e, (wipe_get hi).symm⟩

/-! ### the list in the making: guarded -/
theorem Rel.gdNew (R : Rel g r s σ H) {D : Addr} {u : HO} (hD : H D = none) (mu : Mut (some u)) : Rel g { r with gd := upd r.gd D u } s σ (upd H D u) := by
  have R1 := R.junk hD u
  have ne : ∀ {a w}, H a = some w → a ≠ D := fun {a w} e => ne_of_none e hD
  refine ⟨R1.fz, fun a w e => ?_, fun a w e => ?_, R1.len, R1.env, R1.stl, R1.sto, R1.inj, fun p a h => ?_, R1.bo, R1.bo2⟩
  · by_cases h : a = D
    · subst h
      have e : upd r.gd a u a = some w := e
      rw [upd_same] at e ⊢
      exact e
    · have e : upd r.gd D u a = some w := e
      rw [upd_ne h] at e
      exact R1.gd a w e
  · by_cases h : a = D
    · subst h
      have e : upd r.gd a u a = some w := e
      rw [upd_same] at e
      cases e
      refine ⟨mu, ?_⟩
      cases ef : r.fz a with
      | none => rfl
      | some w => exact (ne (R.fz _ _ ef) rfl).elim
    · have e : upd r.gd D u a = some w := e
      rw [upd_ne h] at e
      exact R1.gm a w e
  · obtain ⟨z1, z2⟩ := R1.sep p a h
    refine ⟨z1, ?_⟩
    have h' : AtS r s σ p a := h
    obtain ⟨w, ew, _⟩ := R.at_some h'
    show upd r.gd D u a = none
    rw [upd_ne (ne ew)]
    exact z2
theorem Rel.gdPut (R : Rel g r s σ H) {D : Addr} {u u' : HO} (hD : r.gd D = some u) (mu : Mut (some u')) : Rel g { r with gd := upd r.gd D u' } s σ (upd H D u') := by
  obtain ⟨m0, z0⟩ := R.gm D u hD
  have neA : ∀ {p a}, AtS r s σ p a → a ≠ D := fun {p a} h e => by
    subst e
    rw [(R.sep _ _ h).2] at hD
    cases hD
  refine ⟨fun a w e => ?_, fun a w e => ?_, fun a w e => ?_, R.len, fun i x e => ?_, R.stl, fun n o a e1 e2 => ?_, R.inj, fun p a h => ?_, R.bo, R.bo2⟩
  · rw [upd_ne (fun z => by subst z; rw [z0] at e; cases e)]
    exact R.fz a w e
  · by_cases h : a = D
    · subst h
      have e : upd r.gd a u' a = some w := e
      rw [upd_same] at e ⊢
      exact e
    · have e : upd r.gd D u' a = some w := e
      rw [upd_ne h] at e ⊢
      exact R.gd a w e
  · by_cases h : a = D
    · subst h
      have e : upd r.gd a u' a = some w := e
      rw [upd_same] at e
      cases e
      exact ⟨mu, z0⟩
    · have e : upd r.gd D u' a = some w := e
      rw [upd_ne h] at e
      exact R.gm a w e
  · obtain ⟨y, ey, q⟩ := R.env i x e
    refine ⟨y, ey, ?_⟩
    exact q.mono (H' := upd H D u') (.refl r) fun a w ob ex ea => by
      subst ex
      rw [upd_ne (neA (p := .inl i) ⟨⟨x, e, ob⟩, ey⟩)]
      exact ea
  · obtain ⟨w, ew, q⟩ := R.sto n o a e1 e2
    refine ⟨w, ?_, q⟩
    rw [upd_ne (neA (p := .inr n) ⟨(List.getElem?_eq_some_iff.mp e1).1, e2⟩)]
    exact ew
  · obtain ⟨z1, z2⟩ := R.sep p a h
    refine ⟨z1, ?_⟩
    show upd r.gd D u' a = none
    rw [upd_ne (neA h)]
    exact z2
/-- the guard is lifted, the thing set aside -/
theorem Rel.gdDrop {gd0 : Hp} {D : Addr} {u : HO} (R : Rel g r s σ H) (hg : r.gd = upd gd0 D u) (h0 : gd0 D = none) : Rel g { r with gd := gd0 } s σ (rm H D) := by
  have hD : r.gd D = some u := by rw [hg, upd_same]
  obtain ⟨m0, z0⟩ := R.gm D u hD
  have R1 : Rel g { r with gd := gd0 } s σ H := by
    have gd' : ∀ a w, gd0 a = some w → r.gd a = some w := fun a w e => by
      rw [hg, upd_ne (fun z => by subst z; rw [h0] at e; cases e)]
      exact e
    refine ⟨R.fz, fun a w e => R.gd a w (gd' a w e), fun a w e => R.gm a w (gd' a w e), R.len, R.env, R.stl, R.sto, R.inj, fun p a h => ?_, R.bo, R.bo2⟩
    obtain ⟨z1, z2⟩ := R.sep p a h
    refine ⟨z1, ?_⟩
    show gd0 a = none
    cases e : gd0 a with
    | none => rfl
    | some w => rw [gd' a w e] at z2; cases z2
  exact R1.minus z0 h0 fun q a h e => by
    subst e
    rw [(R.sep q a h).2] at hD
    cases hD
end

section
variable {X : Cx} {W : WX}
def fLc (own : List Nat) (tg : Tg) (fi : S → Res (List D)) (fc : S → Res Bool) (fe : S → Res D) (s : S) : Res Ob := (fi s).bind fun xs s => if noOwn own s.env then
      (Res.noexc (lcLoop (fun x s => lcStep own tg fc fe x s) xs { s with env := wip own s.env })).bind
      fun ds s' => if D.fit ds.length then .ok (.lst ds) { s' with env := back own s.env s'.env } else .stuck else .stuck
theorem bind_ok {α β : Type} {m : Res α} {f : α → S → Res β} {b : β} {s' : S} (h : m.bind f = .ok b s') : ∃ a s1, m = .ok a s1 ∧ f a s1 = .ok b s' := by
  cases m with
  | ok a s1 => exact ⟨a, s1, rfl, h⟩
  | exc x s => cases h
  | stuck => cases h
abbrev W0 : WX := fun _ _ _ _ => False
theorem lc_weak {own : List Nat} {tg : Tg} {fi : S → Res (List D)} {fc : S → Res Bool} {fe : S → Res D} (ht : tgIn own tg = true) {σ : Sg} {H : Hp} {Q : VK} (h : tF X W (fLc own tg fi fc fe) σ H Q) :
    tLc (tI X W fi) (gT X.K tg) (tT X W0 fc) (tE X W0 fe) own σ H Q := by
  obtain ⟨r, s, R, h⟩ := h
  refine tF_step (Rv := RI) R h fun r1 s1 xs J H1 l1 R1 hI e1 h => ?_
  split at h
  · rename_i no
    intro Dd hD
    have nb := noOwn_bo R1 no
    cases eL : lcLoop (fun x s => lcStep own tg fc fe x s) xs { s1 with env := wip own s1.env } with
    | stuck => rw [eL] at h; exact h.elim
    | exc x s' => rw [eL] at h; exact h.elim
    | ok dsT sT =>
      rw [eL] at h
      simp only [Res.noexc, Res.bind] at h
      split at h
      · rename_i hfit
        have hfit := fit_le hfit
        have gD : r1.gd Dd = none := by
          cases e : r1.gd Dd with
          | none => rfl
          | some w => rw [R1.gd _ _ e] at hD; cases hD
        have ww : wipe (wipe σ own) own = wipe σ own := wipe_ext (wipe_length _ _) fun i hi => wipe_get hi
        -- the state at the i-th turn
        refine ⟨fun i m H => m + i = xs.length ∧ ∃ r2 s2 ds acc rest, r1.lv r2 ∧ r2.gd = upd r1.gd Dd (.lst acc) ∧ r2.bo = r1.bo ∧ Rel (gX X) r2 s2 (wipe σ own) H ∧ VRs (gX X) r2 ds acc ∧
          lcLoop (fun x s => lcStep own tg fc fe x s) (xs.drop i) s2 = .ok rest sT ∧ dsT = ds ++ rest, ⟨xs.length, by simp, { r1 with gd := upd r1.gd Dd (.lst []) }, { s1 with env := wip own s1.env }, [], [], dsT,
            ⟨fun _ _ h => h, fun _ _ h _ => h, ⟨[], by simp⟩⟩, rfl, rfl, (R1.wip nb).gdNew hD trivial, rfl, eL, rfl⟩, ?_⟩
        rintro i m H2 ⟨hm, r2, s2, ds, acc, rest, lv, hg, hbo, R2, hds, eR, hT⟩
        have hgD : r2.gd Dd = some (.lst acc) := by rw [hg, upd_same]
        cases hx : xs[i]? with
        | none =>
          have hi : xs.length ≤ i := List.getElem?_eq_none_iff.mp hx
          have hi' : i = xs.length := by omega
          subst hi'
          refine .inl ⟨hI.stop lv R2, ?_⟩
          rw [List.drop_length] at eR
          simp only [lcLoop] at eR
          injection eR with eR1 eR2
          subst eR1 eR2
          rw [List.append_nil] at hT
          subst hT
          have R3 := R2.gdDrop hg gD
          have R4 : Rel (gX X) { r2 with gd := r1.gd } ⟨back own s1.env s2.env, s2.st⟩ σ (rm H2 Dd) := Rel.back (own := own) R1 R3 ⟨lv.fz, lv.tup, lv.rho⟩ hbo no
          have := h { r2 with gd := r1.gd } Dd (.lst acc) (rm H2 Dd) ⟨lv.fz, lv.tup, lv.rho, rfl, hbo⟩ R4 rm_same ⟨acc, rfl, hfit, VRs.lv ⟨fun _ _ h => h, fun _ _ h _ => h, ⟨[], by simp⟩⟩ hds⟩
          rw [upd_rm (R2.gd _ _ hgD)] at this
          exact this
        | some d =>
          have hi : i < xs.length := (List.getElem?_eq_some_iff.mp hx).1
          have hdrop : xs.drop i = d :: xs.drop (i + 1) := by
            rw [List.drop_eq_getElem_cons hi]
            have := List.getElem?_eq_getElem hi
            rw [hx] at this
            cases this
            rfl
          rw [hdrop] at eR
          simp only [lcLoop] at eR
          obtain ⟨od, s3, e3, eR⟩ := bind_ok eR
          obtain ⟨rest', s4, e4, eR⟩ := bind_ok eR
          injection eR with hrest eR2
          subst eR2
          refine .inr ⟨hI.go lv R2 hx, fun H' => (m - 1) + (i + 1) = xs.length ∧ ∃ r2 s2 ds acc rest, r1.lv r2 ∧ r2.gd = upd r1.gd Dd (.lst acc) ∧ r2.bo = r1.bo ∧ Rel (gX X) r2 s2 (wipe σ own) H' ∧ VRs (gX X) r2 ds acc ∧
            lcLoop (fun x s => lcStep own tg fc fe x s) (xs.drop (i + 1)) s2 = .ok rest s4 ∧ dsT = ds ++ rest, fun H' q => ⟨m - 1, by omega, q⟩, fun x H3 hy => ?_⟩
          obtain ⟨r3, l3, R3, q3⟩ := hI.yld lv R2 hx hy
          have e3' := e3
          unfold lcStep at e3
          cases ea : asg tg d s2.env with
          | none => rw [ea] at e3; cases e3
          | some env' =>
            rw [ea] at e3
            simp only at e3
            refine s_asg (own := own) tg d x R3 q3 ea fun σ2 R4 w2 => ⟨by rw [w2 ht, ww], ?_⟩
            obtain ⟨b, s5, e5, e3⟩ := bind_ok e3
            refine ⟨r3, _, R4, ?_⟩
            show PA1 _ _ _ _ _ (fc { s2 with env := env' }) _
            rw [e5]
            intro r6 b' H6 l6 R6 hb
            have hb : b = b' := hb
            subst hb
            have nb6 : ∀ {r7 : RC}, r7.bo = r3.bo → ∀ i ∈ own, r7.bo i = none := fun {r7} e i hi => by
              rw [e, l3.bo, hbo]
              exact nb i hi
            have lv6 : r1.lv r6 := (lv.trans l3.lv).trans l6.lv
            have hg6 : r6.gd = upd r1.gd Dd (.lst acc) := by rw [l6.gd, l3.gd, hg]
            have wσ : wipe σ2 own = wipe σ own := by rw [w2 ht, ww]
            cases b with
            | false =>
              rw [if_neg Bool.false_ne_true] at e3 ⊢
              cases e3
              have R7 := R6.wip (nb6 l6.bo)
              rw [wσ] at R7
              refine ⟨by omega, r6, _, ds, acc, rest', lv6, hg6, by rw [l6.bo, l3.bo, hbo], R7, (hds.mono l3).mono l6, e4, ?_⟩
              rw [hT, ← hrest]
              rfl
            | true =>
              rw [if_pos rfl] at e3 ⊢
              obtain ⟨d7, s7, e7, e3⟩ := bind_ok e3
              obtain ⟨d8, s8, e8, e3⟩ := bind_ok e3
              cases e3
              refine ⟨r6, s5, R6, ?_⟩
              rw [e7]
              intro r7 y H7 l7 R7 q7
              have hg7 : r7.gd = upd r1.gd Dd (.lst acc) := by rw [l7.gd, hg6]
              obtain ⟨r8, l8, R8, q8⟩ := R7.esc q7 e8
              have hlen : acc.length < szL := by
                rw [← hds.length]
                have : dsT.length ≤ szL := hfit
                rw [hT, ← hrest, List.length_append] at this
                simp only [consO, List.length_cons] at this
                omega
              refine ⟨acc, R7.gd _ _ (by rw [hg7, upd_same]), by rw [lineEq]; exact hlen, by omega, ?_⟩
              have R9 := R8.wip (nb6 (by rw [l8.bo, l7.bo, l6.bo]))
              rw [wσ] at R9
              have hg8 : r8.gd = upd r1.gd Dd (.lst acc) := by rw [l8.gd, hg7]
              have R10 := R9.gdPut (u' := .lst (acc ++ [y])) (by rw [hg8, upd_same]) trivial
              have lv8 : r1.lv r8 := (lv6.trans l7.lv).trans l8.lv
              refine ⟨{ r8 with gd := upd r8.gd Dd (.lst (acc ++ [y])) }, _, ds ++ [d8], acc ++ [y], rest', ⟨lv8.fz, lv8.tup, lv8.rho⟩, by rw [hg8, upd_upd], by show r8.bo = _; rw [l8.bo, l7.bo, l6.bo, l3.bo, hbo], R10, ?_, e4, ?_⟩
              · exact VRs.lv (r := r8) ⟨fun _ _ h => h, fun _ _ h _ => h, ⟨[], by simp⟩⟩ (((((hds.mono l3).mono l6).mono l7).mono l8).append (VRs.cons q8 VRs.nil))
              · rw [hT, ← hrest]
                simp [consO]
      · exact h.elim
  · exact h.elim
end
end RS

/-! RsSnd8: the evaluator's answers are the model's: expressions. -/
namespace RS
open PySem PySem.Spec PyProof.Rows L2

theorem signs_rel {g : Gm} {r : RC} : ∀ {l : List Nat}, VRs g r (l.map fun c => .str [c]) ((l.map Froz.sing).map V.str)
  | [] => rfl
  | c :: l => ⟨_, _, rfl, ⟨rfl, by show 1 ≤ szL; decide⟩, signs_rel (l := l)⟩
theorem snd_sset {P : Prog} {n : Nat} {N : List Str} {sc : Scope} {X : Cx} {W : WX} {fa : S → Res D} {x y : Str} {p p2 p3 pos : Pos} {e : Expr} (ok : Okc P n N sc X W) (hx : x = nm "sorted") (hy : y = nm "set") (hg : RS.glob sc x = true) (hg2 : RS.glob sc y = true) (hn : nice e = true) (ha : PE X e (tE X W fa)) :
    PE X (.Call (.Name x p) [.Call (.Name y p2) [e] [] p3] [] pos) (tE X W (f1 fa ssetD)) := by
  subst hx hy
  refine (pe_sset ok.calm (ok.gl hg) (ok.blt "sorted" (by decide)) (ok.gl hg2) (ok.blt "set" (by decide)) ha (nice_star hn [] _)).weak fun σ H Q h => t1_weak (fun r s σ H x d v Q R c e k => ?_) h
  unfold ssetD at e
  split at e
  · split at e
    · rename_i cs h60
      cases e
      obtain ⟨rfl, l⟩ := c
      have h60 : cs.length ≤ 60 := of_decide_eq_true h60
      refine ⟨cs, rfl, h60, fun p hp => k.lst R signs_rel ?_ hp⟩
      rw [List.length_map]
      exact Nat.le_trans (signSet_len (cs := cs)) (Nat.le_trans h60 (by decide))
    · cases e
  · cases e

section
variable {P : Prog} {n : Nat} {N : List Str}
theorem snd_lit {sc : Scope} {X : Cx} {W : WX} {d : D} {c : Const} {k : Nat} {pos : Pos} (h : litB d c = true) : PE X (.Constant c k pos) (tE X W (fun s => .ok d s)) := by
  unfold litB at h
  split at h
  · exact snd_ok pe_non fun r => rfl
  · rw [beq_iff_eq] at h
    subst h
    exact snd_ok pe_bl fun r => rfl
  · rw [beq_iff_eq] at h
    subst h
    exact snd_ok pe_int fun r => rfl
  · simp only [Bool.and_eq_true, beq_iff_eq, decide_eq_true_eq] at h
    obtain ⟨h1, h2⟩ := h
    subst h1
    exact snd_ok pe_str fun r => ⟨by rw [toStr_of], h2⟩
  · cases h
theorem snd_glb {sc : Scope} {X : Cx} {W : WX} (ok : Okc P n N sc X W) {x : String} {y : Str} {pos : Pos} (hy : y = nm x) (hg : RS.glob sc y = true) (hs : (P.glob x).isSome = true) : PE X (.Name y pos) (tE X W (fun s => lift (P.glob x) s)) := by
  obtain ⟨d, hd⟩ := Option.isSome_iff_exists.mp hs
  obtain ⟨v, u, h1, h2, h3⟩ := ok.glob x d hd
  subst hy
  exact (snd_ok (pe_glob (ok.gl hg) h1 h2 (glob_dbg hg)) h3).ev fun s => by rw [hd]; rfl
theorem allN {e : Expr} {es : List Expr} (h : (e :: es).all nice = true) : nice e = true ∧ es.all nice = true := by simpa using h
theorem isNone_ex {e : Expr} (h : isNone e = true) : nice e = true := by
  unfold isNone at h
  split at h
  · rfl
  · cases h
theorem mx_few {m : Mx} {e : Expr} {es : List Expr} (h : (e :: es).length = m.arity) : es.length < 25 := by
  have : m.arity ≤ 2 := by cases m <;> decide
  rw [← h, List.length_cons] at this
  omega
/-- a comprehension's block -/
theorem Okc.blk {sc scope : Scope} {X : Cx} {W : WX} (ok : Okc P n N sc X W) (s : Shared) (H : Hp) (C : Addr) (cl : List (Str × Addr)) (fp : List Addr) : Okc P n N (relS scope sc) (X.blk s H scope (compEnvC scope cl C X.env) fp) W0 :=
  ⟨by show relabel scope X.env = _; rw [← ok.scq]; rfl, ok.Nq, ok.nd, ok.calm, ok.gq, ok.room, takes0, ok.fns, ok.glob, ok.blt⟩
def ownP (N : List Str) (own : List Nat) : List (Str × Nat) := own.filterMap fun i => (N[i]?).map fun x => (x, i)
theorem ownP_snd {own : List Nat} (h : ∀ i ∈ own, i < N.length) : (ownP N own).map (·.2) = own := by
  induction own with
  | nil => rfl
  | cons i r ih =>
    have hi := h i (List.mem_cons_self ..)
    unfold ownP
    rw [List.filterMap_cons, List.getElem?_eq_getElem hi]
    show i :: (ownP N r).map (·.2) = i :: r
    rw [ih fun j hj => h j (List.mem_cons_of_mem _ hj)]
theorem blk_ok {sc scope : Scope} {own : List Nat} (h : blkB N sc scope own = true) : BlkOk N sc scope (ownP N own) ∧ (ownP N own).map (·.2) = own := by
  simp only [blkB, Bool.and_eq_true, List.all_eq_true, beq_iff_eq, Bool.or_eq_true, Bool.not_eq_true', beq_eq_false_iff_ne, decide_eq_true_eq, List.any_eq_true] at h
  obtain ⟨⟨⟨⟨h1, h2⟩, h3⟩, h4⟩, h5⟩ := h
  refine ⟨⟨h1, fun y hy => h2 y hy, fun p hp => ?_, fun y hy e => ?_, fun y hy e => ?_⟩, ownP_snd h5⟩
  · obtain ⟨i, hi, e⟩ := List.mem_filterMap.mp hp
    obtain ⟨x, e1, e2⟩ := Option.map_eq_some_iff.mp e
    subst e2
    exact e1
  · rcases h3 y hy with (h | h) | h
    · exact (h e).elim
    · exact .inl h
    · exact .inr h
  · rcases h4 y hy with (h | h) | h
    · rcases e with e | e
      · rw [e] at h; exact absurd h (by decide)
      · rw [e] at h; exact absurd h (by decide)
    · obtain ⟨i, hi, e'⟩ := h
      exact .inl (List.mem_map.mpr ⟨(y.1, i), List.mem_filterMap.mpr ⟨i, hi, by rw [e']; rfl⟩, rfl⟩)
    · refine .inr fun m => ?_
      rw [List.contains_iff_mem.mpr m] at h
      cases h
theorem snd_lc {sc scope : Scope} {X : Cx} {W : WX} (ok : Okc P n N sc X W) {own : List Nat} {tg : Tg} {fi : S → Res (List D)} {fc : S → Res Bool} {fe : S → Res D} {e t i : Expr} {fs : List Expr} {pos : Pos} (hb : blkB N sc scope own = true) (hni : nice i = true) (ht : chkTg N (relS scope sc) tg t = true) (hto : tgIn own tg = true)
    (hl : (own.all fun i => (N[i]?).any fun x => scope.names.lookup x == some .local || scope.names.lookup x == some .cell) = true) (hi : PI X t i (tI X W fi)) (hc : ∀ X', Okc P n N (relS scope sc) X' W0 → gX X' = gX X → PTs X' fs (tT X' W0 fc)) (he : ∀ X', Okc P n N (relS scope sc) X' W0 → gX X' = gX X → PE X' e (tE X' W0 fe)) :
    PE X (.ListComp e [⟨t, i, fs, 0⟩] scope pos) (tF X W (fLc own tg fi fc fe)) := by
  obtain ⟨b1, b2⟩ := blk_ok hb
  have ok' : BlkOk X.N X.env.scope scope (ownP N own) := by rw [ok.Nq, ok.scq]; exact b1
  have hlo : ∀ i x, N[i]? = some x → i ∈ own → scope.names.lookup x = some .local ∨ scope.names.lookup x = some .cell := fun i x ex hi => by
    have := List.all_eq_true.mp hl i hi
    rw [ex] at this
    simpa using this
  refine (pe_lc (wi := tI X W fi) (g := gT X.K tg) (tt := tT X W0 fc) (te := tE X W0 fe) (own := ownP N own) ok.calm (by rw [ok.Nq]; exact ok.nd) hi ok' (fun s H C cl fp => ?_) (fun s H C cl fp => ?_) (fun s H C cl fp => ?_) (fun x => nice_fold hni _ x)).weak fun σ H Q h => ?_
  · have okb := ok.blk (scope := scope) s H C cl fp
    refine pg_T (own := own) okb.calm (by rw [okb.Nq]; exact ok.nd) okb.Nq okb.scq ht (fun i x ex _ hio => ?_) hto
    rcases hlo i x ex hio with z | z
    · exact .inr (by rw [okb.scq]; exact lookup_relS_keep (by decide) z)
    · exact .inl (by show (scope.names.lookup x == some .cell) = true; rw [z]; rfl)
  · exact hc _ (ok.blk s H C cl fp) rfl
  · exact he _ (ok.blk s H C cl fp) rfl
  · rw [b2]
    exact lc_weak hto h

theorem chkEs_nil {as : Es} {sc : Scope} (h : chkEs P N sc as [] = true) : as = .nil := by
  cases as with
  | nil => rfl
  | cons a r => unfold chkEs at h; cases h
/-- only comparisons are comparisons -/
def notCmp : E → Bool
  | .op2 _ _ _ => false
  | .chain _ _ _ _ _ => false
  | _ => true
theorem cmp_only {c : E} {sc : Scope} {e : Expr} (hc : isCmp e = true) (h : chkE P N sc c e = true) (hn : notCmp c = true) : False := by
  cases e <;> simp only [isCmp, Bool.false_eq_true] at hc
  cases c with
  | op2 _ _ _ => cases hn
  | chain _ _ _ _ _ => cases hn
  | fr f =>
    unfold chkE at h
    cases f <;> unfold chkF at h <;> first | (cases h; done) | (split at h <;> first | (cases h; done) | (rename_i he1 he2; first | (cases he1; done) | (cases he2; done)))
  | _ =>
    unfold chkE at h
    first | (cases h; done) | (split at h <;> first | (cases h; done) | (rename_i he1 he2; first | (cases he1; done) | (cases he2; done)))
mutual
theorem sndE : ∀ (c : E) {sc : Scope} {e : Expr} {X : Cx} {W : WX}, Okc P n N sc X W → chkE P N sc c e = true → PE X e (tE X W (evE (fnAt P n) P.glob c))
  | .lit d, sc, e, X, W, ok, h => by
    unfold chkE at h
    split at h <;> first | (cases h; done) | (rename_i he; cases he)
    exact (snd_lit (sc := sc) h).ev fun s => rfl
  | .var i, sc, e, X, W, ok, h => by
    unfold chkE at h
    split at h <;> first | (cases h; done) | (rename_i he; cases he)
    obtain ⟨h1, h2, h3, h4⟩ := ok.vis h
    exact (snd_var h1 h2 h3 h4).ev fun s => rfl
  | .glb x, sc, e, X, W, ok, h => by
    unfold chkE at h
    split at h <;> first | (cases h; done) | (rename_i he; cases he)
    simp only [Bool.and_eq_true, beq_iff_eq] at h
    exact (snd_glb ok h.1.1 h.1.2 h.2).ev fun s => rfl
  | .tup es, sc, e, X, W, ok, h => by
    unfold chkE at h
    split at h <;> first | (cases h; done) | (rename_i he; cases he)
    exact (snd_tup (sndX es ok h)).ev fun s => rfl
  | .op2 o a b, sc, e, X, W, ok, h => by
    unfold chkE at h
    split at h <;> first | (cases h; done) | (rename_i he; cases he)
    · simp only [Bool.and_eq_true, beq_iff_eq] at h
      obtain ⟨⟨⟨⟨h1, h2⟩, h3⟩, h4⟩, h5⟩ := h
      exact (snd_bin h1 (sndE a ok h2) (sndE b ok h3)).ev fun s => rfl
    · simp only [Bool.and_eq_true, beq_iff_eq] at h
      obtain ⟨⟨⟨⟨⟨h1, h2⟩, h3⟩, h4⟩, h5⟩, _⟩ := h
      exact (snd_cmp ok.hu h1 (nice_mark h5 _) (sndE a ok h2) (sndE b ok h3)).ev fun s => rfl
  | .op1 o a, sc, e, X, W, ok, h => by
    unfold chkE at h
    split at h <;> first | (cases h; done) | (rename_i he; cases he)
    simp only [Bool.and_eq_true, beq_iff_eq] at h
    obtain ⟨⟨_, h2⟩, h3⟩ := h
    cases o
    exact (snd_neg (sndE a ok h2)).ev fun s => rfl
  | .chain o1 o2 a b c, sc, e, X, W, ok, h => by
    unfold chkE at h
    split at h <;> first | (cases h; done) | (rename_i he; cases he)
    simp only [Bool.and_eq_true, beq_iff_eq] at h
    obtain ⟨⟨⟨⟨⟨⟨⟨⟨⟨h1, h2⟩, h3⟩, h4⟩, h5⟩, h6⟩, h7⟩, h8⟩, _⟩, _⟩ := h
    exact (snd_chain ok.hu h1 h2 h8 (sndE a ok h3) (sndE b ok h4) (sndE c ok h5)).ev fun s => rfl
  | .and a b, sc, e, X, W, ok, h => by
    unfold chkE at h
    split at h <;> first | (cases h; done) | (rename_i he; cases he)
    simp only [Bool.and_eq_true] at h
    obtain ⟨⟨h1, h2⟩, h3⟩ := h
    split at h3
    · simp only [Bool.and_eq_true] at h3
      exact (snd_and (sndE a ok h1) (pe_one (sndE b ok h3.1))).ev fun s => rfl
    · exact (snd_and (sndE a ok h1) (sndE b ok h3)).ev fun s => rfl
  | .or a b, sc, e, X, W, ok, h => by
    unfold chkE at h
    split at h <;> first | (cases h; done) | (rename_i he; cases he)
    simp only [Bool.and_eq_true] at h
    obtain ⟨⟨h1, h2⟩, h3⟩ := h
    split at h3
    · simp only [Bool.and_eq_true] at h3
      exact (snd_or (sndE a ok h1) (pe_one (sndE b ok h3.1))).ev fun s => rfl
    · exact (snd_or (sndE a ok h1) (sndE b ok h3)).ev fun s => rfl
  | .not a, sc, e, X, W, ok, h => by
    unfold chkE at h
    split at h <;> first | (cases h; done) | (rename_i he; cases he)
    simp only [Bool.and_eq_true] at h
    exact (snd_not (sndE a ok h.1)).ev fun s => rfl
  | .ite c a b, sc, e, X, W, ok, h => by
    unfold chkE at h
    split at h <;> first | (cases h; done) | (rename_i he; cases he)
    simp only [Bool.and_eq_true] at h
    obtain ⟨⟨⟨⟨⟨h1, h2⟩, h3⟩, h4⟩, h5⟩, h6⟩ := h
    exact (snd_ite (sndT c ok h1) (sndE a ok h2) (sndE b ok h3)).ev fun s => rfl
  | .idx a i, sc, e, X, W, ok, h => by
    unfold chkE at h
    split at h <;> first | (cases h; done) | (rename_i he; cases he)
    simp only [Bool.and_eq_true] at h
    obtain ⟨⟨⟨h1, h2⟩, h3⟩, h4⟩ := h
    exact (snd_idx ok.hu (nice_ix h4) (sndE a ok h1) (sndE i ok h2)).ev fun s => rfl
  | .slc a lo hi, sc, e, X, W, ok, h => by
    unfold chkE at h
    split at h <;> first | (cases h; done) | (rename_i he; cases he)
    simp only [Bool.and_eq_true] at h
    obtain ⟨⟨⟨h1, h2⟩, h3⟩, h4⟩ := h
    exact (snd_slc (sndE a ok h1) (sndO lo ok h2) (sndO hi ok h3)).ev fun s => rfl
  | .rev a, sc, e, X, W, ok, h => by
    unfold chkE at h
    split at h <;> first | (cases h; done) | (rename_i he; cases he)
    simp only [Bool.and_eq_true] at h
    exact (snd_rev (sndE a ok h.1)).ev fun s => rfl
  | .call f as, sc, e, X, W, ok, h => by
    unfold chkE at h
    split at h <;> first | (cases h; done) | (rename_i he; cases he)
    simp only [Bool.and_eq_true, beq_iff_eq] at h
    obtain ⟨⟨⟨⟨h1, h2⟩, h3⟩, h4⟩, h5⟩ := h
    obtain ⟨fd, hf⟩ := Option.isSome_iff_exists.mp h3
    exact (snd_callE ok hf h1 h2 h5 (sndA as ok h4)).ev fun s => rfl
  | .bi b as, sc, e, X, W, ok, h => by
    unfold chkE at h
    split at h <;> first | (cases h; done) | (rename_i he; cases he)
    simp only [Bool.and_eq_true, beq_iff_eq] at h
    obtain ⟨⟨⟨⟨h1, h2⟩, h3⟩, h4⟩, h5⟩ := h
    exact (snd_bi ok h1 h2 h4 (sndEs as ok h3)).ev fun s => rfl
  | .isi m a, sc, e, X, W, ok, h => by
    unfold chkE at h
    split at h <;> first | (cases h; done) | (rename_i he; cases he)
    simp only [Bool.and_eq_true, beq_iff_eq] at h
    obtain ⟨⟨⟨⟨⟨⟨h0, h1⟩, h2⟩, h3⟩, h4⟩, h5⟩, h6⟩ := h
    exact (snd_isi ok h0 h1 h2 h3 h4 h6 (sndE a ok h5)).ev fun s => rfl
  | .sset a, sc, e, X, W, ok, h => by
    unfold chkE at h
    split at h <;> first | (cases h; done) | (rename_i he; cases he)
    simp only [Bool.and_eq_true, beq_iff_eq] at h
    obtain ⟨⟨⟨⟨⟨h1, h2⟩, h3⟩, h4⟩, h5⟩, h6⟩ := h
    exact (snd_sset ok h1 h2 h3 h4 h6 (sndE a ok h5)).ev fun s => rfl
  | .mt m o as, sc, e, X, W, ok, h => by
    unfold chkE at h
    split at h <;> first | (cases h; done) | (rename_i he; cases he)
    simp only [Bool.and_eq_true, beq_iff_eq] at h
    obtain ⟨⟨⟨⟨⟨⟨h1, h2⟩, h3⟩, h4⟩, h5⟩, h6⟩, h7⟩ := h
    exact (snd_mt (sndE o ok h2) (sndEs as ok h3) h1 h4 h5 (by simp at h6; rw [h6]; decide) (by rw [beq_iff_eq]; exact h7)).ev fun s => rfl
  | .mx m o as, sc, e, X, W, ok, h => by
    unfold chkE at h
    split at h <;> first | (cases h; done) | (rename_i he; cases he)
    simp only [Bool.and_eq_true, beq_iff_eq] at h
    obtain ⟨⟨⟨⟨⟨⟨h1, h2⟩, h3⟩, h4⟩, h5⟩, h6⟩, h7⟩ := h
    exact (snd_mx ok.hu (sndE o ok h2) (sndX as ok h3) h1 h4 h5 (mx_few h6) (by rw [beq_iff_eq]; exact h7)).ev fun s => rfl
  | .mw m o as, sc, e, X, W, ok, h => by
    unfold chkE at h
    split at h <;> first | (cases h; done) | (rename_i he; cases he)
    simp only [Bool.and_eq_true, beq_iff_eq] at h
    obtain ⟨⟨⟨⟨⟨⟨h1, h2⟩, h3⟩, h4⟩, h5⟩, h6⟩, h7⟩ := h
    have h7 := beq_iff_eq.mpr h7
    cases m with
    | append =>
      rename_i es _ _
      match es, h3, h5, h6 with
      | [], _, _, h6 => cases h6
      | e :: es, h3, h5, h6 => exact (snd_append (sndE o ok h2) (sndX as ok h3) h1 h4 h5 (by simp only [List.length_cons, Mw.arity] at h6; omega) h7).ev fun s => rfl
    | pop =>
      rename_i es _ _
      match es, h3, h6 with
      | [], h3, _ => exact (snd_pop (sndE o ok h2) h1 h4 h7).ev fun s => by rw [chkEs_nil h3]; rfl
      | _ :: _, _, h6 => cases h6
    | clear =>
      rename_i es _ _
      match es, h3, h6 with
      | [], h3, _ => exact (snd_clear (sndE o ok h2) h1 h4 h7).ev fun s => by rw [chkEs_nil h3]; rfl
      | _ :: _, _, h6 => cases h6
  | .fr f, sc, e, X, W, ok, h => by
    have h : chkF P N sc f e = true := by
      unfold chkE at h
      exact h
    exact (snd_fr (sndF f ok h)).ev fun s => rfl
termination_by structural c => c
theorem sndT : ∀ (c : Tst) {sc : Scope} {e : Expr} {X : Cx} {W : WX}, Okc P n N sc X W → chkT P N sc c e = true → PT X e (tT X W (evT (fnAt P n) P.glob c))
  | .of c, sc, e, X, W, ok, h => by
    unfold chkT at h
    simp only [Bool.and_eq_true, Bool.or_eq_true] at h
    obtain ⟨⟨h1, h2⟩, h3⟩ := h
    cases hp : plainT e with
    | true => exact (snd_plainT hp (sndE c ok h1)).ev fun s => rfl
    | false =>
      have hc : isCmp e = true := h3.resolve_left (by rw [hp]; exact Bool.false_ne_true)
      cases c with
      | op2 o a b =>
        unfold chkE at h1
        split at h1 <;> first | (cases h1; done) | (rename_i he; cases he)
        · cases hc
        · simp only [Bool.and_eq_true, beq_iff_eq] at h1
          obtain ⟨⟨⟨⟨⟨k1, k2⟩, k3⟩, k4⟩, k5⟩, _⟩ := h1
          exact (snd_tcmp ok.hu k1 (nice_mark k5 _) (sndE a ok k2) (sndE b ok k3)).ev fun s => rfl
      | chain o1 o2 a b c =>
        unfold chkE at h1
        split at h1 <;> first | (cases h1; done) | (rename_i he; cases he)
        simp only [Bool.and_eq_true, beq_iff_eq] at h1
        obtain ⟨⟨⟨⟨⟨⟨⟨⟨⟨k1, k2⟩, k3⟩, k4⟩, k5⟩, k6⟩, k7⟩, k8⟩, _⟩, _⟩ := h1
        exact (snd_tchain ok.hu k1 k2 k8 (sndE a ok k3) (sndE b ok k4) (sndE c ok k5)).ev fun s => rfl
      | _ => exact (cmp_only hc h1 rfl).elim
  | .and a b, sc, e, X, W, ok, h => by
    unfold chkT at h
    split at h <;> first | (cases h; done) | (rename_i he; cases he)
    simp only [Bool.and_eq_true] at h
    obtain ⟨⟨h1, h2⟩, h3⟩ := h
    split at h3
    · simp only [Bool.and_eq_true] at h3
      exact ((snd_tand (sndT a ok h1) (pw_and1 (sndT b ok h3.1))).ev fun s => rfl).pt
    · exact ((snd_tand (sndT a ok h1) (sndW b ok h3)).ev fun s => rfl).pt
  | .or a b, sc, e, X, W, ok, h => by
    unfold chkT at h
    split at h <;> first | (cases h; done) | (rename_i he; cases he)
    simp only [Bool.and_eq_true] at h
    obtain ⟨⟨h1, h2⟩, h3⟩ := h
    split at h3
    · simp only [Bool.and_eq_true] at h3
      exact ((snd_tor (sndT a ok h1) (pw_or1 (sndT b ok h3.1))).ev fun s => rfl).pt
    · exact ((snd_tor (sndT a ok h1) (sndW b ok h3)).ev fun s => rfl).pt
  | .not a, sc, e, X, W, ok, h => by
    unfold chkT at h
    split at h <;> first | (cases h; done) | (rename_i he; cases he)
    simp only [Bool.and_eq_true] at h
    exact (snd_tnot (sndT a ok h.1)).ev fun s => rfl
termination_by structural c => c
theorem sndW : ∀ (c : Tst) {sc : Scope} {o : BoolOp} {es : List Expr} {pos : Pos} {X : Cx} {W : WX}, Okc P n N sc X W → chkT P N sc c (.BoolOp o es pos) = true → PW X (.BoolOp o es pos) (tT X W (evT (fnAt P n) P.glob c))
  | .of c, sc, o, es, pos, X, W, ok, h => by
    unfold chkT at h
    simp only [plainT, isCmp, Bool.or_self, Bool.and_false, Bool.false_eq_true] at h
  | .and a b, sc, o, es, pos, X, W, ok, h => by
    unfold chkT at h
    split at h <;> first | (cases h; done) | (rename_i he1 he2; first | (cases he1; done) | (cases he2; done) | (cases he1; cases he2)) | skip
    simp only [Bool.and_eq_true] at h
    obtain ⟨⟨h1, h2⟩, h3⟩ := h
    split at h3
    · simp only [Bool.and_eq_true] at h3
      exact (snd_tand (sndT a ok h1) (pw_and1 (sndT b ok h3.1))).ev fun s => rfl
    · exact (snd_tand (sndT a ok h1) (sndW b ok h3)).ev fun s => rfl
  | .or a b, sc, o, es, pos, X, W, ok, h => by
    unfold chkT at h
    split at h <;> first | (cases h; done) | (rename_i he1 he2; first | (cases he1; done) | (cases he2; done) | (cases he1; cases he2)) | skip
    simp only [Bool.and_eq_true] at h
    obtain ⟨⟨h1, h2⟩, h3⟩ := h
    split at h3
    · simp only [Bool.and_eq_true] at h3
      exact (snd_tor (sndT a ok h1) (pw_or1 (sndT b ok h3.1))).ev fun s => rfl
    · exact (snd_tor (sndT a ok h1) (sndW b ok h3)).ev fun s => rfl
  | .not a, sc, o, es, pos, X, W, ok, h => by
    unfold chkT at h
    cases h
termination_by structural c => c
theorem sndF : ∀ (c : F) {sc : Scope} {e : Expr} {X : Cx} {W : WX}, Okc P n N sc X W → chkF P N sc c e = true → PE X e (tF X W (evF (fnAt P n) P.glob c))
  | .lst es, sc, e, X, W, ok, h => by
    unfold chkF at h
    split at h <;> first | (cases h; done) | (rename_i he; cases he)
    exact snd_lst (sndX es ok h)
  | .dct t, sc, e, X, W, ok, h => by
    unfold chkF at h
    split at h <;> first | (cases h; done) | (rename_i he; cases he)
    exact snd_dct _
  | .lc own tg it ifs elt, sc, e, X, W, ok, h => by
    unfold chkF at h
    split at h <;> first | (cases h; done) | (rename_i he; cases he)
    simp only [Bool.and_eq_true] at h
    obtain ⟨⟨⟨⟨⟨⟨⟨⟨h1, h2⟩, h3⟩, h4⟩, h5⟩, h6⟩, h7⟩, h8⟩, h9⟩ := h
    exact snd_lc ok h1 h3 h4 h5 h9 (sndI it ok h2 rfl) (fun X' ok' _ => sndC ifs ok' h6) (fun X' ok' _ => sndE elt ok' h7)
  | .bf b as, sc, e, X, W, ok, h => by
    unfold chkF at h
    split at h <;> first | (cases h; done) | (rename_i he; cases he)
    simp only [Bool.and_eq_true, beq_iff_eq] at h
    obtain ⟨⟨⟨⟨⟨rfl, h1⟩, h2⟩, h3⟩, h4⟩, h5⟩ := h
    exact snd_bf ok h1 h2 h4 (sndEs as ok h3)
  | .call f as, sc, e, X, W, ok, h => by
    unfold chkF at h
    split at h <;> first | (cases h; done) | (rename_i he; cases he)
    simp only [Bool.and_eq_true, beq_iff_eq] at h
    obtain ⟨⟨⟨⟨h1, h2⟩, h3⟩, h4⟩, h5⟩ := h
    obtain ⟨fd, hf⟩ := Option.isSome_iff_exists.mp h3
    exact snd_callF ok hf h1 h2 h5 (sndA as ok h4)
termination_by structural c => c
theorem sndEs : ∀ (c : Es) {sc : Scope} {es : List Expr} {X : Cx} {W : WX}, Okc P n N sc X W → chkEs P N sc c es = true → PA X es (tXs X W (evEs (fnAt P n) P.glob c))
  | .nil, sc, e, X, W, ok, h => by
    unfold chkEs at h
    split at h <;> first | (cases h; done) | (rename_i he; cases he) | skip
    exact snd_nil
  | .cons c r, sc, e, X, W, ok, h => by
    unfold chkEs at h
    split at h <;> first | (cases h; done) | (rename_i he; cases he)
    simp only [Bool.and_eq_true] at h
    exact snd_cons h.1.2 (sndE c ok h.1.1) (sndEs r ok h.2)
termination_by structural c => c
theorem sndX : ∀ (c : Es) {sc : Scope} {es : List Expr} {X : Cx} {W : WX}, Okc P n N sc X W → chkEs P N sc c es = true → PA X es (tVs X W (evX (fnAt P n) P.glob c))
  | .nil, sc, e, X, W, ok, h => by
    unfold chkEs at h
    split at h <;> first | (cases h; done) | (rename_i he; cases he) | skip
    exact snd_nilX
  | .cons c r, sc, e, X, W, ok, h => by
    unfold chkEs at h
    split at h <;> first | (cases h; done) | (rename_i he; cases he)
    simp only [Bool.and_eq_true] at h
    exact snd_consX h.1.2 (sndE c ok h.1.1) (sndX r ok h.2)
termination_by structural c => c
theorem sndO : ∀ (c : Es) {sc : Scope} {e : Option Expr} {X : Cx} {W : WX}, Okc P n N sc X W → chkO P N sc c e = true → PO X e (tO X W (evO (fnAt P n) P.glob c))
  | .nil, sc, e, X, W, ok, h => by
    unfold chkO at h
    split at h <;> first | (cases h; done) | (rename_i he; cases he) | skip
    exact snd_o_none
  | .cons c .nil, sc, e, X, W, ok, h => by
    unfold chkO at h
    split at h <;> first | (cases h; done) | (rename_i he; cases he)
    simp only [Bool.and_eq_true] at h
    exact snd_o_some (sndE c ok h.1)
  | .cons c (.cons _ _), sc, e, X, W, ok, h => by
    unfold chkO at h
    cases h
termination_by structural c => c
theorem sndC : ∀ (c : Tsts) {sc : Scope} {es : List Expr} {X : Cx} {W : WX}, Okc P n N sc X W → chkC P N sc c es = true → PTs X es (tT X W (evC (fnAt P n) P.glob c))
  | .nil, sc, e, X, W, ok, h => by
    unfold chkC at h
    split at h <;> first | (cases h; done) | (rename_i he; cases he) | skip
    exact ⟨fun pins s σ H Q I ⟨r, s0, R, q⟩ => pts_nil.run pins s σ H Q I (q r true H (.refl _) R rfl)⟩
  | .one c, sc, e, X, W, ok, h => by
    unfold chkC at h
    split at h <;> first | (cases h; done) | (rename_i he; cases he)
    exact pts_one (sndT c ok h)
termination_by structural c => c
theorem sndA : ∀ (c : As) {sc : Scope} {es : List Expr} {X : Cx} {W : WX}, Okc P n N sc X W → chkA P N sc c es = true → PA X es (tAv X W (evA (fnAt P n) P.glob c))
  | .nil, sc, e, X, W, ok, h => by
    unfold chkA at h
    split at h <;> first | (cases h; done) | (rename_i he; cases he) | skip
    exact snd_nilA
  | .val c r, sc, e, X, W, ok, h => by
    unfold chkA at h
    split at h <;> first | (cases h; done) | (rename_i he; cases he)
    simp only [Bool.and_eq_true] at h
    exact snd_consA h.1.2 (sndE c ok h.1.1) (sndA r ok h.2)
  | .io i r, sc, e, X, W, ok, h => by
    unfold chkA at h
    split at h <;> first | (cases h; done) | (rename_i he; cases he)
    simp only [Bool.and_eq_true] at h
    obtain ⟨h1, h2, h3, h4⟩ := ok.vis h.1
    exact snd_ioA h1 h2 h3 h4 (sndA r ok h.2)
termination_by structural c => c
theorem sndI : ∀ (c : It) {sc : Scope} {e t : Expr} {X : Cx} {W : WX} {tup : Bool}, Okc P n N sc X W → chkI P N sc tup c e = true → tup = isTupE t → PI X t e (tI X W (evI (fnAt P n) P.glob c))
  | .of c, sc, e, t, X, W, tup, ok, h, ht => by
    unfold chkI at h
    simp only [Bool.and_eq_true] at h
    exact snd_iOf (sndE c ok h.1)
  | .rng1 a, sc, e, t, X, W, tup, ok, h, ht => by
    unfold chkI at h
    split at h <;> first | (cases h; done) | (rename_i he; cases he) | skip
    simp only [Bool.and_eq_true, beq_iff_eq] at h
    exact snd_rng1 ok h.1.1.1 h.1.1.2 h.2 (sndE a ok h.1.2)
  | .rng2 a b, sc, e, t, X, W, tup, ok, h, ht => by
    unfold chkI at h
    split at h <;> first | (cases h; done) | (rename_i he; cases he) | skip
    simp only [Bool.and_eq_true, beq_iff_eq] at h
    obtain ⟨⟨⟨⟨⟨h1, h2⟩, h3⟩, h4⟩, h5⟩, h6⟩ := h
    exact snd_rng2 ok h1 h2 h4 h6 (sndE a ok h3) (sndE b ok h5)
  | .enum a, sc, e, t, X, W, tup, ok, h, ht => by
    unfold chkI at h
    split at h <;> first | (cases h; done) | (rename_i he; cases he) | skip
    simp only [Bool.and_eq_true, beq_iff_eq] at h
    exact snd_enum ok (by rw [← ht]; exact h.1.1.1.1) h.1.1.1.2 h.1.1.2 h.2 (sndE a ok h.1.2)
  | .zip a b, sc, e, t, X, W, tup, ok, h, ht => by
    unfold chkI at h
    split at h <;> first | (cases h; done) | (rename_i he; cases he) | skip
    simp only [Bool.and_eq_true, beq_iff_eq] at h
    obtain ⟨⟨⟨⟨⟨⟨h0, h1⟩, h2⟩, h3⟩, h4⟩, h5⟩, h6⟩ := h
    exact snd_zip ok (by rw [← ht]; exact h0) h1 h2 h4 h6 (sndE a ok h3) (sndE b ok h5)
termination_by structural c => c
end
end
end RS

/-! RsStm1: each form of a statement, by its parts. -/
namespace RS
open PySem PySem.Spec PyProof.Rows L2

/-- what is to be shown of a statement's answer -/
def PS1 (g : Gm) (W : WX) (r : RC) (m : Res Fl) (D : Ends) : Prop := match m with
  | .ok .nx s' => ∀ r' σ' H', r.le r' → Rel g r' s' σ' H' → D.nx σ' H'
  | .ok .br s' => ∀ r' σ' H', r.le r' → Rel g r' s' σ' H' → D.bk σ' H'
  | .ok .ct s' => ∀ r' σ' H', r.le r' → Rel g r' s' σ' H' → D.ct σ' H'
  | .ok (.ret a) s' => ∀ r' σ' v H', r.le r' → Rel g r' s' σ' H' → RetR g r' s' σ' H' a v → D.rt v H'
  | .exc x s' => ∀ r' σ' H' cls d, r.le r' → Rel g r' s' σ' H' → XR g r' H' x cls d → W cls d σ' H'
  | .stuck => False
def tS (X : Cx) (W : WX) (f : S → Res Fl) : TS := fun D σ H => ∃ r s, Rel (gX X) r s σ H ∧ PS1 (gX X) W r (f s) D
section
variable {g : Gm} {W : WX} {r r' : RC} {σ : Sg} {D : Ends}
theorem PS1.up {m : Res Fl} (h : PS1 g W r m D) (k : r.le r') : PS1 g W r' m D := by
  cases m with
  | ok fl s' => cases fl with
    | nx => exact fun r2 σ' H h2 => h r2 σ' H (k.trans h2)
    | br => exact fun r2 σ' H h2 => h r2 σ' H (k.trans h2)
    | ct => exact fun r2 σ' H h2 => h r2 σ' H (k.trans h2)
    | ret a => exact fun r2 σ' v H h2 => h r2 σ' v H (k.trans h2)
  | exc x s' => exact fun r2 σ' H cls d h2 => h r2 σ' H cls d (k.trans h2)
  | stuck => exact h
end
section
variable {X : Cx} {W : WX}
theorem tS_step {α β : Type} {Rv : Gm → Sg → RC → α → β → Prop} {m : S → Res α} {f : α → S → Res Fl} {r : RC} {s : S} {σ : Sg} {H : Hp} {D : Ends} {Q' : β → Hp → Prop}
    (R : Rel (gX X) r s σ H) (h : PS1 (gX X) W r ((m s).bind f) D)
    (k : ∀ r1 s1 a b H1, r.le r1 → Rel (gX X) r1 s1 σ H1 → Rv (gX X) σ r1 a b → m s = .ok a s1 → PS1 (gX X) W r1 (f a s1) D → Q' b H1) : tA Rv X W m σ H Q' := by
  refine ⟨r, s, R, ?_⟩
  cases e : m s with
  | stuck => rw [e] at h; exact h.elim
  | exc x s' => rw [e] at h; exact fun r1 H1 cls d l R1 xr => h r1 σ H1 cls d l R1 xr
  | ok a s' =>
    rw [e] at h
    exact fun r1 b H1 l R1 q => k r1 s' a b H1 l R1 q e (PS1.up h l)
theorem tSF_step {m : S → Res Ob} {f : Ob → S → Res Fl} {r : RC} {s : S} {σ : Sg} {H : Hp} {D : Ends} {Q' : VK}
    (R : Rel (gX X) r s σ H) (h : PS1 (gX X) W r ((m s).bind f) D)
    (k : ∀ r1 s1 o p u H1, r.le r1 → Rel (gX X) r1 s1 σ H1 → H1 p = none → OR (gX X) r1 o u → m s = .ok o s1 → PS1 (gX X) W r1 (f o s1) D → Q' (.ref p) (upd H1 p u)) : tF X W m σ H Q' := by
  refine ⟨r, s, R, ?_⟩
  cases e : m s with
  | stuck => rw [e] at h; exact h.elim
  | exc x s' => rw [e] at h; exact fun r1 H1 cls d l R1 xr => h r1 σ H1 cls d l R1 xr
  | ok a s' =>
    rw [e] at h
    exact fun r1 p u H1 l R1 hp ho => k r1 s' a p u H1 l R1 hp ho e (PS1.up h l)
theorem esc_stepS {g : Gm} {r : RC} {σ : Sg} {s : S} {H : Hp} {d : D} {v : V} {f : D → S → Res Fl} {D : Ends} (h : PS1 g W r ((esc d s).bind f) D) (R : Rel g r s σ H) (q : VX g r σ d v) :
    ∃ r' d' s', r.le r' ∧ Rel g r' s' σ H ∧ VR g r' d' v ∧ PS1 g W r' (f d' s') D := by
  cases e : esc d s with
  | stuck => rw [e] at h; exact h.elim
  | exc x s' => exact (esc_noexc e).elim
  | ok d' s' =>
    rw [e] at h
    obtain ⟨r', l, R', q'⟩ := R.esc q e
    exact ⟨r', d', s', l, R', q', PS1.up h l⟩
theorem lift_bindS {g : Gm} {r : RC} {α : Type} {o : Option α} {s : S} {f : α → S → Res Fl} {D : Ends} (h : PS1 g W r ((lift o s).bind f) D) : ∃ a, o = some a ∧ PS1 g W r (f a s) D := by
  cases o with
  | none => exact h.elim
  | some a => exact ⟨a, rfl, h⟩
end

/-! ### slots that get a new object -/
section
variable {g : Gm} {r r' : RC} {s s' : S} {σ σ' : Sg} {H : Hp}
theorem Rel.setOwn (R : Rel g r s σ H) {i : Nat} {o : Ob} {p : Addr} {u : HO} (hi : i < s.env.length) (nb : ¬ ∃ o, s.env[i]? = some (.bor o)) (hp : H p = none) (ho : OR g r o u) : Rel g r ⟨s.env.set i (.own o), s.st⟩ (σ.set i (some (.ref p))) (upd H p u) := by
  have hi' : i < σ.length := by rw [← R.len]; exact hi
  have R1 := R.junk hp u
  have ne : ∀ {a w}, H a = some w → a ≠ p := fun {a w} e => ne_of_none e hp
  have fp : r.fz p = none := by
    cases e : r.fz p with
    | none => rfl
    | some w => rw [R.fz _ _ e] at hp; cases hp
  have gp : r.gd p = none := by
    cases e : r.gd p with
    | none => rfl
    | some w => rw [R.gd _ _ e] at hp; cases hp
  have at' : ∀ q a, AtS r ⟨s.env.set i (.own o), s.st⟩ (σ.set i (some (.ref p))) q a → (q = .inl i ∧ a = p) ∨ (q ≠ .inl i ∧ AtS r s σ q a) := fun q a h => by
    cases q with
    | inl j =>
      obtain ⟨⟨x, e, ob⟩, e2⟩ := h
      by_cases hj : i = j
      · subst hj
        have e2 : (σ.set i (some (V.ref p)))[i]? = some (some (V.ref a)) := e2
        rw [List.getElem?_set_self hi'] at e2
        cases e2
        exact .inl ⟨rfl, rfl⟩
      · have e : (s.env.set i (.own o))[j]? = some x := e
        have e2 : (σ.set i (some (V.ref p)))[j]? = some (some (V.ref a)) := e2
        rw [List.getElem?_set_ne hj] at e e2
        exact .inr ⟨fun z => hj (Sum.inl.inj z).symm, ⟨x, e, ob⟩, e2⟩
    | inr n => exact .inr ⟨(fun z => nomatch z), h⟩
  have ap : ∀ {q a}, AtS r s σ q a → a ≠ p := fun {q a} h => by
    obtain ⟨w, e, _⟩ := R.at_some h
    exact ne e
  refine ⟨R1.fz, R1.gd, R1.gm, by simpa using R.len, fun j x e => ?_, R.stl, R1.sto, fun q q' a h1 h2 => ?_, fun q a h => ?_, fun j a e => ?_, fun j o' e => ?_⟩
  · by_cases hj : i = j
    · subst hj
      have e : (s.env.set i (.own o))[i]? = some x := e
      rw [List.getElem?_set_self hi] at e
      cases e
      exact ⟨_, by rw [List.getElem?_set_self hi'], p, u, rfl, upd_same, ho⟩
    · have e : (s.env.set i (.own o))[j]? = some x := e
      rw [List.getElem?_set_ne hj] at e
      obtain ⟨y, ey, q⟩ := R1.env j x e
      exact ⟨y, by rw [List.getElem?_set_ne hj]; exact ey, q⟩
  · rcases at' q a h1 with ⟨rfl, rfl⟩ | ⟨n1, k1⟩ <;> rcases at' q' a h2 with ⟨rfl, e⟩ | ⟨n2, k2⟩
    · rfl
    · exact (ap k2 rfl).elim
    · exact (ap k1 e).elim
    · exact R.inj _ _ _ k1 k2
  · rcases at' q a h with ⟨rfl, rfl⟩ | ⟨_, k⟩
    · exact ⟨fp, gp⟩
    · exact R.sep _ _ k
  · obtain ⟨⟨o', e1⟩, e2⟩ := R.bo j a e
    have hj : i ≠ j := fun z => nb ⟨o', by rw [z]; exact e1⟩
    exact ⟨⟨o', by rw [List.getElem?_set_ne hj]; exact e1⟩, by rw [List.getElem?_set_ne hj]; exact e2⟩
  · by_cases hj : i = j
    · subst hj
      have e : (s.env.set i (.own o))[i]? = some (.bor o') := e
      rw [List.getElem?_set_self hi] at e
      cases e
    · have e : (s.env.set i (.own o))[j]? = some (.bor o') := e
      rw [List.getElem?_set_ne hj] at e
      exact R.bo2 j o' e
theorem Rel.newRef (R : Rel g r s σ H) {o : Ob} {p : Addr} {u : HO} (hp : H p = none) (ho : OR g r o u) : Rel g { r with rho := r.rho ++ [p] } ⟨s.env, s.st ++ [o]⟩ σ (upd H p u) ∧ r.le { r with rho := r.rho ++ [p] } ∧ VR g { r with rho := r.rho ++ [p] } (.ref s.st.length) (.ref p) := by
  have le : r.le { r with rho := r.rho ++ [p] } := ⟨fun _ _ h => h, fun _ _ h _ => h, ⟨[p], rfl⟩, rfl, rfl⟩
  have R1 := R.junk hp u
  have fp : r.fz p = none := by
    cases e : r.fz p with
    | none => rfl
    | some w => rw [R.fz _ _ e] at hp; cases hp
  have gp : r.gd p = none := by
    cases e : r.gd p with
    | none => rfl
    | some w => rw [R.gd _ _ e] at hp; cases hp
  have at' : ∀ q a, AtS { r with rho := r.rho ++ [p] } ⟨s.env, s.st ++ [o]⟩ σ q a → (q = .inr s.st.length ∧ a = p) ∨ (q ≠ .inr s.st.length ∧ AtS r s σ q a) := fun q a h => by
    cases q with
    | inl j => exact .inr ⟨(fun z => nomatch z), h⟩
    | inr n =>
      obtain ⟨h1, h2⟩ := h
      have h2 : (r.rho ++ [p])[n]? = some a := h2
      have h1 : n < (s.st ++ [o]).length := h1
      rw [List.length_append, List.length_singleton] at h1
      by_cases hn : n = s.st.length
      · subst hn
        rw [R.stl, List.getElem?_append_right (Nat.le_refl _), Nat.sub_self] at h2
        cases h2
        exact .inl ⟨rfl, rfl⟩
      · have hn' : n < s.st.length := by omega
        rw [List.getElem?_append_left (by rw [← R.stl]; exact hn')] at h2
        exact .inr ⟨fun z => hn (Sum.inr.inj z), hn', h2⟩
  have ap : ∀ {q a}, AtS r s σ q a → a ≠ p := fun {q a} h => by
    obtain ⟨w, e, _⟩ := R.at_some h
    exact ne_of_none e hp
  refine ⟨⟨R1.fz, R1.gd, R1.gm, R.len, fun i x e => ?_, by show (s.st ++ [o]).length = (r.rho ++ [p]).length; rw [List.length_append, List.length_append, R.stl]; rfl, fun n x a e1 e2 => ?_, fun q q' a h1 h2 => ?_, fun q a h => ?_, R.bo, R.bo2⟩, le, ⟨p, ?_, rfl⟩⟩
  · obtain ⟨y, ey, q⟩ := R1.env i x e
    exact ⟨y, ey, q.mono le fun _ _ _ _ z => z⟩
  · have e1 : (s.st ++ [o])[n]? = some x := e1
    have e2 : (r.rho ++ [p])[n]? = some a := e2
    by_cases hn : n < s.st.length
    · rw [List.getElem?_append_left hn] at e1
      rw [List.getElem?_append_left (by rw [← R.stl]; exact hn)] at e2
      obtain ⟨w, ew, q⟩ := R1.sto n x a e1 e2
      exact ⟨w, ew, OR.mono le q⟩
    · have hl := (List.getElem?_eq_some_iff.mp e1).1
      rw [List.length_append, List.length_singleton] at hl
      have hn' : n = s.st.length := by omega
      subst hn'
      rw [List.getElem?_append_right (Nat.le_refl _), Nat.sub_self] at e1
      rw [R.stl, List.getElem?_append_right (Nat.le_refl _), Nat.sub_self] at e2
      cases e1
      cases e2
      exact ⟨u, upd_same, OR.mono le ho⟩
  · rcases at' q a h1 with ⟨rfl, rfl⟩ | ⟨n1, k1⟩ <;> rcases at' q' a h2 with ⟨rfl, e⟩ | ⟨n2, k2⟩
    · rfl
    · exact (ap k2 rfl).elim
    · exact (ap k1 e).elim
    · exact R.inj _ _ _ k1 k2
  · rcases at' q a h with ⟨rfl, rfl⟩ | ⟨_, k⟩
    · exact ⟨fp, gp⟩
    · exact R.sep _ _ k
  · show (r.rho ++ [p])[s.st.length]? = some p
    rw [R.stl, List.getElem?_append_right (Nat.le_refl _), Nat.sub_self]
    rfl
theorem kil_spec : ∀ {vs : List Nat} {env : List Slot}, (kil vs env).length = env.length ∧ ∀ (i : Nat) x, (kil vs env)[i]? = some x → env[i]? = some x ∨ (x = .un ∧ ¬ ∃ o, env[i]? = some (.bor o))
  | [], env => ⟨rfl, fun i x e => .inl e⟩
  | v :: vs, env => by
    have step : ∀ env1 : List Slot, env1.length = env.length → (∀ (i : Nat) x, env1[i]? = some x → env[i]? = some x ∨ (x = .un ∧ ¬ ∃ o, env[i]? = some (.bor o))) → (kil vs env1).length = env.length ∧ ∀ (i : Nat) x, (kil vs env1)[i]? = some x → env[i]? = some x ∨ (x = .un ∧ ¬ ∃ o, env[i]? = some (.bor o)) := fun env1 hl h => by
      obtain ⟨a, b⟩ := kil_spec (vs := vs) (env := env1)
      refine ⟨a.trans hl, fun i x e => ?_⟩
      rcases b i x e with e' | ⟨rfl, n⟩
      · exact h i x e'
      · refine .inr ⟨rfl, fun ⟨o, eo⟩ => ?_⟩
        have hb : i < env1.length := by rw [hl]; exact (List.getElem?_eq_some_iff.mp eo).1
        rcases h i _ (List.getElem?_eq_getElem hb) with e' | ⟨_, n'⟩
        · rw [eo] at e'
          exact n ⟨o, by rw [List.getElem?_eq_getElem hb]; exact e'.symm⟩
        · exact n' ⟨o, eo⟩
    unfold kil
    split
    · exact step env rfl fun i x e => .inl e
    · rename_i hb
      refine step _ (by simp) fun i x e => ?_
      by_cases hv : v = i
      · subst hv
        have hlt := (List.getElem?_eq_some_iff.mp e).1
        rw [List.length_set] at hlt
        rw [List.getElem?_set_self hlt] at e
        cases e
        exact .inr ⟨rfl, fun ⟨o, eo⟩ => hb o eo⟩
      · rw [List.getElem?_set_ne hv] at e
        exact .inl e
theorem Rel.kil (R : Rel g r s σ H) (vs : List Nat) : Rel g r ⟨RS.kil vs s.env, s.st⟩ σ H := by
  obtain ⟨a, b⟩ := kil_spec (vs := vs) (env := s.env)
  refine R.slots a rfl fun i x e => ?_
  rcases b i x e with e | ⟨rfl, n⟩
  · exact .inl ⟨e, rfl⟩
  · exact .inr (.inl ⟨rfl, n⟩)
end

/-! ### the forms -/
section
variable {X : Cx} {W : WX} {e c tg iter : Expr} {fa fb fc : S → Res D} {ga : S → Res Bool} {ff : S → Res Ob} {pos : Pos} {st : Stmt} {sa sb : S → Res Fl} {a b body : List Stmt}
theorem _root_.L2.PS.ev {f f' : S → Res Fl} (h : PS X st (tS X W f)) (k : ∀ s, f' s = f s) : PS X st (tS X W f') := by
  rw [show f' = f from funext k]
  exact h
theorem _root_.L2.PSs.ev {f f' : S → Res Fl} (h : PSs X a (tS X W f)) (k : ∀ s, f' s = f s) : PSs X a (tS X W f') := by
  rw [show f' = f from funext k]
  exact h
theorem snd_expr (ha : PE X e (tE X W fa)) (hc : noComp e = true) : PS X (.Expr e pos) (tS X W (fun s => (fa s).bind fun _ s => .ok .nx s)) :=
  (ps_expr ha (noComp_swap hc _ _ _)).weak fun D σ H ⟨r, s, R, h⟩ => by
    refine tS_step (Rv := RE) R h fun r1 s1 d v H1 l1 R1 q1 e1 h => ?_
    exact h r1 σ H1 (.refl _) R1
theorem snd_pass : PS X (.Pass pos) (tS X W (fun s => .ok .nx s)) := ps_pass.weak fun D σ H ⟨r, s, R, h⟩ => h r σ H (.refl _) R
theorem snd_brk : PS X (.Break pos) (tS X W (fun s => .ok .br s)) := ps_break.weak fun D σ H ⟨r, s, R, h⟩ => h r σ H (.refl _) R
theorem snd_cnt : PS X (.Continue pos) (tS X W (fun s => .ok .ct s)) := ps_continue.weak fun D σ H ⟨r, s, R, h⟩ => h r σ H (.refl _) R
theorem snd_retN : PS X (.Return none pos) (tS X W (fun s => .ok (.ret (.val .non)) s)) := ps_retN.weak fun D σ H ⟨r, s, R, h⟩ => h r σ .non H (.refl _) R rfl
def fRet (fa : S → Res D) (s : S) : Res Fl := (fa s).bind fun d s => retR d s
theorem ret_weak {r : RC} {s : S} {σ : Sg} {H : Hp} {d : D} {v : V} {Z : Ends} (R : Rel (gX X) r s σ H) (q : VX (gX X) r σ d v) (h : PS1 (gX X) W r (retR d s) Z) : Z.rt v H := by
  unfold retR at h
  cases d with
  | loc i =>
    obtain ⟨p, rfl, ep⟩ := q
    simp only at h
    split at h
    · rename_i o eo
      have ha : AtS r s σ (.inl i) p := ⟨⟨_, eo, trivial⟩, ep⟩
      obtain ⟨y, ey, q⟩ := R.env i _ eo
      rw [ep] at ey
      cases ey
      obtain ⟨p', u, e1, e2, e3⟩ := q
      cases e1
      have hi := (List.getElem?_eq_some_iff.mp eo).1
      have hu : ∀ (j : Nat) x, (s.env.set i .un)[j]? = some x → (i ≠ j ∧ s.env[j]? = some x) ∨ (i = j ∧ x = .un) := fun j x e => by
        by_cases hj : i = j
        · subst hj
          rw [List.getElem?_set_self hi] at e
          cases e
          exact .inr ⟨rfl, rfl⟩
        · rw [List.getElem?_set_ne hj] at e
          exact .inl ⟨hj, e⟩
      have R' : Rel (gX X) r ⟨s.env.set i .un, s.st⟩ σ H := R.slots (by simp) rfl fun j x e => by
        rcases hu j x e with ⟨_, e⟩ | ⟨rfl, rfl⟩
        · exact .inl ⟨e, rfl⟩
        · exact .inr (.inl ⟨rfl, fun ⟨o', e'⟩ => by rw [eo] at e'; cases e'⟩)
      obtain ⟨z1, z2⟩ := R.sep _ _ ha
      refine h r σ _ H (.refl _) R' ⟨p, u, rfl, e2, e3, z1, z2, fun q' b hb z => ?_⟩
      subst z
      have hb' : AtS r s σ q' b := by
        cases q' with
        | inl j =>
          obtain ⟨⟨x, e, ob⟩, e2⟩ := hb
          rcases hu j x e with ⟨_, e⟩ | ⟨_, rfl⟩
          · exact ⟨⟨x, e, ob⟩, e2⟩
          · cases ob
        | inr n => exact hb
      have := R.inj _ _ _ hb' ha
      subst this
      obtain ⟨⟨x, e, ob⟩, _⟩ := hb
      rcases hu i x e with ⟨n, _⟩ | ⟨_, rfl⟩
      · exact n rfl
      · cases ob
    · rename_i d eo
      obtain ⟨y, ey, q⟩ := R.env i _ eo
      rw [ep] at ey
      cases ey
      obtain ⟨w, e1, q⟩ := q
      cases e1
      exact h r σ _ H (.refl _) R q
    · exact h.elim
  | _ => exact h r σ _ H (.refl _) R q
theorem snd_ret (ha : PE X e (tE X W fa)) : PS X (.Return (some e) pos) (tS X W (fRet fa)) :=
  (ps_ret ha).weak fun D σ H ⟨r, s, R, h⟩ => by
    refine tS_step (Rv := RE) R h fun r1 s1 d v H1 l1 R1 q1 e1 h => ?_
    exact ret_weak R1 q1 h
theorem snd_retF (ha : PE X e (tF X W ff)) : PS X (.Return (some e) pos) (tS X W (fun s => (ff s).bind fun o s => .ok (.ret (.obj o)) s)) :=
  (ps_ret ha).weak fun D σ H ⟨r, s, R, h⟩ => by
    refine tSF_step R h fun r1 s1 o p u H1 l1 R1 hp ho e1 h => ?_
    refine h r1 σ _ _ (.refl _) (R1.junk hp u) ⟨p, u, rfl, upd_same, ho, ?_, ?_, fun q a h z => ?_⟩
    · cases e : r1.fz p with
      | none => rfl
      | some w => rw [R1.fz _ _ e] at hp; cases hp
    · cases e : r1.gd p with
      | none => rfl
      | some w => rw [R1.gd _ _ e] at hp; cases hp
    · subst z
      obtain ⟨w, e, _⟩ := R1.at_some h
      rw [e] at hp
      cases hp
theorem snd_if (hc : PT X c (tT X W ga)) (ha : PSs X a (tS X W sa)) (hb : PSs X b (tS X W sb)) : PS X (.If c a b pos) (tS X W (fun s => (ga s).bind fun t s => if t then sa s else sb s)) :=
  (ps_if hc ha hb).weak fun D σ H ⟨r, s, R, h⟩ => by
    refine tS_step (Rv := RB) R h fun r1 s1 x v H1 l1 R1 q1 e1 h => ?_
    have q1 : x = v := q1
    subst q1
    cases x with
    | true => rw [if_pos rfl] at h ⊢; exact ⟨r1, s1, R1, h⟩
    | false => rw [if_neg Bool.false_ne_true] at h ⊢; exact ⟨r1, s1, R1, h⟩
def fSeq (sa sb : S → Res Fl) (s : S) : Res Fl := (sa s).bind fun fl s => match fl with
    | .nx => sb s
    | .br => .ok .br s
    | .ct => .ok .ct s
    | .ret x => .ok (.ret x) s
theorem snd_seq (ha : PS X st (tS X W sa)) (hb : PSs X b (tS X W sb)) : PSs X (st :: b) (tS X W (fSeq sa sb)) :=
  (pss_cons ha hb).weak fun D σ H ⟨r, s, R, h⟩ => by
    refine ⟨r, s, R, ?_⟩
    unfold fSeq at h
    cases e : sa s with
    | stuck => rw [e] at h; exact h.elim
    | exc x s' => rw [e] at h; exact h
    | ok fl s' =>
      rw [e] at h
      cases fl with
      | nx => exact fun r' σ' H' l R' => ⟨r', s', R', PS1.up h l⟩
      | br => exact h
      | ct => exact h
      | ret a => exact h
theorem snd_snil : PSs X [] (tS X W (fun s => .ok .nx s)) := pss_nil.weak fun D σ H ⟨r, s, R, h⟩ => h r σ H (.refl _) R

/-! ### loops -/
theorem s_for {tg : Tg} {kill : List Nat} {body : S → Res Fl} {r1 : RC} {s1 : S} {σ : Sg} {H : Hp} {J : L2.It} {xs : List D} {Z : Ends} (R1 : Rel (gX X) r1 s1 σ H) (hI : ItOk (gX X) r1 J xs) (h : PS1 (gX X) W r1 (forLoop body tg kill xs s1) Z) :
    ∃ Wt : Nat → Nat → Sg → Hp → Prop, (∃ m, Wt 0 m σ H) ∧ ∀ i m σ H, Wt i m σ H →
  (J.stop i H ∧ Z.nx σ H) ∨ (J.go i H ∧ ∃ N : Sg → Hp → Prop, (∀ σ' H', N σ' H' → ∃ m', m' < m ∧ Wt (i + 1) m' σ' H') ∧ ∀ x H', J.yld i H x H' → gT X.K tg x σ H' fun σ2 H2 => tS X W body { Z with nx := N, ct := N, bk := Z.nx } σ2 H2) := by
  refine ⟨fun i m σ H => m + i = xs.length ∧ ∃ r2 s2, r1.le r2 ∧ Rel (gX X) r2 s2 σ H ∧ PS1 (gX X) W r2 (forLoop body tg kill (xs.drop i) s2) Z, ⟨xs.length, by simp, r1, s1, .refl _, R1, h⟩, ?_⟩
  rintro i m σ H ⟨hm, r2, s2, l2, R2, h⟩
  cases hx : xs[i]? with
  | none =>
    have hi : xs.length ≤ i := List.getElem?_eq_none_iff.mp hx
    have hi' : i = xs.length := by omega
    subst hi'
    rw [List.drop_length] at h
    exact .inl ⟨hI.stop l2.lv R2, h r2 σ H (.refl _) R2⟩
  | some d =>
    have hi : i < xs.length := (List.getElem?_eq_some_iff.mp hx).1
    have hdrop : xs.drop i = d :: xs.drop (i + 1) := by
      rw [List.drop_eq_getElem_cons hi]
      have := List.getElem?_eq_getElem hi
      rw [hx] at this
      cases this
      rfl
    rw [hdrop] at h
    simp only [forLoop] at h
    obtain ⟨env', ea, h⟩ := lift_bindS h
    refine .inr ⟨hI.go l2.lv R2 hx, fun σ' H' => (m - 1) + (i + 1) = xs.length ∧ ∃ r2 s2, r1.le r2 ∧ Rel (gX X) r2 s2 σ' H' ∧ PS1 (gX X) W r2 (forLoop body tg kill (xs.drop (i + 1)) s2) Z, fun σ' H' q => ⟨m - 1, by omega, q⟩, fun x H3 hy => ?_⟩
    obtain ⟨r3, l3, R3, q3⟩ := hI.yld l2.lv R2 hx hy
    have h := PS1.up h l3
    refine s_asg (own := []) tg d x R3 q3 ea fun σ2 R4 _ => ⟨r3, _, R4, ?_⟩
    show PS1 _ _ _ (body { s2 with env := env' }) _
    cases eb : body { s2 with env := env' } with
    | stuck => rw [eb] at h; exact h.elim
    | exc x s' => rw [eb] at h; exact h
    | ok fl s' =>
      rw [eb] at h
      have next : ∀ (r' : RC) (σ' : Sg) (H' : Hp), r3.le r' → Rel (gX X) r' s' σ' H' → PS1 (gX X) W r3 (forLoop body tg kill (xs.drop (i + 1)) { s' with env := kil kill s'.env }) Z → (m - 1) + (i + 1) = xs.length ∧ ∃ r2 s2, r1.le r2 ∧ Rel (gX X) r2 s2 σ' H' ∧ PS1 (gX X) W r2 (forLoop body tg kill (xs.drop (i + 1)) s2) Z := fun r' σ' H' l R' h => ⟨by omega, r', _, (l2.trans l3).trans l, R'.kil kill, PS1.up h l⟩
      cases fl with
      | nx => exact fun r' σ' H' l R' => next r' σ' H' l R' h
      | ct => exact fun r' σ' H' l R' => next r' σ' H' l R' h
      | br => exact fun r' σ' H' l R' => h r' σ' H' l (R'.kil kill)
      | ret a => exact h
theorem s_while {c : S → Res Bool} {kill : List Nat} {body : S → Res Fl} {n : Nat} {r1 : RC} {s1 : S} {σ : Sg} {H : Hp} {D : Ends} (R1 : Rel (gX X) r1 s1 σ H) (h : PS1 (gX X) W r1 (whileLoop c body kill n s1) D) : tWhile (tT X W c) (tS X W body) D σ H := by
  refine ⟨fun m σ H => ∃ r2 s2, Rel (gX X) r2 s2 σ H ∧ PS1 (gX X) W r2 (whileLoop c body kill m s2) D, ⟨n, r1, s1, R1, h⟩, ?_⟩
  rintro m σ H ⟨r2, s2, R2, h⟩
  cases m with
  | zero => exact h.elim
  | succ m =>
    simp only [whileLoop] at h
    refine tS_step (Rv := RB) R2 h fun r3 s3 b b' H3 l3 R3 q3 e3 h => ?_
    have q3 : b = b' := q3
    subst q3
    cases b with
    | false =>
      rw [if_neg Bool.false_ne_true] at h ⊢
      exact h r3 σ H3 (.refl _) R3
    | true =>
      rw [if_pos rfl] at h ⊢
      refine ⟨fun σ' H' => ∃ r2 s2, Rel (gX X) r2 s2 σ' H' ∧ PS1 (gX X) W r2 (whileLoop c body kill m s2) D, fun σ' H' q => ⟨m, by omega, q⟩, r3, s3, R3, ?_⟩
      cases eb : body s3 with
      | stuck => rw [eb] at h; exact h.elim
      | exc x s' => rw [eb] at h; exact h
      | ok fl s' =>
        rw [eb] at h
        cases fl with
        | nx => exact fun r' σ' H' l R' => ⟨r', _, R'.kil kill, PS1.up h l⟩
        | ct => exact fun r' σ' H' l R' => ⟨r', _, R'.kil kill, PS1.up h l⟩
        | br => exact fun r' σ' H' l R' => h r' σ' H' l (R'.kil kill)
        | ret a => exact h
end
end RS

/-! RsStm2: assignments. -/
namespace RS
open PySem PySem.Spec PyProof.Rows L2

/-- no stores from the right -/
def notLoc (sc : Scope) : Expr → Bool
  | .Name x _ => !(sc.names.lookup x == some .local)
  | _ => true
def swNone (sc : Scope) (t x : Expr) : Bool := match t, x with
  | .Name _ _, _ => true
  | .Subscript _ _ _, _ => true
  | .Tuple ts _ _, .Tuple vs _ _ => vs.all nice && (vs.all (foldedForSure 8) || !(ts.length == 2 || ts.length == 3) || ts.any (notLoc sc))
  | .Tuple _ _ _, _ => true
  | _, _ => false
theorem fm_short {α β : Type} {f : α → Option β} {p : α → Bool} (hp : ∀ a, p a = true → f a = none) : ∀ {l : List α}, l.any p = true → (l.filterMap f).length < l.length
  | a :: l, h => by
    rw [List.any_cons, Bool.or_eq_true] at h
    rw [List.filterMap_cons]
    rcases h with h | h
    · rw [hp a h]
      exact Nat.lt_succ_of_le (List.length_filterMap_le _ _)
    · have := fm_short hp h
      split
      · exact Nat.lt_succ_of_lt this
      · exact Nat.succ_lt_succ this
theorem nice_any {p : Expr → Bool} {es : List Expr} (h : es.all nice = true) (hp : ∀ e, nice e = true → p e = false) : es.any p = false := by
  induction es with
  | nil => rfl
  | cons e r ih =>
    have h' : nice e = true ∧ r.all nice = true := by simpa using h
    rw [List.any_cons, ih h'.2, Bool.or_false]
    exact hp e h'.1
def nmOf (env : Env) (l : Nat) : Expr → Option Str
  | .Name id pos => if env.kindOf id == some .local && pos.line == l then some id else none
  | _ => none
theorem nmOf_none {env : Env} {l : Nat} {a : Expr} (ha : notLoc env.scope a = true) : nmOf env l a = none := by
  cases a <;> first | rfl | skip
  rename_i x px
  have hx : (env.kindOf x == some NameKind.local) = false := by
    have ha : (!(env.scope.names.lookup x == some .local)) = true := ha
    show (env.scope.names.lookup x == some .local) = false
    simpa using ha
  show (if (env.kindOf x == some NameKind.local && px.line == l) = true then some x else none) = none
  rw [hx, Bool.false_and]
  rfl
theorem swNone_ok {sc : Scope} {t x : Expr} {env : Env} (hs : env.scope = sc) (h : swNone sc t x = true) : swappedStores [t] x env = pure none := by
  subst hs
  unfold swNone at h
  split at h
  · rfl
  · rfl
  · rename_i ts k p vs k2 p2
    simp only [Bool.or_eq_true, Bool.and_eq_true, Bool.not_eq_true'] at h
    obtain ⟨hn, h⟩ := h
    unfold swappedStores
    simp only
    split
    · rfl
    · rename_i h1
      rw [nice_any hn (fun e he => by cases e <;> first | rfl | (exact absurd he (by simp [nice])))]
      simp only [Bool.false_eq_true, if_false]
      rcases h with (hf | h) | h
      · rw [hf]
        simp only [if_true]
        split <;> rfl
      · simp only [Bool.or_eq_true, Bool.not_eq_true', not_or] at h1
        exact absurd h (by simpa using h1.1.1)
      · have hl := fm_short (f := nmOf env ((ts.head?.map (·.pos.line)).getD 0)) (p := notLoc env.scope) (fun a ha => nmOf_none ha) h
        rw [if_pos]
        rw [Bool.or_eq_true]
        refine .inl ?_
        rw [bne_iff_ne]
        exact Nat.ne_of_lt hl
  · rename_i ts k p hx
    cases x <;> first | rfl | (exact absurd rfl (hx _ _ _))
  · cases h
theorem kind_blk {env : Env} (h : env.scope.kind = .function) : env.blockKind = .function := by
  unfold Env.blockKind
  rw [h]
  rfl
section
variable {env : Env} {x y z : Str} {px py pz pt p2 : Pos} {kt k2 : Nat} {a b c : Expr}
theorem sw2 (hk : env.scope.kind = .function) (hx : env.scope.names.lookup x = some .local) (hy : env.scope.names.lookup y = some .local) (hl : (py.line == px.line) = true) (hxy : (x == y) = false) (hn : [a, b].all nice = true) (hf : [a, b].all (foldedForSure 8) = false) (hc : [a, b].all (constantsAlone 8) = false) :
    swappedStores [.Tuple [.Name x px, .Name y py] kt pt] (.Tuple [a, b] k2 p2) env = pure (some [x, y]) := by
  have e1 : env.kindOf x = some .local := hx
  have e2 : env.kindOf y = some .local := hy
  have hl' : (Expr.Name y py).pos.line = (Expr.Name x px).pos.line := by simpa [Expr.pos] using hl
  have hyx : (y == x) = false := by rw [beq_eq_false_iff_ne] at hxy ⊢; exact Ne.symm hxy
  unfold swappedStores
  simp only []
  rw [nice_any hn (fun e he => by cases e <;> first | rfl | (exact absurd he (by simp [nice])))]
  simp only [List.length_cons, List.length_nil, kind_blk hk, hf, hc]
  simp [e1, e2, Expr.pos, eq_of_beq hl, List.eraseDups, List.eraseDupsBy, List.eraseDupsBy.loop, hxy, hyx]
theorem sw3 (hk : env.scope.kind = .function) (hx : env.scope.names.lookup x = some .local) (hy : env.scope.names.lookup y = some .local) (hz : env.scope.names.lookup z = some .local) (hl : (py.line == px.line) = true) (hl2 : (pz.line == px.line) = true) (hxy : (x == y) = false) (hxz : (x == z) = false) (hyz : (y == z) = false)
    (hn : [a, b, c].all nice = true) (hf : [a, b, c].all (foldedForSure 8) = false) (hc : [a, b, c].all (constantsAlone 8) = false) :
    swappedStores [.Tuple [.Name x px, .Name y py, .Name z pz] kt pt] (.Tuple [a, b, c] k2 p2) env = pure (some [x, y, z]) := by
  have e1 : env.kindOf x = some .local := hx
  have e2 : env.kindOf y = some .local := hy
  have e3 : env.kindOf z = some .local := hz
  have hyx : (y == x) = false := by rw [beq_eq_false_iff_ne] at hxy ⊢; exact Ne.symm hxy
  have hzx : (z == x) = false := by rw [beq_eq_false_iff_ne] at hxz ⊢; exact Ne.symm hxz
  have hzy : (z == y) = false := by rw [beq_eq_false_iff_ne] at hyz ⊢; exact Ne.symm hyz
  unfold swappedStores
  simp only []
  rw [nice_any hn (fun e he => by cases e <;> first | rfl | (exact absurd he (by simp [nice])))]
  simp only [List.length_cons, List.length_nil, kind_blk hk, hf, hc]
  simp [e1, e2, e3, Expr.pos, eq_of_beq hl, eq_of_beq hl2, List.eraseDups, List.eraseDupsBy, List.eraseDupsBy.loop, hxy, hyx, hxz, hzx, hyz, hzy]
end

/-! ### the check -/
def locL (N : List Str) (sc : Scope) (i : Nat) (x : Str) : Bool := N[i]? == some x && sc.names.lookup x == some .local
def swB (sc scope : Scope) (y : Str) (py pos : Pos) : Bool := sc.names.lookup y == some .local && py.line == pos.line && !(scope.names.any fun (n, k) => n == y && (k == .local || k == .cell))
def tgs : Tg → List Nat
  | .nm i => [i]
  | .t2 a b => tgs a ++ tgs b
  | .t3 a b c => tgs a ++ tgs b ++ tgs c
theorem tgIn_mono {l m : List Nat} (h : ∀ i ∈ l, i ∈ m) : ∀ {tg : Tg}, tgIn l tg = true → tgIn m tg = true
  | .nm i, q => by
    simp only [tgIn, List.contains_iff_mem] at q ⊢
    exact h i q
  | .t2 a b, q => by
    simp only [tgIn, Bool.and_eq_true] at q ⊢
    exact ⟨tgIn_mono h q.1, tgIn_mono h q.2⟩
  | .t3 a b c, q => by
    simp only [tgIn, Bool.and_eq_true] at q ⊢
    exact ⟨⟨tgIn_mono h q.1.1, tgIn_mono h q.1.2⟩, tgIn_mono h q.2⟩
theorem tgIn_tgs : ∀ tg : Tg, tgIn (tgs tg) tg = true
  | .nm i => by simp [tgIn, tgs]
  | .t2 a b => by
    simp only [tgIn, Bool.and_eq_true]
    exact ⟨tgIn_mono (fun i h => by simp [tgs, h]) (tgIn_tgs a), tgIn_mono (fun i h => by simp [tgs, h]) (tgIn_tgs b)⟩
  | .t3 a b c => by
    simp only [tgIn, Bool.and_eq_true]
    exact ⟨⟨tgIn_mono (fun i h => by simp [tgs, h]) (tgIn_tgs a), tgIn_mono (fun i h => by simp [tgs, h]) (tgIn_tgs b)⟩, tgIn_mono (fun i h => by simp [tgs, h]) (tgIn_tgs c)⟩
def par2B (N : List Str) (sc : Scope) (i j : Nat) (x y : Str) (px py : Pos) (vs : List Expr) : Bool :=
  locL N sc i x && locL N sc j y && !(i == j) && py.line == px.line && !(x == y) && vs.all nice && !(vs.all (foldedForSure 8)) && !(vs.all (constantsAlone 8))
def par3B (N : List Str) (sc : Scope) (i j l : Nat) (x y z : Str) (px py pz : Pos) (vs : List Expr) : Bool :=
  locL N sc i x && locL N sc j y && locL N sc l z && !(i == j) && !(i == l) && !(j == l) && py.line == px.line && pz.line == px.line && !(x == y) && !(x == z) && !(y == z) && vs.all nice && !(vs.all (foldedForSure 8)) && !(vs.all (constantsAlone 8))
def compB (sc : Scope) (x : Str) (px : Pos) (f : F) (e : Expr) : Bool := match f, e with
  | .lc _ _ _ _ _, .ListComp _ _ scope pos => swB sc scope x px pos
  | _, _ => false
mutual
def chkS (P : Prog) (N : List Str) (sc : Scope) : Cm → Stmt → Bool
  | .expr e, .Expr x _ => chkE P N sc e x && noComp x
  | .set tg e, .Assign [t] x _ => chkTg N sc tg t && nice t && chkE P N sc e x && noComp x && swNone sc t x
  | .par [i, j] es, .Assign [.Tuple [.Name x px, .Name y py] _ _] (.Tuple [a, b] _ _) _ => par2B N sc i j x y px py [a, b] && chkEs P N sc es [a, b]
  | .par [i, j, l] es, .Assign [.Tuple [.Name x px, .Name y py, .Name z pz] _ _] (.Tuple [a, b, c] _ _) _ => par3B N sc i j l x y z px py pz [a, b, c] && chkEs P N sc es [a, b, c]
  | .parF [i] es j f, .Assign [.Tuple [.Name x px, .Name y py] _ _] (.Tuple [a, b] _ _) _ => par2B N sc i j x y px py [a, b] && chkEs P N sc es [a] && chkF P N sc f b
  | .parF [i, j] es l f, .Assign [.Tuple [.Name x px, .Name y py, .Name z pz] _ _] (.Tuple [a, b, c] _ _) _ => par3B N sc i j l x y z px py pz [a, b, c] && chkEs P N sc es [a, b] && chkF P N sc f c
  | .own i f, .Assign [.Name x px] e _ => loc N sc i x && chkF P N sc f e && (noComp e || compB sc x px f e)
  | .new i f, .Assign [.Name x _] e _ => loc N sc i x && chkF P N sc f e && noComp e
  | .setIx o i v, .Assign [.Subscript a b _] x _ => chkE P N sc o a && chkE P N sc i b && chkE P N sc v x && nice a && nice b
  | .ret e, .Return (some x) _ => chkE P N sc e x
  | .retF f, .Return (some x) _ => chkF P N sc f x
  | .retN, .Return none _ => true
  | .ite c a b, .If t x y _ => chkT P N sc c t && chkQ P N sc a x && chkQ P N sc b y
  | .for_ tg it body _, .For t i b [] _ => chkI P N sc (isTupE t) it i && nice i && chkTg N sc tg t && chkQ P N sc body b
  | .while_ c body _, .While t b [] _ => chkT P N sc c t && chkQ P N sc body b
  | .brk, .Break _ => true
  | .cnt, .Continue _ => true
  | .pass, .Pass _ => true
  | _, _ => false
def chkQ (P : Prog) (N : List Str) (sc : Scope) : Sq → List Stmt → Bool
  | .nil, [] => true
  | .cons a r, x :: xs => chkS P N sc a x && chkQ P N sc r xs
  | _, _ => false
end

structure Oks (P : Prog) (n : Nat) (N : List Str) (sc : Scope) (X : Cx) (W : WX) : Prop extends Okc P n N sc X W where
  fnT : ∀ x, X.fn x = true
  pown : PassesOwn (model X.prog X.w) X.A X.env X.xe
  kf : sc.kind = .function

section
variable {P : Prog} {n : Nat} {N : List Str} {sc : Scope} {X : Cx} {W : WX} {e a b t : Expr} {pos p2 p3 : Pos} {k1 k2 : Nat} {fa fb fv : S → Res D} {ff : S → Res Ob} {fr : S → Res (List D)}
theorem Oks.pgT (ok : Oks P n N sc X W) {tg : Tg} (h : chkTg N sc tg t = true) : PG X t (gT X.K tg) :=
  pg_T (own := tgs tg) ok.calm (by rw [ok.Nq]; exact ok.nd) ok.Nq ok.scq h (fun i x _ _ _ => .inl (ok.fnT x)) (tgIn_tgs tg)
theorem swSole_noComp (h : noComp e = true) {l : Nat} : swapsWithSole [t] e l X.env = pure false := noComp_swap h _ _ _
def fSet (tg : Tg) (fa : S → Res D) (s : S) : Res Fl := (fa s).bind fun d s => (esc d s).bind fun d s => (lift (asg tg d s.env) s).bind fun env s => .ok .nx { s with env := env }
theorem snd_set (ok : Oks P n N sc X W) {tg : Tg} (ht : chkTg N sc tg t = true) (hn : nice t = true) (hc : noComp e = true) (hw : swNone sc t e = true) (ha : PE X e (tE X W fa)) : PS X (.Assign [t] e pos) (tS X W (fSet tg fa)) :=
  (ps_asg ha (ok.pgT ht) (swSole_noComp hc) (swNone_ok ok.scq hw) (by rw [assignEach_nice hn]; rfl)).weak fun Z σ H ⟨r, s, R, h⟩ => by
    refine tS_step (Rv := RE) R h fun r1 s1 d v H1 l1 R1 q1 e1 h => ?_
    obtain ⟨r2, d2, s2, l2, R2, q2, h⟩ := esc_stepS h R1 q1
    obtain ⟨env', ea, h⟩ := lift_bindS h
    exact s_asg (own := []) tg d2 v R2 q2 ea fun σ' R3 _ => h r2 σ' H1 (.refl _) R3
theorem loc_ok (ok : Oks P n N sc X W) {i : Nat} {x : Str} (h : loc N sc i x = true) : X.N[i]? = some x ∧ L2.Loc X.env.scope x := by
  simp only [loc, Bool.and_eq_true, Bool.or_eq_true, beq_iff_eq] at h
  exact ⟨by rw [ok.Nq]; exact h.1, by unfold L2.Loc; rw [ok.scq]; exact h.2⟩
def fOwn (i : Nat) (ff : S → Res Ob) (s : S) : Res Fl := (ff s).bind fun o s => match s.env[i]? with
    | some (.bor _) => .stuck
    | some _ => .ok .nx { s with env := s.env.set i (.own o) }
    | none => .stuck
theorem own_weak {i : Nat} {g : TG} {Z : Ends} {σ : Sg} {H : Hp} (hg : g = gName i) (h : tS X W (fOwn i ff) Z σ H) : tF X W ff σ H fun x H1 => g x σ H1 Z.nx := by
  subst hg
  obtain ⟨r, s, R, h⟩ := h
  refine tSF_step R h fun r1 s1 o p u H1 l1 R1 hp ho e1 h => ?_
  split at h
  · exact h.elim
  · rename_i x hb hx
    exact h r1 _ _ (.refl _) (R1.setOwn (List.getElem?_eq_some_iff.mp hx).1 (fun ⟨o', e⟩ => by rw [hx] at e; cases e; exact hb _ rfl) hp ho)
  · exact h.elim
theorem snd_own (ok : Oks P n N sc X W) {i : Nat} {x : Str} (hl : loc N sc i x = true) (hc : noComp e = true) (ha : PE X e (tF X W ff)) : PS X (.Assign [.Name x p2] e pos) (tS X W (fOwn i ff)) := by
  obtain ⟨h1, h2⟩ := loc_ok ok hl
  exact (ps_set (by rw [ok.Nq]; exact ok.nd) h1 h2 ha (noComp_swap hc _ _ _) (.inl (ok.fnT x))).weak fun Z σ H h => own_weak rfl h
theorem snd_new (ok : Oks P n N sc X W) {i : Nat} {x : Str} (hl : loc N sc i x = true) (hc : noComp e = true) (ha : PE X e (tF X W ff)) : PS X (.Assign [.Name x p2] e pos) (tS X W (fun s => (ff s).bind fun o s => (lift (setN i (.ref s.st.length) s.env) s).bind fun env s => .ok .nx ⟨env, s.st ++ [o]⟩)) := by
  obtain ⟨h1, h2⟩ := loc_ok ok hl
  refine (ps_set (by rw [ok.Nq]; exact ok.nd) h1 h2 ha (noComp_swap hc _ _ _) (.inl (ok.fnT x))).weak fun Z σ H ⟨r, s, R, h⟩ => ?_
  refine tSF_step R h fun r1 s1 o p u H1 l1 R1 hp ho e1 h => ?_
  obtain ⟨env', ea, h⟩ := lift_bindS h
  obtain ⟨R2, l2, q2⟩ := R1.newRef hp ho
  exact h _ _ _ l2 (R2.setN (env' := env') ea q2)
theorem snd_setLc (ok : Oks P n N sc X W) {i0 : Nat} {x : Str} {px : Pos} {scope : Scope} {own : List Nat} {tg : Tg} {fi : S → Res (List D)} {fc : S → Res Bool} {fe : S → Res D} {t i : Expr} {fs : List Expr} (hx : loc N sc i0 x = true) (hsw : swB sc scope x px pos = true)
    (hb : blkB N sc scope own = true) (hni : nice i = true) (ht : chkTg N (relS scope sc) tg t = true) (hto : tgIn own tg = true)
    (hl : (own.all fun i => (N[i]?).any fun x => scope.names.lookup x == some .local || scope.names.lookup x == some .cell) = true) (hi : PI X t i (tI X W fi)) (hc : ∀ X', Okc P n N (relS scope sc) X' W0 → PTs X' fs (tT X' W0 fc)) (he : ∀ X', Okc P n N (relS scope sc) X' W0 → PE X' e (tE X' W0 fe)) :
    PS X (.Assign [.Name x px] (.ListComp e [⟨t, i, fs, 0⟩] scope pos) p2) (tS X W (fOwn i0 (fLc own tg fi fc fe))) := by
  obtain ⟨b1, b2⟩ := blk_ok hb
  obtain ⟨h1, h2⟩ := loc_ok ok hx
  have ok' : BlkOk X.N X.env.scope scope (ownP N own) := by rw [ok.Nq, ok.scq]; exact b1
  have hlo : ∀ i x, N[i]? = some x → i ∈ own → scope.names.lookup x = some .local ∨ scope.names.lookup x = some .cell := fun i x ex hi => by
    have := List.all_eq_true.mp hl i hi
    rw [ex] at this
    simpa using this
  simp only [swB, Bool.and_eq_true] at hsw
  obtain ⟨⟨s1, s2⟩, s3⟩ := hsw
  have hloc : X.env.scope.names.lookup x = some .local := by rw [ok.scq]; exact eq_of_beq s1
  have hsw' : swapsWith (.ListComp e [⟨t, i, fs, 0⟩] scope pos) (some (.Name x px)) p2.line X.env = pure true := by
    show (pure (X.env.blockKind == .function && X.env.kindOf x == some .local && px.line == pos.line && !(scope.names.any fun (n, k) => n == x && (k == .local || k == .cell))) : Sem Bool) = pure true
    have e1 : X.env.blockKind = .function := kind_blk (by rw [ok.scq]; exact ok.kf)
    have e2 : X.env.kindOf x = some .local := hloc
    rw [e1, e2, s2, s3]
    rfl
  refine (ps_setLc (wi := tI X W fi) (g := gT X.K tg) (tt := tT X W0 fc) (te := tE X W0 fe) (own := ownP N own) ok.calm (by rw [ok.Nq]; exact ok.nd) h1 hloc hsw' hi ok' (fun s H C cl fp => ?_) (fun s H C cl fp => ?_) (fun s H C cl fp => ?_) (fun x => nice_fold hni _ x)).weak fun Z σ H h => ?_
  · have okb := ok.toOkc.blk (scope := scope) s H C cl fp
    refine pg_T (own := own) okb.calm (by rw [okb.Nq]; exact ok.nd) okb.Nq okb.scq ht (fun i x ex _ hio => ?_) hto
    rcases hlo i x ex hio with z | z
    · exact .inr (by rw [okb.scq]; exact lookup_relS_keep (by decide) z)
    · exact .inl (by show (scope.names.lookup x == some .cell) = true; rw [z]; rfl)
  · exact hc _ (ok.toOkc.blk s H C cl fp)
  · exact he _ (ok.toOkc.blk s H C cl fp)
  · rw [b2]
    exact lc_weak hto (own_weak rfl h)
def fSetIx (fv fa fb : S → Res D) (s : S) : Res Fl := (fv s).bind fun v s => (esc v s).bind fun v s => (fa s).bind fun x s => (fb s).bind fun y s => (esc y s).bind fun y s =>
    match (vw x s).bind fun d => putIx d y v with
    | none => .stuck
    | some ob => (lift (put x ob s) s).bind fun s _ => .ok .nx s
theorem VXkeep {g : Gm} {r : RC} {σ : Sg} {d : D} {v : V} (h : VX g r σ d v) : VX g r σ d v := h
theorem assign_sub (h : nice b = true) (env : Env) (v : Value) : assign (.Subscript a b p2) env v = (do
      let ov ← holding [v] (eval a env)
      let iv ← holding [v, ov] (eval b env)
      standAt p2
      holding [v, ov, iv] (setItem ov iv v)
      release [v, ov, iv] []) := by
  cases b <;> first | rfl | (exact absurd h (by simp [nice]))
theorem snd_setIx (ok : Oks P n N sc X W) (hna : nice a = true) (hnb : nice b = true) (hv : PE X e (tE X W fv)) (ha : PE X a (tE X W fa)) (hb : PE X b (tE X W fb)) : PS X (.Assign [.Subscript a b p2] e pos) (tS X W (fSetIx fv fa fb)) := by
  refine (ps_asg hv (pg_sub ha hb (set_any ok.hu) (fun v => assign_sub hnb _ v)) ?_ rfl rfl).weak fun Z σ H ⟨r, s, R, h⟩ => ?_
  · cases e <;> rfl
  · refine tS_step (Rv := RE) R h fun r1 s1 d v H1 l1 R1 q1 e1 h => ?_
    obtain ⟨r2, d2, s2, l2, R2, q2, h⟩ := esc_stepS h R1 q1
    refine tS_step (Rv := RE) R2 h fun r3 s3 x xv H3 l3 R3 q3 e3 h => ?_
    refine tS_step (Rv := RE) R3 h fun r4 s4 y yv H4 l4 R4 q4 e4 h => ?_
    obtain ⟨r5, y5, s5, l5, R5, q5, h⟩ := esc_stepS h R4 q4
    split at h
    · exact h.elim
    · rename_i ob hob
      obtain ⟨d', ed, ep⟩ := Option.bind_eq_some_iff.mp hob
      cases e6 : put x ob s5 with
      | none => rw [e6] at h; exact h.elim
      | some s6 =>
        rw [e6] at h
        exact s_put R5 ((q3.mono l4).mono l5) ed q5 (((q2.mono l3).mono l4).mono l5) ep e6 fun H' R6 => h r5 σ H' (.refl _) R6

/-! ### several names at once -/
def fPar (is : List Nat) (fr : S → Res (List D)) (s : S) : Res Fl := (fr s).bind fun ds s => (lift (parS is ds s.env) s).bind fun env s => .ok .nx { s with env := env }
theorem locL_ok (ok : Oks P n N sc X W) {i : Nat} {x : Str} (h : locL N sc i x = true) : X.N[i]? = some x ∧ X.env.scope.names.lookup x = some .local := by
  simp only [locL, Bool.and_eq_true, beq_iff_eq] at h
  exact ⟨by rw [ok.Nq]; exact h.1, by rw [ok.scq]; exact h.2⟩
theorem parS1 {i : Nat} {ds : List D} {env env' : List Slot} (h : parS [i] ds env = some env') : ∃ d, ds = [d] ∧ setN i d env = some env' := by
  rcases ds with _ | ⟨d, _ | ⟨e, r⟩⟩ <;> simp only [parS, Option.bind_fun_none, reduceCtorEq] at h
  obtain ⟨env1, h1, h2⟩ := Option.bind_eq_some_iff.mp h
  cases h2
  exact ⟨d, rfl, h1⟩
theorem parS_cons {i j : Nat} {is : List Nat} {ds : List D} {env env' : List Slot} (h : parS (i :: is) ds env = some env') : ∃ d r env1, ds = d :: r ∧ setN i d env = some env1 ∧ parS is r env1 = some env' := by
  rcases ds with _ | ⟨d, r⟩
  · cases h
  · obtain ⟨env1, h1, h2⟩ := Option.bind_eq_some_iff.mp h
    exact ⟨d, r, env1, rfl, h1, h2⟩
theorem parS2 {i j : Nat} {ds : List D} {env env' : List Slot} (h : parS [i, j] ds env = some env') : ∃ d e env1, ds = [d, e] ∧ setN i d env = some env1 ∧ setN j e env1 = some env' := by
  obtain ⟨d, r, env1, rfl, h1, h2⟩ := parS_cons (j := 0) h
  obtain ⟨e, rfl, h3⟩ := parS1 h2
  exact ⟨d, e, env1, rfl, h1, h3⟩
theorem parS3 {i j l : Nat} {ds : List D} {env env' : List Slot} (h : parS [i, j, l] ds env = some env') : ∃ d e f env1 env2, ds = [d, e, f] ∧ setN i d env = some env1 ∧ setN j e env1 = some env2 ∧ setN l f env2 = some env' := by
  obtain ⟨d, r, env1, rfl, h1, h2⟩ := parS_cons (j := 0) h
  obtain ⟨e, f, env2, rfl, h3, h4⟩ := parS2 h2
  exact ⟨d, e, f, env1, env2, rfl, h1, h3, h4⟩
theorem snd_par2 (ok : Oks P n N sc X W) {i j : Nat} {x y : Str} {px py pt : Pos} {kt : Nat} (hb : par2B N sc i j x y px py [a, b] = true) (hr : PA X [a, b] (tVs X W fr)) : PS X (.Assign [.Tuple [.Name x px, .Name y py] kt pt] (.Tuple [a, b] k2 p2) pos) (tS X W (fPar [i, j] fr)) := by
  simp only [par2B, Bool.and_eq_true, Bool.not_eq_true'] at hb
  obtain ⟨⟨⟨⟨⟨⟨⟨h1, h2⟩, h3⟩, h4⟩, h5⟩, h6⟩, h7⟩, h8⟩ := hb
  obtain ⟨a1, a2⟩ := locL_ok ok h1
  obtain ⟨b1, b2⟩ := locL_ok ok h2
  refine (ps_par ok.calm (by rw [ok.Nq]; exact ok.nd) a1 b1 (by simpa using h3) a2 b2 hr (sw2 (by rw [ok.scq]; exact ok.kf) a2 b2 h4 h5 h6 h7 h8)).weak fun Z σ H ⟨r, s, R, h⟩ => ?_
  refine tS_step (Rv := RVs) R h fun r1 s1 ds vs H1 l1 R1 q1 e1 h => ?_
  obtain ⟨env', ea, h2⟩ := lift_bindS h
  clear h
  obtain ⟨d, e, env1, rfl, s1', s2'⟩ := parS2 ea
  obtain ⟨v, w, rfl, qv, qw⟩ := VRs.two q1
  exact ⟨v, w, rfl, h2 r1 _ H1 (.refl _) ((R1.setN s1' qv).setN (s := ⟨env1, s1.st⟩) s2' qw)⟩
theorem VRs.three {g : Gm} {r : RC} {d e f : D} {vs : List V} (h : VRs g r [d, e, f] vs) : ∃ v w z, vs = [v, w, z] ∧ VR g r d v ∧ VR g r e w ∧ VR g r f z := by
  obtain ⟨v, t, rfl, q, w, t', rfl, q', z, t2, rfl, q2, rfl⟩ := h
  exact ⟨v, w, z, rfl, q, q', q2⟩
theorem snd_par3 (ok : Oks P n N sc X W) {i j l : Nat} {x y z : Str} {px py pz pt : Pos} {kt : Nat} {c : Expr} (hb : par3B N sc i j l x y z px py pz [a, b, c] = true) (hr : PA X [a, b, c] (tVs X W fr)) : PS X (.Assign [.Tuple [.Name x px, .Name y py, .Name z pz] kt pt] (.Tuple [a, b, c] k2 p2) pos) (tS X W (fPar [i, j, l] fr)) := by
  simp only [par3B, Bool.and_eq_true, Bool.not_eq_true'] at hb
  obtain ⟨⟨⟨⟨⟨⟨⟨⟨⟨⟨⟨⟨⟨h1, h2⟩, h3⟩, h4⟩, h5⟩, h6⟩, h7⟩, h8⟩, h9⟩, h10⟩, h11⟩, h12⟩, h13⟩, h14⟩ := hb
  obtain ⟨a1, a2⟩ := locL_ok ok h1
  obtain ⟨b1, b2⟩ := locL_ok ok h2
  obtain ⟨c1, c2⟩ := locL_ok ok h3
  refine (ps_par3 ok.calm (by rw [ok.Nq]; exact ok.nd) a1 b1 c1 (by simpa using h4) (by simpa using h5) (by simpa using h6) a2 b2 c2 hr (sw3 (by rw [ok.scq]; exact ok.kf) a2 b2 c2 h7 h8 h9 h10 h11 h12 h13 h14)).weak fun Z σ H ⟨r, s, R, h⟩ => ?_
  refine tS_step (Rv := RVs) R h fun r1 s1 ds vs H1 l1 R1 q1 e1 h => ?_
  obtain ⟨env', ea, h2⟩ := lift_bindS h
  clear h
  obtain ⟨d, e, f, env1, env2, rfl, s1', s2', s3'⟩ := parS3 ea
  obtain ⟨v, w, z', rfl, qv, qw, qz⟩ := VRs.three q1
  exact ⟨v, w, z', rfl, h2 r1 _ H1 (.refl _) (((R1.setN s1' qv).setN (s := ⟨env1, s1.st⟩) s2' qw).setN (s := ⟨env2, s1.st⟩) s3' qz)⟩
/-- values, and a new object behind them -/
def PVF (g : Gm) (W : WX) (r : RC) (σ : Sg) (m : Res (List D × Ob)) (Q : List V → Hp → Prop) : Prop := match m with
  | .ok (ds, o) s' => ∀ r' vs p u H1, r.le r' → Rel g r' s' σ H1 → VRs g r' ds vs → H1 p = none → OR g r' o u → Q (vs ++ [.ref p]) (upd H1 p u)
  | .exc x s' => PX g W r σ x s'
  | .stuck => False
def tVF (X : Cx) (W : WX) (f : S → Res (List D × Ob)) : TA := fun σ H Q => ∃ r s, Rel (gX X) r s σ H ∧ PVF (gX X) W r σ (f s) Q
def fVF (fr : S → Res (List D)) (ff : S → Res Ob) (s : S) : Res (List D × Ob) := (fr s).bind fun ds s => (ff s).bind fun o s => .ok (ds, o) s
theorem pa_lastF (hn : nice e = true) (ha : PE X e (tF X W ff)) : PA X [e] (tVF X W (fVF (fun s => .ok [] s) ff)) :=
  (pa_cons ha pa_nil (nice_star hn _ _)).weak fun σ H Q ⟨r, s, R, h⟩ => by
    refine ⟨r, s, R, ?_⟩
    unfold fVF at h
    simp only [Res.bind] at h
    cases e0 : ff s with
    | stuck => rw [e0] at h; exact h.elim
    | exc x s' => rw [e0] at h; exact h
    | ok o s' =>
      rw [e0] at h
      exact fun r' p u H1 l R' hp ho => h r' [] p u H1 l R' rfl hp ho
theorem pa_consF {es : List Expr} (hn : nice e = true) (ha : PE X e (tE X W fa)) (hr : PA X es (tVF X W (fVF fr ff))) : PA X (e :: es) (tVF X W (fVF (fConsX fa fr) ff)) :=
  (pa_cons ha hr (nice_star hn _ _)).weak fun σ H Q ⟨r, s, R, h⟩ => by
    unfold fVF fConsX at h
    refine ⟨r, s, R, ?_⟩
    cases e0 : fa s with
    | stuck => rw [e0] at h; exact h.elim
    | exc x s' => rw [e0] at h; exact h
    | ok d s1 =>
      rw [e0] at h
      intro r1 v H1 l1 R1 q1
      simp only [Res.bind] at h
      cases e1 : esc d s1 with
      | stuck => rw [e1] at h; exact h.elim
      | exc x s' => exact (esc_noexc e1).elim
      | ok d2 s2 =>
        rw [e1] at h
        obtain ⟨r2, l2, R2, q2⟩ := R1.esc q1 e1
        refine ⟨r2, s2, R2, ?_⟩
        simp only [Res.bind] at h
        unfold fVF
        cases e2 : fr s2 with
        | stuck => rw [e2] at h; exact h.elim
        | exc x s' => rw [e2] at h; exact PX.up h (l1.trans l2)
        | ok ds s3 =>
          rw [e2] at h
          simp only [Res.bind] at h ⊢
          cases e3 : ff s3 with
          | stuck => rw [e3] at h; exact h.elim
          | exc x s' => rw [e3] at h; exact PX.up h (l1.trans l2)
          | ok o s4 =>
            rw [e3] at h
            exact fun r' vs p u H2 l R' qs hp ho => h r' (v :: vs) p u H2 ((l1.trans l2).trans l) R' (VRs.cons (q2.mono l) qs) hp ho
def fParF (is : List Nat) (fr : S → Res (List D)) (j : Nat) (ff : S → Res Ob) (s : S) : Res Fl := (fr s).bind fun ds s => (ff s).bind fun o s => (lift (parS is ds s.env) s).bind fun env s => match env[j]? with
    | some (.bor _) => .stuck
    | some _ => .ok .nx { s with env := env.set j (.own o) }
    | none => .stuck
theorem parF_weak {is : List Nat} {j : Nat} {Z : Ends} {σ : Sg} {H : Hp} (h : tS X W (fParF is fr j ff) Z σ H) : tVF X W (fVF fr ff) σ H fun vs H1 => ∃ r s env ds o vs0 p u H0, vs = vs0 ++ [.ref p] ∧ H1 = upd H0 p u ∧ Rel (gX X) r s σ H0 ∧ VRs (gX X) r ds vs0 ∧ H0 p = none ∧ OR (gX X) r o u ∧ parS is ds s.env = some env ∧ j < env.length ∧ (¬ ∃ o, env[j]? = some (.bor o)) ∧
    ∀ r' σ' H', r.le r' → Rel (gX X) r' ⟨env.set j (.own o), s.st⟩ σ' H' → Z.nx σ' H' := by
  obtain ⟨r, s, R, h⟩ := h
  refine ⟨r, s, R, ?_⟩
  unfold fParF at h
  unfold fVF
  cases e2 : fr s with
  | stuck => rw [e2] at h; exact h.elim
  | exc x s' => rw [e2] at h; exact fun r1 H1 cls d l R1 xr => h r1 σ H1 cls d l R1 xr
  | ok ds s3 =>
    rw [e2] at h
    simp only [Res.bind] at h ⊢
    cases e3 : ff s3 with
    | stuck => rw [e3] at h; exact h.elim
    | exc x s' => rw [e3] at h; exact fun r1 H1 cls d l R1 xr => h r1 σ H1 cls d l R1 xr
    | ok o s4 =>
      rw [e3] at h
      intro r' vs p u H2 l R' qs hp ho
      simp only [Res.bind] at h
      obtain ⟨env, ep, h⟩ := lift_bindS (PS1.up h l)
      split at h
      · exact h.elim
      · rename_i x hb hx
        exact ⟨r', s4, env, ds, o, vs, p, u, H2, rfl, rfl, R', qs, hp, ho, ep, (List.getElem?_eq_some_iff.mp hx).1, fun ⟨o', e⟩ => by rw [hx] at e; cases e; exact hb _ rfl, h⟩
      · exact h.elim
theorem snd_parF2 (ok : Oks P n N sc X W) {i j : Nat} {x y : Str} {px py pt : Pos} {kt : Nat} (hb : par2B N sc i j x y px py [a, b] = true) (hr : PA X [a, b] (tVF X W (fVF fr ff))) : PS X (.Assign [.Tuple [.Name x px, .Name y py] kt pt] (.Tuple [a, b] k2 p2) pos) (tS X W (fParF [i] fr j ff)) := by
  simp only [par2B, Bool.and_eq_true, Bool.not_eq_true'] at hb
  obtain ⟨⟨⟨⟨⟨⟨⟨h1, h2⟩, h3⟩, h4⟩, h5⟩, h6⟩, h7⟩, h8⟩ := hb
  obtain ⟨a1, a2⟩ := locL_ok ok h1
  obtain ⟨b1, b2⟩ := locL_ok ok h2
  have mono : ∀ σ H Q Q', (∀ v H, Q v H → Q' v H) → tVF X W (fVF fr ff) σ H Q → tVF X W (fVF fr ff) σ H Q' := fun σ H Q Q' k ⟨r, s, R, h⟩ => ⟨r, s, R, by
    cases e : fVF fr ff s with
    | stuck => rw [e] at h; exact h
    | exc x s' => rw [e] at h; exact h
    | ok q s' =>
      rw [e] at h
      exact fun r' vs p u H1 l R' q1 hp ho => k _ _ (h r' vs p u H1 l R' q1 hp ho)⟩
  refine (ps_par ok.calm (by rw [ok.Nq]; exact ok.nd) a1 b1 (by simpa using h3) a2 b2 hr (sw2 (by rw [ok.scq]; exact ok.kf) a2 b2 h4 h5 h6 h7 h8)).weak fun Z σ H h => ?_
  refine mono _ _ _ _ (fun vs H1 q => ?_) (parF_weak h)
  obtain ⟨r, s, env, ds, o, vs0, p, u, H0, rfl, rfl, R, qs, hp, ho, ep, hj, nb, k⟩ := q
  obtain ⟨d, rfl, e1⟩ := parS1 ep
  obtain ⟨v, rfl, qv⟩ := VRs.one qs
  exact ⟨v, _, rfl, k r _ _ (.refl _) ((R.setN e1 qv).setOwn (s := ⟨env, s.st⟩) hj nb hp ho)⟩
theorem snd_parF3 (ok : Oks P n N sc X W) {i j l : Nat} {x y z : Str} {px py pz pt : Pos} {kt : Nat} {c : Expr} (hb : par3B N sc i j l x y z px py pz [a, b, c] = true) (hr : PA X [a, b, c] (tVF X W (fVF fr ff))) : PS X (.Assign [.Tuple [.Name x px, .Name y py, .Name z pz] kt pt] (.Tuple [a, b, c] k2 p2) pos) (tS X W (fParF [i, j] fr l ff)) := by
  simp only [par3B, Bool.and_eq_true, Bool.not_eq_true'] at hb
  obtain ⟨⟨⟨⟨⟨⟨⟨⟨⟨⟨⟨⟨⟨h1, h2⟩, h3⟩, h4⟩, h5⟩, h6⟩, h7⟩, h8⟩, h9⟩, h10⟩, h11⟩, h12⟩, h13⟩, h14⟩ := hb
  obtain ⟨a1, a2⟩ := locL_ok ok h1
  obtain ⟨b1, b2⟩ := locL_ok ok h2
  obtain ⟨c1, c2⟩ := locL_ok ok h3
  have mono : ∀ σ H Q Q', (∀ v H, Q v H → Q' v H) → tVF X W (fVF fr ff) σ H Q → tVF X W (fVF fr ff) σ H Q' := fun σ H Q Q' k ⟨r, s, R, h⟩ => ⟨r, s, R, by
    cases e : fVF fr ff s with
    | stuck => rw [e] at h; exact h
    | exc x s' => rw [e] at h; exact h
    | ok q s' =>
      rw [e] at h
      exact fun r' vs p u H1 l R' q1 hp ho => k _ _ (h r' vs p u H1 l R' q1 hp ho)⟩
  refine (ps_par3 ok.calm (by rw [ok.Nq]; exact ok.nd) a1 b1 c1 (by simpa using h4) (by simpa using h5) (by simpa using h6) a2 b2 c2 hr (sw3 (by rw [ok.scq]; exact ok.kf) a2 b2 c2 h7 h8 h9 h10 h11 h12 h13 h14)).weak fun Z σ H h => ?_
  refine mono _ _ _ _ (fun vs H1 q => ?_) (parF_weak h)
  obtain ⟨r, s, env, ds, o, vs0, p, u, H0, rfl, rfl, R, qs, hp, ho, ep, hj, nb, k⟩ := q
  obtain ⟨d, e, env1, rfl, e1, e2⟩ := parS2 ep
  obtain ⟨v, w, rfl, qv, qw⟩ := VRs.two qs
  exact ⟨v, w, _, rfl, k r _ _ (.refl _) (((R.setN e1 qv).setN (s := ⟨env1, s.st⟩) e2 qw).setOwn (s := ⟨env, s.st⟩) hj nb hp ho)⟩
end
end RS

/-! RsStm3: statements, joined; defs. -/
namespace RS
open PySem PySem.Spec PyProof.Rows L2

section
variable {P : Prog} {n : Nat} {N : List Str}
theorem chkEs_one {as : Es} {sc : Scope} {a : Expr} (h : chkEs P N sc as [a] = true) : ∃ x, as = .cons x .nil ∧ chkE P N sc x a = true ∧ nice a = true := by
  cases as with
  | nil => unfold chkEs at h; cases h
  | cons x r =>
    unfold chkEs at h
    simp only [Bool.and_eq_true] at h
    exact ⟨x, by rw [chkEs_nil h.2], h.1.1, h.1.2⟩
theorem chkEs_two {as : Es} {sc : Scope} {a b : Expr} (h : chkEs P N sc as [a, b] = true) : ∃ x y, as = .cons x (.cons y .nil) ∧ (chkE P N sc x a = true ∧ nice a = true) ∧ chkE P N sc y b = true ∧ nice b = true := by
  cases as with
  | nil => unfold chkEs at h; cases h
  | cons x r =>
    unfold chkEs at h
    simp only [Bool.and_eq_true] at h
    obtain ⟨y, rfl, h1, h2⟩ := chkEs_one h.2
    exact ⟨x, y, rfl, ⟨h.1.1, h.1.2⟩, h1, h2⟩
theorem par2_nice {sc : Scope} {i j : Nat} {x y : Str} {px py : Pos} {a b : Expr} (h : par2B N sc i j x y px py [a, b] = true) : nice b = true := by
  simp only [par2B, Bool.and_eq_true] at h
  have := h.1.1.2
  simp only [List.all_cons, Bool.and_eq_true] at this
  exact this.2.1
theorem par3_nice {sc : Scope} {i j l : Nat} {x y z : Str} {px py pz : Pos} {a b c : Expr} (h : par3B N sc i j l x y z px py pz [a, b, c] = true) : nice c = true := by
  simp only [par3B, Bool.and_eq_true] at h
  have := h.1.1.2
  simp only [List.all_cons, Bool.and_eq_true] at this
  exact this.2.2.1
theorem chkI_nice {sc : Scope} {X : Cx} : True := trivial
mutual
theorem sndS : ∀ (c : Cm) {sc : Scope} {e : Stmt} {X : Cx} {W : WX}, Oks P n N sc X W → chkS P N sc c e = true → PS X e (tS X W (evS (fnAt P n) P.glob c))
  | .expr a, sc, e, X, W, ok, h => by
    unfold chkS at h
    split at h <;> first | (cases h; done) | (rename_i he; cases he)
    simp only [Bool.and_eq_true] at h
    exact snd_expr (sndE a ok.toOkc h.1) h.2
  | .set tg a, sc, e, X, W, ok, h => by
    unfold chkS at h
    split at h <;> first | (cases h; done) | (rename_i he; cases he)
    simp only [Bool.and_eq_true] at h
    obtain ⟨⟨⟨⟨h1, h2⟩, h3⟩, h4⟩, h5⟩ := h
    exact (snd_set ok h1 h2 h4 h5 (sndE a ok.toOkc h3)).ev fun s => rfl
  | .par is es, sc, e, X, W, ok, h => by
    unfold chkS at h
    split at h <;> first | (cases h; done) | (rename_i he; cases he)
    · simp only [Bool.and_eq_true] at h
      exact (snd_par2 ok h.1 (sndX es ok.toOkc h.2)).ev fun s => rfl
    · simp only [Bool.and_eq_true] at h
      exact (snd_par3 ok h.1 (sndX es ok.toOkc h.2)).ev fun s => rfl
  | .parF is es j f, sc, e, X, W, ok, h => by
    unfold chkS at h
    split at h <;> first | (cases h; done) | (rename_i he; cases he)
    · simp only [Bool.and_eq_true] at h
      obtain ⟨⟨h1, h2⟩, h3⟩ := h
      obtain ⟨x, rfl, k1, k2⟩ := chkEs_one h2
      exact (snd_parF2 ok h1 (pa_consF k2 (sndE x ok.toOkc k1) (pa_lastF (par2_nice h1) (sndF f ok.toOkc h3)))).ev fun s => rfl
    · simp only [Bool.and_eq_true] at h
      obtain ⟨⟨h1, h2⟩, h3⟩ := h
      obtain ⟨x, y, rfl, ⟨k1, k2⟩, k3, k4⟩ := chkEs_two h2
      exact (snd_parF3 ok h1 (pa_consF k2 (sndE x ok.toOkc k1) (pa_consF k4 (sndE y ok.toOkc k3) (pa_lastF (par3_nice h1) (sndF f ok.toOkc h3))))).ev fun s => rfl
  | .own i f, sc, e, X, W, ok, h => by
    unfold chkS at h
    split at h <;> first | (cases h; done) | (rename_i he; cases he)
    simp only [Bool.and_eq_true, Bool.or_eq_true] at h
    obtain ⟨⟨h1, h2⟩, h3⟩ := h
    rcases h3 with h3 | h3
    · exact (snd_own ok h1 h3 (sndF f ok.toOkc h2)).ev fun s => rfl
    · unfold compB at h3
      split at h3
      · unfold chkF at h2
        split at h2 <;> first | (cases h2; done) | (rename_i he he2; first | (cases he; done) | (cases he2; done) | (cases he; cases he2))
        simp only [Bool.and_eq_true] at h2
        obtain ⟨⟨⟨⟨⟨⟨⟨⟨k1, k2⟩, k3⟩, k4⟩, k5⟩, k6⟩, k7⟩, k8⟩, k9⟩ := h2
        exact (snd_setLc ok h1 h3 k1 k3 k4 k5 k9 (sndI _ ok.toOkc k2 rfl) (fun X' ok' => sndC _ ok' k6) (fun X' ok' => sndE _ ok' k7)).ev fun s => rfl
      · cases h3
  | .new i f, sc, e, X, W, ok, h => by
    unfold chkS at h
    split at h <;> first | (cases h; done) | (rename_i he; cases he)
    simp only [Bool.and_eq_true] at h
    obtain ⟨⟨h1, h2⟩, h3⟩ := h
    exact (snd_new ok h1 h3 (sndF f ok.toOkc h2)).ev fun s => rfl
  | .setIx o i v, sc, e, X, W, ok, h => by
    unfold chkS at h
    split at h <;> first | (cases h; done) | (rename_i he; cases he)
    simp only [Bool.and_eq_true] at h
    obtain ⟨⟨⟨⟨h1, h2⟩, h3⟩, h4⟩, h5⟩ := h
    exact (snd_setIx ok h4 h5 (sndE v ok.toOkc h3) (sndE o ok.toOkc h1) (sndE i ok.toOkc h2)).ev fun s => rfl
  | .aug i o a, sc, e, X, W, ok, h => by
    unfold chkS at h
    cases h
  | .ret a, sc, e, X, W, ok, h => by
    unfold chkS at h
    split at h <;> first | (cases h; done) | (rename_i he; cases he)
    exact (snd_ret (sndE a ok.toOkc h)).ev fun s => rfl
  | .retF f, sc, e, X, W, ok, h => by
    unfold chkS at h
    split at h <;> first | (cases h; done) | (rename_i he; cases he)
    exact (snd_retF (sndF f ok.toOkc h)).ev fun s => rfl
  | .retN, sc, e, X, W, ok, h => by
    unfold chkS at h
    split at h <;> first | (cases h; done) | (rename_i he; cases he) | skip
    exact snd_retN.ev fun s => rfl
  | .ite c a b, sc, e, X, W, ok, h => by
    unfold chkS at h
    split at h <;> first | (cases h; done) | (rename_i he; cases he)
    simp only [Bool.and_eq_true] at h
    exact (snd_if (sndT c ok.toOkc h.1.1) (sndQ a ok h.1.2) (sndQ b ok h.2)).ev fun s => rfl
  | .for_ tg it body kill, sc, e, X, W, ok, h => by
    unfold chkS at h
    split at h <;> first | (cases h; done) | (rename_i he; cases he)
    simp only [Bool.and_eq_true] at h
    obtain ⟨⟨⟨h1, h2⟩, h3⟩, h4⟩ := h
    refine (ps_for ok.pown ok.calm (sndI it ok.toOkc h1 rfl) (ok.pgT h3) (sndQ body ok h4) (fun x => nice_fold h2 _ x)).weak fun Z σ H ⟨r, s, R, h⟩ => ?_
    refine tS_step (Rv := RI) R h fun r1 s1 xs J H1 l1 R1 hI e1 h => ?_
    exact s_for R1 hI h
  | .while_ c body kill, sc, e, X, W, ok, h => by
    unfold chkS at h
    split at h <;> first | (cases h; done) | (rename_i he; cases he)
    simp only [Bool.and_eq_true] at h
    exact (ps_while ok.pown (sndT c ok.toOkc h.1) (sndQ body ok h.2)).weak fun Z σ H ⟨r, s, R, h⟩ => s_while R h
  | .brk, sc, e, X, W, ok, h => by
    unfold chkS at h
    split at h <;> first | (cases h; done) | (rename_i he; cases he) | skip
    exact snd_brk.ev fun s => rfl
  | .cnt, sc, e, X, W, ok, h => by
    unfold chkS at h
    split at h <;> first | (cases h; done) | (rename_i he; cases he) | skip
    exact snd_cnt.ev fun s => rfl
  | .pass, sc, e, X, W, ok, h => by
    unfold chkS at h
    split at h <;> first | (cases h; done) | (rename_i he; cases he) | skip
    exact snd_pass.ev fun s => rfl
termination_by structural c => c
theorem sndQ : ∀ (c : Sq) {sc : Scope} {es : List Stmt} {X : Cx} {W : WX}, Oks P n N sc X W → chkQ P N sc c es = true → PSs X es (tS X W (evQ (fnAt P n) P.glob c))
  | .nil, sc, e, X, W, ok, h => by
    unfold chkQ at h
    split at h <;> first | (cases h; done) | (rename_i he; cases he) | skip
    exact snd_snil.ev fun s => rfl
  | .cons a r, sc, e, X, W, ok, h => by
    unfold chkQ at h
    split at h <;> first | (cases h; done) | (rename_i he; cases he)
    simp only [Bool.and_eq_true] at h
    exact (snd_seq (sndS a ok h.1) (sndQ r ok h.2)).ev fun s => rfl
termination_by structural c => c
end
end
end RS

/-! RsFn: every def does what the evaluator says. -/
namespace RS
open PySem PySem.Spec PyProof.Rows L2

/-- what the top left of a def -/
structure FnF (P : Prog) (K : PySem.W.Frag) (mg : Str → Option Value) (f : String) (fd : Fd) (a : Addr) (fdt : FuncData) (ps : List Str) : Prop where
  mgf : mg (nm f) = some (.ref a)
  kp : PySem.W.keepIn K (.ref a) = true
  bd : Binds K fdt ps []
  pl : ps.length = fd.params
  ex : ∃ (x qual : Str) (st : Stmt) (N : List Str), Fun K x qual st a fdt ∧ FnScope N ps (defScope st) ∧ N.length = fd.names.length ∧ chkQ P N (defScope st) fd.body (defBody st) = true
structure TopF (P : Prog) (K : PySem.W.Frag) (mg : Str → Option Value) : Prop where
  fns : ∀ f fd, P.fns f = some fd → ∃ a fdt ps, FnF P K mg f fd a fdt ps
  glob : ∀ x d, P.glob x = some d → ∃ v u, mg (nm x) = some u ∧ RelV v u ∧ ∀ r, VR ⟨K, mg⟩ r d v
  blt : ∀ x, x ∈ blts → mg (nm x) = none

theorem mkEnv_eq : ∀ (args : List Arg) (n : Nat), args.length ≤ n → mkEnv n args = args.map argSlot ++ List.replicate (n - args.length) .un
  | [], n, _ => by simp [mkEnv]
  | a :: r, n, h => by
    rw [List.length_cons] at h
    have ih := mkEnv_eq r (n - 1) (by omega)
    have e : n - 1 - r.length = n - (r.length + 1) := by omega
    cases a with
    | val d => simp only [mkEnv, ih, List.map_cons, argSlot, List.cons_append, List.length_cons, e]
    | obj o => simp only [mkEnv, ih, List.map_cons, argSlot, List.cons_append, List.length_cons, e]
/-- more slots, of which nothing is known -/
theorem Rel.more {g : Gm} {r : RC} {env : List Slot} {st : List Ob} {σ : Sg} {H : Hp} (R : Rel g r ⟨env, st⟩ σ H) (n : Nat) : Rel g r ⟨env ++ List.replicate n .un, st⟩ (σ ++ List.replicate n none) H := by
  have hl : env.length = σ.length := R.len
  have get : ∀ (i : Nat) x, (env ++ List.replicate n Slot.un)[i]? = some x → (i < env.length ∧ env[i]? = some x) ∨ (x = .un ∧ (σ ++ List.replicate n none)[i]? = some none) := fun i x e => by
    by_cases hi : i < env.length
    · rw [List.getElem?_append_left hi] at e
      exact .inl ⟨hi, e⟩
    · rw [List.getElem?_append_right (by omega), List.getElem?_replicate] at e
      split at e
      · rename_i hlt
        cases e
        refine .inr ⟨rfl, ?_⟩
        rw [List.getElem?_append_right (by omega), List.getElem?_replicate, if_pos (by omega)]
      · cases e
  have left : ∀ {i : Nat}, i < env.length → (σ ++ List.replicate n none)[i]? = σ[i]? := fun {i} hi => List.getElem?_append_left (by omega)
  have at' : ∀ q a, AtS r ⟨env ++ List.replicate n .un, st⟩ (σ ++ List.replicate n none) q a → AtS r ⟨env, st⟩ σ q a := fun q a h => by
    cases q with
    | inl i =>
      obtain ⟨⟨x, e, ob⟩, e2⟩ := h
      rcases get i x e with ⟨hi, e1⟩ | ⟨rfl, _⟩
      · exact ⟨⟨x, e1, ob⟩, by rw [← left hi]; exact e2⟩
      · cases ob
    | inr m => exact h
  refine ⟨R.fz, R.gd, R.gm, by simp [hl], fun i x e => ?_, R.stl, R.sto, fun q q' a h1 h2 => R.inj _ _ _ (at' _ _ h1) (at' _ _ h2), fun q a h => R.sep _ _ (at' _ _ h), fun i a e => ?_, fun i o e => ?_⟩
  · rcases get i x e with ⟨hi, e1⟩ | ⟨rfl, e1⟩
    · obtain ⟨y, ey, q⟩ := R.env i x e1
      exact ⟨y, by rw [left hi]; exact ey, q⟩
    · exact ⟨_, e1, trivial⟩
  · obtain ⟨⟨o, e1⟩, e2⟩ := R.bo i a e
    have hi : i < env.length := (List.getElem?_eq_some_iff.mp e1).1
    exact ⟨⟨o, by show (env ++ _)[i]? = _; rw [List.getElem?_append_left hi]; exact e1⟩, by rw [left hi]; exact e2⟩
  · rcases get i _ e with ⟨_, e1⟩ | ⟨z, _⟩
    · exact R.bo2 i o e1
    · cases z
theorem fn_all {P : Prog} {prog : Program} {w : World} {K : PySem.W.Frag} {mg : Str → Option Value} {base : Heap} (T : TopF P K mg) : ∀ (n : Nat) (f : String) (fd : Fd) (a : Addr) (fdt : FuncData) (ps : List Str), P.fns f = some fd → FnF P K mg f fd a fdt ps →
    FnG prog w K mg base n a fdt ps (spF ⟨K, mg⟩ (fnAt P n) f ps.length)
  | 0, f, fd, a, fdt, ps, hf, F => ⟨fun vs H Q E h => h.1, fun A outer s H args us vs Q E _ _ _ _ _ h => by
      obtain ⟨_, r, st, as, _, h⟩ := h
      exact h.elim⟩
  | n + 1, f, fd, a, fdt, ps, hf, F => by
    obtain ⟨x, qual, st, N, hF, hS, hN, hchk⟩ := F.ex
    refine hF.okG hS (fun vs H Q E h => h.1) fun cdv A outer s H vs Q E hq hr hsp => ?_
    obtain ⟨hl, r, sto, args, R, hp⟩ := hsp
    have okc : Okc P n N (defScope st) (cxOf (L2.CX prog w) prog w K mg base N qual (defScope st) a cdv A outer s H E) (fun cls d _ H => E cls d H) :=
      ⟨rfl, rfl, hS.nd, rfl, hq, hr, takes_of rfl rfl rfl rfl, fun f' fd' hf' => by
        obtain ⟨a', fdt', ps', F'⟩ := T.fns f' fd' hf'
        exact ⟨a', fdt', ps', F'.mgf, F'.kp, F'.bd, F'.pl, fn_all T n f' fd' a' fdt' ps' hf' F'⟩, T.glob, T.blt⟩
    have oks : Oks P n N (defScope st) (cxOf (L2.CX prog w) prog w K mg base N qual (defScope st) a cdv A outer s H E) (fun cls d _ H => E cls d H) := { toOkc := okc, fnT := fun _ => rfl, pown := passes_of rfl, kf := hS.kind }
    refine ⟨_, sndQ fd.body oks hchk, ?_⟩
    -- the entry
    simp only [fnAt, hf] at hp
    unfold runFd at hp
    split at hp
    · rename_i hpar
      have hal : args.length = vs.length := by
        have := R.len
        simpa using this
      have hle : args.length ≤ fd.names.length := by
        have h1 : ps.length ≤ N.length := by
          have := congrArg List.length hS.pre
          rw [List.length_take] at this
          omega
        rw [← hN, hpar, ← F.pl]
        exact h1
      have R0 : Rel ⟨K, mg⟩ r ⟨mkEnv fd.names.length args, sto⟩ (L2.start N vs) H := by
        rw [mkEnv_eq args _ hle]
        unfold L2.start
        rw [hN, ← hal]
        exact R.more _
      refine ⟨r, ⟨mkEnv fd.names.length args, sto⟩, R0, ?_⟩
      show PS1 ⟨K, mg⟩ _ r _ _
      cases eq : evQ (fnAt P n) P.glob fd.body ⟨mkEnv fd.names.length args, sto⟩ with
      | stuck => rw [eq] at hp; exact hp.elim
      | exc x s' =>
        rw [eq] at hp
        exact fun r' σ' H' cls d l R' xr => hp r' s' σ' cls d H' l R' rfl rfl xr
      | ok fl s' =>
        rw [eq] at hp
        cases fl with
        | nx => exact fun r' σ' H' l R' => hp r' s' σ' .non H' l R' rfl rfl rfl
        | br => exact hp.elim
        | ct => exact hp.elim
        | ret z => exact fun r' σ' v H' l R' q => hp r' s' σ' v H' l R' rfl rfl q
    · exact hp.elim
end RS

/-! RsWalk: from the evaluator's answer to the law's row. -/
namespace RS
open PySem PySem.Spec PyProof.Rows L2

/-- the law's call, at the heap behind the top, nothing under way -/
theorem law_callG {P : Program} {w : World} {K : PySem.W.Frag} {mg mb : Str → Option Value} {k : Nat} {fa a : Addr} {fd : FuncData} {x : Str} {sp : Sp} {s₁ : Shared} {vs : List Value} {ns : List Int}
    (KX : K.In s₁.heap) (hns : s₁.heap.Ns mainGlobals mg) (hb : s₁.heap.Ns builtinsNs mb) (hbb : ∀ x : Str, x ≠ "__name__" → mb x = bootBuiltins x) (hlim : s₁.heap.NoLimit) (hg : s₁.gens = #[])
    (ha : s₁.heap.get? a = some { cls := .type "list", data := .seq vs.toArray }) (hi : IntsAre vs ns) (hl : ns.length ≤ sizeLine) (hr : Room k callerA)
    (F : ∀ base : Heap, K.In base → base.Ns mainGlobals mg → FnG P w K mg base k fa fd [x] sp) (hbind : ∀ (s : Shared) (u : Value), BindsTo s fd ⟨[u], []⟩ [(x, u)])
    (hsp : ∀ H : Hp, Only H → SqL K H a (ns.map V.int) → sp [.ref a] H (fun v _ => v = .bl true) fun _ _ _ => False) :
    codeAny (model P w) callerA (.call (.ref fa) ⟨[.ref a], []⟩) (fun r s' => r = .ok (.ret (.bool true)) ∧ OldK s₁.heap s'.heap ∧ s'.os = s₁.os ∧ AllBare s'.gens) s₁ := by
  have rv := vals_ints hi
  have lenV := hi.length
  -- the heap that is tracked at the start: nothing, or the script alone
  have go : ∀ H : Hp, Only H → SqL K H a (ns.map V.int) → HOk P w H s₁.heap → (∀ b, H b ≠ none → b = a ∧ K.lookup a = none) →
      codeAny (model P w) callerA (.call (.ref fa) ⟨[.ref a], []⟩) (fun r s' => r = .ok (.ret (.bool true)) ∧ OldK s₁.heap s'.heap ∧ s'.os = s₁.os ∧ AllBare s'.gens) s₁ := by
    intro H hO hS hok hA
    have there : ∀ {b : Addr} {o : Obj}, s₁.heap.get? b = some o → H b = none → (hidT s₁.heap H).get? b = some o := fun e n => hidT_get e n
    have isA : ∀ {b : Addr} {u : HO}, H b = some u → b = a := fun {b u} e => (hA b (by rw [e]; simp)).1
    have dictN : ∀ {b : Addr} {o : Obj} {es : Array DictEntry} {ep : Nat}, s₁.heap.get? b = some o → o.data = .dict es ep → H b = none := fun {b o es ep} e d => by
      cases q : H b with
      | none => rfl
      | some u =>
        have e' := isA q
        subst e'
        rw [ha] at e
        cases e
        cases d
    have ns' : ∀ {b : Addr} {m : Str → Option Value}, s₁.heap.Ns b m → (hidT s₁.heap H).Ns b m := fun ⟨o, es, ep, e, d, r⟩ => ⟨o, es, ep, there e (dictN e d), d, r⟩
    have hKb : K.In (hidT s₁.heap H) := fun b o e => there (KX b o e) (by
      cases q : H b with
      | none => rfl
      | some u =>
        have e' := isA q
        subst e'
        rw [(hA b (by rw [q]; simp)).2] at e
        cases e)
    have e0 : Env0 P w K mg (hidT s₁.heap H) callerA [] s₁ H :=
      ⟨rfl, ⟨hKb, ns' hns, ⟨mb, ns' hb, hbb⟩, let ⟨mc, h1, h2⟩ := hlim; ⟨mc, ns' h1, h2⟩⟩, fun b o e => of_hidT e, Nat.le_of_eq (hidT_size _ _), trivial, fun b hb => absurd (show b ∈ ([] : List Addr) from hb) (by simp), hok, .of_eq hg⟩
    refine codeAny_mono ((F _ hKb (ns' hns)).run callerA [] s₁ H ⟨[.ref a], []⟩ [.ref a] [.ref a] _ _ rfl hr e0 (hbind s₁ (.ref a)) (.cons rfl .nil) (hsp H hO hS)) fun r s' h => ?_
    match r, h with
    | .error e, ⟨_, _, _, _, _, _, _, _, _, _, _, _, z⟩ => exact z.elim
    | .ok (.ret u), ⟨v, H', os, bare, un, hok', r', q⟩ =>
      have q : v = .bl true := q
      subst q
      obtain rfl : u = Value.bool true := r'
      refine ⟨rfl, OldK.of_keep fun b o e => ?_, os, bare⟩
      cases q : H b with
      | none => exact un.keep b o e q (by intro z; exact absurd (show b ∈ ([] : List Addr) from z) (by simp)) (by simp)
      | some u =>
        rcases hO b with z | ⟨ob, xs, z⟩
        · rw [q] at z
          cases z
        · obtain ⟨e1, _⟩ := hok b _ z
          obtain ⟨e2, _⟩ := hok' b _ (un.frzs b ob _ z)
          rw [e] at e1
          cases e1
          exact e2
  cases hk : K.lookup a with
  | some o =>
    have e := KX a o hk
    rw [ha] at e
    cases e
    exact go (fun _ => none) (fun _ => .inl rfl) (.inr ⟨_, vs.toArray, _, hk, rfl, rfl, rfl, by rw [List.size_toArray, lenV]; exact hl, by simpa using rv⟩) (fun b u z => by cases z) fun b z => absurd rfl z
  | none =>
    refine go (fun b => if b = a then some (.frz { cls := .type "list", data := .seq vs.toArray } (.lst (ns.map V.int))) else none) (fun b => ?_) (.inl (.inr ⟨{ cls := .type "list", data := .seq vs.toArray }, if_pos rfl⟩)) (fun b u z => ?_) fun b z => ?_
    · by_cases hb : b = a
      · exact .inr ⟨_, _, if_pos hb⟩
      · exact .inl (if_neg hb)
    · by_cases hb : b = a
      · have z' := (if_pos hb).symm.trans z
        cases z'
        subst hb
        exact ⟨ha, by rw [List.length_map]; exact hl, vs, _, rv, ha⟩
      · have z' := (if_neg hb).symm.trans z
        cases z'
    · by_cases hb : b = a
      · exact ⟨hb, hk⟩
      · exact absurd (if_neg hb) z
theorem kl_ints {g : Gm} {fz : Hp} {rho : List Addr} : ∀ ns : List Int, VRs0 g fz rho (ns.map D.int) (ns.map V.int)
  | [] => rfl
  | n :: r => ⟨.int n, r.map V.int, rfl, rfl, kl_ints r⟩
/-- the law's promise, from the evaluator's answer -/
theorem sp_law {K : PySem.W.Frag} {mg : Str → Option Value} {Φ : Fns} {f : String} {H : Hp} {a : Addr} {ns : List Int} (hl : ns.length ≤ 63) (hO : Only H) (hS : SqL K H a (ns.map V.int))
    (h : ∃ outs st, Φ f [.val (.kl (ns.map .int))] [] = .ok (.val (.bl true)) outs st) : spF ⟨K, mg⟩ Φ f 1 [.ref a] H (fun v _ => v = .bl true) fun _ _ _ => False := by
  obtain ⟨outs, st, h⟩ := h
  have hm : ∀ p a', ¬ AtS ⟨H, [], fun _ => none, fun _ => none⟩ ⟨[.val (.kl (ns.map .int))], []⟩ [some (.ref a)] p a' := fun p a' q => by
    cases p with
    | inl i =>
      obtain ⟨⟨x, e, ob⟩, _⟩ := q
      match i, e with
      | 0, e => simp at e; subst e; exact ob
      | i + 1, e => simp at e
    | inr n => exact absurd q.1 (Nat.not_lt_zero _)
  refine ⟨rfl, ⟨H, [], fun _ => none, fun _ => none⟩, [], [.val (.kl (ns.map .int))], ⟨(fun _ _ e => e), (fun _ _ e => nomatch e), (fun _ _ e => nomatch e), rfl, fun i x e => ?_, rfl, (fun n o a e => by cases n <;> cases e), fun p q b h1 => (hm _ _ h1).elim, fun p b h1 => (hm _ _ h1).elim, (fun _ _ e => nomatch e), fun i o e => ?_⟩, ?_⟩
  · match i, e with
    | 0, e =>
      simp [argSlot] at e
      subst e
      exact ⟨_, rfl, _, rfl, a, ns.map V.int, rfl, hS, by simp only [List.length_map]; exact Nat.le_trans hl (by decide), kl_ints ns⟩
    | i + 1, e => simp at e
  · match i, e with
    | 0, e => simp [argSlot] at e
    | i + 1, e => simp at e
  · rw [h]
    exact fun r' s' σ' v H' l R e1 e2 q => q
theorem walk_G {l : PySem.W.OpenLaw} {k : Nat} {q : Program} {loose : List Str} {XP : (Str → Option Value) → Heap → Prop} {YP : World → Heap → Prop} {d : DefRec} {K : Params → PySem.W.Frag} {x : Str} {Φ : Fns} {f : String}
    (hn : l.most = some 63) (hdf : d.params.defaults = []) (hr : Room k callerA)
    (hY : ∀ (w : World) (h : Heap), YP w h → (K w.params).In h)
    (F : ∀ (w : World) (mg : Str → Option Value) (fa : Addr) (h : Heap), (K w.params).In h → h.Ns mainGlobals mg → mg d.name = some (.ref fa) →
      ∃ fd : FuncData, (∀ (s : Shared) (u : Value), BindsTo s fd ⟨[u], []⟩ [(x, u)]) ∧
        ∀ base : Heap, (K w.params).In base → base.Ns mainGlobals mg → FnG l.prog w (K w.params) mg base k fa fd [x] (spF ⟨K w.params, mg⟩ Φ f 1))
    (hlaw : ∀ ns : List Int, ns.length ≤ 63 → ∃ outs st, Φ f [.val (.kl (ns.map .int))] [] = .ok (.val (.bl true)) outs st) :
    PySem.W.WalkO q loose XP YP l.row.toRowW d [] (fun f vs => PySem.call f vs) := by
  refine Att.attach_call hn hdf fun w s₀ s₁ mg mb fa o pm cd doc a vs ns G Y ho hd hcd hmg hobj hints hlen hg => ?_
  obtain ⟨fd, hb, hF⟩ := F w mg fa _ (hY w _ Y) G.T.g hmg
  exact law_callG (hY w _ Y) G.T.g G.T.b G.T.builtins G.T.nolimit hg hobj hints (Nat.le_trans hlen (by rw [sizeLine_eq]; decide)) hr hF hb fun H hO hS => sp_law hlen hO hS (hlaw ns hlen)
end RS

/-! RsWp: the evaluator's answers, told from behind. -/
namespace RS

def okR {α : Type} (m : Res α) (Q : α → S → Prop) : Prop := match m with
  | .ok a s => Q a s
  | _ => False
def okF (m : FR) (Q : Arg → List Ob → List Ob → Prop) : Prop := match m with
  | .ok r o s => Q r o s
  | _ => False
section
variable {α β : Type}
@[simp] theorem okR_ok {a : α} {s : S} {Q : α → S → Prop} : okR (.ok a s) Q = Q a s := rfl
@[simp] theorem okR_stuck {Q : α → S → Prop} : okR .stuck Q = False := rfl
@[simp] theorem okR_bind {m : Res α} {f : α → S → Res β} {Q : β → S → Prop} : okR (m.bind f) Q = okR m fun a s => okR (f a s) Q := by
  cases m <;> rfl
@[simp] theorem okR_lift_some {a : α} {s : S} {Q : α → S → Prop} : okR (lift (some a) s) Q = Q a s := rfl
theorem okR.mono {m : Res α} {Q Q' : α → S → Prop} (h : okR m Q) (k : ∀ a s, Q a s → Q' a s) : okR m Q' := by
  cases m with
  | ok a s => exact k a s h
  | exc _ _ => exact h
  | stuck => exact h
theorem okF.mono {m : FR} {Q Q' : Arg → List Ob → List Ob → Prop} (h : okF m Q) (k : ∀ r o s, Q r o s → Q' r o s) : okF m Q' := by
  cases m with
  | ok a o s => exact k a o s h
  | exc _ _ _ => exact h
  | stuck => exact h
theorem okR_ex {m : Res α} {Q : α → S → Prop} (h : okR m Q) : ∃ a s, m = .ok a s ∧ Q a s := by
  cases m with
  | ok a s => exact ⟨a, s, rfl, h⟩
  | exc _ _ => exact h.elim
  | stuck => exact h.elim
theorem okF_ex {m : FR} {Q : Arg → List Ob → List Ob → Prop} (h : okF m Q) : ∃ r o s, m = .ok r o s ∧ Q r o s := by
  cases m with
  | ok a o s => exact ⟨a, o, s, rfl, h⟩
  | exc _ _ _ => exact h.elim
  | stuck => exact h.elim
end
/-- a def's run -/
theorem okF_fn {P : Prog} {n : Nat} {f : String} {fd : Fd} {args : List Arg} {st : List Ob} {Q : Arg → List Ob → List Ob → Prop} (hf : P.fns f = some fd) (hl : args.length = fd.params)
    (h : okR (evQ (fnAt P n) P.glob fd.body ⟨mkEnv fd.names.length args, st⟩) fun fl s => match fl with
      | .ret r => Q r (outsOf s.env) s.st
      | .nx => Q (.val .non) (outsOf s.env) s.st
      | _ => False) : okF (fnAt P (n + 1) f args st) Q := by
  simp only [fnAt, hf, runFd, hl, if_true]
  cases e : evQ (fnAt P n) P.glob fd.body ⟨mkEnv fd.names.length args, st⟩ with
  | stuck => rw [e] at h; exact h
  | exc _ _ => rw [e] at h; exact h
  | ok fl s =>
    rw [e] at h
    cases fl <;> exact h
/-- a call with values alone -/
def vals : List AV → Option (List Arg)
  | [] => some []
  | .val d :: r => (vals r).map (.val d :: ·)
  | .io _ :: _ => none
theorem okR_call {Φ : Fns} {f : String} {avs : List AV} {args : List Arg} {s : S} {Q : Arg → S → Prop} (hv : vals avs = some args) (h : okF (Φ f args s.st) fun r _ st => Q r ⟨s.env, st⟩) : okR (callF Φ f avs s) Q := by
  have key : ∀ (avs : List AV) (args : List Arg), vals avs = some args → fetch avs s.env = some args ∧ nodupB (ios avs) = true ∧ ∀ os env, putBack avs os env = env := by
    intro avs
    induction avs with
    | nil => intro args h; cases h; exact ⟨rfl, rfl, fun _ _ => rfl⟩
    | cons a r ih =>
      intro args h
      cases a with
      | io _ => cases h
      | val d =>
        obtain ⟨as, h1, rfl⟩ := Option.map_eq_some_iff.mp h
        obtain ⟨a1, a2, a3⟩ := ih as h1
        exact ⟨by simp [fetch, a1], a2, fun os env => by rw [putBack]; exact a3 os env⟩
  obtain ⟨a1, a2, a3⟩ := key avs args hv
  unfold callF
  rw [a1]
  simp only [a2, Bool.true_eq_false, if_false]
  cases e : Φ f args s.st with
  | stuck => rw [e] at h; exact h
  | exc _ _ _ => rw [e] at h; exact h
  | ok r outs st =>
    rw [e] at h
    simp only [a3]
    exact h
/-- a loop with an invariant -/
theorem okR_for {body : S → Res Fl} {tg : Tg} {kill : List Nat} {Q : Fl → S → Prop} (I : List D → S → Prop) (stop : ∀ s, I [] s → Q .nx s)
    (step : ∀ x xs s, I (x :: xs) s → ∃ env, asg tg x s.env = some env ∧ okR (body { s with env := env }) fun fl s => match fl with
      | .nx => I xs { s with env := kil kill s.env }
      | .ct => I xs { s with env := kil kill s.env }
      | .br => Q .nx { s with env := kil kill s.env }
      | .ret r => Q (.ret r) s) : ∀ (xs : List D) (s : S), I xs s → okR (forLoop body tg kill xs s) Q
  | [], s, h => stop s h
  | x :: xs, s, h => by
    obtain ⟨env, ea, hb⟩ := step x xs s h
    simp only [forLoop, ea, okR_bind, okR_lift_some]
    refine hb.mono fun fl s1 q => ?_
    cases fl with
    | nx => exact okR_for I stop step xs _ q
    | ct => exact okR_for I stop step xs _ q
    | br => exact q
    | ret r => exact q
/-- a comprehension whose turns keep the slots: the items by a relation, the store by an invariant -/
theorem okR_lcLoop {step : D → S → Res (Option D)} {Q : List D → S → Prop} (I : List D → List D → S → Prop) (stop : ∀ acc s, I acc [] s → Q acc s)
    (turn : ∀ acc x xs s, I acc (x :: xs) s → okR (step x s) fun o s => I (acc ++ consO o []) xs s) : ∀ (xs acc : List D) (s : S), I acc xs s → okR (lcLoop step xs s) fun r s => Q (acc ++ r) s
  | [], acc, s, h => by simpa [lcLoop] using stop acc s h
  | x :: xs, acc, s, h => by
    simp only [lcLoop, okR_bind]
    refine (turn acc x xs s h).mono fun o s1 q => ?_
    refine (okR_lcLoop I stop turn xs _ s1 q).mono fun r s2 q2 => ?_
    show Q (acc ++ consO o r) s2
    have : acc ++ consO o [] ++ r = acc ++ consO o r := by cases o <;> simp [consO]
    rw [← this]
    exact q2
theorem okR_noexc {α : Type} {m : Res α} {Q : α → S → Prop} : okR (Res.noexc m) Q = okR m Q := by cases m <;> rfl

/-! ### each form, from behind -/
def okL {α : Type} (o : Option α) (Q : α → Prop) : Prop := match o with
  | some a => Q a
  | none => False
section
variable {α β : Type}
@[simp] theorem okL_some {a : α} {Q : α → Prop} : okL (some a) Q = Q a := rfl
@[simp] theorem okL_none {Q : α → Prop} : okL none Q = False := rfl
@[simp] theorem okL_bind {o : Option α} {f : α → Option β} {Q : β → Prop} : okL (o.bind f) Q = okL o fun a => okL (f a) Q := by cases o <;> rfl
@[simp] theorem okL_map {o : Option α} {f : α → β} {Q : β → Prop} : okL (o.map f) Q = okL o fun a => Q (f a) := by cases o <;> rfl
theorem okR_lift {o : Option α} {s : S} {Q : α → S → Prop} : okR (lift o s) Q = okL o fun a => Q a s := by cases o <;> rfl
theorem okL.mono {o : Option α} {Q Q' : α → Prop} (h : okL o Q) (k : ∀ a, Q a → Q' a) : okL o Q' := by
  cases o with
  | none => exact h
  | some a => exact k a h
theorem okL_eq {o : Option α} {a : α} {Q : α → Prop} (h : o = some a) (k : Q a) : okL o Q := by rw [h]; exact k
end
section
variable {Φ : Fns} {G : String → Option D} {s : S}
/-- what a slot tells -/
def okSlot (x : Option Slot) (i : Nat) (Q : D → Prop) : Prop := match x with
  | some (.val d) => Q d
  | some (.own _) => Q (.loc i)
  | some (.bor _) => Q (.loc i)
  | _ => False
@[simp] theorem okSlot_val {d : D} {i : Nat} {Q : D → Prop} : okSlot (some (.val d)) i Q = Q d := rfl
@[simp] theorem okSlot_own {o : Ob} {i : Nat} {Q : D → Prop} : okSlot (some (.own o)) i Q = Q (.loc i) := rfl
@[simp] theorem okSlot_bor {o : Ob} {i : Nat} {Q : D → Prop} : okSlot (some (.bor o)) i Q = Q (.loc i) := rfl
@[simp] theorem wE_lit {d : D} {Q : D → S → Prop} : okR (evE Φ G (.lit d) s) Q = Q d s := rfl
@[simp] theorem wE_var {i : Nat} {Q : D → S → Prop} : okR (evE Φ G (.var i) s) Q = okSlot s.env[i]? i fun d => Q d s := by
  simp only [evE]
  cases s.env[i]? with
  | none => rfl
  | some x => cases x <;> rfl
@[simp] theorem wE_glb {x : String} {Q : D → S → Prop} : okR (evE Φ G (.glb x) s) Q = okL (G x) fun d => Q d s := by rw [evE, okR_lift]
@[simp] theorem wE_tup {es : Es} {Q : D → S → Prop} : okR (evE Φ G (.tup es) s) Q = okR (evX Φ G es s) fun ds s => D.fit ds.length = true ∧ Q (.tup ds) s := by
  rw [evE, okR_bind]
  congr
  funext ds s
  split <;> simp_all
@[simp] theorem wE_op2 {o : Op2} {a b : E} {Q : D → S → Prop} : okR (evE Φ G (.op2 o a b) s) Q = okR (evE Φ G a s) fun x s => okR (evE Φ G b s) fun y s => okL (vw x s) fun x => okL (vw y s) fun y => okL (op2 o x y) fun d => Q d s := by
  simp only [evE, okR_bind, okR_lift, okL_bind]
@[simp] theorem wE_op1 {o : Op1} {a : E} {Q : D → S → Prop} : okR (evE Φ G (.op1 o a) s) Q = okR (evE Φ G a s) fun x s => okL (vw x s) fun x => okL (op1 o x) fun d => Q d s := by
  simp only [evE, okR_bind, okR_lift, okL_bind]
/-- a bool decides -/
def okBl (d : D) (Q : Bool → Prop) : Prop := match d with
  | .bl b => Q b
  | _ => False
@[simp] theorem okBl_bl {b : Bool} {Q : Bool → Prop} : okBl (.bl b) Q = Q b := rfl
@[simp] theorem wE_chain {o1 o2 : Op2} {a b c : E} {Q : D → S → Prop} : okR (evE Φ G (.chain o1 o2 a b c) s) Q = okR (evE Φ G a s) fun x s => okR (evE Φ G b s) fun y s => okL (vw x s) fun x => okL (vw y s) fun y' => okL (op2 o1 x y') fun r => okBl r fun t => if t then okR (evE Φ G c s) fun z s => okL (vw y s) fun y => okL (vw z s) fun z => okL (op2 o2 y z) fun d => Q d s else Q (.bl false) s := by
  simp only [evE, okR_bind, okR_lift, okL_bind]
  congr; funext x s; congr; funext y s; congr; funext x'; congr; funext y'; congr; funext r
  cases r <;> first | rfl | skip
  rename_i t
  cases t
  · rfl
  · simp only [okBl_bl, if_true, okR_bind, okR_lift, okL_bind]
@[simp] theorem wE_and {a b : E} {Q : D → S → Prop} : okR (evE Φ G (.and a b) s) Q = okR (evE Φ G a s) fun x s => okBl x fun t => if t then okR (evE Φ G b s) Q else Q (.bl false) s := by
  simp only [evE, okR_bind]
  congr; funext x s
  cases x <;> first | rfl | skip
  rename_i t
  cases t <;> rfl
@[simp] theorem wE_or {a b : E} {Q : D → S → Prop} : okR (evE Φ G (.or a b) s) Q = okR (evE Φ G a s) fun x s => okBl x fun t => if t then Q (.bl true) s else okR (evE Φ G b s) Q := by
  simp only [evE, okR_bind]
  congr; funext x s
  cases x <;> first | rfl | skip
  rename_i t
  cases t <;> rfl
@[simp] theorem wE_not {a : E} {Q : D → S → Prop} : okR (evE Φ G (.not a) s) Q = okR (evE Φ G a s) fun x s => okBl x fun t => Q (.bl (!t)) s := by
  simp only [evE, okR_bind]
  congr; funext x s
  cases x <;> rfl
@[simp] theorem wE_ite {c : Tst} {a b : E} {Q : D → S → Prop} : okR (evE Φ G (.ite c a b) s) Q = okR (evT Φ G c s) fun t s => if t then okR (evE Φ G a s) Q else okR (evE Φ G b s) Q := by
  simp only [evE, okR_bind]
  congr; funext t s
  cases t <;> rfl
@[simp] theorem wE_idx {a b : E} {Q : D → S → Prop} : okR (evE Φ G (.idx a b) s) Q = okR (evE Φ G a s) fun x s => okR (evE Φ G b s) fun y s => okL (vw x s) fun x => okL (vw y s) fun y => okL (idx x y) fun d => Q d s := by
  simp only [evE, okR_bind, okR_lift, okL_bind]
@[simp] theorem wE_slc {a : E} {lo hi : Es} {Q : D → S → Prop} : okR (evE Φ G (.slc a lo hi) s) Q = okR (evE Φ G a s) fun x s => okR (evO Φ G lo s) fun l s => okR (evO Φ G hi s) fun h s => okL (vw x s) fun x => okL (slc x l h) fun d => Q d s := by
  simp only [evE, okR_bind, okR_lift, okL_bind]
@[simp] theorem wE_rev {a : E} {Q : D → S → Prop} : okR (evE Φ G (.rev a) s) Q = okR (evE Φ G a s) fun x s => okL (vw x s) fun x => okL (revD x) fun d => Q d s := by
  simp only [evE, okR_bind, okR_lift, okL_bind]
@[simp] theorem wE_call {f : String} {as : As} {Q : D → S → Prop} : okR (evE Φ G (.call f as) s) Q = okR (evA Φ G as s) fun avs s => okR (callF Φ f avs s) fun r s => okL r.frz fun d => Q d s := by
  simp only [evE, okR_bind, okR_lift]
@[simp] theorem wE_bi {b : Bi} {as : Es} {Q : D → S → Prop} : okR (evE Φ G (.bi b as) s) Q = okR (evEs Φ G as s) fun ds s => okL (vws ds s) fun ds => okL (bi b ds) fun d => Q d s := by
  simp only [evE, okR_bind, okR_lift, okL_bind]
@[simp] theorem wE_isi {n : String} {a : E} {Q : D → S → Prop} : okR (evE Φ G (.isi n a) s) Q = okR (evE Φ G a s) fun x s => okL (vw x s) fun x => okL (isiTy n x) fun b => Q (.bl b) s := by
  simp only [evE, okR_bind, okR_lift, okL_bind, okL_map]
@[simp] theorem wE_sset {a : E} {Q : D → S → Prop} : okR (evE Φ G (.sset a) s) Q = okR (evE Φ G a s) fun x s => okL (vw x s) fun x => okL (ssetD x) fun d => Q d s := by
  simp only [evE, okR_bind, okR_lift, okL_bind]
@[simp] theorem wE_mt {m : Mt} {o : E} {as : Es} {Q : D → S → Prop} : okR (evE Φ G (.mt m o as) s) Q = okR (evE Φ G o s) fun x s => isStrD (vw x s) = true ∧ okR (evEs Φ G as s) fun ds s => okL (vw x s) fun x => okL (vws ds s) fun ds => okL (mt m x ds) fun d => Q d s := by
  simp only [evE, okR_bind]
  congr; funext x s
  split
  · rename_i h; simp [h]
  · rename_i h; simp only [Bool.not_eq_false] at h; simp only [h, true_and, okR_bind, okR_lift, okL_bind]
@[simp] theorem wE_mx {m : Mx} {o : E} {as : Es} {Q : D → S → Prop} : okR (evE Φ G (.mx m o as) s) Q = okR (evE Φ G o s) fun x s => isDctD (vw x s) = true ∧ okR (evX Φ G as s) fun ds s => okL (vw x s) fun x => okL (mx m x ds) fun d => Q d s := by
  simp only [evE, okR_bind]
  congr; funext x s
  split
  · rename_i h; simp [h]
  · rename_i h; simp only [Bool.not_eq_false] at h; simp only [h, true_and, okR_bind, okR_lift, okL_bind]
@[simp] theorem wE_mw {m : Mw} {o : E} {as : Es} {Q : D → S → Prop} : okR (evE Φ G (.mw m o as) s) Q = okR (evE Φ G o s) fun x s => isLstD (vw x s) = true ∧ okR (evX Φ G as s) fun ds s => okL (vw x s) fun d => okL (mw m d ds) fun p => okL (put x p.2 s) fun s' => Q p.1 s' := by
  simp only [evE, okR_bind]
  congr; funext x s
  split
  · rename_i h; simp [h]
  · rename_i h; simp only [Bool.not_eq_false] at h; simp only [h, true_and, okR_bind, okR_lift, okL_bind, okR_ok]
@[simp] theorem wE_fr {f : F} {Q : D → S → Prop} : okR (evE Φ G (.fr f) s) Q = okR (evF Φ G f s) fun o s => okL o.frz fun d => Q d s := by
  simp only [evE, okR_bind, okR_lift]
@[simp] theorem wF_lst {es : Es} {Q : Ob → S → Prop} : okR (evF Φ G (.lst es) s) Q = okR (evX Φ G es s) fun ds s => D.fit ds.length = true ∧ Q (.lst ds) s := by
  rw [evF, okR_bind]
  congr
  funext ds s
  split <;> simp_all
@[simp] theorem wF_dct {t : Bool} {Q : Ob → S → Prop} : okR (evF Φ G (.dct t) s) Q = Q (.dct t [] []) s := rfl
@[simp] theorem wF_bf {b : Bf} {as : Es} {Q : Ob → S → Prop} : okR (evF Φ G (.bf b as) s) Q = okR (evEs Φ G as s) fun ds s => okL (vws ds s) fun ds => okL (bf b ds) fun o => Q o s := by
  simp only [evF, okR_bind, okR_lift, okL_bind]
@[simp] theorem wF_call {f : String} {as : As} {Q : Ob → S → Prop} : okR (evF Φ G (.call f as) s) Q = okR (evA Φ G as s) fun avs s => okR (callF Φ f avs s) fun r s => okL r.ob fun d => Q d s := by
  simp only [evF, okR_bind, okR_lift]
@[simp] theorem wF_lc {own : List Nat} {tg : Tg} {it : It} {ifs : Tsts} {elt : E} {Q : Ob → S → Prop} : okR (evF Φ G (.lc own tg it ifs elt) s) Q = okR (evI Φ G it s) fun xs s => noOwn own s.env = true ∧ okR (lcLoop (fun x s => lcStep own tg (evC Φ G ifs) (evE Φ G elt) x s) xs { s with env := wip own s.env }) fun ds s' => D.fit ds.length = true ∧ Q (.lst ds) { s' with env := back own s.env s'.env } := by
  simp only [evF, okR_bind]
  congr; funext xs s
  split
  · rename_i h
    simp only [h, true_and, okR_bind, okR_noexc]
    congr; funext ds s'
    split <;> simp_all
  · rename_i h
    simp [h]
@[simp] theorem wEs_nil {Q : List D → S → Prop} : okR (evEs Φ G .nil s) Q = Q [] s := rfl
@[simp] theorem wEs_cons {e : E} {r : Es} {Q : List D → S → Prop} : okR (evEs Φ G (.cons e r) s) Q = okR (evE Φ G e s) fun d s => okR (evEs Φ G r s) fun ds s => Q (d :: ds) s := by
  simp only [evEs, okR_bind, okR_ok]
@[simp] theorem wX_nil {Q : List D → S → Prop} : okR (evX Φ G .nil s) Q = Q [] s := rfl
@[simp] theorem wX_cons {e : E} {r : Es} {Q : List D → S → Prop} : okR (evX Φ G (.cons e r) s) Q = okR (evE Φ G e s) fun d s => okR (esc d s) fun d s => okR (evX Φ G r s) fun ds s => Q (d :: ds) s := by
  simp only [evX, okR_bind, okR_ok]
@[simp] theorem wO_nil {Q : Option Int → S → Prop} : okR (evO Φ G .nil s) Q = Q none s := rfl
def okInt (d : D) (Q : Int → Prop) : Prop := match d with
  | .int i => Q i
  | _ => False
@[simp] theorem okInt_int {i : Int} {Q : Int → Prop} : okInt (.int i) Q = Q i := rfl
@[simp] theorem wO_cons {e : E} {Q : Option Int → S → Prop} : okR (evO Φ G (.cons e .nil) s) Q = okR (evE Φ G e s) fun d s => okInt d fun i => Q (some i) s := by
  simp only [evO, okR_bind]
  congr; funext d s
  cases d <;> rfl
@[simp] theorem wC_nil {Q : Bool → S → Prop} : okR (evC Φ G .nil s) Q = Q true s := rfl
@[simp] theorem wC_one {t : Tst} {Q : Bool → S → Prop} : okR (evC Φ G (.one t) s) Q = okR (evT Φ G t s) Q := rfl
@[simp] theorem wT_of {e : E} {Q : Bool → S → Prop} : okR (evT Φ G (.of e) s) Q = okR (evE Φ G e s) fun x s => okL (vw x s) fun x => okL x.truth fun b => Q b s := by
  simp only [evT, okR_bind, okR_lift, okL_bind]
@[simp] theorem wT_and {a b : Tst} {Q : Bool → S → Prop} : okR (evT Φ G (.and a b) s) Q = okR (evT Φ G a s) fun t s => if t then okR (evT Φ G b s) Q else Q false s := by
  simp only [evT, okR_bind]
  congr; funext t s
  cases t <;> rfl
@[simp] theorem wT_or {a b : Tst} {Q : Bool → S → Prop} : okR (evT Φ G (.or a b) s) Q = okR (evT Φ G a s) fun t s => if t then Q true s else okR (evT Φ G b s) Q := by
  simp only [evT, okR_bind]
  congr; funext t s
  cases t <;> rfl
@[simp] theorem wT_not {a : Tst} {Q : Bool → S → Prop} : okR (evT Φ G (.not a) s) Q = okR (evT Φ G a s) fun t s => Q (!t) s := by
  simp only [evT, okR_bind, okR_ok]
@[simp] theorem wA_nil {Q : List AV → S → Prop} : okR (evA Φ G .nil s) Q = Q [] s := rfl
@[simp] theorem wA_val {e : E} {r : As} {Q : List AV → S → Prop} : okR (evA Φ G (.val e r) s) Q = okR (evE Φ G e s) fun d s => okR (esc d s) fun d s => okR (evA Φ G r s) fun ds s => Q (.val d :: ds) s := by
  simp only [evA, okR_bind, okR_ok]
@[simp] theorem wI_of {e : E} {Q : List D → S → Prop} : okR (evI Φ G (.of e) s) Q = okR (evE Φ G e s) fun d s => okR (esc d s) fun d s => okL (itemsOf d) fun xs => Q xs s := by
  simp only [evI, okR_bind, okR_lift]
@[irreducible] def rngI (lo hi : Int) : Option (List D) := rngItems lo hi
theorem rngI_eq {lo hi : Int} : rngItems lo hi = rngI lo hi := by unfold rngI; rfl
@[simp] theorem wI_rng1 {a : E} {Q : List D → S → Prop} : okR (evI Φ G (.rng1 a) s) Q = okR (evE Φ G a s) fun d s => okInt d fun i => okL (rngI 0 i) fun xs => Q xs s := by
  simp only [evI, okR_bind]
  congr; funext d s
  cases d <;> first | rfl | simp only [okInt_int, okR_lift, rngI_eq]
@[simp] theorem wI_rng2 {a b : E} {Q : List D → S → Prop} : okR (evI Φ G (.rng2 a b) s) Q = okR (evE Φ G a s) fun d s => okR (evE Φ G b s) fun e s => okInt d fun i => okInt e fun j => okL (rngI i j) fun xs => Q xs s := by
  simp only [evI, okR_bind]
  congr; funext d s; congr; funext e s
  cases d <;> first | rfl | skip
  cases e <;> first | rfl | simp only [okInt_int, okR_lift, rngI_eq]
@[simp] theorem wI_enum {e : E} {Q : List D → S → Prop} : okR (evI Φ G (.enum e) s) Q = okR (evE Φ G e s) fun d s => okR (esc d s) fun d s => okL (itemsE d) fun xs => Q (numbered 0 xs) s := by
  simp only [evI, okR_bind, okR_lift, okL_map]
@[simp] theorem wI_zip {a b : E} {Q : List D → S → Prop} : okR (evI Φ G (.zip a b) s) Q = okR (evE Φ G a s) fun d s => okR (esc d s) fun d s => okR (evE Φ G b s) fun e s => okR (esc e s) fun e s => okL (zipD d e) fun xs => Q xs s := by
  simp only [evI, okR_bind, okR_lift]
/-! statements -/
@[simp] theorem wQ_nil {Q : Fl → S → Prop} : okR (evQ Φ G .nil s) Q = Q .nx s := rfl
@[simp] theorem wQ_cons {a : Cm} {r : Sq} {Q : Fl → S → Prop} : okR (evQ Φ G (.cons a r) s) Q = okR (evS Φ G a s) fun fl s => match fl with
    | .nx => okR (evQ Φ G r s) Q
    | .br => Q .br s
    | .ct => Q .ct s
    | .ret x => Q (.ret x) s := by
  simp only [evQ, okR_bind]
  congr; funext fl s
  cases fl <;> rfl
@[simp] theorem wS_expr {e : E} {Q : Fl → S → Prop} : okR (evS Φ G (.expr e) s) Q = okR (evE Φ G e s) fun _ s => Q .nx s := by simp only [evS, okR_bind, okR_ok]
@[simp] theorem wS_set {tg : Tg} {e : E} {Q : Fl → S → Prop} : okR (evS Φ G (.set tg e) s) Q = okR (evE Φ G e s) fun d s => okR (esc d s) fun d s => okL (asg tg d s.env) fun env => Q .nx ⟨env, s.st⟩ := by
  simp only [evS, okR_bind, okR_lift, okR_ok]
@[simp] theorem wS_par {is : List Nat} {es : Es} {Q : Fl → S → Prop} : okR (evS Φ G (.par is es) s) Q = okR (evX Φ G es s) fun ds s => okL (parS is ds s.env) fun env => Q .nx ⟨env, s.st⟩ := by
  simp only [evS, okR_bind, okR_lift, okR_ok]
/-- an object goes into a slot -/
def okOwn (env : List Slot) (i : Nat) (o : Ob) (Q : List Slot → Prop) : Prop := match env[i]? with
  | some (.bor _) => False
  | some _ => Q (env.set i (.own o))
  | none => False
@[simp] theorem wS_own {i : Nat} {f : F} {Q : Fl → S → Prop} : okR (evS Φ G (.own i f) s) Q = okR (evF Φ G f s) fun o s => okOwn s.env i o fun env => Q .nx ⟨env, s.st⟩ := by
  simp only [evS, okR_bind]
  congr; funext o s
  unfold okOwn
  cases s.env[i]? with
  | none => rfl
  | some x => cases x <;> rfl
@[simp] theorem wS_parF {is : List Nat} {es : Es} {j : Nat} {f : F} {Q : Fl → S → Prop} : okR (evS Φ G (.parF is es j f) s) Q = okR (evX Φ G es s) fun ds s => okR (evF Φ G f s) fun o s => okL (parS is ds s.env) fun env => okOwn env j o fun env => Q .nx ⟨env, s.st⟩ := by
  simp only [evS, okR_bind, okR_lift]
  congr; funext ds s; congr; funext o s; congr; funext env
  unfold okOwn
  cases env[j]? with
  | none => rfl
  | some x => cases x <;> rfl
@[simp] theorem wS_new {i : Nat} {f : F} {Q : Fl → S → Prop} : okR (evS Φ G (.new i f) s) Q = okR (evF Φ G f s) fun o s => okL (setN i (.ref s.st.length) s.env) fun env => Q .nx ⟨env, s.st ++ [o]⟩ := by
  simp only [evS, okR_bind, okR_lift, okR_ok]
@[simp] theorem wS_setIx {o i v : E} {Q : Fl → S → Prop} : okR (evS Φ G (.setIx o i v) s) Q = okR (evE Φ G v s) fun v s => okR (esc v s) fun v s => okR (evE Φ G o s) fun x s => okR (evE Φ G i s) fun y s => okR (esc y s) fun y s => okL (vw x s) fun d => okL (putIx d y v) fun ob => okL (put x ob s) fun s => Q .nx s := by
  simp only [evS, okR_bind]
  congr; funext v s; congr; funext v s; congr; funext x s; congr; funext y s; congr; funext y s
  cases vw x s with
  | none => rfl
  | some d =>
    simp only [Option.bind_some, okL_some]
    cases putIx d y v with
    | none => rfl
    | some ob => simp only [okL_some, okR_bind, okR_lift, okR_ok]
@[simp] theorem wS_ret {e : E} {Q : Fl → S → Prop} : okR (evS Φ G (.ret e) s) Q = okR (evE Φ G e s) fun d s => okR (retR d s) Q := by simp only [evS, okR_bind]
@[simp] theorem wS_retF {f : F} {Q : Fl → S → Prop} : okR (evS Φ G (.retF f) s) Q = okR (evF Φ G f s) fun o s => Q (.ret (.obj o)) s := by simp only [evS, okR_bind, okR_ok]
@[simp] theorem wS_retN {Q : Fl → S → Prop} : okR (evS Φ G .retN s) Q = Q (.ret (.val .non)) s := rfl
@[simp] theorem wS_ite {c : Tst} {a b : Sq} {Q : Fl → S → Prop} : okR (evS Φ G (.ite c a b) s) Q = okR (evT Φ G c s) fun t s => if t then okR (evQ Φ G a s) Q else okR (evQ Φ G b s) Q := by
  simp only [evS, okR_bind]
  congr; funext t s
  cases t <;> rfl
@[simp] theorem wS_for {tg : Tg} {it : It} {body : Sq} {kill : List Nat} {Q : Fl → S → Prop} : okR (evS Φ G (.for_ tg it body kill) s) Q = okR (evI Φ G it s) fun xs s => okR (forLoop (evQ Φ G body) tg kill xs s) Q := by simp only [evS, okR_bind]
@[simp] theorem wS_while {c : Tst} {body : Sq} {kill : List Nat} {Q : Fl → S → Prop} : okR (evS Φ G (.while_ c body kill) s) Q = okR (whileLoop (evT Φ G c) (evQ Φ G body) kill whileFuel s) Q := rfl
@[simp] theorem wS_brk {Q : Fl → S → Prop} : okR (evS Φ G .brk s) Q = Q .br s := rfl
@[simp] theorem wS_cnt {Q : Fl → S → Prop} : okR (evS Φ G .cnt s) Q = Q .ct s := rfl
@[simp] theorem wS_pass {Q : Fl → S → Prop} : okR (evS Φ G .pass s) Q = Q .nx s := rfl
end
end RS

/-! RsWv: values, operators, slots as simp rules. -/
namespace RS
section
variable {s : S} {env : List Slot} {st : List Ob}
@[simp] theorem vw_non : vw .non s = some .non := rfl
@[simp] theorem vw_bl {b : Bool} : vw (.bl b) s = some (.bl b) := rfl
@[simp] theorem vw_int {i : Int} : vw (.int i) s = some (.int i) := rfl
@[simp] theorem vw_str {x : Txt} : vw (.str x) s = some (.str x) := rfl
@[simp] theorem vw_tup {x : List D} : vw (.tup x) s = some (.tup x) := rfl
@[simp] theorem vw_lst {x : List D} : vw (.lst x) s = some (.lst x) := rfl
@[simp] theorem vw_kl {x : List D} : vw (.kl x) s = some (.kl x) := rfl
@[simp] theorem vw_dct {t : Bool} {k v : List D} : vw (.dct t k v) s = some (.dct t k v) := rfl
def vwSlot (x : Option Slot) : Option D := match x with
  | some (.own o) => o.frz
  | some (.bor o) => o.frz
  | some (.val d) => some d
  | _ => none
@[simp] theorem vw_loc {i : Nat} : vw (.loc i) s = vwSlot s.env[i]? := by
  simp only [vw, vwSlot] <;> rfl
@[simp] theorem vwSlot_own {o : Ob} : vwSlot (some (.own o)) = o.frz := rfl
@[simp] theorem vwSlot_bor {o : Ob} : vwSlot (some (.bor o)) = o.frz := rfl
@[simp] theorem vwSlot_val {o : D} : vwSlot (some (.val o)) = some o := rfl
@[simp] theorem frz_lst {x : List D} : (Ob.lst x).frz = some (.lst x) := rfl
@[simp] theorem frz_dct {t : Bool} {k v : List D} : (Ob.dct t k v).frz = some (.dct t k v) := rfl
@[simp] theorem afrz_val {d : D} : (Arg.val d).frz = some d := rfl
@[simp] theorem afrz_obj {o : Ob} : (Arg.obj o).frz = o.frz := rfl
@[simp] theorem aob_obj {o : Ob} : (Arg.obj o).ob = some o := rfl
def vwOb (x : Option Ob) (n : Nat) : Option D := match x with
  | some (.ins _ _) => some (.ref n)
  | some o => o.frz
  | none => none
@[simp] theorem vw_ref {n : Nat} : vw (.ref n) s = vwOb s.st[n]? n := by
  simp only [vw, vwOb] <;> rfl
@[simp] theorem vwOb_lst {n : Nat} {x : List D} : vwOb (some (.lst x)) n = some (.lst x) := rfl
@[simp] theorem vwOb_dct {n : Nat} {t : Bool} {k v : List D} : vwOb (some (.dct t k v)) n = some (.dct t k v) := rfl
@[simp] theorem vws_nil : vws [] s = some [] := rfl
@[simp] theorem vws_cons {d : D} {ds : List D} : vws (d :: ds) s = (vw d s).bind fun x => (vws ds s).map (x :: ·) := rfl
section
variable {Q : D → S → Prop}
@[simp] theorem esc_non : okR (esc .non s) Q = Q .non s := rfl
@[simp] theorem esc_bl {b : Bool} : okR (esc (.bl b) s) Q = Q (.bl b) s := rfl
@[simp] theorem esc_int {i : Int} : okR (esc (.int i) s) Q = Q (.int i) s := rfl
@[simp] theorem esc_str {x : Txt} : okR (esc (.str x) s) Q = Q (.str x) s := rfl
@[simp] theorem esc_tup {x : List D} : okR (esc (.tup x) s) Q = Q (.tup x) s := rfl
@[simp] theorem esc_lst {x : List D} : okR (esc (.lst x) s) Q = Q (.lst x) s := rfl
@[simp] theorem esc_kl {x : List D} : okR (esc (.kl x) s) Q = Q (.kl x) s := rfl
@[simp] theorem esc_dct {t : Bool} {k v : List D} : okR (esc (.dct t k v) s) Q = Q (.dct t k v) s := rfl
@[simp] theorem esc_ref {n : Nat} : okR (esc (.ref n) s) Q = Q (.ref n) s := rfl
def escSlot (x : Option Slot) (s : S) (i : Nat) (Q : D → S → Prop) : Prop := match x with
  | some (.own o) => okL o.frz fun d => Q d ⟨s.env.set i (.val d), s.st⟩
  | some (.val d) => Q d s
  | _ => False
@[simp] theorem esc_loc {i : Nat} : okR (esc (.loc i) s) Q = escSlot s.env[i]? s i Q := by
  simp only [esc, escSlot]
  cases s.env[i]? with
  | none => rfl
  | some x =>
    cases x with
    | own o =>
      show okR (match o.frz with
        | some d => .ok d _
        | none => .stuck) Q = okL o.frz _
      cases o.frz <;> rfl
    | _ => rfl
@[simp] theorem escSlot_own {o : Ob} {i : Nat} : escSlot (some (.own o)) s i Q = okL o.frz fun d => Q d ⟨s.env.set i (.val d), s.st⟩ := rfl
@[simp] theorem escSlot_val {d : D} {i : Nat} : escSlot (some (.val d)) s i Q = Q d s := rfl
/-- a plain value stays -/
def D.still : D → Bool
  | .loc _ => false
  | _ => true
theorem esc_still {d : D} (h : d.still = true) : okR (esc d s) Q = Q d s := by cases d <;> first | rfl | cases h
theorem vw_still {d : D} (h : d.still = true) (h2 : ∀ n, d ≠ .ref n) : vw d s = some d := by cases d <;> first | rfl | (cases h; done) | exact (h2 _ rfl).elim
end
section
variable {Q : Fl → S → Prop}
@[simp] theorem ret_non : okR (retR .non s) Q = Q (.ret (.val .non)) s := rfl
@[simp] theorem ret_bl {b : Bool} : okR (retR (.bl b) s) Q = Q (.ret (.val (.bl b))) s := rfl
@[simp] theorem ret_int {i : Int} : okR (retR (.int i) s) Q = Q (.ret (.val (.int i))) s := rfl
@[simp] theorem ret_str {x : Txt} : okR (retR (.str x) s) Q = Q (.ret (.val (.str x))) s := rfl
@[simp] theorem ret_tup {x : List D} : okR (retR (.tup x) s) Q = Q (.ret (.val (.tup x))) s := rfl
@[simp] theorem ret_lst {x : List D} : okR (retR (.lst x) s) Q = Q (.ret (.val (.lst x))) s := rfl
@[simp] theorem ret_dct {t : Bool} {k v : List D} : okR (retR (.dct t k v) s) Q = Q (.ret (.val (.dct t k v))) s := rfl
theorem ret_still {d : D} (h : d.still = true) : okR (retR d s) Q = Q (.ret (.val d)) s := by cases d <;> first | rfl | cases h
def retSlot (x : Option Slot) (s : S) (i : Nat) (Q : Fl → S → Prop) : Prop := match x with
  | some (.own o) => Q (.ret (.obj o)) ⟨s.env.set i .un, s.st⟩
  | some (.val d) => Q (.ret (.val d)) s
  | _ => False
@[simp] theorem ret_loc {i : Nat} : okR (retR (.loc i) s) Q = retSlot s.env[i]? s i Q := by
  simp only [retR, retSlot]
  cases s.env[i]? with
  | none => rfl
  | some x => cases x <;> rfl
@[simp] theorem retSlot_own {o : Ob} {i : Nat} : retSlot (some (.own o)) s i Q = Q (.ret (.obj o)) ⟨s.env.set i .un, s.st⟩ := rfl
@[simp] theorem retSlot_val {d : D} {i : Nat} : retSlot (some (.val d)) s i Q = Q (.ret (.val d)) s := rfl
end
/-! slots -/
def setSlot (x : Option Slot) (i : Nat) (d : D) (env : List Slot) : Option (List Slot) := match x with
  | none => none
  | some (.bor _) => none
  | some _ => some (env.set i (.val d))
@[simp] theorem setN_eq {i : Nat} {d : D} : setN i d env = setSlot env[i]? i d env := by
  simp only [setN, setSlot] <;> rfl
@[simp] theorem setSlot_un {i : Nat} {d : D} : setSlot (some .un) i d env = some (env.set i (.val d)) := rfl
@[simp] theorem setSlot_val {i : Nat} {d e : D} : setSlot (some (.val e)) i d env = some (env.set i (.val d)) := rfl
@[simp] theorem setSlot_own {i : Nat} {d : D} {o : Ob} : setSlot (some (.own o)) i d env = some (env.set i (.val d)) := rfl
@[simp] theorem asg_nm {i : Nat} {d : D} : asg (.nm i) d env = setN i d env := by simp only [asg]
@[simp] theorem asg_t2 {a b : Tg} {x y : D} : asg (.t2 a b) (.tup [x, y]) env = (asg a x env).bind fun env => asg b y env := rfl
@[simp] theorem asg_t3 {a b c : Tg} {x y z : D} : asg (.t3 a b c) (.tup [x, y, z]) env = (asg a x env).bind fun env => (asg b y env).bind fun env => asg c z env := rfl
@[simp] theorem parS_nil : parS [] [] env = some env := rfl
@[simp] theorem parS_cons' {i : Nat} {is : List Nat} {d : D} {ds : List D} : parS (i :: is) (d :: ds) env = (setN i d env).bind fun env => parS is ds env := rfl
@[simp] theorem kil_nil : kil [] env = env := rfl
def kilSlot (x : Option Slot) (i : Nat) (env : List Slot) : List Slot := match x with
  | some (.bor _) => env
  | _ => env.set i .un
@[simp] theorem kil_cons {i : Nat} {r : List Nat} : kil (i :: r) env = kil r (kilSlot env[i]? i env) := by
  simp only [kil, kilSlot] <;> rfl
@[simp] theorem kilSlot_un {i : Nat} : kilSlot (some .un) i env = env.set i .un := rfl
@[simp] theorem kilSlot_val {i : Nat} {d : D} : kilSlot (some (.val d)) i env = env.set i .un := rfl
@[simp] theorem kilSlot_own {i : Nat} {d : Ob} : kilSlot (some (.own d)) i env = env.set i .un := rfl
@[simp] theorem okOwn_un {i : Nat} {o : Ob} {Q : List Slot → Prop} (h : env[i]? = some .un) : okOwn env i o Q = Q (env.set i (.own o)) := by simp [okOwn, h]
@[simp] theorem okOwn_val {i : Nat} {o : Ob} {d : D} {Q : List Slot → Prop} (h : env[i]? = some (.val d)) : okOwn env i o Q = Q (env.set i (.own o)) := by simp [okOwn, h]
@[simp] theorem okOwn_own {i : Nat} {o o' : Ob} {Q : List Slot → Prop} (h : env[i]? = some (.own o')) : okOwn env i o Q = Q (env.set i (.own o)) := by simp [okOwn, h]
@[simp] theorem put_ref {n : Nat} {o : Ob} (h : n < s.st.length) : put (.ref n) o s = some ⟨s.env, s.st.set n o⟩ := by simp [put, h]
def putSlot (x : Option Slot) (i : Nat) (o : Ob) (s : S) : Option S := match x with
  | some (.own _) => some ⟨s.env.set i (.own o), s.st⟩
  | some (.bor _) => some ⟨s.env.set i (.bor o), s.st⟩
  | _ => none
@[simp] theorem put_loc {i : Nat} {o : Ob} : put (.loc i) o s = putSlot s.env[i]? i o s := by
  simp only [put, putSlot] <;> rfl
@[simp] theorem putSlot_own {i : Nat} {o o' : Ob} : putSlot (some (.own o')) i o s = some ⟨s.env.set i (.own o), s.st⟩ := rfl
@[simp] theorem putSlot_bor {i : Nat} {o o' : Ob} : putSlot (some (.bor o')) i o s = some ⟨s.env.set i (.bor o), s.st⟩ := rfl
@[simp] theorem wip_nil : wip [] env = env := rfl
@[simp] theorem wip_cons {i : Nat} {r : List Nat} : wip (i :: r) env = (wip r env).set i .un := rfl
@[simp] theorem noOwn_nil : noOwn [] env = true := rfl
def noOb : Option Slot → Bool
  | some (.own _) => false
  | some (.bor _) => false
  | _ => true
@[simp] theorem noOwn_cons {i : Nat} {r : List Nat} : noOwn (i :: r) env = (noOb env[i]? && noOwn r env) := by
  simp only [noOwn, noOb] <;> rfl
@[simp] theorem noOb_un : noOb (some .un) = true := rfl
@[simp] theorem noOb_val {d : D} : noOb (some (.val d)) = true := rfl
@[simp] theorem back_nil {old : List Slot} : back [] old env = env := rfl
def backSlot (x : Option Slot) (i : Nat) (env : List Slot) : List Slot := match x with
  | some x => env.set i x
  | none => env
@[simp] theorem back_cons {i : Nat} {r : List Nat} {old : List Slot} : back (i :: r) old env = backSlot old[i]? i (back r old env) := by
  simp only [back, backSlot] <;> rfl
@[simp] theorem backSlot_some {i : Nat} {x : Slot} : backSlot (some x) i env = env.set i x := rfl
@[simp] theorem mkEnv_nil {n : Nat} : mkEnv n [] = List.replicate n .un := rfl
@[simp] theorem mkEnv_val {n : Nat} {d : D} {r : List Arg} : mkEnv n (.val d :: r) = .val d :: mkEnv (n - 1) r := rfl
@[simp] theorem outs_nil : outsOf [] = [] := rfl
@[simp] theorem vals_nil : vals [] = some [] := rfl
@[simp] theorem vals_cons {d : D} {r : List AV} : vals (.val d :: r) = (vals r).map (.val d :: ·) := rfl
end
/-! operators -/
@[simp] theorem op_add_int {i j : Int} : op2 .add (.int i) (.int j) = some (.int (i + j)) := rfl
@[simp] theorem op_sub_int {i j : Int} : op2 .sub (.int i) (.int j) = some (.int (i - j)) := rfl
theorem op_mul_int {i j : Int} (h : (small i || small j) = true) : op2 .mul (.int i) (.int j) = some (.int (i * j)) := by simp only [op2, h, if_true]
theorem op_fdiv_int {i j : Int} (h : 0 < j) (h2 : j < 1073741824) : op2 .fdiv (.int i) (.int j) = some (.int (i / j)) := by simp [op2, h, h2]
theorem op_mod_int {i j : Int} (h : 0 < j) : op2 .mod (.int i) (.int j) = some (.int (i % j)) := by simp [op2, h]
@[simp] theorem op_lt_int {i j : Int} : op2 .lt (.int i) (.int j) = some (.bl (decide (i < j))) := rfl
@[simp] theorem op_le_int {i j : Int} : op2 .le (.int i) (.int j) = some (.bl (decide (i ≤ j))) := rfl
@[simp] theorem op_gt_int {i j : Int} : op2 .gt (.int i) (.int j) = some (.bl (decide (j < i))) := rfl
@[simp] theorem op_ge_int {i j : Int} : op2 .ge (.int i) (.int j) = some (.bl (decide (j ≤ i))) := rfl
@[simp] theorem op_eq_int {i j : Int} : op2 .eq (.int i) (.int j) = some (.bl (i == j)) := by simp [op2, opEq, D.plain, D.dep, D.eqv]
@[simp] theorem op_ne_int {i j : Int} : op2 .ne (.int i) (.int j) = some (.bl (!(i == j))) := by simp [op2, opEq, D.plain, D.dep, D.eqv]
@[simp] theorem op_eq_str {i j : Txt} : op2 .eq (.str i) (.str j) = some (.bl (i == j)) := by simp [op2, opEq, D.plain, D.dep, D.eqv]
@[simp] theorem op_ne_str {i j : Txt} : op2 .ne (.str i) (.str j) = some (.bl (!(i == j))) := by simp [op2, opEq, D.plain, D.dep, D.eqv]
@[simp] theorem op_lt_str {i j : Txt} : op2 .lt (.str i) (.str j) = some (.bl (decide (i < j))) := rfl
@[simp] theorem op_is_non : op2 .isN .non .non = some (.bl true) := rfl
@[simp] theorem op_not_non : op2 .notN .non .non = some (.bl false) := rfl
@[simp] theorem op_is_int {i : Int} : op2 .isN (.int i) .non = some (.bl false) := rfl
@[simp] theorem op_not_int {i : Int} : op2 .notN (.int i) .non = some (.bl true) := rfl
@[simp] theorem op_is_str {i : Txt} : op2 .isN (.str i) .non = some (.bl false) := rfl
@[simp] theorem op_not_str {i : Txt} : op2 .notN (.str i) .non = some (.bl true) := rfl
@[simp] theorem op_is_tup {i : List D} : op2 .isN (.tup i) .non = some (.bl false) := rfl
@[simp] theorem op_not_tup {i : List D} : op2 .notN (.tup i) .non = some (.bl true) := rfl
@[simp] theorem op_in_sign {c : Nat} {cs : Txt} : op2 .mem (.str [c]) (.str cs) = some (.bl (cs.contains c)) := rfl
@[simp] theorem op_nin_sign {c : Nat} {cs : Txt} : op2 .nmem (.str [c]) (.str cs) = some (.bl (!cs.contains c)) := rfl
theorem op_add_tup {i j : List D} (h : i.length + j.length ≤ szL) : op2 .add (.tup i) (.tup j) = some (.tup (i ++ j)) := by simp [op2, D.fit, h]
theorem op_add_lst {i j : List D} (h : i.length + j.length ≤ szL) : op2 .add (.lst i) (.lst j) = some (.lst (i ++ j)) := by simp [op2, D.fit, h]
theorem op_add_str {i j : Txt} (h : i.length + j.length ≤ szL) : op2 .add (.str i) (.str j) = some (.str (i ++ j)) := by simp [op2, D.fit, h]
@[simp] theorem op_neg_int {i : Int} : op1 .neg (.int i) = some (.int (-i)) := rfl
@[simp] theorem bi_len_str {x : Txt} : bi .len [.str x] = some (.int x.length) := rfl
@[simp] theorem bi_len_tup {x : List D} : bi .len [.tup x] = some (.int x.length) := rfl
@[simp] theorem bi_len_lst {x : List D} : bi .len [.lst x] = some (.int x.length) := rfl
@[simp] theorem bi_len_dct {t : Bool} {k v : List D} : bi .len [.dct t k v] = some (.int k.length) := rfl
@[simp] theorem bi_abs_int {i : Int} : bi .abs [.int i] = some (.int (if i < 0 then -i else i)) := rfl
@[simp] theorem bi_int_int {i : Int} : bi .int [.int i] = some (.int i) := rfl
@[simp] theorem bi_tuple_lst {x : List D} : bi .tuple [.lst x] = some (.tup x) := rfl
@[simp] theorem bi_tuple_tup {x : List D} : bi .tuple [.tup x] = some (.tup x) := rfl
@[simp] theorem bi_all {x : List D} : bi .all [.lst x] = (D.bls x).map fun bs => .bl (bs.all id) := rfl
@[simp] theorem bi_max {x : List D} {i : Int} {r : List Int} (h : D.ints x = some (i :: r)) : bi .max [.lst x] = some (.int (maxI i r)) := by simp [bi, h]
@[simp] theorem truth_bl {b : Bool} : D.truth (.bl b) = some b := rfl
@[simp] theorem truth_int {i : Int} : D.truth (.int i) = some (i != 0) := rfl
@[simp] theorem truth_str {x : Txt} : D.truth (.str x) = some (!x.isEmpty) := rfl
@[simp] theorem truth_lst {x : List D} : D.truth (.lst x) = some (!x.isEmpty) := rfl
@[simp] theorem truth_tup {x : List D} : D.truth (.tup x) = some (!x.isEmpty) := rfl
@[simp] theorem items_lst {x : List D} : itemsOf (.lst x) = some x := rfl
@[simp] theorem items_tup {x : List D} : itemsOf (.tup x) = some x := rfl
@[simp] theorem items_str {x : Txt} : itemsOf (.str x) = some (strItems x) := rfl
@[simp] theorem items_dct {t : Bool} {k v : List D} : itemsOf (.dct t k v) = some k := rfl
@[simp] theorem itemsE_lst {x : List D} : itemsE (.lst x) = some x := rfl
@[simp] theorem itemsE_str {x : Txt} : itemsE (.str x) = some (strItems x) := rfl
@[simp] theorem slc_kl {x : List D} {l h : Option Int} : slc (.kl x) l h = some (.lst (cut x l h)) := rfl
@[simp] theorem slc_lst {x : List D} {l h : Option Int} : slc (.lst x) l h = some (.lst (cut x l h)) := rfl
@[simp] theorem slc_tup {x : List D} {l h : Option Int} : slc (.tup x) l h = some (.tup (cut x l h)) := rfl
@[simp] theorem slc_str {x : Txt} {l h : Option Int} : slc (.str x) l h = some (.str (cut x l h)) := rfl
theorem idx_lst {x : List D} {i : Int} {j : Nat} {d : D} (h : ixN x.length i = some j) (h2 : x[j]? = some d) : idx (.lst x) (.int i) = some d := by simp [idx, h, h2]
theorem idx_tup {x : List D} {i : Int} {j : Nat} {d : D} (h : ixN x.length i = some j) (h2 : x[j]? = some d) : idx (.tup x) (.int i) = some d := by simp [idx, h, h2]
theorem ixN_nat {n : Nat} {i : Int} (h : 0 ≤ i) (h2 : i < n) : ixN n i = some i.toNat := by simp [ixN, h, h2]
theorem rng_lit {i : Int} (h : -(2 ^ 62) ≤ i) (h2 : i < 2 ^ 62) : rngI 0 i = some (ups 0 i.toNat) := by
  rw [← rngI_eq]
  unfold rngItems
  rw [if_pos]
  · simp
  · simp only [Bool.and_eq_true, decide_eq_true_eq]
    exact ⟨⟨⟨by decide, by decide⟩, h⟩, h2⟩
theorem fit_of {n : Nat} (h : n ≤ szL) : D.fit n = true := decide_eq_true h
@[simp] theorem idx_lst' {xs : List D} {i : Int} : idx (.lst xs) (.int i) = (ixN xs.length i).bind fun j => xs[j]? := rfl
@[simp] theorem idx_tup' {xs : List D} {i : Int} : idx (.tup xs) (.int i) = (ixN xs.length i).bind fun j => xs[j]? := rfl
@[simp] theorem idx_str' {cs : Txt} {i : Int} : idx (.str cs) (.int i) = ((ixN cs.length i).bind fun j => cs[j]?).map fun c => .str [c] := rfl
@[simp] theorem putIx_lst {xs : List D} {i : Int} {v : D} : putIx (.lst xs) (.int i) v = (ixN xs.length i).map fun j => .lst (xs.set j v) := rfl
theorem op_ne_lnil {xs : List D} (h : D.plains xs = true) : op2 .ne (.lst xs) (.lst []) = some (.bl (!xs.isEmpty)) := by
  cases xs <;> simp_all [op2, opEq, D.plain, D.plains, D.dep, D.deps, D.eqv, D.eqvs]
theorem op_eq_lnil {xs : List D} (h : D.plains xs = true) : op2 .eq (.lst xs) (.lst []) = some (.bl xs.isEmpty) := by
  cases xs <;> simp_all [op2, opEq, D.plain, D.plains, D.dep, D.deps, D.eqv, D.eqvs]
@[simp] theorem op_pow_lit {i j : Int} (h : (decide (0 ≤ j) && decide (j ≤ 1000) && small i) = true) : op2 .pow (.int i) (.int j) = some (.int (i ^ j.toNat)) := by simp only [op2, h, if_true]
end RS

/-! Hl: the laws' own helpers, by the evaluator. -/
namespace HL
open RS
def fd__law_kneaded : Fd := ⟨2, ["seed", "lap", "prime", "amount", "again"],
  (.cons (.set (.nm 2) (.lit (.int 2305843009213693907)))
  (.cons (.set (.nm 3) (.op2 .mod (.bi .int (.cons (.op2 .add (.op2 .add (.op2 .mul (.var 0) (.lit (.int 2862933555777941757))) (.op2 .mul (.var 1) (.lit (.int 3037000493)))) (.lit (.int 29))) .nil)) (.var 2)))
  (.cons (.for_ (.nm 4) (.rng1 (.lit (.int 4)))
  (.cons (.set (.nm 3) (.op2 .mod (.bi .int (.cons (.op2 .add (.op2 .add (.op2 .add (.op2 .mul (.var 3) (.var 3)) (.op2 .mul (.lit (.int 11)) (.var 3))) (.op2 .mul (.lit (.int 4099)) (.var 4))) (.var 1)) .nil)) (.var 2)))
  .nil) [4])
  (.cons (.ret (.op2 .add (.op2 .mul (.var 3) (.var 2)) (.op2 .mod (.bi .int (.cons (.op2 .add (.op2 .mul (.var 3) (.lit (.int 69621))) (.var 1)) .nil)) (.var 2))))
  .nil))))⟩
def fd__law_pot_of : Fd := ⟨1, ["script", "cells", "place", "cell"],
  (.cons (.own 1 (.lc [3] (.nm 3) (.of (.slc (.var 0) .nil (.cons (.lit (.int 17)) .nil))) .nil (.bi .abs (.cons (.var 3) .nil))))
  (.cons (.for_ (.t2 (.nm 2) (.nm 3)) (.enum (.slc (.var 0) (.cons (.lit (.int 17)) .nil) (.cons (.lit (.int 60)) .nil)))
  (.cons (.setIx (.var 1) (.op2 .mod (.var 2) (.lit (.int 17))) (.op2 .add (.idx (.var 1) (.op2 .mod (.var 2) (.lit (.int 17)))) (.bi .abs (.cons (.var 3) .nil))))
  .nil) [2, 3])
  (.cons (.retF (.lst (.cons (.var 1) (.cons (.lit (.int 0)) (.cons (.lit (.int 0)) (.cons (.lit (.int 0)) .nil))))))
  .nil)))⟩
def fd__law_below : Fd := ⟨2, ["pot", "bound", "found", "amount", "cells", "place"],
  (.cons (.ite (.of (.op2 .lt (.idx (.var 0) (.lit (.int 3))) (.var 1)))
  (.cons (.par [4, 5] (.cons (.idx (.var 0) (.lit (.int 0))) (.cons (.idx (.var 0) (.lit (.int 1))) .nil)))
  (.cons (.set (.nm 3) (.ite (.of (.op2 .ne (.var 4) (.fr (.lst .nil)))) (.idx (.var 4) (.op2 .mod (.var 5) (.bi .len (.cons (.var 4) .nil)))) (.lit (.int 0))))
  (.cons (.ite (.or (.of (.op2 .ge (.var 5) (.bi .len (.cons (.var 4) .nil)))) (.of (.op2 .lt (.var 3) (.op2 .pow (.lit (.int 10)) (.lit (.int 16))))))
  (.cons (.set (.nm 3) (.call "_law_kneaded" (.val (.op2 .mod (.bi .int (.cons (.var 3) .nil)) (.lit (.int 982451629))) (.val (.var 5) .nil))))
  .nil)
  .nil)
  (.cons (.setIx (.var 0) (.lit (.int 1)) (.op2 .add (.var 5) (.lit (.int 1))))
  (.cons (.setIx (.var 0) (.lit (.int 2)) (.var 3))
  (.cons (.setIx (.var 0) (.lit (.int 3)) (.var 3))
  .nil))))))
  .nil)
  (.cons (.set (.nm 2) (.op2 .mod (.bi .int (.cons (.idx (.var 0) (.lit (.int 2))) .nil)) (.var 1)))
  (.cons (.setIx (.var 0) (.lit (.int 2)) (.op2 .fdiv (.idx (.var 0) (.lit (.int 2))) (.var 1)))
  (.cons (.setIx (.var 0) (.lit (.int 3)) (.op2 .fdiv (.idx (.var 0) (.lit (.int 3))) (.var 1)))
  (.cons (.ret (.var 2))
  .nil)))))⟩
def fd__law_pick : Fd := ⟨2, ["pot", "items"],
  (.cons (.ret (.idx (.var 1) (.call "_law_below" (.val (.var 0) (.val (.bi .len (.cons (.var 1) .nil)) .nil)))))
  .nil)⟩
def fd__law_some_word : Fd := ⟨3, ["pot", "signs", "limit", "lap"],
  (.cons (.ret (.mt .join (.lit (.str [])) (.cons (.fr (.lc [3] (.nm 3) (.rng1 (.call "_law_below" (.val (.var 0) (.val (.op2 .add (.var 2) (.lit (.int 1))) .nil)))) .nil (.call "_law_pick" (.val (.var 0) (.val (.var 1) .nil))))) .nil)))
  .nil)⟩
def fd__law_some_expander : Fd := ⟨2, ["pot", "many", "signs", "state", "found", "spans", "count", "kind", "states", "moves", "sign", "last", "back", "done", "move", "call"],
  (.cons (.set (.nm 2) (.call "_law_pick" (.val (.var 0) (.val (.fr (.lst (.cons (.lit (.str [97])) (.cons (.lit (.str [97, 98])) (.cons (.lit (.str [97, 98])) (.cons (.lit (.str [98, 122])) (.cons (.lit (.str [97, 98, 99])) (.cons (.lit (.str [97, 98])) (.cons (.lit (.str [97, 98, 99, 122])) .nil))))))))) .nil))))
  (.cons (.parF [6, 7] (.cons (.op2 .add (.lit (.int 1)) (.call "_law_below" (.val (.var 0) (.val (.var 1) .nil)))) (.cons (.call "_law_below" (.val (.var 0) (.val (.lit (.int 4)) .nil))) .nil)) 8 (.lst .nil))
  (.cons (.for_ (.nm 3) (.rng1 (.var 6))
  (.cons (.own 9 (.lst .nil))
  (.cons (.for_ (.nm 10) (.of (.var 2))
  (.cons (.set (.nm 12) (.ite (.and (.of (.op2 .gt (.var 7) (.lit (.int 0)))) (.of (.op2 .eq (.call "_law_below" (.val (.var 0) (.val (.lit (.int 2)) .nil))) (.lit (.int 0))))) (.call "_law_some_word" (.val (.var 0) (.val (.var 2) (.val (.lit (.int 3)) .nil)))) (.lit (.str []))))
  (.cons (.set (.nm 13) (.call "_law_pick" (.val (.var 0) (.val (.fr (.lst (.cons (.lit (.str [])) (.cons (.var 10) (.cons (.call "_law_some_word" (.val (.var 0) (.val (.var 2) (.val (.lit (.int 2)) .nil)))) (.cons (.call "_law_some_word" (.val (.var 0) (.val (.var 2) (.val (.lit (.int 2)) .nil)))) .nil)))))) .nil))))
  (.cons (.set (.nm 14) (.tup (.cons (.var 13) (.cons (.var 12) (.cons (.call "_law_below" (.val (.var 0) (.val (.var 6) .nil))) .nil)))))
  (.cons (.expr (.mw .append (.var 9) (.cons (.ite (.of (.op2 .eq (.call "_law_below" (.val (.var 0) (.val (.lit (.int 8)) .nil))) (.lit (.int 0)))) (.lit .non) (.var 14)) .nil)))
  .nil)))) [10, 12, 13, 14])
  (.cons (.set (.nm 11) (.ite (.of (.op2 .eq (.call "_law_below" (.val (.var 0) (.val (.lit (.int 5)) .nil))) (.lit (.int 0)))) (.lit .non) (.call "_law_some_word" (.val (.var 0) (.val (.var 2) (.val (.lit (.int 2)) .nil))))))
  (.cons (.expr (.mw .append (.var 8) (.cons (.tup (.cons (.bi .tuple (.cons (.var 9) .nil)) (.cons (.var 11) .nil))) .nil)))
  .nil)))) [3, 9, 10, 11, 12, 13, 14])
  (.cons (.set (.nm 4) (.tup (.cons (.var 2) (.cons (.call "_law_some_word" (.val (.var 0) (.val (.var 2) (.val (.lit (.int 2)) .nil)))) (.cons (.bi .tuple (.cons (.var 8) .nil)) .nil)))))
  (.cons (.set (.nm 5) (.call "_law_sizes" (.val (.var 4) .nil)))
  (.cons (.ite (.and (.of (.op2 .ne (.var 5) (.fr (.dct false)))) (.of (.op2 .gt (.bi .max (.cons (.fr (.lc [15] (.nm 15) (.of (.var 5)) .nil (.idx (.idx (.var 5) (.var 15)) (.lit (.int 0))))) .nil)) (.lit (.int 30)))))
  (.cons (.set (.nm 4) (.tup (.cons (.var 2) (.cons (.idx (.var 4) (.lit (.int 1))) (.cons (.bi .tuple (.cons (.fr (.lc [3] (.nm 3) (.of (.var 8)) .nil (.call "_law_plainer" (.val (.var 3) .nil)))) .nil)) .nil)))))
  .nil)
  .nil)
  (.cons (.ret (.var 4))
  .nil)))))))⟩
def fd__law_plainer : Fd := ⟨1, ["state", "move"],
  (.cons (.ret (.tup (.cons (.bi .tuple (.cons (.fr (.lc [1] (.nm 1) (.of (.idx (.var 0) (.lit (.int 0)))) .nil (.ite (.of (.op2 .isN (.var 1) (.lit .non))) (.lit .non) (.tup (.cons (.idx (.var 1) (.lit (.int 0))) (.cons (.lit (.str [])) (.cons (.idx (.var 1) (.lit (.int 2))) .nil))))))) .nil)) (.cons (.idx (.var 0) (.lit (.int 1))) .nil))))
  .nil)⟩
def fd__law_calls : Fd := ⟨1, ["expander", "found", "state", "sign"],
  (.cons (.set (.nm 1) (.fr (.lst .nil)))
  (.cons (.for_ (.nm 2) (.rng1 (.bi .len (.cons (.idx (.var 0) (.lit (.int 2))) .nil)))
  (.cons (.set (.nm 1) (.op2 .add (.var 1) (.fr (.lc [3] (.nm 3) (.of (.idx (.var 0) (.lit (.int 0)))) .nil (.tup (.cons (.var 2) (.cons (.var 3) .nil)))))))
  .nil) [2])
  (.cons (.ret (.var 1))
  .nil)))⟩
def fd__law_sizes : Fd := ⟨1, ["expander", "found", "lap", "state", "sign", "move", "one", "size", "here", "more"],
  (.cons (.own 1 (.dct true))
  (.cons (.for_ (.nm 2) (.rng1 (.op2 .mul (.bi .len (.cons (.idx (.var 0) (.lit (.int 2))) .nil)) (.bi .len (.cons (.idx (.var 0) (.lit (.int 0))) .nil))))
  (.cons (.for_ (.t2 (.nm 3) (.nm 4)) (.of (.call "_law_calls" (.val (.var 0) .nil)))
  (.cons (.set (.nm 5) (.idx (.idx (.idx (.idx (.var 0) (.lit (.int 2))) (.var 3)) (.lit (.int 0))) (.mt .index (.idx (.var 0) (.lit (.int 0))) (.cons (.var 4) .nil))))
  (.cons (.ite (.and (.of (.op2 .notN (.var 5) (.lit .non))) (.of (.op2 .nmem (.tup (.cons (.var 3) (.cons (.var 4) .nil))) (.var 1))))
  (.cons (.par [7, 8] (.cons (.bi .len (.cons (.idx (.var 5) (.lit (.int 0))) .nil)) (.cons (.idx (.var 5) (.lit (.int 2))) .nil)))
  (.cons (.for_ (.nm 6) (.of (.idx (.var 5) (.lit (.int 1))))
  (.cons (.set (.nm 9) (.ite (.of (.op2 .notN (.var 8) (.lit .non))) (.mx .get2 (.var 1) (.cons (.tup (.cons (.var 8) (.cons (.var 6) .nil))) (.cons (.tup (.cons (.lit (.int 0)) (.cons (.lit .non) .nil))) .nil))) (.tup (.cons (.lit (.int 0)) (.cons (.lit .non) .nil)))))
  (.cons (.par [7, 8] (.cons (.op2 .add (.var 7) (.idx (.var 9) (.lit (.int 0)))) (.cons (.idx (.var 9) (.lit (.int 1))) .nil)))
  .nil)) [6, 9])
  (.cons (.ite (.of (.op2 .notN (.var 8) (.lit .non)))
  (.cons (.setIx (.var 1) (.tup (.cons (.var 3) (.cons (.var 4) .nil))) (.tup (.cons (.var 7) (.cons (.var 8) .nil))))
  .nil)
  .nil)
  .nil)))
  .nil)
  .nil)) [3, 4, 5, 6, 7, 8, 9])
  .nil) [2, 3, 4, 5, 6, 7, 8, 9])
  (.cons (.ret (.var 1))
  .nil)))⟩
section
variable {P : Prog} {n : Nat} {st : List Ob}
theorem small_of {i : Int} (h0 : 0 ≤ i) (h1 : i < 2305843009213693907) : small i = true := by
  simp only [small, Bool.and_eq_true, decide_eq_true_eq]
  omega
theorem mul_lit {i j : Int} (h0 : 0 ≤ j) (h1 : j < 18446744073709551616) : op2 .mul (.int i) (.int j) = some (.int (i * j)) := op_mul_int (by
  rw [Bool.or_eq_true]
  refine .inr ?_
  simp only [small, Bool.and_eq_true, decide_eq_true_eq]
  omega)
theorem mul_lit' {i j : Int} (h0 : 0 ≤ i) (h1 : i < 18446744073709551616) : op2 .mul (.int i) (.int j) = some (.int (i * j)) := op_mul_int (by
  rw [Bool.or_eq_true]
  refine .inl ?_
  simp only [small, Bool.and_eq_true, decide_eq_true_eq]
  omega)
theorem ups_mem : ∀ {n : Nat} {lo : Int} {y : D}, y ∈ ups lo n → ∃ i : Int, y = .int i ∧ lo ≤ i ∧ i < lo + n
  | 0, _, _, h => by cases h
  | n + 1, lo, y, h => by
    rcases List.mem_cons.mp h with rfl | h
    · exact ⟨lo, rfl, Int.le_refl _, by omega⟩
    · obtain ⟨i, e, h1, h2⟩ := ups_mem h
      exact ⟨i, e, by omega, by omega⟩
theorem ups_len : ∀ {n : Nat} {lo : Int}, (ups lo n).length = n
  | 0, _ => rfl
  | n + 1, lo => by rw [ups, List.length_cons, ups_len]
def Ints (xs : List D) : Prop := ∀ y ∈ xs, ∃ i : Int, y = .int i
theorem Ints.ups {n : Nat} {lo : Int} : Ints (ups lo n) := fun y h => let ⟨i, e, _⟩ := ups_mem h; ⟨i, e⟩
theorem kneaded (hf : P.fns "_law_kneaded" = some fd__law_kneaded) (seed lap : Int) : okF (fnAt P (n + 1) "_law_kneaded" [.val (.int seed), .val (.int lap)] st) fun r _ st' => (∃ i, r = .val (.int i)) ∧ st' = st := by
  refine okF_fn hf rfl ?_
  simp [fd__law_kneaded, List.replicate, mul_lit, op_mod_int, rng_lit]
  refine okR_for (fun xs s => Ints xs ∧ ∃ a : Int, 0 ≤ a ∧ a < 2305843009213693907 ∧ s = ⟨[.val (.int seed), .val (.int lap), .val (.int 2305843009213693907), .val (.int a), .un], st⟩) ?_ ?_ _ _ ⟨.ups, _, Int.emod_nonneg _ (by decide), Int.emod_lt_of_pos _ (by decide), rfl⟩
  · rintro s ⟨_, a, h0, h1, rfl⟩
    simp [mul_lit, op_mod_int]
  · rintro x xs s ⟨hx, a, h0, h1, rfl⟩
    obtain ⟨k, rfl⟩ := hx x (List.mem_cons_self ..)
    refine ⟨_, rfl, ?_⟩
    simp [mul_lit', op_mul_int, small_of h0 h1, op_mod_int]
    exact ⟨fun y hy => hx y (List.mem_cons_of_mem _ hy), Int.emod_nonneg _ (by decide), Int.emod_lt_of_pos _ (by decide)⟩
theorem Ints.plains : ∀ {xs : List D}, Ints xs → D.plains xs = true
  | [], _ => rfl
  | x :: xs, h => by
    obtain ⟨i, rfl⟩ := h x (List.mem_cons_self ..)
    simp only [D.plains, D.plain, Bool.true_and]
    exact Ints.plains fun y hy => h y (List.mem_cons_of_mem _ hy)
/-- the pot: cells, the next place, what is left of the amount, its bound -/
def Pot (o : Ob) : Prop := ∃ (cells : List D) (a b c : Int), o = .lst [.lst cells, .int a, .int b, .int c] ∧ Ints cells ∧ 0 ≤ a
theorem call_kneaded (hf : P.fns "_law_kneaded" = some fd__law_kneaded) {a b : Int} {s : S} {Q : Arg → S → Prop} (k : ∀ i : Int, Q (.val (.int i)) s) : okR (callF (fnAt P (n + 1)) "_law_kneaded" [.val (.int a), .val (.int b)] s) Q :=
  okR_call rfl ((kneaded hf a b).mono fun r o st' h => by
    obtain ⟨⟨i, rfl⟩, rfl⟩ := h
    exact k i)
theorem pot_mk {cells : List D} {p q c : Int} (hc : Ints cells) (hp : 0 ≤ p) : Pot (.lst [.lst cells, .int p, .int q, .int c]) := ⟨cells, p, q, c, rfl, hc, hp⟩
theorem emods {q b : Int} (h0 : 0 < b) : 0 ≤ q % b ∧ q % b < b := ⟨Int.emod_nonneg _ (by omega), Int.emod_lt_of_pos _ h0⟩
theorem below (hf : P.fns "_law_kneaded" = some fd__law_kneaded) (hb : P.fns "_law_below" = some fd__law_below) {o : Ob} {r : List Ob} {b : Int} (ho : Pot o) (h0 : 0 < b) (h1 : b < 1073741824) :
    okF (fnAt P (n + 2) "_law_below" [.val (.ref 0), .val (.int b)] (o :: r)) fun x _ st' => (∃ i : Int, x = .val (.int i) ∧ 0 ≤ i ∧ i < b) ∧ ∃ o', Pot o' ∧ st' = o' :: r := by
  obtain ⟨cells, p, q, c, rfl, hc, hp⟩ := ho
  refine okF_fn hb rfl ?_
  by_cases hcb : c < b
  · by_cases hn : cells = []
    · subst hn
      simp [fd__law_below, List.replicate, ixN, hcb, D.fit, hp, op_ne_lnil (show D.plains [] = true from rfl), op_mod_int]
      refine call_kneaded hf fun i => ?_
      simp [List.replicate, ixN, op_mod_int h0, op_fdiv_int h0 h1]
      exact ⟨emods h0, pot_mk hc (by omega)⟩
    · have hpos : 0 < cells.length := List.length_pos_iff.mpr hn
      have hm0 : 0 ≤ p % (cells.length : Int) := Int.emod_nonneg _ (by omega)
      have hm1 : p % (cells.length : Int) < cells.length := Int.emod_lt_of_pos _ (by omega)
      obtain ⟨z, hz⟩ : ∃ z : Int, cells[(p % (cells.length : Int)).toNat]? = some (.int z) := by
        have hlt : (p % (cells.length : Int)).toNat < cells.length := by omega
        obtain ⟨z, e⟩ := hc cells[(p % (cells.length : Int)).toNat] (List.getElem_mem hlt)
        exact ⟨z, by rw [List.getElem?_eq_getElem hlt, e]⟩
      have hpos' : (0 : Int) < cells.length := by omega
      have hz' : ∀ h, cells[(p % (cells.length : Int)).toNat]'h = .int z := fun h => by
        rw [List.getElem?_eq_getElem h] at hz
        exact Option.some.inj hz
      by_cases hpl : (cells.length : Int) ≤ p
      · simp [fd__law_below, List.replicate, ixN, hcb, hn, D.fit, op_ne_lnil hc.plains, op_mod_int hpos', hm0, hm1, hz, hz', hpl, op_mod_int]
        refine call_kneaded hf fun i => ?_
        simp [List.replicate, ixN, op_mod_int h0, op_fdiv_int h0 h1]
        exact ⟨emods h0, pot_mk hc (by omega)⟩
      · by_cases hz2 : z < 10000000000000000
        · simp [fd__law_below, List.replicate, ixN, hcb, hn, D.fit, op_ne_lnil hc.plains, op_mod_int hpos', hm0, hm1, hz, hz', hpl, hz2, op_mod_int, small]
          refine call_kneaded hf fun i => ?_
          simp [List.replicate, ixN, op_mod_int h0, op_fdiv_int h0 h1]
          exact ⟨emods h0, pot_mk hc (by omega)⟩
        · simp [fd__law_below, List.replicate, ixN, hcb, hn, D.fit, op_ne_lnil hc.plains, op_mod_int hpos', hm0, hm1, hz, hz', hpl, hz2, small, op_mod_int h0, op_fdiv_int h0 h1]
          exact ⟨emods h0, pot_mk hc (by omega)⟩
  · simp [fd__law_below, List.replicate, ixN, hcb, op_mod_int h0, op_fdiv_int h0 h1]
    exact ⟨⟨Int.emod_nonneg _ (by omega), Int.emod_lt_of_pos _ h0⟩, cells, p, _, _, rfl, hc, hp⟩

/-- the laws' helpers are there -/
structure Has (P : Prog) : Prop where
  po : P.fns "_law_pot_of" = some fd__law_pot_of
  so : P.fns "_law_some_expander" = some fd__law_some_expander
  si : P.fns "_law_sizes" = some fd__law_sizes
  ca : P.fns "_law_calls" = some fd__law_calls
  pl : P.fns "_law_plainer" = some fd__law_plainer
  wo : P.fns "_law_some_word" = some fd__law_some_word
  kn : P.fns "_law_kneaded" = some fd__law_kneaded
  be : P.fns "_law_below" = some fd__law_below
  pi : P.fns "_law_pick" = some fd__law_pick
theorem call_below (h : Has P) {o : Ob} {r : List Ob} {b : Int} {env : List Slot} {Q : Arg → S → Prop} (ho : Pot o) (h0 : 0 < b) (h1 : b < 1073741824) (k : ∀ (i : Int) o', 0 ≤ i → i < b → Pot o' → Q (.val (.int i)) ⟨env, o' :: r⟩) :
    okR (callF (fnAt P (n + 2)) "_law_below" [.val (.ref 0), .val (.int b)] ⟨env, o :: r⟩) Q :=
  okR_call rfl ((below h.kn h.be ho h0 h1).mono fun x _ st' q => by
    obtain ⟨⟨i, rfl, a, b⟩, o', p, rfl⟩ := q
    exact k i o' a b p)
theorem pick_lst (h : Has P) {o : Ob} {r : List Ob} {xs : List D} (ho : Pot o) (hn : xs ≠ []) (hl : xs.length < 1073741824) (hs : ∀ d ∈ xs, d.still = true) :
    okF (fnAt P (n + 3) "_law_pick" [.val (.ref 0), .val (.lst xs)] (o :: r)) fun x _ st' => (∃ d, d ∈ xs ∧ x = .val d) ∧ ∃ o', Pot o' ∧ st' = o' :: r := by
  have hp := List.length_pos_iff.mpr hn
  refine okF_fn h.pi rfl ?_
  simp [fd__law_pick, List.replicate]
  refine call_below h ho (by omega) (by omega) fun i o' a b p => ?_
  have hlt : i.toNat < xs.length := by omega
  simp [ixN, a, b, hlt]
  have hm := List.getElem_mem hlt
  rw [ret_still (hs _ hm)]
  exact ⟨⟨_, hm, rfl⟩, o', p, by simp⟩
theorem pick_str (h : Has P) {o : Ob} {r : List Ob} {cs : Txt} (ho : Pot o) (hn : cs ≠ []) (hl : cs.length < 1073741824) :
    okF (fnAt P (n + 3) "_law_pick" [.val (.ref 0), .val (.str cs)] (o :: r)) fun x _ st' => (∃ c, c ∈ cs ∧ x = .val (.str [c])) ∧ ∃ o', Pot o' ∧ st' = o' :: r := by
  have hp := List.length_pos_iff.mpr hn
  refine okF_fn h.pi rfl ?_
  simp [fd__law_pick, List.replicate]
  refine call_below h ho (by omega) (by omega) fun i o' a b p => ?_
  have hlt : i.toNat < cs.length := by omega
  simp [ixN, a, b, hlt, p]

theorem call_pick_str (h : Has P) {o : Ob} {r : List Ob} {cs : Txt} {env : List Slot} {Q : Arg → S → Prop} (ho : Pot o) (hn : cs ≠ []) (hl : cs.length < 1073741824) (k : ∀ (c : Nat) o', c ∈ cs → Pot o' → Q (.val (.str [c])) ⟨env, o' :: r⟩) :
    okR (callF (fnAt P (n + 3)) "_law_pick" [.val (.ref 0), .val (.str cs)] ⟨env, o :: r⟩) Q :=
  okR_call rfl ((pick_str h ho hn hl).mono fun x _ st' q => by
    obtain ⟨⟨c, a, rfl⟩, o', p, rfl⟩ := q
    exact k c o' a p)
theorem call_pick_lst (h : Has P) {o : Ob} {r : List Ob} {xs : List D} {env : List Slot} {Q : Arg → S → Prop} (ho : Pot o) (hn : xs ≠ []) (hl : xs.length < 1073741824) (hs : ∀ d ∈ xs, d.still = true) (k : ∀ d o', d ∈ xs → Pot o' → Q (.val d) ⟨env, o' :: r⟩) :
    okR (callF (fnAt P (n + 3)) "_law_pick" [.val (.ref 0), .val (.lst xs)] ⟨env, o :: r⟩) Q :=
  okR_call rfl ((pick_lst h ho hn hl hs).mono fun x _ st' q => by
    obtain ⟨⟨c, a, rfl⟩, o', p, rfl⟩ := q
    exact k c o' a p)
def Signs (cs : Txt) (ds : List D) : Prop := ∀ d ∈ ds, ∃ c ∈ cs, d = .str [c]
theorem Signs.join {cs : Txt} : ∀ {ds : List D}, Signs cs ds → ∃ ts : List Txt, D.strs ds = some ts ∧ (ts.map List.length).sum = ds.length ∧ ts.length = ds.length ∧ (joinT [] ts).length = ds.length ∧ ∀ c ∈ joinT [] ts, c ∈ cs
  | [], _ => ⟨[], rfl, rfl, rfl, rfl, by simp [joinT]⟩
  | d :: ds, h => by
    obtain ⟨c, hc, rfl⟩ := h d (List.mem_cons_self ..)
    obtain ⟨ts, e, h1, h2, h3, h4⟩ := Signs.join (ds := ds) fun y hy => h y (List.mem_cons_of_mem _ hy)
    refine ⟨[c] :: ts, by simp [D.strs, e], by simp [h1]; omega, by simp [h2], ?_, ?_⟩
    · cases ts with
      | nil =>
        have h2 : 0 = ds.length := h2
        show 1 = ds.length + 1
        omega
      | cons a b =>
        simp only [joinT, List.length_append, List.length_cons, List.length_nil] at h3 ⊢
        omega
    · cases ts with
      | nil => simpa [joinT] using hc
      | cons a b =>
        intro x hx
        simp only [joinT, List.append_nil, List.cons_append, List.nil_append, List.mem_cons] at hx
        rcases hx with rfl | hx
        · exact hc
        · exact h4 x hx
theorem some_word (h : Has P) {o : Ob} {r : List Ob} {cs : Txt} {l : Int} (ho : Pot o) (hn : cs ≠ []) (hl : cs.length < 1073741824) (h0 : 0 ≤ l) (h1 : l < 1000000) :
    okF (fnAt P (n + 4) "_law_some_word" [.val (.ref 0), .val (.str cs), .val (.int l)] (o :: r)) fun x _ st' => (∃ w : Txt, x = .val (.str w) ∧ w.length ≤ l.toNat ∧ ∀ c ∈ w, c ∈ cs) ∧ ∃ o', Pot o' ∧ st' = o' :: r := by
  refine okF_fn h.wo rfl ?_
  simp [fd__law_some_word, List.replicate, isStrD]
  refine call_below h ho (by omega) (by omega) fun i o' a b p => ?_
  simp [rng_lit (show -(2 ^ 62) ≤ i by omega) (show i < 2 ^ 62 by omega)]
  refine (okR_lcLoop (Q := fun ds s => ∃ o', Pot o' ∧ s = ⟨[.val (.ref 0), .val (.str cs), .val (.int l), .un], o' :: r⟩ ∧ Signs cs ds ∧ ds.length = i.toNat) (fun acc xs s => ∃ o', Pot o' ∧ s = ⟨[.val (.ref 0), .val (.str cs), .val (.int l), .un], o' :: r⟩ ∧ Signs cs acc ∧ Ints xs ∧ acc.length + xs.length = i.toNat) ?_ ?_ _ [] _ ⟨o', p, rfl, fun d hd => (by cases hd), .ups, by simp [ups_len]⟩).mono ?_
  · rintro acc s ⟨o2, p2, rfl, q, _, e⟩
    exact ⟨o2, p2, rfl, q, by simpa using e⟩
  · rintro acc x xs s ⟨o2, p2, rfl, q, hx, e⟩
    obtain ⟨k, rfl⟩ := hx x (List.mem_cons_self ..)
    simp [lcStep]
    refine call_pick_str h p2 hn hl fun c o3 hc p3 => ?_
    simp [consO]
    refine ⟨o3, p3, rfl, fun d hd => ?_, fun y hy => hx y (List.mem_cons_of_mem _ hy), by simp at e; omega⟩
    rcases List.mem_append.mp hd with hd | hd
    · exact q d hd
    · simp at hd
      exact ⟨c, hc, hd⟩
  · rintro ds s ⟨o2, p2, rfl, q, e⟩
    obtain ⟨ts, e1, e2, e3, e4, e5⟩ := q.join
    have e : ds.length = i.toNat := by simpa using e
    simp [RS.mt, D.fit, szL]
    refine ⟨decide_eq_true (by omega), okL_eq e1 ?_⟩
    rw [e2]
    refine okL_eq (a := .str (joinT [] ts)) (if_pos (decide_eq_true (by simp only [List.nil_append]; omega))) ?_
    simp
    exact ⟨⟨by rw [e4]; omega, e5⟩, p2⟩

/-- a call: a state, a sign -/
def CallD (cs : Txt) (m : Nat) (d : D) : Prop := ∃ (i : Int) (c : Nat), d = .tup [.int i, .str [c]] ∧ 0 ≤ i ∧ i < m ∧ c ∈ cs
def StrItems (cs : Txt) (xs : List D) : Prop := ∀ d ∈ xs, ∃ c ∈ cs, d = .str [c]
theorem strItems_mem {cs : Txt} : StrItems cs (strItems cs) := fun d hd => by
  obtain ⟨c, hc, rfl⟩ := List.mem_map.mp hd
  exact ⟨c, hc, rfl⟩
theorem fitK {n : Nat} (h : n ≤ 100000) : D.fit n = true := decide_eq_true (Nat.le_trans h (by decide : 100000 ≤ szL))
@[simp] theorem fit2 : D.fit 2 = true := fitK (by decide)
@[simp] theorem fit1 : D.fit 1 = true := fitK (by decide)
@[simp] theorem fit0 : D.fit 0 = true := fitK (by decide)
@[simp] theorem fit3 : D.fit 3 = true := fitK (by decide)
theorem leK {n : Nat} (h : n ≤ 100000) : n ≤ szL := Nat.le_trans h (by decide)
end
end HL

namespace HL
open RS
section
variable {P : Prog} {n : Nat} {st : List Ob}
theorem calls (h : Has P) {cs : Txt} {f : D} {states : List D} (h1 : cs.length ≤ 10) (h2 : states.length ≤ 100) :
    okF (fnAt P (n + 1) "_law_calls" [.val (.tup [.str cs, f, .tup states])] st) fun x _ st' => (∃ xs, x = .val (.lst xs) ∧ (∀ d ∈ xs, CallD cs states.length d) ∧ xs.length ≤ 1000) ∧ st' = st := by
  refine okF_fn h.ca rfl ?_
  simp -implicitDefEqProofs [fd__law_calls, List.replicate, ixN, rng_lit (show -(2 ^ 62) ≤ (states.length : Int) by omega) (show (states.length : Int) < 2 ^ 62 by omega)]
  refine okR_for (fun xs s => ∃ acc : List D, s = ⟨[.val (.tup [.str cs, f, .tup states]), .val (.lst acc), .un, .un], st⟩ ∧ (∀ d ∈ acc, CallD cs states.length d) ∧ acc.length + 10 * xs.length ≤ 1000 ∧ ∀ y ∈ xs, ∃ i : Int, y = .int i ∧ 0 ≤ i ∧ i < states.length) ?_ ?_ _ _ ⟨[], rfl, fun d hd => (by cases hd), by simp [ups_len]; omega, fun y hy => ?_⟩
  · rintro s ⟨acc, rfl, q, e, _⟩
    simp
    exact ⟨q, by simpa using e⟩
  · rintro x xs s ⟨acc, rfl, q, e, hx⟩
    obtain ⟨i, rfl, i0, i1⟩ := hx x (List.mem_cons_self ..)
    simp only [List.length_cons] at e
    refine ⟨_, rfl, ?_⟩
    simp -implicitDefEqProofs [ixN]
    refine (okR_lcLoop (Q := fun ds s => s = ⟨[.val (.tup [.str cs, f, .tup states]), .val (.lst acc), .val (.int i), .un], st⟩ ∧ (∀ d ∈ ds, CallD cs states.length d) ∧ ds.length ≤ 10) (fun a ys s => s = ⟨[.val (.tup [.str cs, f, .tup states]), .val (.lst acc), .val (.int i), .un], st⟩ ∧ (∀ d ∈ a, CallD cs states.length d) ∧ a.length + ys.length ≤ 10 ∧ StrItems cs ys) ?_ ?_ _ [] _ ⟨rfl, fun d hd => (by cases hd), by simp [strItems]; omega, strItems_mem⟩).mono ?_
    · rintro a s ⟨rfl, q2, e2, _⟩
      exact ⟨rfl, q2, by simpa using e2⟩
    · rintro a y ys s ⟨rfl, q2, e2, hy⟩
      obtain ⟨c, hc, rfl⟩ := hy y (List.mem_cons_self ..)
      simp [lcStep, consO]
      refine ⟨fun d hd => ?_, by simp at e2; omega, fun z hz => hy z (List.mem_cons_of_mem _ hz)⟩
      rcases hd with hd | rfl
      · exact q2 d hd
      · exact ⟨i, c, rfl, i0, i1, hc⟩
    · rintro ds s ⟨rfl, q2, e2⟩
      simp only [List.nil_append] at q2 e2
      have hz : acc.length + ds.length ≤ szL := leK (by omega)
      have hd1 : D.fit ds.length = true := fitK (by omega)
      simp [hd1, op_add_lst hz]
      refine ⟨fun d hd => ?_, by omega, fun y hy => hx y (List.mem_cons_of_mem _ hy)⟩
      rcases hd with hd | hd
      · exact q d hd
      · exact q2 d hd
  · obtain ⟨i, rfl, a, b⟩ := ups_mem hy
    exact ⟨i, rfl, a, by simpa using b⟩
end
end HL

namespace HL
open RS
section
variable {P : Prog} {n : Nat} {st : List Ob} {cs : Txt} {m : Nat}
/-- a short word over the signs -/
def Wd (cs : Txt) (k : Nat) (d : D) : Prop := ∃ w : Txt, d = .str w ∧ w.length ≤ k ∧ ∀ c ∈ w, c ∈ cs
/-- a move -/
def Mv (cs : Txt) (m : Nat) (d : D) : Prop := d = .non ∨ ∃ (a b : Txt) (k : Int), d = .tup [.str a, .str b, .int k] ∧ a.length ≤ 3 ∧ b.length ≤ 3 ∧ (∀ c ∈ a, c ∈ cs) ∧ (∀ c ∈ b, c ∈ cs) ∧ 0 ≤ k ∧ k < m
def Lw (cs : Txt) (d : D) : Prop := d = .non ∨ Wd cs 3 d
/-- a state -/
def St (cs : Txt) (m : Nat) (d : D) : Prop := ∃ mvs last, d = .tup [.tup mvs, last] ∧ mvs.length = cs.length ∧ (∀ x ∈ mvs, Mv cs m x) ∧ Lw cs last
theorem Lw.still {d : D} (h : Lw cs d) : d.still = true := by
  rcases h with rfl | ⟨w, rfl, _⟩ <;> rfl
theorem plainer (h : Has P) {d : D} (hd : St cs m d) (hl : cs.length ≤ 10) : okF (fnAt P (n + 1) "_law_plainer" [.val d] st) fun x _ st' => (∃ e, x = .val e ∧ St cs m e) ∧ st' = st := by
  obtain ⟨mvs, last, rfl, hm, hx, hla⟩ := hd
  refine okF_fn h.pl rfl ?_
  simp -implicitDefEqProofs [fd__law_plainer, List.replicate, ixN]
  refine (okR_lcLoop (Q := fun ds s => s = ⟨[.val (.tup [.tup mvs, last]), .un], st⟩ ∧ ds.length = mvs.length ∧ ∀ x ∈ ds, Mv cs m x) (fun acc xs s => s = ⟨[.val (.tup [.tup mvs, last]), .un], st⟩ ∧ acc.length + xs.length = mvs.length ∧ (∀ x ∈ acc, Mv cs m x) ∧ ∀ x ∈ xs, Mv cs m x) ?_ ?_ _ [] _ ⟨rfl, by simp, (by intro x h; cases h), hx⟩).mono ?_
  · rintro acc s ⟨rfl, e, q, _⟩
    exact ⟨rfl, by simpa using e, q⟩
  · rintro acc x xs s ⟨rfl, e, q, hx⟩
    simp only [List.length_cons] at e
    have hr : ∀ y ∈ xs, Mv cs m y := fun y hy => hx y (List.mem_cons_of_mem _ hy)
    rcases hx x (List.mem_cons_self ..) with rfl | ⟨a, b, k, rfl, h1, h2, h3, h4, h5, h6⟩
    · simp -implicitDefEqProofs [lcStep, consO, ixN]
      refine ⟨by omega, fun y hy => ?_, hr⟩
      rcases hy with hy | rfl
      · exact q y hy
      · exact .inl rfl
    · simp -implicitDefEqProofs [lcStep, consO, ixN]
      refine ⟨by omega, fun y hy => ?_, hr⟩
      rcases hy with hy | rfl
      · exact q y hy
      · exact .inr ⟨a, [], k, rfl, h1, by simp, h3, by simp, h5, h6⟩
  · rintro ds s ⟨rfl, e, q⟩
    simp only [List.nil_append] at e q
    simp -implicitDefEqProofs [ixN, fitK (show ds.length ≤ 100000 by omega), esc_still hla.still]
    exact ⟨_, _, rfl, by omega, q, hla⟩

/-! the sizes -/
def SzE (m : Nat) (d : D) : Prop := ∃ (a k : Int), d = .tup [.int a, .int k] ∧ 0 ≤ k ∧ k < m
def KeyD (d : D) : Prop := ∃ (i : Int) (c : Nat), d = .tup [.int i, .str [c]]
structure DOk (m N : Nat) (ks vs : List D) : Prop where
  len : ks.length = vs.length
  le : ks.length ≤ N
  keys : ∀ k ∈ ks, KeyD k
  vals : ∀ v ∈ vs, SzE m v
theorem KeyD.isKey {d : D} (h : KeyD d) : D.isKey true d = true := by
  obtain ⟨i, c, rfl⟩ := h
  rfl
theorem isKey_mk {i : Int} {c : Nat} : D.isKey true (.tup [.int i, .str [c]]) = true := rfl
theorem dGet_mem : ∀ {ks vs : List D} {x v : D}, dGet ks vs x = some v → v ∈ vs
  | [], [], x, v, h => by simp [dGet] at h
  | [], w :: vs, x, v, h => by simp [dGet] at h
  | k :: ks, [], x, v, h => by simp [dGet] at h
  | k :: ks, w :: vs, x, v, h => by
    simp only [dGet] at h
    split at h
    · cases h
      exact List.mem_cons_self ..
    · exact List.mem_cons_of_mem _ (dGet_mem h)
theorem dPutV_len : ∀ {ks vs : List D} {x y : D}, ks.length = vs.length → (dPutV ks vs x y).length = ks.length
  | [], [], _, _, _ => rfl
  | [], w :: vs, _, _, h => by simp at h
  | k :: ks, [], _, _, h => by simp at h
  | k :: ks, w :: vs, x, y, h => by
    simp only [dPutV, List.length_cons]
    rw [dPutV_len (by simpa using h)]
theorem dPutV_mem : ∀ {ks vs : List D} {x y v : D}, v ∈ dPutV ks vs x y → v = y ∨ v ∈ vs
  | [], [], _, _, _, h => by simp [dPutV] at h
  | [], w :: vs, _, _, _, h => by simp [dPutV] at h
  | k :: ks, [], _, _, _, h => by simp [dPutV] at h
  | k :: ks, w :: vs, x, y, v, h => by
    simp only [dPutV, List.mem_cons] at h
    rcases h with h | h
    · split at h
      · exact .inl h
      · exact .inr (h ▸ List.mem_cons_self ..)
    · rcases dPutV_mem h with h | h
      · exact .inl h
      · exact .inr (List.mem_cons_of_mem _ h)
theorem DOk.put {N : Nat} {ks vs : List D} {x y : D} (q : DOk m N ks vs) (hx : KeyD x) (hy : SzE m y) : DOk m (N + 1) (dPut ks vs x y).1 (dPut ks vs x y).2 := by
  unfold dPut
  split
  · exact ⟨by rw [dPutV_len q.len], Nat.le_succ_of_le q.le, q.keys, fun v hv => by
      rcases dPutV_mem hv with rfl | hv
      · exact hy
      · exact q.vals v hv⟩
  · refine ⟨by simp [q.len], by simpa using q.le, fun k hk => ?_, fun v hv => ?_⟩
    · rcases List.mem_append.mp hk with hk | hk
      · exact q.keys k hk
      · rw [List.mem_singleton.mp hk]; exact hx
    · rcases List.mem_append.mp hv with hk | hk
      · exact q.vals v hk
      · rw [List.mem_singleton.mp hk]; exact hy
/-- what a thing answers -/
def Hr (m : Nat) (d : D) : Prop := d = .non ∨ ∃ k : Int, d = .int k ∧ 0 ≤ k ∧ k < m
/-- an expander -/
def Ex (cs : Txt) (d : D) : Prop := ∃ first states, d = .tup [.str cs, first, .tup states] ∧ Wd cs 3 first ∧ (∀ x ∈ states, St cs states.length x) ∧ 1 ≤ states.length ∧ states.length ≤ 100
theorem op_nin_dct {t : Bool} {ks vs : List D} {x : D} (h : D.isKey t x = true) : op2 .nmem x (.dct t ks vs) = some (.bl (!(dGet ks vs x).isSome)) := by simp [op2, opMem, h]
theorem mx_get2 {t : Bool} {ks vs : List D} {k x : D} (h : D.isKey t k = true) : mx .get2 (.dct t ks vs) [k, x] = some ((dGet ks vs k).getD x) := by simp [mx, h]
theorem putIx_dct {t : Bool} {ks vs : List D} {k v : D} (h : D.isKey t k = true) (h2 : ks.length < szL) : putIx (.dct t ks vs) k v = some (.dct t (dPut ks vs k v).1 (dPut ks vs k v).2) := by simp [putIx, h, h2]
theorem sizes (h : Has P) {f : D} {states : List D} (h1 : cs.length ≤ 10) (h2 : states.length ≤ 100) (hs : ∀ x ∈ states, St cs states.length x) :
    okF (fnAt P (n + 2) "_law_sizes" [.val (.tup [.str cs, f, .tup states])] st) fun x _ st' => (∃ ks vs, x = .obj (.dct true ks vs) ∧ DOk states.length 1000000 ks vs) ∧ st' = st := by
  refine okF_fn h.si rfl ?_
  have hb : (states.length : Int) * cs.length ≤ 1000 := by
    have : states.length * cs.length ≤ 100 * 10 := Nat.mul_le_mul h2 h1
    exact_mod_cast this
  have hb0 : (0 : Int) ≤ (states.length : Int) * cs.length := by exact_mod_cast Nat.zero_le _
  have hm : op2 .mul (.int states.length) (.int cs.length) = some (.int (states.length * cs.length)) := mul_lit (by omega) (by omega)
  simp -implicitDefEqProofs [fd__law_sizes, List.replicate, ixN, hm, rng_lit (show -(2 ^ 62) ≤ (states.length : Int) * cs.length by omega) (show (states.length : Int) * cs.length < 2 ^ 62 by omega)]
  refine okR_for (fun xs s => ∃ ks vs : List D, ∃ N, s = ⟨[.val (.tup [.str cs, f, .tup states]), .own (.dct true ks vs), .un, .un, .un, .un, .un, .un, .un, .un], st⟩ ∧ DOk states.length N ks vs ∧ N + 1000 * xs.length ≤ 1000000) ?_ ?_ _ _ ⟨[], [], 0, rfl, ⟨rfl, by simp, by simp, by simp⟩, by rw [ups_len]; omega⟩
  · rintro s ⟨ks, vs, N, rfl, q, e⟩
    simp -implicitDefEqProofs
    simp only [List.length_nil] at e
    exact ⟨ks, vs, ⟨rfl, rfl⟩, q.len, by have := q.le; omega, q.keys, q.vals⟩
  · rintro lap laps s ⟨ks, vs, N, rfl, q, e⟩
    refine ⟨_, rfl, ?_⟩
    simp only [List.length_cons] at e
    simp -implicitDefEqProofs
    refine okR_call rfl ((calls h h1 h2).mono fun x o st' r => ?_)
    obtain ⟨⟨xs, rfl, hx, hxl⟩, e0⟩ := r
    subst st'
    simp -implicitDefEqProofs
    refine okR_for (fun ys s => ∃ ks vs : List D, ∃ N2, s = ⟨[.val (.tup [.str cs, f, .tup states]), .own (.dct true ks vs), .val lap, .un, .un, .un, .un, .un, .un, .un], st⟩ ∧ DOk states.length N2 ks vs ∧ N2 + ys.length ≤ N + 1000 ∧ ∀ y ∈ ys, CallD cs states.length y) ?_ ?_ _ _ ⟨ks, vs, N, rfl, q, by omega, hx⟩
    · rintro s ⟨ks, vs, N2, rfl, q, e2, _⟩
      simp -implicitDefEqProofs
      simp only [List.length_nil] at e2
      exact ⟨ks, vs, ⟨rfl, rfl⟩, N2, q, by omega⟩
    · rintro y ys s ⟨ks, vs, N2, rfl, q, e2, hy⟩
      obtain ⟨i, c, rfl, i0, i1, hc⟩ := hy y (List.mem_cons_self ..)
      simp only [List.length_cons] at e2
      have hyr : ∀ z ∈ ys, CallD cs states.length z := fun z hz => hy z (List.mem_cons_of_mem _ hz)
      refine ⟨_, rfl, ?_⟩
      have hi : i.toNat < states.length := by omega
      obtain ⟨mvs, last, hst, hml, hmv, hla⟩ := hs states[i.toNat] (List.getElem_mem hi)
      have hci : cs.idxOf c < mvs.length := by rw [hml]; exact List.idxOf_lt_length_of_mem hc
      have hget : states[i.toNat]? = some (.tup [.tup mvs, last]) := by rw [List.getElem?_eq_getElem hi, hst]
      have hkl : ks.length < szL := Nat.lt_of_le_of_lt q.le (by have : N2 < 1000001 := by omega
                                                                exact Nat.lt_of_lt_of_le this (by decide))
      rcases hmv mvs[cs.idxOf c] (List.getElem_mem hci) with hno | ⟨a, b, k, hmk, a1, a2, a3, a4, a5, a6⟩
      · have hg2 : mvs[cs.idxOf c]? = some .non := by rw [List.getElem?_eq_getElem hci, hno]
        simp -implicitDefEqProofs [ixN, i0, i1, hget, hst, isStrD, RS.mt, hc, hci, hg2, hno]
        exact ⟨ks, vs, ⟨rfl, rfl⟩, N2, q, by omega, hyr⟩
      · have hg2 : mvs[cs.idxOf c]? = some (.tup [.str a, .str b, .int k]) := by rw [List.getElem?_eq_getElem hci, hmk]
        cases hdg : dGet ks vs (.tup [.int i, .str [c]]) with
        | some w =>
          simp -implicitDefEqProofs [ixN, i0, i1, hget, hst, isStrD, RS.mt, hc, hci, hg2, hmk, op_nin_dct isKey_mk, hdg]
          exact ⟨ks, vs, ⟨rfl, rfl⟩, N2, q, by omega, hyr⟩
        | none =>
          simp -implicitDefEqProofs [ixN, i0, i1, hget, hst, isStrD, RS.mt, hc, hci, hg2, hmk, op_nin_dct isKey_mk, hdg]
          refine okR_for (fun zs s => ∃ (a' : Int) (d : D), s = ⟨[.val (.tup [.str cs, f, .tup states]), .own (.dct true ks vs), .val lap, .val (.int i), .val (.str [c]), .val (.tup [.str a, .str b, .int k]), .un, .val (.int a'), .val d, .un], st⟩ ∧ Hr states.length d ∧ StrItems cs zs) ?_ ?_ _ _ ⟨_, _, rfl, .inr ⟨k, rfl, a5, a6⟩, fun d hd => (by obtain ⟨x, hx, rfl⟩ := strItems_mem d hd; exact ⟨x, a4 x hx, rfl⟩)⟩
          · rintro s ⟨a', d, rfl, hd, _⟩
            rcases hd with rfl | ⟨k', rfl, k0, k1⟩
            · simp -implicitDefEqProofs
              exact ⟨ks, vs, ⟨rfl, rfl⟩, N2, q, by omega, hyr⟩
            · simp -implicitDefEqProofs [putIx_dct isKey_mk hkl]
              exact ⟨_, _, ⟨rfl, rfl⟩, N2 + 1, q.put ⟨i, c, rfl⟩ ⟨_, _, rfl, k0, k1⟩, by omega, hyr⟩
          · rintro z zs s ⟨a', d, rfl, hd, hz⟩
            obtain ⟨e', he, rfl⟩ := hz z (List.mem_cons_self ..)
            have hzr : StrItems cs zs := fun y hy => hz y (List.mem_cons_of_mem _ hy)
            refine ⟨_, rfl, ?_⟩
            rcases hd with rfl | ⟨k', rfl, k0, k1⟩
            · simp -implicitDefEqProofs [ixN]
              exact ⟨_, _, ⟨rfl, rfl⟩, .inl rfl, hzr⟩
            · cases hdg2 : dGet ks vs (.tup [.int k', .str [e']]) with
              | none =>
                simp -implicitDefEqProofs [ixN, isDctD, mx_get2 isKey_mk, hdg2]
                exact ⟨_, _, ⟨rfl, rfl⟩, .inl rfl, hzr⟩
              | some v =>
                obtain ⟨a2', k2, rfl, b1, b2⟩ := q.vals v (dGet_mem hdg2)
                simp -implicitDefEqProofs [ixN, isDctD, mx_get2 isKey_mk, hdg2]
                exact ⟨_, _, ⟨rfl, rfl⟩, .inr ⟨_, rfl, b1, b2⟩, hzr⟩
end
end HL

/-! Hl4: a drawn expander, the pot. -/
namespace HL
open RS
/-- a statement, then the rest -/
theorem cutQ {Φ : Fns} {G : String → Option D} {s : S} {a : Cm} {r : Sq} {Q : Fl → S → Prop} (R : S → Prop) (h1 : ∀ K : S → Prop, (∀ s, R s → K s) → okR (evS Φ G a s) fun fl s => fl = .nx ∧ K s) (h2 : ∀ s, R s → okR (evQ Φ G r s) Q) : okR (evQ Φ G (.cons a r) s) Q := by
  rw [wQ_cons]
  refine (h1 R fun _ h => h).mono fun fl s q => ?_
  obtain ⟨rfl, q⟩ := q
  exact h2 s q
/-- a loop with an invariant -/
theorem for_ {body : S → Res Fl} {tg : Tg} {kill : List Nat} {Q : Fl → S → Prop} (I : List D → S → Prop) (stop : ∀ s, I [] s → Q .nx s)
    (step : ∀ x xs s, I (x :: xs) s → ∀ K : S → Prop, (∀ s, I xs s → K s) → ∃ env, asg tg x s.env = some env ∧ okR (body { s with env := env }) fun fl s => match fl with
      | .nx => K { s with env := kil kill s.env }
      | .ct => K { s with env := kil kill s.env }
      | .br => Q .nx { s with env := kil kill s.env }
      | .ret r => Q (.ret r) s) (xs : List D) (s : S) (h : I xs s) : okR (forLoop body tg kill xs s) Q := okR_for I stop (fun x xs s h => step x xs s h (I xs) fun _ h => h) xs s h
/-- a comprehension that keeps the state -/
theorem lc_rel {step : D → S → Res (Option D)} {R : D → Prop} {xs : List D} {s : S} {Q : List D → S → Prop} (h : ∀ x ∈ xs, okR (step x s) fun o s' => (∃ d, o = some d ∧ R d) ∧ s' = s) (q : ∀ ds : List D, ds.length = xs.length → (∀ d ∈ ds, R d) → Q ds s) : okR (lcLoop step xs s) Q := by
  refine (okR_lcLoop (Q := fun ds s' => s' = s ∧ ds.length = xs.length ∧ ∀ d ∈ ds, R d) (fun acc ys s' => s' = s ∧ acc.length + ys.length = xs.length ∧ (∀ d ∈ acc, R d) ∧ ∀ y ∈ ys, y ∈ xs) ?_ ?_ xs [] s ⟨rfl, by simp, (by intro d h; cases h), fun _ h => h⟩).mono ?_
  · rintro acc s' ⟨rfl, e, a, _⟩
    exact ⟨rfl, by simpa using e, a⟩
  · rintro acc x ys s' ⟨rfl, e, a, m⟩
    refine (h x (m x (List.mem_cons_self ..))).mono fun o s2 q2 => ?_
    obtain ⟨⟨d, rfl, r⟩, rfl⟩ := q2
    simp only [List.length_cons] at e
    refine ⟨rfl, by simp [consO]; omega, fun z hz => ?_, fun z hz => m z (List.mem_cons_of_mem _ hz)⟩
    rcases List.mem_append.mp hz with hz | hz
    · exact a z hz
    · cases List.mem_singleton.mp hz
      exact r
  · rintro ds s' ⟨rfl, e, a⟩
    simp only [List.nil_append] at e a
    exact q ds e a
theorem lc_map {step : D → S → Res (Option D)} {f : D → Option D} {Q : List D → S → Prop} : ∀ {xs : List D} {s : S} (h : ∀ x ∈ xs, okR (step x s) fun o s' => o = f x ∧ s' = s) (q : Q (xs.filterMap f) s), okR (lcLoop step xs s) Q
  | [], s, h, q => q
  | x :: xs, s, h, q => by
    simp only [lcLoop, okR_bind]
    refine (h x (List.mem_cons_self ..)).mono fun o s' e => ?_
    obtain ⟨rfl, rfl⟩ := e
    refine lc_map (f := f) (fun y hy => h y (List.mem_cons_of_mem _ hy)) ?_
    show Q (consO (f x) (xs.filterMap f)) s'
    rw [List.filterMap_cons] at q
    cases e : f x <;> simpa [consO, e] using q
@[simp] theorem fit4 : D.fit 4 = true := fitK (by decide)
@[simp] theorem fit5 : D.fit 5 = true := fitK (by decide)
@[simp] theorem fit6 : D.fit 6 = true := fitK (by decide)
@[simp] theorem fit7 : D.fit 7 = true := fitK (by decide)
@[simp] theorem fit8 : D.fit 8 = true := fitK (by decide)
@[simp] theorem fit9 : D.fit 9 = true := fitK (by decide)
@[simp] theorem fit10 : D.fit 10 = true := fitK (by decide)
@[simp] theorem fit11 : D.fit 11 = true := fitK (by decide)
@[simp] theorem fit12 : D.fit 12 = true := fitK (by decide)
section
variable {P : Prog} {n : Nat} {st : List Ob} {cs : Txt} {m : Nat}
theorem call_word (h : Has P) {o : Ob} {r : List Ob} {l : Int} {env : List Slot} {Q : Arg → S → Prop} (ho : Pot o) (hn : cs ≠ []) (hl : cs.length < 1073741824) (h0 : 0 ≤ l) (h1 : l < 1000000)
    (k : ∀ (w : Txt) o', w.length ≤ l.toNat → (∀ c ∈ w, c ∈ cs) → Pot o' → Q (.val (.str w)) ⟨env, o' :: r⟩) :
    okR (callF (fnAt P (n + 4)) "_law_some_word" [.val (.ref 0), .val (.str cs), .val (.int l)] ⟨env, o :: r⟩) Q :=
  okR_call rfl ((some_word h ho hn hl h0 h1).mono fun x _ st' q => by
    obtain ⟨⟨w, rfl, a, b⟩, o', p, rfl⟩ := q
    exact k w o' a b p)
/-- the signs of a drawn expander -/
def Sg (cs : Txt) : Prop := cs = [97] ∨ cs = [97, 98] ∨ cs = [98, 122] ∨ cs = [97, 98, 99] ∨ cs = [97, 98, 99, 122]
theorem Sg.ne (h : Sg cs) : cs ≠ [] := by rcases h with rfl | rfl | rfl | rfl | rfl <;> simp
theorem Sg.le (h : Sg cs) : cs.length ≤ 4 := by rcases h with rfl | rfl | rfl | rfl | rfl <;> simp
theorem Sg.lt (h : Sg cs) : ∀ c ∈ cs, c < 128 := by rcases h with rfl | rfl | rfl | rfl | rfl <;> simp
theorem dGet_some : ∀ {ks vs : List D} {k : D}, ks.length = vs.length → k ∈ ks → D.keq k k = true → ∃ v, dGet ks vs k = some v
  | [], _, _, _, h, _ => by cases h
  | a :: ks, [], _, h, _, _ => by cases h
  | a :: ks, v :: vs, k, h, hm, hk => by
    simp only [dGet]
    by_cases e : D.keq a k = true
    · simp [e]
    · simp only [e]
      rcases List.mem_cons.mp hm with rfl | hm
      · exact (e hk).elim
      · exact dGet_some (by simpa using h) hm hk
theorem KeyD.refl {d : D} (h : KeyD d) : D.keq d d = true := by
  obtain ⟨i, c, rfl⟩ := h
  simp [D.keq, D.eqvs, D.eqv]
theorem Ints.to : ∀ {xs : List D}, Ints xs → ∃ is : List Int, D.ints xs = some is ∧ is.length = xs.length
  | [], _ => ⟨[], rfl, rfl⟩
  | x :: xs, h => by
    obtain ⟨i, rfl⟩ := h x (List.mem_cons_self ..)
    obtain ⟨is, e, l⟩ := Ints.to (xs := xs) fun y hy => h y (List.mem_cons_of_mem _ hy)
    exact ⟨i :: is, by simp [D.ints, e], by simp [l]⟩
theorem idx_dct {t : Bool} {ks vs : List D} {k : D} (h : D.isKey t k = true) : idx (.dct t ks vs) k = dGet ks vs k := by simp [idx, h]
theorem op_ne_dnil {t t' : Bool} {ks vs : List D} : op2 .ne (.dct t ks vs) (.dct t' [] []) = some (.bl (!ks.isEmpty)) := by simp [op2, opEq]
theorem some_expander (h : Has P) {o : Ob} {r : List Ob} {many : Int} (ho : Pot o) (m0 : 0 < many) (m1 : many ≤ 60) :
    okF (fnAt P (n + 5) "_law_some_expander" [.val (.ref 0), .val (.int many)] (o :: r)) fun x _ st' => (∃ cs first states, x = .val (.tup [.str cs, first, .tup states]) ∧ Sg cs ∧ Wd cs 2 first ∧ (∀ x ∈ states, St cs states.length x) ∧ 1 ≤ states.length ∧ (states.length : Int) ≤ many) ∧ ∃ o', Pot o' ∧ st' = o' :: r := by
  refine okF_fn h.so rfl ?_
  dsimp only [fd__law_some_expander, List.replicate]
  -- signs
  refine cutQ (fun s => ∃ o' cs, s = ⟨[.val (.ref 0), .val (.int many), .val (.str cs), .un, .un, .un, .un, .un, .un, .un, .un, .un, .un, .un, .un, .un], o' :: r⟩ ∧ Pot o' ∧ Sg cs) ?_ ?_
  · intro K kk
    simp -implicitDefEqProofs [List.replicate]
    refine call_pick_lst h ho (by simp) (by simp) (by simp [D.still]) fun d o1 hd p1 => ?_
    have : ∃ cs, d = .str cs ∧ Sg cs := by
      simp only [List.mem_cons, List.not_mem_nil, or_false] at hd
      rcases hd with rfl | rfl | rfl | rfl | rfl | rfl | rfl <;> exact ⟨_, rfl, by simp [Sg]⟩
    obtain ⟨cs, rfl, hs⟩ := this
    simp -implicitDefEqProofs
    exact kk _ ⟨_, _, rfl, p1, hs⟩
  rintro s ⟨o1, cs, rfl, p1, hs⟩
  have hcn := hs.ne
  have hcl : cs.length < 1073741824 := Nat.lt_of_le_of_lt hs.le (by decide)
  have hc4 := hs.le
  refine cutQ (fun s => ∃ o' i kind, s = ⟨[.val (.ref 0), .val (.int many), .val (.str cs), .un, .un, .un, .val (.int (1 + i)), .val (.int kind), .own (.lst []), .un, .un, .un, .un, .un, .un, .un], o' :: r⟩ ∧ Pot o' ∧ 0 ≤ i ∧ i < many) ?_ ?_
  · intro K kk
    simp -implicitDefEqProofs
    refine call_below h p1 m0 (by omega) fun i o2 i0 i1 p2 => ?_
    simp -implicitDefEqProofs
    refine call_below h p2 (by decide) (by decide) fun kind o3 k0 k1 p3 => ?_
    simp -implicitDefEqProofs
    exact kk _ ⟨o3, i, kind, rfl, p3, i0, i1⟩
  rintro s ⟨o2, i, kind, rfl, p2, i0, i1⟩
  refine cutQ (fun s => ∃ o' sts, s = ⟨[.val (.ref 0), .val (.int many), .val (.str cs), .un, .un, .un, .val (.int (1 + i)), .val (.int kind), .own (.lst sts), .un, .un, .un, .un, .un, .un, .un], o' :: r⟩ ∧ Pot o' ∧ (∀ x ∈ sts, St cs (1 + i).toNat x) ∧ sts.length = (1 + i).toNat) ?_ ?_
  · intro K kk
    simp -implicitDefEqProofs [rng_lit (show -(2 ^ 62) ≤ 1 + i by omega) (show 1 + i < 2 ^ 62 by omega)]
    refine for_ (fun xs s => ∃ o' sts, s = ⟨[.val (.ref 0), .val (.int many), .val (.str cs), .un, .un, .un, .val (.int (1 + i)), .val (.int kind), .own (.lst sts), .un, .un, .un, .un, .un, .un, .un], o' :: r⟩ ∧ Pot o' ∧ (∀ x ∈ sts, St cs (1 + i).toNat x) ∧ sts.length + xs.length = (1 + i).toNat ∧ Ints xs) ?_ ?_ _ _ ⟨o2, [], rfl, p2, (by intro x h; cases h), by rw [ups_len]; simp, .ups⟩
    · rintro s ⟨o', sts, rfl, p, q, e, _⟩
      exact ⟨rfl, kk _ ⟨o', sts, rfl, p, q, by simpa using e⟩⟩
    · rintro x xs s ⟨o3, sts, rfl, p3, q, e, hx⟩ K kk
      obtain ⟨j, rfl⟩ := hx x (List.mem_cons_self ..)
      have hxr : Ints xs := fun y hy => hx y (List.mem_cons_of_mem _ hy)
      simp only [List.length_cons] at e
      refine ⟨_, rfl, ?_⟩
      refine cutQ (fun s => s = ⟨[.val (.ref 0), .val (.int many), .val (.str cs), .val (.int j), .un, .un, .val (.int (1 + i)), .val (.int kind), .own (.lst sts), .own (.lst []), .un, .un, .un, .un, .un, .un], o3 :: r⟩) ?_ ?_
      · intro K kk
        simp -implicitDefEqProofs [okOwn]
        exact kk _ rfl
      rintro s rfl
      refine cutQ (fun s => ∃ o' mvs, s = ⟨[.val (.ref 0), .val (.int many), .val (.str cs), .val (.int j), .un, .un, .val (.int (1 + i)), .val (.int kind), .own (.lst sts), .own (.lst mvs), .un, .un, .un, .un, .un, .un], o' :: r⟩ ∧ Pot o' ∧ (∀ x ∈ mvs, Mv cs (1 + i).toNat x) ∧ mvs.length = cs.length) ?_ ?_
      · intro K kk
        rw [wS_for]
        simp -implicitDefEqProofs only [wI_of, wE_var, List.getElem?_cons_succ, List.getElem?_cons_zero, okSlot_val, esc_str, okR_ok, items_str, okL_some]
        refine for_ (fun ys s => ∃ o' mvs, s = ⟨[.val (.ref 0), .val (.int many), .val (.str cs), .val (.int j), .un, .un, .val (.int (1 + i)), .val (.int kind), .own (.lst sts), .own (.lst mvs), .un, .un, .un, .un, .un, .un], o' :: r⟩ ∧ Pot o' ∧ (∀ x ∈ mvs, Mv cs (1 + i).toNat x) ∧ mvs.length + ys.length = cs.length ∧ StrItems cs ys) ?_ ?_ _ _ ⟨o3, [], rfl, p3, (by intro x h; cases h), by simp [strItems], strItems_mem⟩
        · rintro s ⟨o', mvs, rfl, p, q, e, _⟩
          exact ⟨rfl, kk _ ⟨o', mvs, rfl, p, q, by simpa using e⟩⟩
        · rintro y ys s ⟨o4, mvs, rfl, p4, q2, e2, hy⟩ K kk
          obtain ⟨c, hc, rfl⟩ := hy y (List.mem_cons_self ..)
          have hyr : StrItems cs ys := fun z hz => hy z (List.mem_cons_of_mem _ hz)
          simp only [List.length_cons] at e2
          refine ⟨_, rfl, ?_⟩
          -- back
          refine cutQ (fun s => ∃ o' bk, s = ⟨[.val (.ref 0), .val (.int many), .val (.str cs), .val (.int j), .un, .un, .val (.int (1 + i)), .val (.int kind), .own (.lst sts), .own (.lst mvs), .val (.str [c]), .un, .val (.str bk), .un, .un, .un], o' :: r⟩ ∧ Pot o' ∧ bk.length ≤ 3 ∧ ∀ x ∈ bk, x ∈ cs) ?_ ?_
          · intro K kk
            by_cases hk : 0 < kind
            · simp -implicitDefEqProofs [hk]
              refine call_below h p4 (by decide) (by decide) fun z o5 z0 z1 p5 => ?_
              by_cases hz : z = 0
              · subst hz
                simp -implicitDefEqProofs
                refine call_word h p5 hcn hcl (by decide) (by decide) fun w o6 w0 w1 p6 => ?_
                simp -implicitDefEqProofs
                exact kk _ ⟨_, _, rfl, p6, w0, w1⟩
              · simp -implicitDefEqProofs [hz]
                exact kk _ ⟨_, _, rfl, p5, by simp, by simp⟩
            · simp -implicitDefEqProofs [hk]
              exact kk _ ⟨_, _, rfl, p4, by simp, by simp⟩
          rintro s ⟨o5, bk, rfl, p5, b0, b1⟩
          -- done
          refine cutQ (fun s => ∃ o' dn, s = ⟨[.val (.ref 0), .val (.int many), .val (.str cs), .val (.int j), .un, .un, .val (.int (1 + i)), .val (.int kind), .own (.lst sts), .own (.lst mvs), .val (.str [c]), .un, .val (.str bk), .val (.str dn), .un, .un], o' :: r⟩ ∧ Pot o' ∧ dn.length ≤ 3 ∧ ∀ x ∈ dn, x ∈ cs) ?_ ?_
          · intro K kk
            simp -implicitDefEqProofs
            refine call_word h p5 hcn hcl (by decide) (by decide) fun w o6 w0 w1 p6 => ?_
            simp -implicitDefEqProofs
            refine call_word h p6 hcn hcl (by decide) (by decide) fun w' o7 w0' w1' p7 => ?_
            simp -implicitDefEqProofs
            refine call_pick_lst h p7 (by simp) (by simp) (by simp [D.still]) fun d o8 hd p8 => ?_
            have : ∃ dn, d = .str dn ∧ dn.length ≤ 3 ∧ ∀ x ∈ dn, x ∈ cs := by
              simp only [List.mem_cons, List.not_mem_nil, or_false] at hd
              simp at w0 w0'
              rcases hd with rfl | rfl | rfl | rfl
              · exact ⟨_, rfl, by simp, by simp⟩
              · exact ⟨_, rfl, by simp, by simpa using hc⟩
              · exact ⟨_, rfl, by omega, w1⟩
              · exact ⟨_, rfl, by omega, w1'⟩
            obtain ⟨dn, rfl, d0, d1⟩ := this
            simp -implicitDefEqProofs
            exact kk _ ⟨_, _, rfl, p8, d0, d1⟩
          rintro s ⟨o6, dn, rfl, p6, d0, d1⟩
          -- move
          refine cutQ (fun s => ∃ o' t, s = ⟨[.val (.ref 0), .val (.int many), .val (.str cs), .val (.int j), .un, .un, .val (.int (1 + i)), .val (.int kind), .own (.lst sts), .own (.lst mvs), .val (.str [c]), .un, .val (.str bk), .val (.str dn), .val (.tup [.str dn, .str bk, .int t]), .un], o' :: r⟩ ∧ Pot o' ∧ 0 ≤ t ∧ t < 1 + i) ?_ ?_
          · intro K kk
            simp -implicitDefEqProofs
            refine call_below h p6 (by omega) (by omega) fun t o7 t0 t1 p7 => ?_
            simp -implicitDefEqProofs
            exact kk _ ⟨_, _, rfl, p7, t0, t1⟩
          rintro s ⟨o7, t, rfl, p7, t0, t1⟩
          have hmv : Mv cs (1 + i).toNat (.tup [.str dn, .str bk, .int t]) := .inr ⟨dn, bk, t, rfl, d0, b0, d1, b1, t0, by omega⟩
          have hml : mvs.length < szL := Nat.lt_of_lt_of_le (show mvs.length < 10 by omega) (by decide)
          simp -implicitDefEqProofs [isLstD]
          refine call_below h p7 (by decide) (by decide) fun z o8 z0 z1 p8 => ?_
          by_cases hz : z = 0
          · subst hz
            simp -implicitDefEqProofs [mw, hml]
            refine kk _ ⟨_, _, rfl, p8, fun x hx => ?_, by simp; omega, hyr⟩
            rcases List.mem_append.mp hx with hx | hx
            rotate_left
            · cases List.mem_singleton.mp hx
              exact .inl rfl
            · exact q2 x hx
          · simp -implicitDefEqProofs [hz, mw, hml]
            refine kk _ ⟨_, _, rfl, p8, fun x hx => ?_, by simp; omega, hyr⟩
            rcases List.mem_append.mp hx with hx | hx
            rotate_left
            · cases List.mem_singleton.mp hx
              exact hmv
            · exact q2 x hx
      rintro s ⟨o4, mvs, rfl, p4, q2, e2⟩
      -- last
      refine cutQ (fun s => ∃ o' la, s = ⟨[.val (.ref 0), .val (.int many), .val (.str cs), .val (.int j), .un, .un, .val (.int (1 + i)), .val (.int kind), .own (.lst sts), .own (.lst mvs), .un, .val la, .un, .un, .un, .un], o' :: r⟩ ∧ Pot o' ∧ Lw cs la) ?_ ?_
      · intro K kk
        simp -implicitDefEqProofs
        refine call_below h p4 (by decide) (by decide) fun z o5 z0 z1 p5 => ?_
        by_cases hz : z = 0
        · subst hz
          simp -implicitDefEqProofs
          exact kk _ ⟨_, _, rfl, p5, .inl rfl⟩
        · simp -implicitDefEqProofs [hz]
          refine call_word h p5 hcn hcl (by decide) (by decide) fun w o6 w0 w1 p6 => ?_
          simp -implicitDefEqProofs
          simp at w0
          exact kk _ ⟨_, _, rfl, p6, .inr ⟨w, rfl, by omega, w1⟩⟩
      rintro s ⟨o5, la, rfl, p5, hla⟩
      have hsl : sts.length < szL := Nat.lt_of_lt_of_le (show sts.length < 100 by omega) (by decide)
      simp -implicitDefEqProofs [isLstD, esc_still hla.still, mw, hsl]
      refine kk _ ⟨_, _, rfl, p5, fun x hx => ?_, by simp; omega, hxr⟩
      rcases List.mem_append.mp hx with hx | hx
      · exact q x hx
      · cases List.mem_singleton.mp hx
        exact ⟨mvs, la, rfl, e2, q2, hla⟩
  rintro s ⟨o3, sts, rfl, p3, q, e⟩
  have hsf : D.fit sts.length = true := fitK (by omega)
  -- found
  refine cutQ (fun s => ∃ o' first, s = ⟨[.val (.ref 0), .val (.int many), .val (.str cs), .un, .val (.tup [.str cs, first, .tup sts]), .un, .val (.int (1 + i)), .val (.int kind), .own (.lst sts), .un, .un, .un, .un, .un, .un, .un], o' :: r⟩ ∧ Pot o' ∧ Wd cs 2 first) ?_ ?_
  · intro K kk
    simp -implicitDefEqProofs
    refine call_word h p3 hcn hcl (by decide) (by decide) fun w o6 w0 w1 p6 => ?_
    simp -implicitDefEqProofs
    exact kk _ ⟨_, _, rfl, p6, w, rfl, w0, w1⟩
  rintro s ⟨o4, first, rfl, p4, hw⟩
  obtain ⟨fw, rfl, f1, f2⟩ := hw
  -- spans
  refine cutQ (fun s => ∃ ks vs, s = ⟨[.val (.ref 0), .val (.int many), .val (.str cs), .un, .val (.tup [.str cs, .str fw, .tup sts]), .val (.dct true ks vs), .val (.int (1 + i)), .val (.int kind), .own (.lst sts), .un, .un, .un, .un, .un, .un, .un], o4 :: r⟩ ∧ DOk sts.length 1000000 ks vs) ?_ ?_
  · intro K kk
    simp -implicitDefEqProofs
    refine okR_call rfl ((sizes h (by omega) (by omega) (by rw [e]; exact q)).mono fun x o' st' hq => ?_)
    obtain ⟨⟨ks, vs, rfl, hq⟩, e0⟩ := hq
    subst st'
    simp -implicitDefEqProofs
    exact kk _ ⟨ks, vs, rfl, hq⟩
  rintro s ⟨ks, vs, rfl, hdk⟩
  -- plainer
  refine cutQ (fun s => ∃ sts2 e1 e2, s = ⟨[.val (.ref 0), .val (.int many), .val (.str cs), .un, .val (.tup [.str cs, .str fw, .tup sts2]), .val (.dct true ks vs), .val (.int (1 + i)), .val (.int kind), e1, .un, .un, .un, .un, .un, .un, e2], o4 :: r⟩ ∧ (∀ x ∈ sts2, St cs (1 + i).toNat x) ∧ sts2.length = (1 + i).toNat) ?_ ?_
  · intro K kk
    have hkf : D.fit ks.length = true := decide_eq_true (Nat.le_trans hdk.le (by decide))
    cases ks with
    | nil =>
      simp -implicitDefEqProofs [op_ne_dnil]
      exact kk _ ⟨sts, _, _, rfl, q, e⟩
    | cons k0 ks =>
      simp -implicitDefEqProofs [op_ne_dnil]
      refine lc_rel (R := fun d => ∃ i, d = .int i) (fun x hx => ?_) fun ds dl hds => ?_
      · obtain ⟨v, hv⟩ := dGet_some hdk.len hx (hdk.keys x hx).refl
        obtain ⟨a1, a2, rfl, _, _⟩ := hdk.vals v (dGet_mem hv)
        have hik := (hdk.keys x hx).isKey
        obtain ⟨z1, z2, rfl⟩ := hdk.keys x hx
        simp -implicitDefEqProofs [lcStep, idx_dct hik, hv, ixN]
      · have hdf : D.fit ds.length = true := by rw [dl]; exact hkf
        obtain ⟨is, i1, i2⟩ := Ints.to hds
        cases is with
        | nil => simp [← i2] at dl
        | cons a0 is =>
          simp -implicitDefEqProofs [hdf, bi_max i1]
          by_cases h30 : 30 < maxI a0 is
          · simp -implicitDefEqProofs [h30, ixN]
            refine lc_rel (R := St cs (1 + i).toNat) (fun x hx => ?_) fun ds2 dl2 hds2 => ?_
            · obtain ⟨z1, z2, rfl, z3⟩ := q x hx
              simp -implicitDefEqProofs [lcStep]
              refine okR_call rfl ((plainer h (q _ hx) (by omega)).mono fun x o st' r => ?_)
              obtain ⟨⟨e, rfl, he⟩, rfl⟩ := r
              have he2 := he
              obtain ⟨z1, z2, rfl, z3⟩ := he
              simp -implicitDefEqProofs
              exact he2
            · have hdf2 : D.fit ds2.length = true := by rw [dl2]; exact hsf
              simp -implicitDefEqProofs [hdf2]
              exact kk _ ⟨ds2, _, _, rfl, hds2, by omega⟩
          · simp -implicitDefEqProofs [h30]
            exact kk _ ⟨sts, _, _, rfl, q, e⟩
  rintro s ⟨sts2, e1, e2, rfl, q2, e3⟩
  simp -implicitDefEqProofs
  exact ⟨⟨cs, _, sts2, ⟨rfl, rfl, rfl⟩, hs, ⟨fw, rfl, f1, f2⟩, by rw [e3]; exact q2, by omega, by omega⟩, p4⟩
theorem abs_ints {x : D} (h : ∃ i, x = .int i) : ∃ i : Int, bi .abs [x] = some (.int i) := by
  obtain ⟨i, rfl⟩ := h
  exact ⟨_, rfl⟩
theorem mem_cut {α : Type} {xs : List α} {lo hi : Option Int} {x : α} (h : x ∈ cut xs lo hi) : x ∈ xs := List.mem_of_mem_drop (List.mem_of_mem_take h)
theorem numbered_mem : ∀ {i : Int} {xs : List D} {y : D}, 0 ≤ i → y ∈ numbered i xs → ∃ (j : Int) (x : D), y = .tup [.int j, x] ∧ 0 ≤ j ∧ x ∈ xs
  | _, [], _, _, h => by cases h
  | i, x :: xs, y, h0, h => by
    rcases List.mem_cons.mp h with rfl | h
    · exact ⟨i, x, rfl, h0, List.mem_cons_self ..⟩
    · obtain ⟨j, z, e, j0, m⟩ := numbered_mem (by omega) h
      exact ⟨j, z, e, j0, List.mem_cons_of_mem _ m⟩
theorem numbered_len : ∀ {i : Int} {xs : List D}, (numbered i xs).length = xs.length
  | _, [] => rfl
  | _, _ :: _ => by simp [numbered, numbered_len]
theorem pot_of (h : Has P) {ns : List Int} : okF (fnAt P (n + 1) "_law_pot_of" [.val (.kl (ns.map .int))] st) fun x _ st' => (∃ o, Pot o ∧ x = .obj o) ∧ st' = st := by
  have hns : ∀ x ∈ ns.map D.int, ∃ i, x = .int i := fun x hx => by
    obtain ⟨i, _, rfl⟩ := List.mem_map.mp hx
    exact ⟨i, rfl⟩
  refine okF_fn h.po rfl ?_
  dsimp only [fd__law_pot_of, List.replicate]
  refine cutQ (fun s => ∃ cells, s = ⟨[.val (.kl (ns.map .int)), .own (.lst cells), .un, .un], st⟩ ∧ Ints cells ∧ cells.length = min 17 ns.length) ?_ ?_
  · intro K kk
    simp -implicitDefEqProofs [List.replicate]
    refine lc_rel (R := fun d => ∃ i, d = .int i) (fun x hx => ?_) fun ds dl hds => ?_
    · obtain ⟨i, rfl⟩ := hns x (mem_cut hx)
      simp -implicitDefEqProofs [lcStep]
    · have dl' : ds.length = min 17 ns.length := by rw [dl]; simp [cut, cutIx]
      have hdf : D.fit ds.length = true := fitK (by omega)
      simp -implicitDefEqProofs [hdf, okOwn]
      exact kk _ ⟨ds, rfl, hds, dl'⟩
  rintro s ⟨cells, rfl, hc, hl⟩
  refine cutQ (fun s => ∃ cells, s = ⟨[.val (.kl (ns.map .int)), .own (.lst cells), .un, .un], st⟩ ∧ Ints cells) ?_ ?_
  · intro K kk
    simp -implicitDefEqProofs
    refine for_ (fun xs s => ∃ cells, s = ⟨[.val (.kl (ns.map .int)), .own (.lst cells), .un, .un], st⟩ ∧ Ints cells ∧ (xs = [] ∨ cells.length = 17) ∧ ∀ y ∈ xs, ∃ (j k : Int), y = .tup [.int j, .int k] ∧ 0 ≤ j) ?_ ?_ _ _ ⟨cells, rfl, hc, ?_, ?_⟩
    · rintro s ⟨cells, rfl, hc, _⟩
      exact ⟨rfl, kk _ ⟨cells, rfl, hc⟩⟩
    · rintro x xs s ⟨cells, rfl, hc, hl, hx⟩ K kk
      have hl17 : cells.length = 17 := by simpa using hl
      obtain ⟨j, k, rfl, j0⟩ := hx x (List.mem_cons_self ..)
      refine ⟨_, rfl, ?_⟩
      have m0 : 0 ≤ j % 17 := Int.emod_nonneg _ (by decide)
      have m1 : j % 17 < 17 := Int.emod_lt_of_pos _ (by decide)
      have hlt : (j % 17).toNat < cells.length := by omega
      have hlt2 : j % 17 < (cells.length : Int) := by omega
      obtain ⟨z, hz⟩ := hc _ (List.getElem_mem hlt)
      simp -implicitDefEqProofs [op_mod_int, ixN, m0, hlt2, hlt, hz]
      refine kk _ ⟨_, rfl, fun y hy => ?_, .inr ?_, fun y hy => hx y (List.mem_cons_of_mem _ hy)⟩
      rotate_left
      · rw [List.length_set]; exact hl17
      rcases List.mem_or_eq_of_mem_set hy with hy | rfl
      · exact hc y hy
      · exact ⟨_, rfl⟩
    · by_cases h17 : ns.length ≤ 17
      · left
        apply List.eq_nil_of_length_eq_zero
        rw [numbered_len]
        simp [cut, cutIx]
        omega
      · right
        omega
    · intro y hy
      obtain ⟨j, x, rfl, j0, hm⟩ := numbered_mem (by decide) hy
      obtain ⟨i, rfl⟩ := hns x (mem_cut hm)
      exact ⟨j, i, rfl, j0⟩
  rintro s ⟨cells, rfl, hc⟩
  simp -implicitDefEqProofs
  exact pot_mk hc (by decide)
end
end HL

/-! Hl5: what an expander is; the program's functions tell it. -/
namespace HL
open RS
def fd_is_integer : Fd := ⟨1, ["thing"],
  (.cons (.ret (.and (.isi "int" (.var 0)) (.not (.isi "bool" (.var 0)))))
  .nil)⟩
def fd_is_below : Fd := ⟨2, ["thing", "bound"],
  (.cons (.ret (.and (.call "is_integer" (.val (.var 0) .nil)) (.chain .le .lt (.lit (.int 0)) (.var 0) (.var 1))))
  .nil)⟩
def fd_is_word : Fd := ⟨2, ["signs", "thing", "sign"],
  (.cons (.ret (.and (.isi "str" (.var 1)) (.bi .all (.cons (.fr (.lc [2] (.nm 2) (.of (.var 1)) .nil (.op2 .mem (.var 2) (.var 0)))) .nil))))
  .nil)⟩
def fd_is_short : Fd := ⟨2, ["signs", "thing"],
  (.cons (.ret (.and (.call "is_word" (.val (.var 0) (.val (.var 1) .nil))) (.op2 .le (.bi .len (.cons (.var 1) .nil)) (.glb "MAX_WORD"))))
  .nil)⟩
def fd_are_signs : Fd := ⟨1, ["thing", "one", "other", "sign"],
  (.cons (.ite (.or (.not (.of (.isi "str" (.var 0)))) (.or (.not (.of (.chain .le .le (.lit (.int 1)) (.bi .len (.cons (.var 0) .nil)) (.glb "MAX_SIGNS")))) (.not (.of (.bi .all (.cons (.fr (.lc [3] (.nm 3) (.of (.var 0)) .nil (.op2 .mem (.var 3) (.glb "LETTERS")))) .nil))))))
  (.cons (.ret (.lit (.bl false)))
  .nil)
  .nil)
  (.cons (.ret (.bi .all (.cons (.fr (.lc [1, 2] (.t2 (.nm 1) (.nm 2)) (.zip (.slc (.var 0) .nil (.cons (.op1 .neg (.lit (.int 1))) .nil)) (.slc (.var 0) (.cons (.lit (.int 1)) .nil) .nil)) .nil (.op2 .lt (.var 1) (.var 2)))) .nil)))
  .nil))⟩
def fd_is_move : Fd := ⟨3, ["signs", "many", "thing"],
  (.cons (.ite (.of (.op2 .isN (.var 2) (.lit .non)))
  (.cons (.ret (.lit (.bl true)))
  .nil)
  .nil)
  (.cons (.ite (.or (.not (.of (.isi "tuple" (.var 2)))) (.or (.of (.op2 .ne (.bi .len (.cons (.var 2) .nil)) (.lit (.int 3)))) (.not (.of (.call "is_below" (.val (.idx (.var 2) (.lit (.int 2))) (.val (.var 1) .nil)))))))
  (.cons (.ret (.lit (.bl false)))
  .nil)
  .nil)
  (.cons (.ret (.and (.call "is_short" (.val (.var 0) (.val (.idx (.var 2) (.lit (.int 0))) .nil))) (.call "is_short" (.val (.var 0) (.val (.idx (.var 2) (.lit (.int 1))) .nil)))))
  .nil)))⟩
def fd_is_state : Fd := ⟨3, ["signs", "many", "thing", "move"],
  (.cons (.ite (.or (.not (.of (.isi "tuple" (.var 2)))) (.or (.of (.op2 .ne (.bi .len (.cons (.var 2) .nil)) (.lit (.int 2)))) (.not (.of (.isi "tuple" (.idx (.var 2) (.lit (.int 0))))))))
  (.cons (.ret (.lit (.bl false)))
  .nil)
  .nil)
  (.cons (.ite (.of (.op2 .ne (.bi .len (.cons (.idx (.var 2) (.lit (.int 0))) .nil)) (.bi .len (.cons (.var 0) .nil))))
  (.cons (.ret (.lit (.bl false)))
  .nil)
  .nil)
  (.cons (.ite (.and (.of (.op2 .notN (.idx (.var 2) (.lit (.int 1))) (.lit .non))) (.not (.of (.call "is_short" (.val (.var 0) (.val (.idx (.var 2) (.lit (.int 1))) .nil))))))
  (.cons (.ret (.lit (.bl false)))
  .nil)
  .nil)
  (.cons (.ret (.bi .all (.cons (.fr (.lc [3] (.nm 3) (.of (.idx (.var 2) (.lit (.int 0)))) .nil (.call "is_move" (.val (.var 0) (.val (.var 1) (.val (.var 3) .nil)))))) .nil)))
  .nil))))⟩
def fd_is_expander : Fd := ⟨1, ["thing", "state"],
  (.cons (.ite (.or (.not (.of (.isi "tuple" (.var 0)))) (.or (.of (.op2 .ne (.bi .len (.cons (.var 0) .nil)) (.lit (.int 3)))) (.or (.not (.of (.call "are_signs" (.val (.idx (.var 0) (.lit (.int 0))) .nil)))) (.not (.of (.call "is_short" (.val (.idx (.var 0) (.lit (.int 0))) (.val (.idx (.var 0) (.lit (.int 1))) .nil))))))))
  (.cons (.ret (.lit (.bl false)))
  .nil)
  .nil)
  (.cons (.ite (.or (.not (.of (.isi "tuple" (.idx (.var 0) (.lit (.int 2)))))) (.not (.of (.chain .le .le (.lit (.int 1)) (.bi .len (.cons (.idx (.var 0) (.lit (.int 2))) .nil)) (.glb "MAX_STATES")))))
  (.cons (.ret (.lit (.bl false)))
  .nil)
  .nil)
  (.cons (.ret (.bi .all (.cons (.fr (.lc [1] (.nm 1) (.of (.idx (.var 0) (.lit (.int 2)))) .nil (.call "is_state" (.val (.idx (.var 0) (.lit (.int 0))) (.val (.bi .len (.cons (.idx (.var 0) (.lit (.int 2))) .nil)) (.val (.var 1) .nil)))))) .nil)))
  .nil)))⟩
@[simp] theorem isi_int_non  : isiTy "int" .non = some false := rfl
@[simp] theorem isi_int_bl {b : Bool} : isiTy "int" (.bl b) = some true := rfl
@[simp] theorem isi_int_int {i : Int} : isiTy "int" (.int i) = some true := rfl
@[simp] theorem isi_int_str {s : Txt} : isiTy "int" (.str s) = some false := rfl
@[simp] theorem isi_int_tup {xs : List D} : isiTy "int" (.tup xs) = some false := rfl
@[simp] theorem isi_int_lst {xs : List D} : isiTy "int" (.lst xs) = some false := rfl
@[simp] theorem isi_int_dct {t : Bool} {ks vs : List D} : isiTy "int" (.dct t ks vs) = some false := rfl
@[simp] theorem isi_bool_non  : isiTy "bool" .non = some false := rfl
@[simp] theorem isi_bool_bl {b : Bool} : isiTy "bool" (.bl b) = some true := rfl
@[simp] theorem isi_bool_int {i : Int} : isiTy "bool" (.int i) = some false := rfl
@[simp] theorem isi_bool_str {s : Txt} : isiTy "bool" (.str s) = some false := rfl
@[simp] theorem isi_bool_tup {xs : List D} : isiTy "bool" (.tup xs) = some false := rfl
@[simp] theorem isi_bool_lst {xs : List D} : isiTy "bool" (.lst xs) = some false := rfl
@[simp] theorem isi_bool_dct {t : Bool} {ks vs : List D} : isiTy "bool" (.dct t ks vs) = some false := rfl
@[simp] theorem isi_str_non  : isiTy "str" .non = some false := rfl
@[simp] theorem isi_str_bl {b : Bool} : isiTy "str" (.bl b) = some false := rfl
@[simp] theorem isi_str_int {i : Int} : isiTy "str" (.int i) = some false := rfl
@[simp] theorem isi_str_str {s : Txt} : isiTy "str" (.str s) = some true := rfl
@[simp] theorem isi_str_tup {xs : List D} : isiTy "str" (.tup xs) = some false := rfl
@[simp] theorem isi_str_lst {xs : List D} : isiTy "str" (.lst xs) = some false := rfl
@[simp] theorem isi_str_dct {t : Bool} {ks vs : List D} : isiTy "str" (.dct t ks vs) = some false := rfl
@[simp] theorem isi_tuple_non  : isiTy "tuple" .non = some false := rfl
@[simp] theorem isi_tuple_bl {b : Bool} : isiTy "tuple" (.bl b) = some false := rfl
@[simp] theorem isi_tuple_int {i : Int} : isiTy "tuple" (.int i) = some false := rfl
@[simp] theorem isi_tuple_str {s : Txt} : isiTy "tuple" (.str s) = some false := rfl
@[simp] theorem isi_tuple_tup {xs : List D} : isiTy "tuple" (.tup xs) = some true := rfl
@[simp] theorem isi_tuple_lst {xs : List D} : isiTy "tuple" (.lst xs) = some false := rfl
@[simp] theorem isi_tuple_dct {t : Bool} {ks vs : List D} : isiTy "tuple" (.dct t ks vs) = some false := rfl
@[simp] theorem isi_list_non  : isiTy "list" .non = some false := rfl
@[simp] theorem isi_list_bl {b : Bool} : isiTy "list" (.bl b) = some false := rfl
@[simp] theorem isi_list_int {i : Int} : isiTy "list" (.int i) = some false := rfl
@[simp] theorem isi_list_str {s : Txt} : isiTy "list" (.str s) = some false := rfl
@[simp] theorem isi_list_tup {xs : List D} : isiTy "list" (.tup xs) = some false := rfl
@[simp] theorem isi_list_lst {xs : List D} : isiTy "list" (.lst xs) = some true := rfl
@[simp] theorem isi_list_dct {t : Bool} {ks vs : List D} : isiTy "list" (.dct t ks vs) = some false := rfl
@[simp] theorem isi_dict_non  : isiTy "dict" .non = some false := rfl
@[simp] theorem isi_dict_bl {b : Bool} : isiTy "dict" (.bl b) = some false := rfl
@[simp] theorem isi_dict_int {i : Int} : isiTy "dict" (.int i) = some false := rfl
@[simp] theorem isi_dict_str {s : Txt} : isiTy "dict" (.str s) = some false := rfl
@[simp] theorem isi_dict_tup {xs : List D} : isiTy "dict" (.tup xs) = some false := rfl
@[simp] theorem isi_dict_lst {xs : List D} : isiTy "dict" (.lst xs) = some false := rfl
@[simp] theorem isi_dict_dct {t : Bool} {ks vs : List D} : isiTy "dict" (.dct t ks vs) = some true := rfl
@[simp] theorem op_is_bl {b : Bool} : op2 .isN (.bl b) .non = some (.bl false) := rfl
@[simp] theorem op_not_bl {b : Bool} : op2 .notN (.bl b) .non = some (.bl true) := rfl
@[simp] theorem op_is_lst {b : List D} : op2 .isN (.lst b) .non = some (.bl false) := rfl
@[simp] theorem op_not_lst {b : List D} : op2 .notN (.lst b) .non = some (.bl true) := rfl
@[simp] theorem op_is_dct {t : Bool} {a b : List D} : op2 .isN (.dct t a b) .non = some (.bl false) := rfl
@[simp] theorem op_not_dct {t : Bool} {a b : List D} : op2 .notN (.dct t a b) .non = some (.bl true) := rfl
@[simp] theorem truth_non : D.truth .non = some false := rfl
theorem pw_append {α : Type} {R : α → α → Prop} {a b : List α} : (a ++ b).Pairwise R ↔ a.Pairwise R ∧ b.Pairwise R ∧ ∀ x ∈ a, ∀ y ∈ b, R x y := List.pairwise_append

/-! ### what an expander is -/
def letters : Txt := [97, 98, 99, 100, 101, 102, 103, 104, 105, 106, 107, 108, 109, 110, 111, 112, 113, 114, 115, 116, 117, 118, 119, 120, 121, 122]
def isWord (cs : Txt) : D → Bool
  | .str w => w.all fun c => cs.contains c
  | _ => false
def isShort (cs : Txt) : D → Bool
  | .str w => (w.all fun c => cs.contains c) && decide (w.length ≤ 2000)
  | _ => false
def isInt : D → Bool
  | .int _ => true
  | _ => false
def isCount (m : Int) : D → Bool
  | .int i => decide (0 ≤ i) && decide (i < m)
  | _ => false
def isMove (cs : Txt) (m : Int) : D → Bool
  | .non => true
  | .tup [a, b, k] => isCount m k && (isShort cs a && isShort cs b)
  | _ => false
def isLast (cs : Txt) : D → Bool
  | .non => true
  | d => isShort cs d
def isState (cs : Txt) (m : Int) : D → Bool
  | .tup [.tup mvs, last] => decide (mvs.length = cs.length) && (isLast cs last && mvs.all (isMove cs m))
  | _ => false
def areSigns : D → Bool
  | .str cs => decide (1 ≤ cs.length) && (decide (cs.length ≤ 4) && ((cs.all fun c => letters.contains c) && decide (cs.Pairwise (· < ·))))
  | _ => false
def isExp : D → Bool
  | .tup [.str cs, f, .tup states] => areSigns (.str cs) && (isShort cs f && (decide (1 ≤ states.length) && (decide (states.length ≤ 60) && states.all (isState cs states.length))))
  | _ => false
/-- the things that are asked about: shown, not too large -/
structure Dt (d : D) : Prop where
  sh : d.shw = true
  bk : d.blk ≤ 2 ^ 20
theorem shws_mem : ∀ {xs : List D} {x : D}, D.shws xs = true → x ∈ xs → x.shw = true
  | [], _, _, h => by cases h
  | y :: xs, x, h, m => by
    simp only [D.shws, Bool.and_eq_true] at h
    rcases List.mem_cons.mp m with rfl | m
    · exact h.1
    · exact shws_mem h.2 m
theorem blks_mem : ∀ {xs : List D} {x : D}, x ∈ xs → x.blk ≤ D.blks xs
  | [], _, h => by cases h
  | y :: xs, x, m => by
    simp only [D.blks]
    rcases List.mem_cons.mp m with rfl | m
    · omega
    · have := blks_mem m
      omega
theorem blks_len : ∀ {xs : List D}, xs.length ≤ D.blks xs
  | [] => Nat.le_refl _
  | y :: xs => by
    have := blks_len (xs := xs)
    simp only [D.blks, List.length_cons]
    omega
theorem Dt.of_tup {xs : List D} (h : Dt (.tup xs)) {x : D} (m : x ∈ xs) : Dt x := ⟨shws_mem h.sh m, Nat.le_trans (blks_mem m) h.bk⟩
theorem Dt.len {xs : List D} (h : Dt (.tup xs)) : xs.length ≤ 2 ^ 20 := Nat.le_trans blks_len h.bk
theorem fitM {n : Nat} (h : n ≤ 2 ^ 20) : D.fit n = true := decide_eq_true (Nat.le_trans h (by decide))
theorem Dt.cases {p : D → Prop} (non : p .non) (bl : ∀ b, p (.bl b)) (int : ∀ i, p (.int i)) (str : ∀ w, p (.str w)) (tup : ∀ xs, p (.tup xs)) (lst : ∀ xs, p (.lst xs)) (dct : ∀ t ks vs, p (.dct t ks vs)) {d : D} (h : Dt d) : p d := by
  have := h.sh
  cases d <;> first | exact non | exact bl _ | exact int _ | exact str _ | exact tup _ | exact lst _ | exact dct _ _ _ | cases this
theorem Dt.still {d : D} (h : Dt d) : d.still = true := by
  have := h.sh
  cases d <;> first | rfl | cases this
theorem Dt.vw {d : D} (h : Dt d) {s : S} : vw d s = some d := by
  have := h.sh
  cases d <;> first | rfl | cases this
theorem Dt.isN {d : D} (h : Dt d) : op2 .isN d .non = some (.bl (match d with | .non => true | _ => false)) := by
  have := h.sh
  cases d <;> first | rfl | cases this
theorem Dt.notN {d : D} (h : Dt d) : op2 .notN d .non = some (.bl (match d with | .non => false | _ => true)) := by
  have := h.sh
  cases d <;> first | rfl | cases this

/-- the program's functions are there -/
structure Pg (P : Prog) : Prop where
  fi : P.fns "is_integer" = some fd_is_integer
  fb : P.fns "is_below" = some fd_is_below
  fw : P.fns "is_word" = some fd_is_word
  fs : P.fns "is_short" = some fd_is_short
  fa : P.fns "are_signs" = some fd_are_signs
  fm : P.fns "is_move" = some fd_is_move
  ft : P.fns "is_state" = some fd_is_state
  fe : P.fns "is_expander" = some fd_is_expander
  gw : P.glob "MAX_WORD" = some (.int 2000)
  gl : P.glob "LETTERS" = some (.str letters)
  gs : P.glob "MAX_SIGNS" = some (.int 4)
  gt : P.glob "MAX_STATES" = some (.int 60)
/-- what a def answers without a change -/
def Ans (m : FR) (st : List Ob) (d : D) : Prop := okF m fun x _ st' => x = .val d ∧ st' = st
theorem call_ans {Φ : Fns} {f : String} {avs : List AV} {args : List Arg} {s : S} {d : D} {Q : Arg → S → Prop} (hv : vals avs = some args) (h : Ans (Φ f args s.st) s.st d) (q : Q (.val d) s) : okR (callF Φ f avs s) Q :=
  okR_call hv (h.mono fun x o st' r => by
    obtain ⟨rfl, rfl⟩ := r
    exact q)
section
variable {P : Prog} {n : Nat} {st : List Ob} {cs : Txt} {m : Int}
theorem is_integer (h : Pg P) {d : D} (hd : Dt d) : Ans (fnAt P (n + 1) "is_integer" [.val d] st) st (.bl (isInt d)) := by
  refine okF_fn h.fi rfl ?_
  cases d <;> first | (cases hd.sh; done) | simp [fd_is_integer, isInt, List.replicate]
theorem is_below (h : Pg P) {d : D} (hd : Dt d) : Ans (fnAt P (n + 2) "is_below" [.val d, .val (.int m)] st) st (.bl (isCount m d)) := by
  refine okF_fn h.fb rfl ?_
  dsimp only [fd_is_below, List.replicate]
  simp [esc_still hd.still]
  refine call_ans rfl (is_integer h hd) ?_
  cases d <;> first | (cases hd.sh; done) | simp [isInt, isCount]
  by_cases h0 : 0 ≤ ‹Int› <;> simp [h0]
theorem bls_map {f : Nat → Bool} : ∀ {w : Txt}, D.bls (w.map fun c => .bl (f c)) = some (w.map f)
  | [] => rfl
  | c :: w => by simp [D.bls, bls_map]
theorem bls_mapD {f : D → Bool} : ∀ {w : List D}, D.bls (w.map fun c => .bl (f c)) = some (w.map f)
  | [] => rfl
  | c :: w => by simp [D.bls, bls_mapD]
theorem fm_str {f : D → Option D} {w : Txt} : (strItems w).filterMap f = w.filterMap fun c => f (.str [c]) := by
  simp [strItems, List.filterMap_map]
  rfl
theorem all_id {f : Nat → Bool} {w : Txt} : (w.map f).all id = w.all f := by simp [List.all_map]
theorem all_idD {f : D → Bool} {w : List D} : (w.map f).all id = w.all f := by simp [List.all_map]
theorem strItems_of {w : Txt} {x : D} (h : x ∈ strItems w) : ∃ c ∈ w, x = .str [c] := by
  obtain ⟨c, hc, rfl⟩ := List.mem_map.mp h
  exact ⟨c, hc, rfl⟩
theorem is_word (h : Pg P) {d : D} (hd : Dt d) : Ans (fnAt P (n + 1) "is_word" [.val (.str cs), .val d] st) st (.bl (isWord cs d)) := by
  refine okF_fn h.fw rfl ?_
  cases d <;> first | (cases hd.sh; done) | skip
  case str w =>
    have hl : w.length ≤ 2 ^ 20 := hd.bk
    simp -implicitDefEqProofs [fd_is_word, List.replicate]
    refine lc_map (f := fun x => match x with | .str [c] => some (.bl (cs.contains c)) | _ => none) (fun x hx => ?_) ?_
    · obtain ⟨c, hc, rfl⟩ := strItems_of hx
      simp -implicitDefEqProofs [lcStep]
    · rw [fm_str]
      have e : (w.filterMap fun c => some (D.bl (cs.contains c))) = w.map fun c => .bl (cs.contains c) := by simp
      simp -implicitDefEqProofs [fitM hl, bls_map, isWord]
  all_goals simp [fd_is_word, isWord, List.replicate]
theorem is_short (h : Pg P) {d : D} (hd : Dt d) : Ans (fnAt P (n + 2) "is_short" [.val (.str cs), .val d] st) st (.bl (isShort cs d)) := by
  refine okF_fn h.fs rfl ?_
  simp -implicitDefEqProofs [fd_is_short, List.replicate, esc_still hd.still]
  refine call_ans rfl (is_word h hd) ?_
  simp -implicitDefEqProofs [h.gw]
  cases d <;> first | (cases hd.sh; done) | skip
  case str w =>
    simp -implicitDefEqProofs [isWord, isShort]
    by_cases hw : ∀ x ∈ w, x ∈ cs
    · have e : (w.all fun c => decide (c ∈ cs)) = true := by simpa using hw
      rw [if_pos hw, e, Bool.true_and]
      exact decide_eq_decide.mpr (by omega)
    · rw [if_neg hw]
      exact fun h => (hw h).elim
  all_goals simp [isWord, isShort]
theorem is_move (h : Pg P) {d : D} (hd : Dt d) : Ans (fnAt P (n + 3) "is_move" [.val (.str cs), .val (.int m), .val d] st) st (.bl (isMove cs m d)) := by
  refine okF_fn h.fm rfl ?_
  dsimp only [fd_is_move, List.replicate]
  cases d <;> first | (cases hd.sh; done) | skip
  case tup xs =>
    by_cases hl : xs.length = 3
    · match xs, hl with
      | [a, b, k], _ =>
        have ha : Dt a := hd.of_tup (by simp)
        have hb : Dt b := hd.of_tup (by simp)
        have hk : Dt k := hd.of_tup (by simp)
        simp -implicitDefEqProofs [List.replicate, ixN, esc_still ha.still, esc_still hb.still, esc_still hk.still]
        refine call_ans rfl (is_below h hk) ?_
        simp -implicitDefEqProofs
        by_cases hc : isCount m k = true
        · simp -implicitDefEqProofs [hc, ixN, esc_still ha.still, esc_still hb.still]
          refine call_ans rfl (is_short h ha) ?_
          simp -implicitDefEqProofs
          by_cases hs : isShort cs a = true
          · simp -implicitDefEqProofs [hs, ixN, esc_still hb.still]
            refine call_ans rfl (is_short h hb) ?_
            simp -implicitDefEqProofs [isMove, hc, hs]
          · simp -implicitDefEqProofs [hs, isMove]
        · simp -implicitDefEqProofs [hc, isMove]
    · have hne : isMove cs m (.tup xs) = false := by
        unfold isMove
        split <;> simp_all
      have : ¬((xs.length : Int) = 3) := by omega
      simp -implicitDefEqProofs [List.replicate, this, hne]
  all_goals simp [isMove, List.replicate]
theorem is_state (h : Pg P) {d : D} (hd : Dt d) : Ans (fnAt P (n + 4) "is_state" [.val (.str cs), .val (.int m), .val d] st) st (.bl (isState cs m d)) := by
  refine okF_fn h.ft rfl ?_
  dsimp only [fd_is_state, List.replicate]
  cases d <;> first | (cases hd.sh; done) | skip
  case tup xs =>
    by_cases hl : xs.length = 2
    · match xs, hl with
      | [a, b], _ =>
        have ha : Dt a := hd.of_tup (by simp)
        have hb : Dt b := hd.of_tup (by simp)
        cases a <;> first | (cases ha.sh; done) | skip
        case tup mvs _ =>
          by_cases hm : mvs.length = cs.length
          · have hm' : ((mvs.length : Int) = cs.length) := by omega
            by_cases hbn : b = .non
            · subst hbn
              simp -implicitDefEqProofs [ixN, hm']
              refine lc_map (f := fun x => some (.bl (isMove cs m x))) (fun x hx => ?_) ?_
              · have hx := ha.of_tup hx
                simp -implicitDefEqProofs [lcStep, esc_still hx.still]
                refine call_ans rfl (is_move h hx) ?_
                simp -implicitDefEqProofs
              · have := ha.len
                have this2 : cs.length ≤ 2 ^ 20 := hm ▸ this
                simp -implicitDefEqProofs [fitM this, fitM this2, bls_mapD, isState, hm, isLast]
            · have e1 : op2 .notN b .non = some (.bl true) := by cases b <;> first | rfl | (cases hb.sh; done) | exact absurd rfl hbn
              have e2 : isLast cs b = isShort cs b := by cases b <;> first | rfl | exact absurd rfl hbn
              simp -implicitDefEqProofs [ixN, hm', hb.vw, e1, esc_still hb.still]
              refine call_ans rfl (is_short h hb) ?_
              by_cases hs : isShort cs b = true
              · simp -implicitDefEqProofs [hs, ixN]
                refine lc_map (f := fun x => some (.bl (isMove cs m x))) (fun x hx => ?_) ?_
                · have hx := ha.of_tup hx
                  simp -implicitDefEqProofs [lcStep, esc_still hx.still]
                  refine call_ans rfl (is_move h hx) ?_
                  simp -implicitDefEqProofs
                · have := ha.len
                  have this2 : cs.length ≤ 2 ^ 20 := hm ▸ this
                  simp -implicitDefEqProofs [fitM this, fitM this2, bls_mapD, isState, hm, e2, hs]
              · simp -implicitDefEqProofs [hs, isState, e2]
          · have hm' : ¬((mvs.length : Int) = cs.length) := by omega
            simp -implicitDefEqProofs [isState, ixN, hm, hm']
        all_goals simp -implicitDefEqProofs [isState, ixN]
    · have hne : isState cs m (.tup xs) = false := by
        unfold isState
        split <;> simp_all
      have : ¬((xs.length : Int) = 2) := by omega
      simp -implicitDefEqProofs [List.replicate, this, hne]
  all_goals simp [isState, List.replicate]
theorem lt1 {a b : Nat} : ([a] < [b]) ↔ a < b := by simp [List.cons_lt_cons_iff]
theorem lt_sign {a b : Nat} : op2 .lt (.str [a]) (.str [b]) = some (.bl (decide (a < b))) := by
  rw [op_lt_str]
  congr 2
  simp [List.cons_lt_cons_iff]
theorem are_signs (h : Pg P) {d : D} (hd : Dt d) : Ans (fnAt P (n + 1) "are_signs" [.val d] st) st (.bl (areSigns d)) := by
  refine okF_fn h.fa rfl ?_
  dsimp only [fd_are_signs, List.replicate]
  cases d <;> first | (cases hd.sh; done) | skip
  case str cs =>
    by_cases h1 : 1 ≤ cs.length
    · by_cases h4 : cs.length ≤ 4
      · match cs, h1, h4 with
        | [a], _, _ =>
          simp -implicitDefEqProofs [h.gs, h.gl, lcLoop, lcStep, strItems, consO, D.bls, areSigns, cut, cutIx, zipD, zipped, lt1]
        | [a, b], _, _ =>
          simp -implicitDefEqProofs [h.gs, h.gl, lcLoop, lcStep, strItems, consO, D.bls, areSigns, cut, cutIx, zipD, zipped, lt1]
          by_cases ha : a ∈ letters
          rotate_left
          · simp [ha]
          by_cases hb : b ∈ letters
          rotate_left
          · simp [hb]
          simp [ha, hb]
        | [a, b, c], _, _ =>
          simp -implicitDefEqProofs [h.gs, h.gl, lcLoop, lcStep, strItems, consO, D.bls, areSigns, cut, cutIx, zipD, zipped, lt1]
          by_cases ha : a ∈ letters
          rotate_left
          · simp [ha]
          by_cases hb : b ∈ letters
          rotate_left
          · simp [hb]
          by_cases hc : c ∈ letters
          rotate_left
          · simp [hc]
          simp [ha, hb, hc]
          rw [Bool.eq_iff_iff]
          simp
          omega
        | [a, b, c, d], _, _ =>
          simp -implicitDefEqProofs [h.gs, h.gl, lcLoop, lcStep, strItems, consO, D.bls, areSigns, cut, cutIx, zipD, zipped, lt1]
          by_cases ha : a ∈ letters
          rotate_left
          · simp [ha]
          by_cases hb : b ∈ letters
          rotate_left
          · simp [hb]
          by_cases hc : c ∈ letters
          rotate_left
          · simp [hc]
          by_cases hd : d ∈ letters
          rotate_left
          · simp [hd]
          simp [ha, hb, hc, hd]
          rw [Bool.eq_iff_iff]
          simp
          omega
      · have h4' : ¬((cs.length : Int) ≤ 4) := by omega
        simp -implicitDefEqProofs [h.gs, h4', h4, areSigns]
    · have h1' : ¬((1 : Int) ≤ cs.length) := by omega
      simp -implicitDefEqProofs [h1, h1', areSigns]
  all_goals simp [areSigns, List.replicate]
theorem isExp3 {a f b : D} : isExp (.tup [a, f, b]) = match a, b with
    | .str cs, .tup states => areSigns (.str cs) && (isShort cs f && (decide (1 ≤ states.length) && (decide (states.length ≤ 60) && states.all (isState cs states.length))))
    | _, _ => false := by
  cases a <;> cases b <;> rfl
theorem isExp_n {xs : List D} (h : ¬xs.length = 3) : isExp (.tup xs) = false := by
  unfold isExp
  split <;> simp_all
theorem is_expander (h : Pg P) {d : D} (hd : Dt d) : Ans (fnAt P (n + 5) "is_expander" [.val d] st) st (.bl (isExp d)) := by
  refine okF_fn h.fe rfl ?_
  dsimp only [fd_is_expander, List.replicate]
  cases d <;> first | (cases hd.sh; done) | skip
  case tup xs =>
    by_cases hl : xs.length = 3
    · match xs, hl with
      | [a, f, b], _ =>
        have ha : Dt a := hd.of_tup (by simp)
        have hf : Dt f := hd.of_tup (by simp)
        have hb : Dt b := hd.of_tup (by simp)
        rw [isExp3]
        cases a <;> first | (cases ha.sh; done) | skip
        case str cs _ =>
          simp -implicitDefEqProofs [List.replicate, ixN]
          refine call_ans rfl (are_signs h ha) ?_
          by_cases hs : areSigns (.str cs) = true
          · simp -implicitDefEqProofs [hs, ixN, esc_still hf.still]
            refine call_ans rfl (is_short h hf) ?_
            by_cases hw : isShort cs f = true
            · simp -implicitDefEqProofs [hw, ixN]
              cases b <;> first | (cases hb.sh; done) | skip
              case tup states _ =>
                by_cases h1 : 1 ≤ states.length
                · by_cases h6 : states.length ≤ 60
                  · have h1' : (1 : Int) ≤ states.length := by omega
                    have h6' : (states.length : Int) ≤ 60 := by omega
                    simp -implicitDefEqProofs [h.gt, h1', h6', ixN]
                    refine lc_map (f := fun x => some (.bl (isState cs states.length x))) (fun x hx => ?_) ?_
                    · have hx := hb.of_tup hx
                      simp -implicitDefEqProofs [lcStep, ixN, esc_still hx.still]
                      refine call_ans rfl (is_state h hx) ?_
                      simp -implicitDefEqProofs
                    · simp -implicitDefEqProofs [fitK (show states.length ≤ 100000 by omega), bls_mapD, h1, h6, hs, hw]
                  · have h6' : ¬((states.length : Int) ≤ 60) := by omega
                    have h1' : (1 : Int) ≤ states.length := by omega
                    simp -implicitDefEqProofs [h.gt, h1', h6', h6]
                · have h1' : ¬((1 : Int) ≤ states.length) := by omega
                  simp -implicitDefEqProofs [h1', h1]
              all_goals simp -implicitDefEqProofs
            · simp -implicitDefEqProofs [hw]
              cases b <;> simp [hw]
          · simp -implicitDefEqProofs [hs]
            cases b <;> simp [hs]
        all_goals
          simp -implicitDefEqProofs [List.replicate, ixN]
          refine call_ans rfl (are_signs h ha) ?_
          simp [areSigns]
    · have : ¬((xs.length : Int) = 3) := by omega
      simp -implicitDefEqProofs [List.replicate, this, isExp_n hl]
  all_goals simp [isExp, List.replicate]
end
end HL

/-! Hl6: the laws' own functions tell what an expander is, too. -/
namespace HL
open RS
def fd__law_is_short : Fd := ⟨2, ["signs", "thing", "sign"],
  (.cons (.ret (.and (.isi "str" (.var 1)) (.and (.op2 .lt (.bi .len (.cons (.var 1) .nil)) (.lit (.int 2001))) (.op2 .eq (.fr (.lc [2] (.nm 2) (.of (.var 1)) (.one (.of (.op2 .nmem (.var 2) (.var 0)))) (.lit (.int 1)))) (.fr (.lst .nil))))))
  .nil)⟩
def fd__law_is_count : Fd := ⟨2, ["thing", "bound"],
  (.cons (.ret (.and (.isi "int" (.var 0)) (.and (.not (.isi "bool" (.var 0))) (.chain .le .lt (.lit (.int 0)) (.var 0) (.var 1)))))
  .nil)⟩
def fd__law_is_move : Fd := ⟨3, ["signs", "many", "thing"],
  (.cons (.ite (.of (.op2 .isN (.var 2) (.lit .non)))
  (.cons (.ret (.lit (.bl true)))
  .nil)
  .nil)
  (.cons (.ite (.or (.not (.of (.isi "tuple" (.var 2)))) (.or (.of (.op2 .ne (.bi .len (.cons (.var 2) .nil)) (.lit (.int 3)))) (.not (.of (.call "_law_is_count" (.val (.idx (.var 2) (.lit (.int 2))) (.val (.var 1) .nil)))))))
  (.cons (.ret (.lit (.bl false)))
  .nil)
  .nil)
  (.cons (.ret (.and (.call "_law_is_short" (.val (.var 0) (.val (.idx (.var 2) (.lit (.int 0))) .nil))) (.call "_law_is_short" (.val (.var 0) (.val (.idx (.var 2) (.lit (.int 1))) .nil)))))
  .nil)))⟩
def fd__law_is_state : Fd := ⟨3, ["signs", "many", "thing", "move"],
  (.cons (.ite (.or (.not (.of (.isi "tuple" (.var 2)))) (.or (.of (.op2 .ne (.bi .len (.cons (.var 2) .nil)) (.lit (.int 2)))) (.not (.of (.isi "tuple" (.idx (.var 2) (.lit (.int 0))))))))
  (.cons (.ret (.lit (.bl false)))
  .nil)
  .nil)
  (.cons (.ite (.of (.op2 .ne (.bi .len (.cons (.idx (.var 2) (.lit (.int 0))) .nil)) (.bi .len (.cons (.var 0) .nil))))
  (.cons (.ret (.lit (.bl false)))
  .nil)
  .nil)
  (.cons (.ite (.and (.of (.op2 .notN (.idx (.var 2) (.lit (.int 1))) (.lit .non))) (.not (.of (.call "_law_is_short" (.val (.var 0) (.val (.idx (.var 2) (.lit (.int 1))) .nil))))))
  (.cons (.ret (.lit (.bl false)))
  .nil)
  .nil)
  (.cons (.ret (.op2 .eq (.fr (.lc [3] (.nm 3) (.of (.idx (.var 2) (.lit (.int 0)))) (.one (.not (.of (.call "_law_is_move" (.val (.var 0) (.val (.var 1) (.val (.var 3) .nil))))))) (.lit (.int 1)))) (.fr (.lst .nil))))
  .nil))))⟩
def fd__law_is_expander : Fd := ⟨1, ["thing", "letters", "signs", "states", "state", "sign"],
  (.cons (.ite (.or (.not (.of (.isi "tuple" (.var 0)))) (.or (.of (.op2 .ne (.bi .len (.cons (.var 0) .nil)) (.lit (.int 3)))) (.or (.not (.of (.isi "str" (.idx (.var 0) (.lit (.int 0)))))) (.not (.of (.chain .le .le (.lit (.int 1)) (.bi .len (.cons (.idx (.var 0) (.lit (.int 0))) .nil)) (.lit (.int 4))))))))
  (.cons (.ret (.lit (.bl false)))
  .nil)
  .nil)
  (.cons (.set (.t3 (.nm 1) (.nm 2) (.nm 3)) (.tup (.cons (.lit (.str [97, 98, 99, 100, 101, 102, 103, 104, 105, 106, 107, 108, 109, 110, 111, 112, 113, 114, 115, 116, 117, 118, 119, 120, 121, 122])) (.cons (.idx (.var 0) (.lit (.int 0))) (.cons (.idx (.var 0) (.lit (.int 2))) .nil)))))
  (.cons (.ite (.or (.of (.op2 .ne (.fr (.lc [5] (.nm 5) (.of (.var 2)) (.one (.of (.op2 .nmem (.var 5) (.var 1)))) (.lit (.int 1)))) (.fr (.lst .nil)))) (.of (.op2 .ne (.mt .join (.lit (.str [])) (.cons (.sset (.var 2)) .nil)) (.var 2))))
  (.cons (.ret (.lit (.bl false)))
  .nil)
  .nil)
  (.cons (.ite (.or (.not (.of (.call "_law_is_short" (.val (.var 2) (.val (.idx (.var 0) (.lit (.int 1))) .nil))))) (.or (.not (.of (.isi "tuple" (.var 3)))) (.not (.of (.chain .le .le (.lit (.int 1)) (.bi .len (.cons (.var 3) .nil)) (.lit (.int 60)))))))
  (.cons (.ret (.lit (.bl false)))
  .nil)
  .nil)
  (.cons (.ret (.op2 .eq (.fr (.lc [4] (.nm 4) (.of (.var 3)) (.one (.not (.of (.call "_law_is_state" (.val (.var 2) (.val (.bi .len (.cons (.var 3) .nil)) (.val (.var 4) .nil))))))) (.lit (.int 1)))) (.fr (.lst .nil))))
  .nil)))))⟩
def fd__law_spoilt : Fd := ⟨2, ["pot", "expander", "odd", "spot", "signs", "first", "states", "choice", "at", "some", "moves", "last", "state", "place", "move"],
  (.cons (.set (.t3 (.nm 4) (.nm 5) (.nm 6)) (.var 1))
  (.cons (.par [7, 8] (.cons (.call "_law_below" (.val (.var 0) (.val (.lit (.int 9)) .nil))) (.cons (.call "_law_below" (.val (.var 0) (.val (.bi .len (.cons (.var 6) .nil)) .nil))) .nil)))
  (.cons (.set (.nm 2) (.call "_law_pick" (.val (.var 0) (.val (.fr (.lst (.cons (.lit .non) (.cons (.lit (.int 0)) (.cons (.lit (.str [65])) (.cons (.lit (.str [97, 98, 32, 99])) (.cons (.fr (.lst (.cons (.lit (.str [97])) .nil))) (.cons (.tup (.cons (.lit (.str [97])) .nil)) (.cons (.lit (.bl true)) (.cons (.lit (.str [121])) (.cons (.op2 .mul (.lit (.str [97])) (.lit (.int 2001))) (.cons (.lit (.str [])) (.cons (.fr (.dct false)) .nil))))))))))))) .nil))))
  (.cons (.ite (.of (.op2 .eq (.var 7) (.lit (.int 0))))
  (.cons (.set (.nm 9) (.fr (.lst (.cons (.lit .non) (.cons (.slc (.var 1) .nil (.cons (.lit (.int 2)) .nil)) (.cons (.fr (.bf .list (.cons (.var 1) .nil))) (.cons (.op2 .add (.var 1) (.tup (.cons (.tup .nil) .nil))) (.cons (.var 6) (.cons (.fr (.dct false)) .nil)))))))))
  (.cons (.ret (.call "_law_pick" (.val (.var 0) (.val (.op2 .add (.var 9) (.fr (.lst (.cons (.tup (.cons (.var 4) (.cons (.var 5) (.cons (.fr (.bf .list (.cons (.var 6) .nil))) .nil)))) .nil)))) .nil))))
  .nil))
  .nil)
  (.cons (.ite (.of (.op2 .eq (.var 7) (.lit (.int 1))))
  (.cons (.set (.nm 9) (.fr (.lst (.cons (.op2 .add (.rev (.var 4)) (.lit (.str [97]))) (.cons (.lit (.str [97, 98, 99, 100, 101])) (.cons (.lit (.str [])) (.cons (.op2 .add (.var 4) (.var 4)) (.cons (.lit (.str [65, 66])) (.cons (.tup (.cons (.lit (.str [97])) (.cons (.lit (.str [98])) .nil))) (.cons (.lit .non) (.cons (.lit (.str [98, 97])) .nil)))))))))))
  (.cons (.ret (.tup (.cons (.call "_law_pick" (.val (.var 0) (.val (.var 9) .nil))) (.cons (.var 5) (.cons (.var 6) .nil)))))
  .nil))
  .nil)
  (.cons (.ite (.of (.op2 .eq (.var 7) (.lit (.int 2))))
  (.cons (.ret (.tup (.cons (.var 4) (.cons (.var 2) (.cons (.var 6) .nil)))))
  .nil)
  .nil)
  (.cons (.ite (.of (.op2 .eq (.var 7) (.lit (.int 3))))
  (.cons (.set (.nm 9) (.fr (.lst (.cons (.tup .nil) (.cons (.op2 .mul (.var 6) (.lit (.int 61))) (.cons (.op2 .add (.var 6) (.tup (.cons (.lit .non) .nil))) (.cons (.op2 .add (.op2 .add (.slc (.var 6) .nil (.cons (.var 8) .nil)) (.tup (.cons (.var 2) .nil))) (.slc (.var 6) (.cons (.var 8) .nil) .nil)) (.cons (.idx (.var 6) (.lit (.int 0))) .nil))))))))
  (.cons (.ret (.tup (.cons (.var 4) (.cons (.var 5) (.cons (.call "_law_pick" (.val (.var 0) (.val (.var 9) .nil))) .nil)))))
  .nil))
  .nil)
  (.cons (.set (.t2 (.nm 10) (.nm 11)) (.idx (.var 6) (.var 8)))
  (.cons (.set (.nm 3) (.call "_law_below" (.val (.var 0) (.val (.bi .len (.cons (.var 10) .nil)) .nil))))
  (.cons (.ite (.of (.op2 .eq (.var 7) (.lit (.int 4))))
  (.cons (.set (.nm 9) (.fr (.lst (.cons (.tup (.cons (.var 10) (.cons (.var 2) .nil))) (.cons (.tup (.cons (.fr (.bf .list (.cons (.var 10) .nil))) (.cons (.var 11) .nil))) (.cons (.tup (.cons (.slc (.var 10) (.cons (.lit (.int 1)) .nil) .nil) (.cons (.var 11) .nil))) (.cons (.tup (.cons (.op2 .add (.var 10) (.tup (.cons (.lit .non) .nil))) (.cons (.var 11) .nil))) (.cons (.tup (.cons (.var 10) .nil)) .nil))))))))
  (.cons (.set (.nm 12) (.call "_law_pick" (.val (.var 0) (.val (.op2 .add (.var 9) (.fr (.lst (.cons (.fr (.lst (.cons (.var 10) (.cons (.var 11) .nil)))) (.cons (.tup (.cons (.var 10) (.cons (.var 11) (.cons (.var 11) .nil)))) (.cons (.tup (.cons (.var 10) (.cons (.var 11) (.cons (.lit .non) .nil)))) .nil)))))) .nil))))
  .nil))
  (.cons (.ite (.or (.of (.op2 .eq (.var 7) (.lit (.int 5)))) (.of (.op2 .isN (.idx (.var 10) (.var 3)) (.lit .non))))
  (.cons (.set (.nm 12) (.tup (.cons (.op2 .add (.op2 .add (.slc (.var 10) .nil (.cons (.var 3) .nil)) (.tup (.cons (.call "_law_pick" (.val (.var 0) (.val (.fr (.lst (.cons (.var 2) (.cons (.tup (.cons (.lit (.str [])) (.cons (.lit (.str [])) (.cons (.bi .len (.cons (.var 6) .nil)) .nil)))) (.cons (.tup (.cons (.lit (.str [])) (.cons (.lit (.str [])) .nil))) .nil))))) .nil))) .nil))) (.slc (.var 10) (.cons (.op2 .add (.var 3) (.lit (.int 1))) .nil) .nil)) (.cons (.var 11) .nil))))
  .nil)
  (.cons (.parF [13] (.cons (.call "_law_below" (.val (.var 0) (.val (.lit (.int 3)) .nil))) .nil) 14 (.bf .list (.cons (.idx (.var 10) (.var 3)) .nil)))
  (.cons (.setIx (.var 14) (.var 13) (.call "_law_pick" (.val (.var 0) (.val (.fr (.lst (.cons (.var 2) (.cons (.var 2) (.cons (.bi .len (.cons (.var 6) .nil)) (.cons (.op2 .sub (.lit (.int 0)) (.lit (.int 1))) (.cons (.lit (.bl true)) (.cons (.lit (.str [48])) .nil)))))))) .nil))))
  (.cons (.set (.nm 9) (.fr (.lst (.cons (.bi .tuple (.cons (.var 14) .nil)) (.cons (.bi .tuple (.cons (.var 14) .nil)) (.cons (.fr (.bf .list (.cons (.idx (.var 10) (.var 3)) .nil))) (.cons (.op2 .add (.idx (.var 10) (.var 3)) (.tup (.cons (.lit (.int 0)) .nil))) (.cons (.op2 .add (.idx (.var 10) (.var 3)) (.tup (.cons (.lit (.str [])) .nil))) .nil))))))))
  (.cons (.set (.nm 12) (.tup (.cons (.op2 .add (.op2 .add (.slc (.var 10) .nil (.cons (.var 3) .nil)) (.tup (.cons (.call "_law_pick" (.val (.var 0) (.val (.var 9) .nil))) .nil))) (.slc (.var 10) (.cons (.op2 .add (.var 3) (.lit (.int 1))) .nil) .nil)) (.cons (.var 11) .nil))))
  .nil)))))
  .nil))
  (.cons (.ret (.tup (.cons (.var 4) (.cons (.var 5) (.cons (.op2 .add (.op2 .add (.slc (.var 6) .nil (.cons (.var 8) .nil)) (.tup (.cons (.var 12) .nil))) (.slc (.var 6) (.cons (.op2 .add (.var 8) (.lit (.int 1))) .nil) .nil)) .nil)))))
  .nil)))))))))))⟩
structure Lx (P : Prog) : Prop where
  is_ : P.fns "_law_is_short" = some fd__law_is_short
  ic : P.fns "_law_is_count" = some fd__law_is_count
  im : P.fns "_law_is_move" = some fd__law_is_move
  it : P.fns "_law_is_state" = some fd__law_is_state
  ie : P.fns "_law_is_expander" = some fd__law_is_expander
/-- what is not so, one by one -/
def ones (p : D → Bool) (xs : List D) : List D := xs.filterMap fun x => if p x then none else some (.int 1)
theorem ones_plains {p : D → Bool} : ∀ {xs : List D}, D.plains (ones p xs) = true
  | [] => rfl
  | x :: xs => by
    have := ones_plains (p := p) (xs := xs)
    unfold ones at this ⊢
    cases e : p x <;> simp [List.filterMap_cons, e, D.plains, D.plain, this]
theorem ones_empty {p : D → Bool} : ∀ {xs : List D}, (ones p xs).isEmpty = xs.all p
  | [] => rfl
  | x :: xs => by
    have := ones_empty (p := p) (xs := xs)
    unfold ones at this ⊢
    cases e : p x
    · simp [List.filterMap_cons, e]
    · simpa [List.filterMap_cons, e] using this
theorem ones_len {p : D → Bool} {xs : List D} : (ones p xs).length ≤ xs.length := List.length_filterMap_le _ _
def sgIn (cs : Txt) (x : D) : Bool := match x with
  | .str [c] => cs.contains c
  | _ => true
theorem sgIn_all {cs w : Txt} : (strItems w).all (sgIn cs) = w.all fun c => cs.contains c := by
  induction w with
  | nil => rfl
  | cons c w ih =>
    show (sgIn cs (.str [c]) && (strItems w).all (sgIn cs)) = _
    rw [ih]
    rfl
theorem strs_signs : ∀ {l : Txt}, D.strs (l.map fun c => .str [c]) = some (l.map fun c => [c])
  | [] => rfl
  | c :: l => by simp [D.strs, strs_signs (l := l)]
theorem join_signs : ∀ {l : Txt}, joinT [] (l.map fun c => [c]) = l
  | [] => rfl
  | [c] => rfl
  | c :: d :: l => by
    have := join_signs (l := d :: l)
    simp only [List.map_cons] at this ⊢
    simp [joinT, this]
theorem sum_signs : ∀ {l : Txt}, ((l.map fun c => [c]).map List.length).sum = l.length
  | [] => rfl
  | c :: l => by
    have := sum_signs (l := l)
    simp only [List.map_cons, List.sum_cons, this]
    simp
    omega
theorem join_sset {cs : Txt} (h : cs.length ≤ 60) : RS.mt .join (.str []) [.lst ((signSet cs).map fun c => .str [c])] = some (.str (signSet cs)) := by
  have hl := signSet_len (cs := cs)
  have hf : D.fit ((((signSet cs).map fun c => [c]).map List.length).sum + ((signSet cs).map fun c => [c]).length * ([] : Txt).length) = true := fitK (by rw [sum_signs]; simp; omega)
  simp only [RS.mt, strs_signs, Option.bind_some, hf, if_true, join_signs]
section
variable {P : Prog} {n : Nat} {st : List Ob} {cs : Txt} {m : Int}
theorem l_short (h : Lx P) {d : D} (hd : Dt d) : Ans (fnAt P (n + 1) "_law_is_short" [.val (.str cs), .val d] st) st (.bl (isShort cs d)) := by
  refine okF_fn h.is_ rfl ?_
  dsimp only [fd__law_is_short, List.replicate]
  cases d <;> first | (cases hd.sh; done) | skip
  case str w =>
    have hl : w.length ≤ 2 ^ 20 := hd.bk
    by_cases h2 : (w.length : Int) < 2001
    · simp -implicitDefEqProofs [h2, List.replicate]
      refine lc_map (f := fun x => if sgIn cs x then none else some (.int 1)) (fun x hx => ?_) ?_
      · obtain ⟨c, hc, rfl⟩ := strItems_of hx
        by_cases hm : c ∈ cs <;> simp -implicitDefEqProofs [lcStep, sgIn, hm]
      · have e : (List.filterMap (fun x => if sgIn cs x then none else some (.int 1)) (strItems w)) = ones (sgIn cs) (strItems w) := rfl
        have el : (ones (sgIn cs) (strItems w)).length ≤ 2 ^ 20 := Nat.le_trans ones_len (by simpa [strItems] using hl)
        have h3 : w.length ≤ 2000 := by omega
        rw [e]
        simp -implicitDefEqProofs [fitM el, op_eq_lnil ones_plains, ones_empty, sgIn_all, isShort, h3]
    · have h3 : ¬ w.length ≤ 2000 := by omega
      simp -implicitDefEqProofs [h2, h3, isShort, List.replicate]
  all_goals simp [isShort, List.replicate]
theorem l_count (h : Lx P) {d : D} (hd : Dt d) : Ans (fnAt P (n + 1) "_law_is_count" [.val d, .val (.int m)] st) st (.bl (isCount m d)) := by
  refine okF_fn h.ic rfl ?_
  dsimp only [fd__law_is_count, List.replicate]
  cases d <;> first | (cases hd.sh; done) | simp [isCount]
  by_cases h0 : 0 ≤ ‹Int› <;> simp [h0]
theorem l_move (h : Lx P) {d : D} (hd : Dt d) : Ans (fnAt P (n + 2) "_law_is_move" [.val (.str cs), .val (.int m), .val d] st) st (.bl (isMove cs m d)) := by
  refine okF_fn h.im rfl ?_
  dsimp only [fd__law_is_move, List.replicate]
  cases d <;> first | (cases hd.sh; done) | skip
  case tup xs =>
    by_cases hl : xs.length = 3
    · match xs, hl with
      | [a, b, k], _ =>
        have ha : Dt a := hd.of_tup (by simp)
        have hb : Dt b := hd.of_tup (by simp)
        have hk : Dt k := hd.of_tup (by simp)
        simp -implicitDefEqProofs [List.replicate, ixN, esc_still ha.still, esc_still hb.still, esc_still hk.still]
        refine call_ans rfl (l_count h hk) ?_
        simp -implicitDefEqProofs
        by_cases hc : isCount m k = true
        · simp -implicitDefEqProofs [hc, ixN, esc_still ha.still, esc_still hb.still]
          refine call_ans rfl (l_short h ha) ?_
          simp -implicitDefEqProofs
          by_cases hs : isShort cs a = true
          · simp -implicitDefEqProofs [hs, ixN, esc_still hb.still]
            refine call_ans rfl (l_short h hb) ?_
            simp -implicitDefEqProofs [isMove, hc, hs]
          · simp -implicitDefEqProofs [hs, isMove]
        · simp -implicitDefEqProofs [hc, isMove]
    · have hne : isMove cs m (.tup xs) = false := by
        unfold isMove
        split <;> simp_all
      have : ¬((xs.length : Int) = 3) := by omega
      simp -implicitDefEqProofs [List.replicate, this, hne]
  all_goals simp [isMove, List.replicate]
theorem l_state (h : Lx P) {d : D} (hd : Dt d) : Ans (fnAt P (n + 3) "_law_is_state" [.val (.str cs), .val (.int m), .val d] st) st (.bl (isState cs m d)) := by
  refine okF_fn h.it rfl ?_
  dsimp only [fd__law_is_state, List.replicate]
  cases d <;> first | (cases hd.sh; done) | skip
  case tup xs =>
    by_cases hl : xs.length = 2
    · match xs, hl with
      | [a, b], _ =>
        have ha : Dt a := hd.of_tup (by simp)
        have hb : Dt b := hd.of_tup (by simp)
        cases a <;> first | (cases ha.sh; done) | skip
        case tup mvs _ =>
          by_cases hm : mvs.length = cs.length
          · have hm' : ((mvs.length : Int) = cs.length) := by omega
            by_cases hbn : b = .non
            · subst hbn
              simp -implicitDefEqProofs [ixN, hm']
              refine lc_map (f := fun x => if isMove cs m x then none else some (.int 1)) (fun x hx => ?_) ?_
              · have hx := ha.of_tup hx
                simp -implicitDefEqProofs [lcStep, esc_still hx.still]
                refine call_ans rfl (l_move h hx) ?_
                by_cases hmm : isMove cs m x = true <;> simp -implicitDefEqProofs [hmm]
              · have e : (List.filterMap (fun x => if isMove cs m x then none else some (.int 1)) mvs) = ones (isMove cs m) mvs := rfl
                have el : (ones (isMove cs m) mvs).length ≤ 2 ^ 20 := Nat.le_trans ones_len ha.len
                rw [e]
                simp -implicitDefEqProofs [fitM el, op_eq_lnil ones_plains, ones_empty, isState, hm, isLast]
            · have e1 : op2 .notN b .non = some (.bl true) := by cases b <;> first | rfl | (cases hb.sh; done) | exact absurd rfl hbn
              have e2 : isLast cs b = isShort cs b := by cases b <;> first | rfl | exact absurd rfl hbn
              simp -implicitDefEqProofs [ixN, hm', hb.vw, e1, esc_still hb.still]
              refine call_ans rfl (l_short h hb) ?_
              by_cases hs : isShort cs b = true
              · simp -implicitDefEqProofs [hs, ixN]
                refine lc_map (f := fun x => if isMove cs m x then none else some (.int 1)) (fun x hx => ?_) ?_
                · have hx := ha.of_tup hx
                  simp -implicitDefEqProofs [lcStep, esc_still hx.still]
                  refine call_ans rfl (l_move h hx) ?_
                  by_cases hmm : isMove cs m x = true <;> simp -implicitDefEqProofs [hmm]
                · have e : (List.filterMap (fun x => if isMove cs m x then none else some (.int 1)) mvs) = ones (isMove cs m) mvs := rfl
                  have el : (ones (isMove cs m) mvs).length ≤ 2 ^ 20 := Nat.le_trans ones_len ha.len
                  rw [e]
                  simp -implicitDefEqProofs [fitM el, op_eq_lnil ones_plains, ones_empty, isState, hm, e2, hs]
              · simp -implicitDefEqProofs [hs, isState, e2]
          · have hm' : ¬((mvs.length : Int) = cs.length) := by omega
            simp -implicitDefEqProofs [isState, ixN, hm, hm']
        all_goals simp -implicitDefEqProofs [isState, ixN]
    · have hne : isState cs m (.tup xs) = false := by
        unfold isState
        split <;> simp_all
      have : ¬((xs.length : Int) = 2) := by omega
      simp -implicitDefEqProofs [List.replicate, this, hne]
  all_goals simp [isState, List.replicate]
theorem lit_letters : ([97, 98, 99, 100, 101, 102, 103, 104, 105, 106, 107, 108, 109, 110, 111, 112, 113, 114, 115, 116, 117, 118, 119, 120, 121, 122] : List Nat) = letters := rfl
theorem l_expander (h : Lx P) {d : D} (hd : Dt d) : Ans (fnAt P (n + 4) "_law_is_expander" [.val d] st) st (.bl (isExp d)) := by
  refine okF_fn h.ie rfl ?_
  dsimp only [fd__law_is_expander, List.replicate]
  rw [lit_letters]
  cases d <;> first | (cases hd.sh; done) | skip
  case tup xs =>
    by_cases hl : xs.length = 3
    · match xs, hl with
      | [a, f, b], _ =>
        have ha : Dt a := hd.of_tup (by simp)
        have hf : Dt f := hd.of_tup (by simp)
        have hb : Dt b := hd.of_tup (by simp)
        rw [isExp3]
        cases a <;> first | (cases ha.sh; done) | skip
        case str cs _ =>
          by_cases h1 : 1 ≤ cs.length
          · have h1' : (1 : Int) ≤ cs.length := by omega
            by_cases h4 : cs.length ≤ 4
            · have h4' : (cs.length : Int) ≤ 4 := by omega
              simp -implicitDefEqProofs [List.replicate, ixN, h1', h4', esc_still hb.still]
              refine lc_map (f := fun x => if sgIn letters x then none else some (.int 1)) (fun x hx => ?_) ?_
              · obtain ⟨c, hc, rfl⟩ := strItems_of hx
                by_cases hm : c ∈ letters <;> simp -implicitDefEqProofs [lcStep, sgIn, hm]
              · have e : (List.filterMap (fun x => if sgIn letters x then none else some (.int 1)) (strItems cs)) = ones (sgIn letters) (strItems cs) := rfl
                have el : (ones (sgIn letters) (strItems cs)).length ≤ 2 ^ 20 := Nat.le_trans ones_len (by simp [strItems]; omega)
                rw [e]
                have e60 : cs.length ≤ 60 := by omega
                simp -implicitDefEqProofs [fitM el, op_ne_lnil ones_plains, ones_empty, sgIn_all, ssetD, e60, isStrD, join_sset e60, signSet_eq, esc_still hf.still]
                by_cases hL : ∃ x, x ∈ cs ∧ ¬x ∈ letters
                · have hs : areSigns (.str cs) = false := by
                    obtain ⟨x, a1, a2⟩ := hL
                    have : (cs.all fun c => letters.contains c) = false := by
                      rw [List.all_eq_false]
                      exact ⟨x, a1, by simpa using a2⟩
                    simp only [areSigns, this, Bool.false_and, Bool.and_false]
                  rw [if_pos hL]
                  cases b <;> simp [hs]
                · rw [if_neg hL]
                  by_cases hP : cs.Pairwise (· < ·)
                  · rw [if_pos hP]
                    have hs : areSigns (.str cs) = true := by
                      have : (cs.all fun c => letters.contains c) = true := by
                        rw [List.all_eq_true]
                        intro x hx
                        simp only [List.contains_iff_mem]
                        exact Decidable.byContradiction fun h => hL ⟨x, hx, h⟩
                      simp only [areSigns, this, h1, h4, hP, decide_true, Bool.and_true]
                    simp -implicitDefEqProofs [ixN, esc_still hf.still]
                    refine call_ans rfl (l_short h hf) ?_
                    by_cases hw : isShort cs f = true
                    · simp -implicitDefEqProofs [hw, ixN]
                      cases b <;> first | (cases hb.sh; done) | skip
                      case tup states _ =>
                        by_cases h1 : 1 ≤ states.length
                        · by_cases h6 : states.length ≤ 60
                          · have h1' : (1 : Int) ≤ states.length := by omega
                            have h6' : (states.length : Int) ≤ 60 := by omega
                            simp -implicitDefEqProofs [h1', h6', ixN]
                            refine lc_map (f := fun x => if isState cs states.length x then none else some (.int 1)) (fun x hx => ?_) ?_
                            · have hx := hb.of_tup hx
                              simp -implicitDefEqProofs [lcStep, ixN, esc_still hx.still]
                              refine call_ans rfl (l_state h hx) ?_
                              by_cases hmm : isState cs states.length x = true <;> simp -implicitDefEqProofs [hmm]
                            · have e : (List.filterMap (fun x => if isState cs states.length x then none else some (.int 1)) states) = ones (isState cs states.length) states := rfl
                              have el : (ones (isState cs states.length) states).length ≤ 2 ^ 20 := Nat.le_trans ones_len hb.len
                              rw [e]
                              simp -implicitDefEqProofs [fitM el, op_eq_lnil ones_plains, ones_empty, h1, h6, hs, hw]
                          · have h6' : ¬((states.length : Int) ≤ 60) := by omega
                            have h1' : (1 : Int) ≤ states.length := by omega
                            simp -implicitDefEqProofs [h1', h6', h6]
                        · have h1' : ¬((1 : Int) ≤ states.length) := by omega
                          simp -implicitDefEqProofs [h1', h1]
                      all_goals simp -implicitDefEqProofs
                    · simp -implicitDefEqProofs [hw]
                      cases b <;> simp [hw]
                  · rw [if_neg hP]
                    have hs : areSigns (.str cs) = false := by
                      simp only [areSigns, hP, decide_false, Bool.and_false]
                    cases b <;> simp [hs]
            · have h4' : ¬((cs.length : Int) ≤ 4) := by omega
              simp -implicitDefEqProofs [List.replicate, ixN, h1', h4', areSigns, h4]
              cases b <;> simp [h4]
          · have h1' : ¬((1 : Int) ≤ cs.length) := by omega
            simp -implicitDefEqProofs [List.replicate, ixN, h1', areSigns, h1]
            cases b <;> simp [h1]
        all_goals simp -implicitDefEqProofs [List.replicate, ixN]
    · have : ¬((xs.length : Int) = 3) := by omega
      simp -implicitDefEqProofs [List.replicate, this, isExp_n hl]
  all_goals simp [isExp, List.replicate]
end
end HL

/-! Hl7: what can be shown; a spoilt expander. -/
namespace HL
open RS
/-- shown, of a size, a depth; without dicts or without lists -/
structure Rp (q : Bool) (n k : Nat) (d : D) : Prop where
  sh : d.shw = true
  bk : d.blk ≤ n
  dp : d.dep ≤ k
  fm : (if q then d.noD else d.noL) = true
def Rpl (q : Bool) (n k : Nat) (xs : List D) : Prop := ∀ x ∈ xs, Rp q n k x
section
variable {q : Bool} {n k n' k' L : Nat} {d : D} {xs ys : List D}
theorem Rp.mono (h : Rp q n k d) (h1 : n ≤ n') (h2 : k ≤ k') : Rp q n' k' d := ⟨h.sh, Nat.le_trans h.bk h1, Nat.le_trans h.dp h2, h.fm⟩
theorem Rpl.mono (h : Rpl q n k xs) (h1 : n ≤ n') (h2 : k ≤ k') : Rpl q n' k' xs := fun x m => (h x m).mono h1 h2
theorem Rp.non : Rp q n k .non := ⟨rfl, Nat.zero_le _, Nat.zero_le _, by cases q <;> rfl⟩
theorem Rp.bl {b : Bool} : Rp q n k (.bl b) := ⟨rfl, Nat.zero_le _, Nat.zero_le _, by cases q <;> rfl⟩
theorem Rp.int {i : Int} (h : i.natAbs < 1000000) : Rp q n k (.int i) := ⟨decide_eq_true (Nat.lt_of_lt_of_le h (by decide)), Nat.zero_le _, Nat.zero_le _, by cases q <;> rfl⟩
theorem Rp.str {w : Txt} (h : ∀ c ∈ w, c < 128) (hl : w.length ≤ n) : Rp q n k (.str w) := ⟨by
  simp only [D.shw, List.all_eq_true, decide_eq_true_eq]
  exact fun c hc => Nat.lt_of_lt_of_le (h c hc) (by decide), hl, Nat.zero_le _, by cases q <;> rfl⟩
theorem Rp.dct0 {t : Bool} : Rp false n k (.dct t [] []) := ⟨rfl, Nat.zero_le _, Nat.zero_le _, rfl⟩
theorem Rpl.facts : ∀ {xs : List D}, Rpl q n k xs → D.shws xs = true ∧ D.blks xs ≤ xs.length * (n + 1) ∧ D.deps xs ≤ k ∧ (if q then D.noDs xs else D.noLs xs) = true
  | [], _ => ⟨rfl, Nat.zero_le _, Nat.zero_le _, by cases q <;> rfl⟩
  | x :: xs, h => by
    obtain ⟨a, b, c, d⟩ := Rpl.facts (xs := xs) fun y hy => h y (List.mem_cons_of_mem _ hy)
    have hx := h x (List.mem_cons_self ..)
    refine ⟨by simp [D.shws, hx.sh, a], ?_, Nat.max_le.mpr ⟨hx.dp, c⟩, ?_⟩
    · simp only [D.blks, List.length_cons, Nat.succ_mul]
      have := hx.bk
      omega
    · have := hx.fm
      cases q <;> simp_all [D.noDs, D.noLs]
theorem Rp.tup (h : Rpl q n k xs) (hl : xs.length ≤ L) : Rp q (L * (n + 1)) (k + 1) (.tup xs) := by
  obtain ⟨a, b, c, d⟩ := h.facts
  exact ⟨a, Nat.le_trans b (Nat.mul_le_mul_right _ hl), Nat.succ_le_succ c, by cases q <;> exact d⟩
theorem Rp.lst (h : Rpl true n k xs) (hl : xs.length ≤ L) : Rp true (L * (n + 1)) (k + 1) (.lst xs) := by
  obtain ⟨a, b, c, d⟩ := h.facts
  exact ⟨a, Nat.le_trans b (Nat.mul_le_mul_right _ hl), Nat.succ_le_succ c, d⟩
theorem Rpl.nil : Rpl q n k [] := fun x h => (by cases h)
theorem Rpl.cons (h : Rp q n k d) (r : Rpl q n k xs) : Rpl q n k (d :: xs) := fun x m => by
  rcases List.mem_cons.mp m with rfl | m
  · exact h
  · exact r x m
theorem Rpl.app (h : Rpl q n k xs) (r : Rpl q n k ys) : Rpl q n k (xs ++ ys) := fun x m => by
  rcases List.mem_append.mp m with m | m
  · exact h x m
  · exact r x m
theorem Rpl.cut {lo hi : Option Int} (h : Rpl q n k xs) : Rpl q n k (RS.cut xs lo hi) := fun x m => h x (mem_cut m)
theorem cut_len {α : Type} {xs : List α} {lo hi : Option Int} : (RS.cut xs lo hi).length ≤ xs.length := by
  unfold RS.cut
  simp
  omega
theorem Rpl.set {i : Nat} (h : Rpl q n k xs) (hd : Rp q n k d) : Rpl q n k (xs.set i d) := fun x m => by
  rcases List.mem_or_eq_of_mem_set m with m | rfl
  · exact h x m
  · exact hd
theorem Rpl.reps {m : Nat} (h : Rpl q n k xs) : Rpl q n k (RS.reps m xs) := fun x hx => by
  unfold RS.reps at hx
  obtain ⟨ys, h1, h2⟩ := List.mem_flatten.mp hx
  rw [List.mem_replicate] at h1
  exact h x (h1.2 ▸ h2)
theorem reps_len {α : Type} {m : Nat} {xs : List α} : (RS.reps m xs).length = m * xs.length := by
  unfold RS.reps
  simp [List.length_flatten]
theorem reps_mem {α : Type} {m : Nat} {xs : List α} {x : α} (h : x ∈ RS.reps m xs) : x ∈ xs := by
  unfold RS.reps at h
  obtain ⟨ys, h1, h2⟩ := List.mem_flatten.mp h
  rw [List.mem_replicate] at h1
  exact h1.2 ▸ h2
theorem Rp.shows (h : Rp q 1000000 20 d) : ∃ t, reprD d = some t := by
  refine ⟨_, if_pos ?_⟩
  have h1 : d.blk ≤ 2 ^ 20 := Nat.le_trans h.bk (by decide)
  have h2 : d.dep ≤ 60 := Nat.le_trans h.dp (by decide)
  have h3 : (d.noD || d.noL) = true := by
    have := h.fm
    cases q <;> simp_all
  rw [h3, h.sh, decide_eq_true h1, decide_eq_true h2]
  rfl
theorem Rp.dt (h : Rp q 1000000 20 d) : Dt d := ⟨h.sh, Nat.le_trans h.bk (by decide)⟩
theorem Rp.still (h : Rp q n k d) : d.still = true := by
  have := h.sh
  cases d <;> first | rfl | cases this
end
/-- shown, without dicts or without lists -/
def Rq (n k : Nat) (d : D) : Prop := ∃ q, Rp q n k d
theorem Rq.still {n k : Nat} {d : D} (h : Rq n k d) : d.still = true := by
  obtain ⟨q, h⟩ := h
  exact h.still
section
variable {q : Bool} {cs : Txt} {m : Nat} {d : D}
theorem Sg.rp (h : Sg cs) : Rp q 4 0 (.str cs) := .str h.lt h.le
theorem Wd.rp {k : Nat} (hs : Sg cs) (h : Wd cs k d) : Rp q k 0 d := by
  obtain ⟨w, rfl, a, b⟩ := h
  exact .str (fun c hc => hs.lt c (b c hc)) a
theorem Mv.rp (hs : Sg cs) (hm : m ≤ 60) (h : Mv cs m d) : Rp q 12 1 d := by
  rcases h with rfl | ⟨a, b, k, rfl, h1, h2, h3, h4, h5, h6⟩
  · exact .non
  · exact Rp.tup (L := 3) (n := 3) (k := 0) (.cons (.str (fun c hc => hs.lt c (h3 c hc)) h1) (.cons (.str (fun c hc => hs.lt c (h4 c hc)) h2) (.cons (.int (by omega)) .nil))) (by simp)
theorem Lw.rp (hs : Sg cs) (h : Lw cs d) : Rp q 3 0 d := by
  rcases h with rfl | h
  · exact .non
  · exact h.rp hs
theorem St.rp (hs : Sg cs) (hm : m ≤ 60) (h : St cs m d) : Rp q 106 3 d := by
  obtain ⟨mvs, last, rfl, h1, h2, h3⟩ := h
  have hl := hs.le
  exact Rp.tup (L := 2) (n := 52) (k := 2) (.cons (Rp.tup (L := 4) (n := 12) (k := 1) (fun x hx => (h2 x hx).rp hs hm) (by omega)) (.cons ((h3.rp hs).mono (by decide) (by decide)) .nil)) (by simp)
end
/-! a row of 2001 signs -/
theorem op_mul_str {w : Txt} {j : Int} (h0 : 0 ≤ j) (h1 : j ≤ 16777216) (h2 : w.length * j.toNat ≤ 16777216) : op2 .mul (.str w) (.int j) = some (.str (reps j.toNat w)) := by
  show (if decide (0 ≤ j) && decide (j ≤ 16777216) && D.fit (w.length * j.toNat) then some (D.str (reps j.toNat w)) else none) = _
  rw [if_pos]
  simp only [h0, h1, decide_true, Bool.true_and]
  exact decide_eq_true h2
theorem op_mul_tup {w : List D} {j : Int} (h0 : 1 ≤ j) (h1 : j ≤ 16777216) (h2 : w.length * j.toNat ≤ 16777216) : op2 .mul (.tup w) (.int j) = some (.tup (reps j.toNat w)) := by
  show (if decide (1 ≤ j) && decide (j ≤ 16777216) && D.fit (w.length * j.toNat) then some (D.tup (reps j.toNat w)) else none) = _
  rw [if_pos]
  simp only [h0, h1, decide_true, Bool.true_and]
  exact decide_eq_true h2
@[irreducible] def aa : Txt := reps 2001 [97]
theorem mul_aa : op2 .mul (.str [97]) (.int 2001) = some (.str aa) := by
  rw [op_mul_str (by decide) (by decide) (by decide)]
  unfold aa
  rfl
theorem aa_len : aa.length ≤ 2001 := by
  unfold aa
  rw [reps_len]
  decide
theorem aa_lt : ∀ c ∈ aa, c < 128 := fun c hc => by
  unfold aa at hc
  have := reps_mem hc
  simp at this
  omega
/-- the rest is not met -/
theorem ite_ret {Φ : Fns} {G : String → Option D} {s : S} {c : Tst} {a b r : Sq} {Q : Fl → S → Prop} (h : okR (evT Φ G c s) fun t s' => t = true ∧ s' = s) (k : okR (evQ Φ G a s) fun fl s => ∃ x, fl = .ret x ∧ Q (.ret x) s) : okR (evQ Φ G (.cons (.ite c a b) r) s) Q := by
  rw [wQ_cons, wS_ite]
  refine h.mono fun t s' e => ?_
  obtain ⟨rfl, rfl⟩ := e
  rw [if_pos rfl]
  refine k.mono fun fl s e => ?_
  obtain ⟨x, rfl, e⟩ := e
  exact e
theorem ite_skip {Φ : Fns} {G : String → Option D} {s : S} {c : Tst} {a r : Sq} {Q : Fl → S → Prop} (h : okR (evT Φ G c s) fun t s' => t = false ∧ s' = s) (k : okR (evQ Φ G r s) Q) : okR (evQ Φ G (.cons (.ite c a .nil) r) s) Q := by
  rw [wQ_cons, wS_ite]
  refine h.mono fun t s' e => ?_
  obtain ⟨rfl, rfl⟩ := e
  rw [if_neg (by decide)]
  exact k
end HL

/-! Hl8: a spoilt expander. -/
namespace HL
open RS
section
variable {P : Prog} {n : Nat} {st : List Ob} {q : Bool}
theorem rp3 {a b c : D} (ha : Rp q 300365 10 a) (hb : Rp q 300365 10 b) (hc : Rp q 300365 10 c) : Rq 1000000 20 (.tup [a, b, c]) := ⟨q, (Rp.tup (L := 3) (.cons ha (.cons hb (.cons hc .nil))) (by simp)).mono (by decide) (by decide)⟩
theorem rpSs {xs : List D} (h : Rpl q 60072 9 xs) (hl : xs.length ≤ 5) : Rp q 300365 10 (.tup xs) := Rp.tup (L := 5) h hl
theorem rpSt {a b : D} (ha : Rp q 30035 8 a) (hb : Rp q 30035 8 b) : Rp q 60072 9 (.tup [a, b]) := Rp.tup (L := 2) (.cons ha (.cons hb .nil)) (by simp)
theorem rpMs {xs : List D} (h : Rpl q 6006 7 xs) (hl : xs.length ≤ 5) : Rp q 30035 8 (.tup xs) := Rp.tup (L := 5) h hl
theorem op_add_tup' {i j : List D} (h : i.length + j.length ≤ 100000) : op2 .add (.tup i) (.tup j) = some (.tup (i ++ j)) := op_add_tup (leK h)
theorem op_add_lst' {i j : List D} (h : i.length + j.length ≤ 100000) : op2 .add (.lst i) (.lst j) = some (.lst (i ++ j)) := op_add_lst (leK h)
theorem op_add_str' {i j : Txt} (h : i.length + j.length ≤ 100000) : op2 .add (.str i) (.str j) = some (.str (i ++ j)) := op_add_str (leK h)
@[simp] theorem bf_list_tup {xs : List D} : bf .list [.tup xs] = some (.lst xs) := rfl
@[simp] theorem bf_list_lst {xs : List D} : bf .list [.lst xs] = some (.lst xs) := rfl
@[simp] theorem revD_str {cs : Txt} : revD (.str cs) = some (.str cs.reverse) := rfl
def odds : List D := [.non, .int 0, .str [65], .str [97, 98, 32, 99], .lst [.str [97]], .tup [.str [97]], .bl true, .str [121], .str aa, .str [], .dct false [] []]
theorem odds_rq {d : D} (h : d ∈ odds) : Rq 2001 1 d := by
  simp only [odds, List.mem_cons, List.not_mem_nil, or_false] at h
  rcases h with rfl | rfl | rfl | rfl | rfl | rfl | rfl | rfl | rfl | rfl | rfl
  · exact ⟨true, .non⟩
  · exact ⟨true, .int (by decide)⟩
  · exact ⟨true, .str (by simp) (by simp)⟩
  · exact ⟨true, .str (by simp) (by simp)⟩
  · exact ⟨true, (Rp.lst (L := 1) (n := 1) (k := 0) (.cons (.str (by simp) (by simp)) .nil) (by simp)).mono (by decide) (by decide)⟩
  · exact ⟨true, (Rp.tup (L := 1) (n := 1) (k := 0) (.cons (.str (by simp) (by simp)) .nil) (by simp)).mono (by decide) (by decide)⟩
  · exact ⟨true, .bl⟩
  · exact ⟨true, .str (by simp) (by simp)⟩
  · exact ⟨true, .str aa_lt aa_len⟩
  · exact ⟨true, .str (by simp) (by simp)⟩
  · exact ⟨false, .dct0⟩
theorem spoilt (h : Has P) (hsp : P.fns "_law_spoilt" = some fd__law_spoilt) {o : Ob} {r : List Ob} {cs : Txt} {first : D} {states : List D} (ho : Pot o) (hs : Sg cs) (hw : Wd cs 2 first) (hst : ∀ x ∈ states, St cs states.length x) (h1 : 1 ≤ states.length) (h4 : states.length ≤ 4) :
    okF (fnAt P (n + 4) "_law_spoilt" [.val (.ref 0), .val (.tup [.str cs, first, .tup states])] (o :: r)) fun x _ st' => (∃ d, x = .val d ∧ Rq 1000000 20 d) ∧ ∃ o', Pot o' ∧ st' = o' :: r := by
  obtain ⟨fw, rfl, f1, f2⟩ := hw
  have hcl := hs.le
  have hcs : ∀ q, Rp q 300365 10 (.str cs) := fun q => hs.rp.mono (by decide) (by decide)
  have hfw : ∀ q, Rp q 300365 10 (.str fw) := fun q => (Wd.rp hs ⟨fw, rfl, f1, f2⟩).mono (by decide) (by decide)
  have hss : ∀ q, Rpl q 60072 9 states := fun q x hx => ((hst x hx).rp hs (by omega)).mono (by decide) (by decide)
  have hts : ∀ q, Rp q 300365 10 (.tup states) := fun q => rpSs (hss q) (by omega)
  have hss4 : ∀ q, Rpl q 106 3 states := fun q x hx => (hst x hx).rp hs (by omega)
  have hts4 : ∀ q, Rp q 428 4 (.tup states) := fun q => Rp.tup (L := 4) (hss4 q) (by omega)
  have hcs4 : ∀ q, Rp q 428 4 (.str cs) := fun q => hs.rp.mono (by decide) (by decide)
  have hfw4 : ∀ q, Rp q 428 4 (.str fw) := fun q => (Wd.rp hs ⟨fw, rfl, f1, f2⟩).mono (by decide) (by decide)
  refine okF_fn hsp rfl ?_
  dsimp only [fd__law_spoilt, List.replicate]
  refine cutQ (fun s => ∃ o', s = ⟨[.val (.ref 0), .val (.tup [.str cs, .str fw, .tup states]), .un, .un, .val (.str cs), .val (.str fw), .val (.tup states), .un, .un, .un, .un, .un, .un, .un, .un], o' :: r⟩ ∧ Pot o') ?_ ?_
  · intro K kk
    simp -implicitDefEqProofs [List.replicate]
    exact kk _ ⟨_, rfl, ho⟩
  rintro s ⟨o', rfl, p⟩
  refine cutQ (fun s => ∃ o' ch at_, s = ⟨[.val (.ref 0), .val (.tup [.str cs, .str fw, .tup states]), .un, .un, .val (.str cs), .val (.str fw), .val (.tup states), .val (.int ch), .val (.int at_), .un, .un, .un, .un, .un, .un], o' :: r⟩ ∧ Pot o' ∧ 0 ≤ at_ ∧ at_ < states.length) ?_ ?_
  · intro K kk
    simp -implicitDefEqProofs 
    refine call_below h p (by decide) (by decide) fun ch o2 i0 i1 p2 => ?_
    simp -implicitDefEqProofs 
    refine call_below h p2 (by omega) (by omega) fun at_ o2 i0 i1 p2 => ?_
    simp -implicitDefEqProofs 
    exact kk _ ⟨_, ch, at_, rfl, p2, i0, i1⟩
  rintro s ⟨o', ch, at_, rfl, p, a0, a1⟩
  refine cutQ (fun s => ∃ o' odd, s = ⟨[.val (.ref 0), .val (.tup [.str cs, .str fw, .tup states]), .val odd, .un, .val (.str cs), .val (.str fw), .val (.tup states), .val (.int ch), .val (.int at_), .un, .un, .un, .un, .un, .un], o' :: r⟩ ∧ Pot o' ∧ Rq 2001 1 odd) ?_ ?_
  · intro K kk
    simp -implicitDefEqProofs [mul_aa]
    refine call_pick_lst h p (by simp) (by simp) (fun d hd => (odds_rq hd).still) fun d o2 hd p2 => ?_
    simp -implicitDefEqProofs [esc_still (odds_rq hd).still]
    exact kk _ ⟨_, d, rfl, p2, odds_rq hd⟩
  rintro s ⟨o', odd, rfl, p, hodd⟩
  have hos := hodd.still
  -- 0
  by_cases c0 : ch = 0
  · refine ite_ret (by simp [c0]) ?_
    simp -implicitDefEqProofs [cut, cutIx, op_add_tup']
    have key : ∀ d ∈ [D.non, .tup [.str cs, .str fw], .lst [.str cs, .str fw, .tup states], .tup [.str cs, .str fw, .tup states, .tup []], .tup states, .dct false [] [], .tup [.str cs, .str fw, .lst states]], Rq 1000000 20 d := by
      intro d hd
      simp only [List.mem_cons, List.not_mem_nil, or_false] at hd
      rcases hd with rfl | rfl | rfl | rfl | rfl | rfl | rfl
      · exact ⟨true, .non⟩
      · exact ⟨true, (Rp.tup (L := 2) (.cons (hcs _) (.cons (hfw _) .nil)) (by simp)).mono (by decide) (by decide)⟩
      · exact ⟨true, (Rp.lst (L := 3) (.cons (hcs _) (.cons (hfw _) (.cons (hts _) .nil))) (by simp)).mono (by decide) (by decide)⟩
      · exact ⟨true, (Rp.tup (L := 4) (n := 428) (k := 4) (.cons (hcs4 _) (.cons (hfw4 _) (.cons (hts4 _) (.cons (.mono (Rp.tup (L := 0) (n := 0) (k := 0) .nil (by simp)) (by decide) (by decide)) .nil)))) (by simp)).mono (by decide) (by decide)⟩
      · exact ⟨true, (hts _).mono (by decide) (by decide)⟩
      · exact ⟨false, .dct0⟩
      · exact rp3 (hcs true) (hfw _) (.lst (L := 5) (hss _) (by omega))
    refine call_pick_lst h p (by simp) (by simp) (fun d hd => (key d hd).still) fun d o2 hd p2 => ?_
    simp -implicitDefEqProofs [ret_still (key d hd).still]
    exact ⟨key d hd, p2⟩
  refine ite_skip (by simp [c0]) ?_
  -- 1
  by_cases c1 : ch = 1
  · refine ite_ret (by simp [c1]) ?_
    simp -implicitDefEqProofs [op_add_str' (show cs.reverse.length + [97].length ≤ 100000 by simp; omega), op_add_str' (show cs.length + cs.length ≤ 100000 by omega)]
    have key : ∀ d ∈ [D.str (cs.reverse ++ [97]), .str [97, 98, 99, 100, 101], .str [], .str (cs ++ cs), .str [65, 66], .tup [.str [97], .str [98]], .non, .str [98, 97]], Rp true 300365 10 d := by
      intro d hd
      simp only [List.mem_cons, List.not_mem_nil, or_false] at hd
      rcases hd with rfl | rfl | rfl | rfl | rfl | rfl | rfl | rfl
      · refine .str (fun c hc => ?_) (by simp; omega)
        rcases List.mem_append.mp hc with hc | hc
        · exact hs.lt c (List.mem_reverse.mp hc)
        · rw [List.mem_singleton.mp hc]; decide
      · exact .str (by simp) (by simp)
      · exact .str (by simp) (by simp)
      · refine .str (fun c hc => ?_) (by simp; omega)
        rcases List.mem_append.mp hc with hc | hc <;> exact hs.lt c hc
      · exact .str (by simp) (by simp)
      · exact (Rp.tup (L := 2) (n := 1) (k := 0) (.cons (.str (by simp) (by simp)) (.cons (.str (by simp) (by simp)) .nil)) (by simp)).mono (by decide) (by decide)
      · exact .non
      · exact .str (by simp) (by simp)
    refine call_pick_lst h p (by simp) (by simp) (fun d hd => (key d hd).still) fun d o2 hd p2 => ?_
    simp -implicitDefEqProofs [esc_still (key d hd).still]
    exact ⟨rp3 (key d hd) (hfw _) (hts _), p2⟩
  refine ite_skip (by simp [c1]) ?_
  -- 2
  by_cases c2 : ch = 2
  · refine ite_ret (by simp [c2]) ?_
    simp -implicitDefEqProofs [esc_still hos]
    obtain ⟨q, hq⟩ := hodd
    exact ⟨rp3 (hcs q) (hq.mono (by decide) (by decide)) (hts _), p⟩
  refine ite_skip (by simp [c2]) ?_
  have hat : at_.toNat < states.length := by omega
  have hstA := hst states[at_.toNat] (List.getElem_mem hat)
  -- 3
  by_cases c3 : ch = 3
  · refine ite_ret (by simp [c3]) ?_
    have hm : op2 .mul (.tup states) (.int 61) = some (.tup (reps 61 states)) := op_mul_tup (by decide) (by decide) (by show states.length * 61 ≤ 16777216; omega)
    have hlo := cut_len (xs := states) (lo := none) (hi := some at_)
    have hhi := cut_len (xs := states) (lo := some at_) (hi := none)
    have h0 : 0 < states.length := by omega
    have hm0 := List.getElem_mem h0
    have hg0 : states[0]? = some states[0] := List.getElem?_eq_getElem h0
    have hx0 : ixN states.length 0 = some 0 := by simp [ixN, h0]
    generalize states[0] = s0 at hm0 hg0
    have key : ∀ d ∈ [D.tup [], .tup (reps 61 states), .tup (states ++ [.non]), .tup (cut states none (some at_) ++ odd :: cut states (some at_) none), s0], ∃ q, Rp q 300365 10 d := by
      intro d hd
      simp only [List.mem_cons, List.not_mem_nil, or_false] at hd
      obtain ⟨q, hq⟩ := hodd
      rcases hd with rfl | rfl | rfl | rfl | rfl
      · exact ⟨true, (Rp.tup (L := 0) (n := 0) (k := 0) .nil (by simp)).mono (by decide) (by decide)⟩
      · exact ⟨true, (Rp.tup (L := 244) (hss4 _).reps (by rw [reps_len]; omega)).mono (by decide) (by decide)⟩
      · exact ⟨true, rpSs ((hss _).app (.cons .non .nil)) (by simp; omega)⟩
      · rw [List.append_cons]
        refine ⟨q, (Rp.tup (L := 9) (n := 2001) (k := 3) ((((hss4 q).cut.mono (by decide) (by decide)).app (.cons (hq.mono (by decide) (by decide)) .nil)).app ((hss4 q).cut.mono (by decide) (by decide))) (by simp only [List.length_append, List.length_cons, List.length_nil]; omega)).mono (by decide) (by decide)⟩
      · exact ⟨true, ((hss4 _) _ hm0).mono (by decide) (by decide)⟩
    have hs0 := ((hss4 true) _ hm0).still
    have e1 : op2 .add (.tup (cut states none (some at_))) (.tup [odd]) = some (.tup (cut states none (some at_) ++ [odd])) := op_add_tup' (by simp; omega)
    have e2 : op2 .add (.tup (cut states none (some at_) ++ [odd])) (.tup (cut states (some at_) none)) = some (.tup (cut states none (some at_) ++ [odd] ++ cut states (some at_) none)) := op_add_tup' (by simp only [List.length_append, List.length_cons, List.length_nil]; omega)
    have e3 : op2 .add (.tup states) (.tup [.non]) = some (.tup (states ++ [.non])) := op_add_tup' (by simp; omega)
    simp -implicitDefEqProofs [hm, e1, e2, e3, esc_still hos, hx0, hg0, esc_still hs0]
    refine call_pick_lst h p (by simp) (by simp) (fun d hd => (by obtain ⟨q, hq⟩ := key d hd; exact hq.still)) fun d o2 hd p2 => ?_
    obtain ⟨q, hq⟩ := key d hd
    simp -implicitDefEqProofs [esc_still hq.still]
    exact ⟨rp3 (hcs _) (hfw _) hq, p2⟩
  refine ite_skip (by simp [c3]) ?_
  -- the moves
  obtain ⟨mvs, la, hst1, hml, hmv, hla⟩ := hstA
  have hixA : ixN states.length at_ = some at_.toNat := ixN_nat a0 a1
  have hgA : states[at_.toNat]? = some (.tup [.tup mvs, la]) := by rw [List.getElem?_eq_getElem hat, hst1]
  have hls := hla.still
  have hcl1 : 1 ≤ cs.length := by
    have := hs.ne
    cases cs <;> simp_all
  refine cutQ (fun s => s = ⟨[.val (.ref 0), .val (.tup [.str cs, .str fw, .tup states]), .val odd, .un, .val (.str cs), .val (.str fw), .val (.tup states), .val (.int ch), .val (.int at_), .un, .val (.tup mvs), .val la, .un, .un, .un], o' :: r⟩) ?_ ?_
  · intro K kk
    simp -implicitDefEqProofs [hixA, hgA]
    exact kk _ rfl
  rintro s rfl
  refine cutQ (fun s => ∃ o' sp, s = ⟨[.val (.ref 0), .val (.tup [.str cs, .str fw, .tup states]), .val odd, .val (.int sp), .val (.str cs), .val (.str fw), .val (.tup states), .val (.int ch), .val (.int at_), .un, .val (.tup mvs), .val la, .un, .un, .un], o' :: r⟩ ∧ Pot o' ∧ 0 ≤ sp ∧ sp < mvs.length) ?_ ?_
  · intro K kk
    simp -implicitDefEqProofs
    refine call_below h p (by omega) (by omega) fun sp o2 i0 i1 p2 => ?_
    simp -implicitDefEqProofs
    exact kk _ ⟨_, sp, rfl, p2, i0, i1⟩
  rintro s ⟨o', sp, rfl, p, s0, s1⟩
  have hlo := cut_len (xs := mvs) (lo := none) (hi := some sp)
  have hhi := cut_len (xs := mvs) (lo := some (sp + 1)) (hi := none)
  have hspl : (cut mvs none (some sp)).length + (cut mvs (some (sp + 1)) none).length + 1 ≤ mvs.length := by
    unfold cut cutIx
    simp [s0, show 0 ≤ sp + 1 by omega]
    omega
  have hsp1 : sp.toNat < mvs.length := by omega
  have hixS : ixN mvs.length sp = some sp.toNat := ixN_nat s0 s1
  have hms : ∀ q, Rpl q 12 1 mvs := fun q x hx => (hmv x hx).rp hs (by omega)
  have hmsM : ∀ q, Rpl q 6006 7 mvs := fun q => (hms q).mono (by decide) (by decide)
  have hlaR : ∀ q, Rp q 30035 8 la := fun q => (hla.rp hs).mono (by decide) (by decide)
  have put : ∀ q d, Rp q 6006 7 d → Rp q 60072 9 (.tup [.tup (cut mvs none (some sp) ++ d :: cut mvs (some (sp + 1)) none), la]) := by
    intro q d hd
    refine rpSt (rpMs ?_ ?_) (hlaR q)
    · rw [List.append_cons]
      exact ((hmsM q).cut.app (.cons hd .nil)).app (hmsM q).cut
    · simp only [List.length_append, List.length_cons]
      omega
  have put1 : ∀ d, op2 .add (.tup (cut mvs none (some sp))) (.tup [d]) = some (.tup (cut mvs none (some sp) ++ [d])) := fun d => op_add_tup' (by simp; omega)
  have put2 : ∀ d, op2 .add (.tup (cut mvs none (some sp) ++ [d])) (.tup (cut mvs (some (sp + 1)) none)) = some (.tup (cut mvs none (some sp) ++ d :: cut mvs (some (sp + 1)) none)) := fun d => by
    rw [op_add_tup' (by simp only [List.length_append, List.length_cons, List.length_nil]; omega)]
    simp
  -- the state
  refine cutQ (fun s => ∃ o' sd e9 e13 e14, s = ⟨[.val (.ref 0), .val (.tup [.str cs, .str fw, .tup states]), .val odd, .val (.int sp), .val (.str cs), .val (.str fw), .val (.tup states), .val (.int ch), .val (.int at_), e9, .val (.tup mvs), .val la, .val sd, e13, e14], o' :: r⟩ ∧ Pot o' ∧ ∃ q, Rp q 60072 9 sd) ?_ ?_
  · intro K kk
    by_cases c4 : ch = 4
    · subst c4
      have ea : op2 .add (.tup mvs) (.tup [.non]) = some (.tup (mvs ++ [.non])) := op_add_tup' (by simp; omega)
      have key : ∀ d ∈ [D.tup [.tup mvs, odd], .tup [.lst mvs, la], .tup [.tup (cut mvs (some 1) none), la], .tup [.tup (mvs ++ [.non]), la], .tup [.tup mvs], .lst [.tup mvs, la], .tup [.tup mvs, la, la], .tup [.tup mvs, la, .non]], ∃ q, Rp q 60072 9 d := by
        intro d hd
        simp only [List.mem_cons, List.not_mem_nil, or_false] at hd
        have h8 : ∀ q, Rp q 2001 3 (.tup mvs) := fun q => (Rp.tup (L := 4) (hms q) (by omega)).mono (by decide) (by decide)
        have h9 : ∀ q, Rp q 2001 3 la := fun q => (hla.rp hs).mono (by decide) (by decide)
        obtain ⟨q, hq⟩ := hodd
        rcases hd with rfl | rfl | rfl | rfl | rfl | rfl | rfl | rfl
        · exact ⟨q, (Rp.tup (L := 2) (.cons (h8 q) (.cons (hq.mono (by decide) (by decide)) .nil)) (by simp)).mono (by decide) (by decide)⟩
        · exact ⟨true, rpSt ((Rp.lst (L := 4) (hms _) (by omega)).mono (by decide) (by decide)) (hlaR _)⟩
        · exact ⟨true, rpSt (rpMs (hmsM _).cut (Nat.le_trans cut_len (by omega))) (hlaR _)⟩
        · exact ⟨true, rpSt (rpMs ((hmsM _).app (.cons .non .nil)) (by simp; omega)) (hlaR _)⟩
        · exact ⟨true, (Rp.tup (L := 1) (.cons (h8 _) .nil) (by simp)).mono (by decide) (by decide)⟩
        · exact ⟨true, (Rp.lst (L := 2) (.cons (h8 _) (.cons (h9 _) .nil)) (by simp)).mono (by decide) (by decide)⟩
        · exact ⟨true, (Rp.tup (L := 3) (.cons (h8 _) (.cons (h9 _) (.cons (h9 _) .nil))) (by simp)).mono (by decide) (by decide)⟩
        · exact ⟨true, (Rp.tup (L := 3) (.cons (h8 _) (.cons (h9 _) (.cons .non .nil))) (by simp)).mono (by decide) (by decide)⟩
      simp -implicitDefEqProofs [ea, esc_still hos, esc_still hls, op_add_lst']
      refine call_pick_lst h p (by simp) (by simp) (fun d hd => (by obtain ⟨q, hq⟩ := key d hd; exact hq.still)) fun d o2 hd p2 => ?_
      obtain ⟨q, hq⟩ := key d hd
      simp -implicitDefEqProofs [esc_still hq.still]
      exact kk _ ⟨_, d, _, _, _, rfl, p2, q, hq⟩
    · have e1 : (ch == 4) = false := by simpa using c4
      have none5 : (∀ {Q : Bool → S → Prop}, Q true ⟨[.val (.ref 0), .val (.tup [.str cs, .str fw, .tup states]), .val odd, .val (.int sp), .val (.str cs), .val (.str fw), .val (.tup states), .val (.int ch), .val (.int at_), .un, .val (.tup mvs), .val la, .un, .un, .un], o' :: r⟩ → okR (evT (fnAt P (n + 3)) P.glob (.or (.of (.op2 .eq (.var 7) (.lit (.int 5)))) (.of (.op2 .isN (.idx (.var 10) (.var 3)) (.lit .non)))) ⟨[.val (.ref 0), .val (.tup [.str cs, .str fw, .tup states]), .val odd, .val (.int sp), .val (.str cs), .val (.str fw), .val (.tup states), .val (.int ch), .val (.int at_), .un, .val (.tup mvs), .val la, .un, .un, .un], o' :: r⟩) Q) ∨ (ch ≠ 5 ∧ ∃ (a b : Txt) (k : Int), mvs[sp.toNat]? = some (.tup [.str a, .str b, .int k]) ∧ a.length ≤ 3 ∧ b.length ≤ 3 ∧ (∀ c ∈ a, c ∈ cs) ∧ (∀ c ∈ b, c ∈ cs) ∧ 0 ≤ k ∧ k < states.length) := by
        by_cases c5 : ch = 5
        · left
          intro Q hQ
          simpa -implicitDefEqProofs [c5] using c5 ▸ hQ
        · rcases hmv mvs[sp.toNat] (List.getElem_mem hsp1) with hno | ⟨a, b, k, hmk, h⟩
          · left
            intro Q hQ
            have hg : mvs[sp.toNat]? = some .non := by rw [List.getElem?_eq_getElem hsp1, hno]
            simpa -implicitDefEqProofs [c5, hixS, hg] using hQ
          · right
            exact ⟨c5, a, b, k, by rw [List.getElem?_eq_getElem hsp1, hmk], h⟩
      rw [wS_ite]
      simp -implicitDefEqProofs only [wT_of, wE_op2, wE_var, wE_lit, List.getElem?_cons_succ, List.getElem?_cons_zero, okSlot_val, vw_int, okL_some, op_eq_int, vw_bl, truth_bl, e1, Bool.false_eq_true, if_false]
      rw [wQ_cons, wS_ite]
      rcases none5 with hT | ⟨c5, a, b, k, hg, h3a, h3b, hca, hcb, k0, k1⟩
      · refine hT ?_
        have key : ∀ d ∈ [odd, .tup [.str [], .str [], .int states.length], .tup [.str [], .str []]], ∃ q, Rp q 6006 7 d := by
          intro d hd
          simp only [List.mem_cons, List.not_mem_nil, or_false] at hd
          obtain ⟨q, hq⟩ := hodd
          rcases hd with rfl | rfl | rfl
          · exact ⟨q, hq.mono (by decide) (by decide)⟩
          · exact ⟨true, (Rp.tup (L := 3) (n := 0) (k := 0) (.cons (.str (by simp) (by simp)) (.cons (.str (by simp) (by simp)) (.cons (.int (by omega)) .nil))) (by simp)).mono (by decide) (by decide)⟩
          · exact ⟨true, (Rp.tup (L := 2) (n := 0) (k := 0) (.cons (.str (by simp) (by simp)) (.cons (.str (by simp) (by simp)) .nil)) (by simp)).mono (by decide) (by decide)⟩
        simp -implicitDefEqProofs [esc_still hos, esc_still hls]
        refine call_pick_lst h p (by simp) (by simp) (fun d hd => (by obtain ⟨q, hq⟩ := key d hd; exact hq.still)) fun d o2 hd p2 => ?_
        obtain ⟨q, hq⟩ := key d hd
        simp -implicitDefEqProofs [esc_still hq.still, put1, put2, esc_still hls]
        exact kk _ ⟨_, _, _, _, _, rfl, p2, q, put q d hq⟩
      · simp -implicitDefEqProofs [c5, hixS, hg]
        refine call_below h p (by decide) (by decide) fun pl o2 l0 l1 p2 => ?_
        have hx3 : ixN 3 pl = some pl.toNat := ixN_nat l0 (by omega)
        have ha3 : ∀ q, Rp q 6006 6 (.str a) := fun q => .str (fun c hc => hs.lt c (hca c hc)) (by omega)
        have hb3 : ∀ q, Rp q 6006 6 (.str b) := fun q => .str (fun c hc => hs.lt c (hcb c hc)) (by omega)
        have hk3 : ∀ q n, Rp q n 6 (.int k) := fun q n => .int (by omega)
        have ha1 : ∀ q, Rp q 2001 1 (.str a) := fun q => .str (fun c hc => hs.lt c (hca c hc)) (by omega)
        have hb1 : ∀ q, Rp q 2001 1 (.str b) := fun q => .str (fun c hc => hs.lt c (hcb c hc)) (by omega)
        have hk1 : ∀ q, Rp q 2001 1 (.int k) := fun q => .int (by omega)
        have key1 : ∀ d ∈ [odd, odd, .int states.length, .int (-1), .bl true, .str [48]], ∃ q, Rp q 2001 1 d := by
          intro d hd
          simp only [List.mem_cons, List.not_mem_nil, or_false] at hd
          rcases hd with rfl | rfl | rfl | rfl | rfl | rfl
          · exact hodd
          · exact hodd
          · exact ⟨true, .int (by omega)⟩
          · exact ⟨true, .int (by decide)⟩
          · exact ⟨true, .bl⟩
          · exact ⟨true, .str (by simp) (by simp)⟩
        simp -implicitDefEqProofs [hixS, hg, okOwn, esc_still hos]
        refine call_pick_lst h p2 (by simp) (by simp) (fun d hd => (by obtain ⟨q, hq⟩ := key1 d hd; exact hq.still)) fun v o3 hv p3 => ?_
        obtain ⟨qv, hqv⟩ := key1 v hv
        have key : ∀ d ∈ [D.tup ([D.str a, .str b, .int k].set pl.toNat v), .tup ([D.str a, .str b, .int k].set pl.toNat v), .lst [.str a, .str b, .int k], .tup [.str a, .str b, .int k, .int 0], .tup [.str a, .str b, .int k, .str []]], ∃ q, Rp q 6006 7 d := by
          intro d hd
          simp only [List.mem_cons, List.not_mem_nil, or_false] at hd
          have hM : ∀ q, Rpl q 2001 1 [.str a, .str b, .int k] := fun q => .cons (ha1 q) (.cons (hb1 q) (.cons (hk1 q) .nil))
          have hM3 : ∀ q, Rpl q 3 0 [.str a, .str b, .int k] := fun q => .cons (.str (fun c hc => hs.lt c (hca c hc)) h3a) (.cons (.str (fun c hc => hs.lt c (hcb c hc)) h3b) (.cons (.int (by omega)) .nil))
          rcases hd with rfl | rfl | rfl | rfl | rfl
          · exact ⟨qv, (Rp.tup (L := 3) ((hM qv).set hqv) (by simp)).mono (by decide) (by decide)⟩
          · exact ⟨qv, (Rp.tup (L := 3) ((hM qv).set hqv) (by simp)).mono (by decide) (by decide)⟩
          · exact ⟨true, (Rp.lst (L := 3) (hM _) (by simp)).mono (by decide) (by decide)⟩
          · exact ⟨true, (Rp.tup (L := 4) (xs := [D.str a, .str b, .int k] ++ [.int 0]) ((hM3 _).app (.cons (.int (by decide)) .nil)) (by simp)).mono (by decide) (by decide)⟩
          · exact ⟨true, (Rp.tup (L := 4) (xs := [D.str a, .str b, .int k] ++ [.str []]) ((hM3 _).app (.cons (.str (by simp) (by simp)) .nil)) (by simp)).mono (by decide) (by decide)⟩
        generalize hMM : [D.str a, .str b, .int k].set pl.toNat v = MM at key
        simp -implicitDefEqProofs [esc_still hqv.still, hixS, hg, hx3, hMM, op_add_tup', esc_still hls]
        refine call_pick_lst h p3 (by simp) (by simp) (fun d hd => (by obtain ⟨q, hq⟩ := key d hd; exact hq.still)) fun d o4 hd p4 => ?_
        obtain ⟨q, hq⟩ := key d hd
        simp -implicitDefEqProofs [esc_still hq.still, put1, put2, esc_still hls]
        exact kk _ ⟨_, _, _, _, _, rfl, p4, q, put q d hq⟩
  rintro s ⟨o', sd, e9, e13, e14, rfl, p, q, hq⟩
  have hlo := cut_len (xs := states) (lo := none) (hi := some at_)
  have hhi := cut_len (xs := states) (lo := some (at_ + 1)) (hi := none)
  have hspl2 : (cut states none (some at_)).length + (cut states (some (at_ + 1)) none).length + 1 ≤ states.length := by
    unfold cut cutIx
    simp [a0, show 0 ≤ at_ + 1 by omega]
    omega
  have e1 : op2 .add (.tup (cut states none (some at_))) (.tup [sd]) = some (.tup (cut states none (some at_) ++ [sd])) := op_add_tup' (by simp; omega)
  have e2 : op2 .add (.tup (cut states none (some at_) ++ [sd])) (.tup (cut states (some (at_ + 1)) none)) = some (.tup (cut states none (some at_) ++ sd :: cut states (some (at_ + 1)) none)) := by
    rw [op_add_tup' (by simp only [List.length_append, List.length_cons, List.length_nil]; omega)]
    simp
  simp -implicitDefEqProofs [e1, e2, esc_still hq.still]
  refine ⟨rp3 (hcs q) (hfw q) (rpSs ?_ ?_), p⟩
  · rw [List.append_cons]
    exact ((hss q).cut.app (.cons hq .nil)).app (hss q).cut
  · simp only [List.length_append, List.length_cons]
    omega
end
end HL


namespace K02
open RS
/-- is_integer -/
def fd_is_integer : Fd := ⟨1, ["thing"],
  (.cons (.ret (.and (.isi "int" (.var 0)) (.not (.isi "bool" (.var 0)))))
  .nil)⟩
/-- is_below -/
def fd_is_below : Fd := ⟨2, ["thing", "bound"],
  (.cons (.ret (.and (.call "is_integer" (.val (.var 0) .nil)) (.chain .le .lt (.lit (.int 0)) (.var 0) (.var 1))))
  .nil)⟩
/-- is_word -/
def fd_is_word : Fd := ⟨2, ["signs", "thing", "sign"],
  (.cons (.ret (.and (.isi "str" (.var 1)) (.bi .all (.cons (.fr (.lc [2] (.nm 2) (.of (.var 1)) .nil (.op2 .mem (.var 2) (.var 0)))) .nil))))
  .nil)⟩
/-- is_short -/
def fd_is_short : Fd := ⟨2, ["signs", "thing"],
  (.cons (.ret (.and (.call "is_word" (.val (.var 0) (.val (.var 1) .nil))) (.op2 .le (.bi .len (.cons (.var 1) .nil)) (.glb "MAX_WORD"))))
  .nil)⟩
/-- are_signs -/
def fd_are_signs : Fd := ⟨1, ["thing", "one", "other", "sign"],
  (.cons (.ite (.or (.not (.of (.isi "str" (.var 0)))) (.or (.not (.of (.chain .le .le (.lit (.int 1)) (.bi .len (.cons (.var 0) .nil)) (.glb "MAX_SIGNS")))) (.not (.of (.bi .all (.cons (.fr (.lc [3] (.nm 3) (.of (.var 0)) .nil (.op2 .mem (.var 3) (.glb "LETTERS")))) .nil))))))
  (.cons (.ret (.lit (.bl false)))
  .nil)
  .nil)
  (.cons (.ret (.bi .all (.cons (.fr (.lc [1, 2] (.t2 (.nm 1) (.nm 2)) (.zip (.slc (.var 0) .nil (.cons (.op1 .neg (.lit (.int 1))) .nil)) (.slc (.var 0) (.cons (.lit (.int 1)) .nil) .nil)) .nil (.op2 .lt (.var 1) (.var 2)))) .nil)))
  .nil))⟩
/-- is_move -/
def fd_is_move : Fd := ⟨3, ["signs", "many", "thing"],
  (.cons (.ite (.of (.op2 .isN (.var 2) (.lit .non)))
  (.cons (.ret (.lit (.bl true)))
  .nil)
  .nil)
  (.cons (.ite (.or (.not (.of (.isi "tuple" (.var 2)))) (.or (.of (.op2 .ne (.bi .len (.cons (.var 2) .nil)) (.lit (.int 3)))) (.not (.of (.call "is_below" (.val (.idx (.var 2) (.lit (.int 2))) (.val (.var 1) .nil)))))))
  (.cons (.ret (.lit (.bl false)))
  .nil)
  .nil)
  (.cons (.ret (.and (.call "is_short" (.val (.var 0) (.val (.idx (.var 2) (.lit (.int 0))) .nil))) (.call "is_short" (.val (.var 0) (.val (.idx (.var 2) (.lit (.int 1))) .nil)))))
  .nil)))⟩
/-- is_state -/
def fd_is_state : Fd := ⟨3, ["signs", "many", "thing", "move"],
  (.cons (.ite (.or (.not (.of (.isi "tuple" (.var 2)))) (.or (.of (.op2 .ne (.bi .len (.cons (.var 2) .nil)) (.lit (.int 2)))) (.not (.of (.isi "tuple" (.idx (.var 2) (.lit (.int 0))))))))
  (.cons (.ret (.lit (.bl false)))
  .nil)
  .nil)
  (.cons (.ite (.of (.op2 .ne (.bi .len (.cons (.idx (.var 2) (.lit (.int 0))) .nil)) (.bi .len (.cons (.var 0) .nil))))
  (.cons (.ret (.lit (.bl false)))
  .nil)
  .nil)
  (.cons (.ite (.and (.of (.op2 .notN (.idx (.var 2) (.lit (.int 1))) (.lit .non))) (.not (.of (.call "is_short" (.val (.var 0) (.val (.idx (.var 2) (.lit (.int 1))) .nil))))))
  (.cons (.ret (.lit (.bl false)))
  .nil)
  .nil)
  (.cons (.ret (.bi .all (.cons (.fr (.lc [3] (.nm 3) (.of (.idx (.var 2) (.lit (.int 0)))) .nil (.call "is_move" (.val (.var 0) (.val (.var 1) (.val (.var 3) .nil)))))) .nil)))
  .nil))))⟩
/-- is_expander -/
def fd_is_expander : Fd := ⟨1, ["thing", "state"],
  (.cons (.ite (.or (.not (.of (.isi "tuple" (.var 0)))) (.or (.of (.op2 .ne (.bi .len (.cons (.var 0) .nil)) (.lit (.int 3)))) (.or (.not (.of (.call "are_signs" (.val (.idx (.var 0) (.lit (.int 0))) .nil)))) (.not (.of (.call "is_short" (.val (.idx (.var 0) (.lit (.int 0))) (.val (.idx (.var 0) (.lit (.int 1))) .nil))))))))
  (.cons (.ret (.lit (.bl false)))
  .nil)
  .nil)
  (.cons (.ite (.or (.not (.of (.isi "tuple" (.idx (.var 0) (.lit (.int 2)))))) (.not (.of (.chain .le .le (.lit (.int 1)) (.bi .len (.cons (.idx (.var 0) (.lit (.int 2))) .nil)) (.glb "MAX_STATES")))))
  (.cons (.ret (.lit (.bl false)))
  .nil)
  .nil)
  (.cons (.ret (.bi .all (.cons (.fr (.lc [1] (.nm 1) (.of (.idx (.var 0) (.lit (.int 2)))) .nil (.call "is_state" (.val (.idx (.var 0) (.lit (.int 0))) (.val (.bi .len (.cons (.idx (.var 0) (.lit (.int 2))) .nil)) (.val (.var 1) .nil)))))) .nil)))
  .nil)))⟩
/-- _law_kneaded -/
def fd__law_kneaded : Fd := ⟨2, ["seed", "lap", "prime", "amount", "again"],
  (.cons (.set (.nm 2) (.lit (.int 2305843009213693907)))
  (.cons (.set (.nm 3) (.op2 .mod (.bi .int (.cons (.op2 .add (.op2 .add (.op2 .mul (.var 0) (.lit (.int 2862933555777941757))) (.op2 .mul (.var 1) (.lit (.int 3037000493)))) (.lit (.int 29))) .nil)) (.var 2)))
  (.cons (.for_ (.nm 4) (.rng1 (.lit (.int 4)))
  (.cons (.set (.nm 3) (.op2 .mod (.bi .int (.cons (.op2 .add (.op2 .add (.op2 .add (.op2 .mul (.var 3) (.var 3)) (.op2 .mul (.lit (.int 11)) (.var 3))) (.op2 .mul (.lit (.int 4099)) (.var 4))) (.var 1)) .nil)) (.var 2)))
  .nil) [4])
  (.cons (.ret (.op2 .add (.op2 .mul (.var 3) (.var 2)) (.op2 .mod (.bi .int (.cons (.op2 .add (.op2 .mul (.var 3) (.lit (.int 69621))) (.var 1)) .nil)) (.var 2))))
  .nil))))⟩
/-- _law_pot_of -/
def fd__law_pot_of : Fd := ⟨1, ["script", "cells", "place", "cell"],
  (.cons (.own 1 (.lc [3] (.nm 3) (.of (.slc (.var 0) .nil (.cons (.lit (.int 17)) .nil))) .nil (.bi .abs (.cons (.var 3) .nil))))
  (.cons (.for_ (.t2 (.nm 2) (.nm 3)) (.enum (.slc (.var 0) (.cons (.lit (.int 17)) .nil) (.cons (.lit (.int 60)) .nil)))
  (.cons (.setIx (.var 1) (.op2 .mod (.var 2) (.lit (.int 17))) (.op2 .add (.idx (.var 1) (.op2 .mod (.var 2) (.lit (.int 17)))) (.bi .abs (.cons (.var 3) .nil))))
  .nil) [2, 3])
  (.cons (.retF (.lst (.cons (.var 1) (.cons (.lit (.int 0)) (.cons (.lit (.int 0)) (.cons (.lit (.int 0)) .nil))))))
  .nil)))⟩
/-- _law_below -/
def fd__law_below : Fd := ⟨2, ["pot", "bound", "found", "amount", "cells", "place"],
  (.cons (.ite (.of (.op2 .lt (.idx (.var 0) (.lit (.int 3))) (.var 1)))
  (.cons (.par [4, 5] (.cons (.idx (.var 0) (.lit (.int 0))) (.cons (.idx (.var 0) (.lit (.int 1))) .nil)))
  (.cons (.set (.nm 3) (.ite (.of (.op2 .ne (.var 4) (.fr (.lst .nil)))) (.idx (.var 4) (.op2 .mod (.var 5) (.bi .len (.cons (.var 4) .nil)))) (.lit (.int 0))))
  (.cons (.ite (.or (.of (.op2 .ge (.var 5) (.bi .len (.cons (.var 4) .nil)))) (.of (.op2 .lt (.var 3) (.op2 .pow (.lit (.int 10)) (.lit (.int 16))))))
  (.cons (.set (.nm 3) (.call "_law_kneaded" (.val (.op2 .mod (.bi .int (.cons (.var 3) .nil)) (.lit (.int 982451629))) (.val (.var 5) .nil))))
  .nil)
  .nil)
  (.cons (.setIx (.var 0) (.lit (.int 1)) (.op2 .add (.var 5) (.lit (.int 1))))
  (.cons (.setIx (.var 0) (.lit (.int 2)) (.var 3))
  (.cons (.setIx (.var 0) (.lit (.int 3)) (.var 3))
  .nil))))))
  .nil)
  (.cons (.set (.nm 2) (.op2 .mod (.bi .int (.cons (.idx (.var 0) (.lit (.int 2))) .nil)) (.var 1)))
  (.cons (.setIx (.var 0) (.lit (.int 2)) (.op2 .fdiv (.idx (.var 0) (.lit (.int 2))) (.var 1)))
  (.cons (.setIx (.var 0) (.lit (.int 3)) (.op2 .fdiv (.idx (.var 0) (.lit (.int 3))) (.var 1)))
  (.cons (.ret (.var 2))
  .nil)))))⟩
/-- _law_pick -/
def fd__law_pick : Fd := ⟨2, ["pot", "items"],
  (.cons (.ret (.idx (.var 1) (.call "_law_below" (.val (.var 0) (.val (.bi .len (.cons (.var 1) .nil)) .nil)))))
  .nil)⟩
/-- _law_some_word -/
def fd__law_some_word : Fd := ⟨3, ["pot", "signs", "limit", "lap"],
  (.cons (.ret (.mt .join (.lit (.str [])) (.cons (.fr (.lc [3] (.nm 3) (.rng1 (.call "_law_below" (.val (.var 0) (.val (.op2 .add (.var 2) (.lit (.int 1))) .nil)))) .nil (.call "_law_pick" (.val (.var 0) (.val (.var 1) .nil))))) .nil)))
  .nil)⟩
/-- _law_some_expander -/
def fd__law_some_expander : Fd := ⟨2, ["pot", "many", "signs", "state", "found", "spans", "count", "kind", "states", "moves", "sign", "last", "back", "done", "move", "call"],
  (.cons (.set (.nm 2) (.call "_law_pick" (.val (.var 0) (.val (.fr (.lst (.cons (.lit (.str [97])) (.cons (.lit (.str [97, 98])) (.cons (.lit (.str [97, 98])) (.cons (.lit (.str [98, 122])) (.cons (.lit (.str [97, 98, 99])) (.cons (.lit (.str [97, 98])) (.cons (.lit (.str [97, 98, 99, 122])) .nil))))))))) .nil))))
  (.cons (.parF [6, 7] (.cons (.op2 .add (.lit (.int 1)) (.call "_law_below" (.val (.var 0) (.val (.var 1) .nil)))) (.cons (.call "_law_below" (.val (.var 0) (.val (.lit (.int 4)) .nil))) .nil)) 8 (.lst .nil))
  (.cons (.for_ (.nm 3) (.rng1 (.var 6))
  (.cons (.own 9 (.lst .nil))
  (.cons (.for_ (.nm 10) (.of (.var 2))
  (.cons (.set (.nm 12) (.ite (.and (.of (.op2 .gt (.var 7) (.lit (.int 0)))) (.of (.op2 .eq (.call "_law_below" (.val (.var 0) (.val (.lit (.int 2)) .nil))) (.lit (.int 0))))) (.call "_law_some_word" (.val (.var 0) (.val (.var 2) (.val (.lit (.int 3)) .nil)))) (.lit (.str []))))
  (.cons (.set (.nm 13) (.call "_law_pick" (.val (.var 0) (.val (.fr (.lst (.cons (.lit (.str [])) (.cons (.var 10) (.cons (.call "_law_some_word" (.val (.var 0) (.val (.var 2) (.val (.lit (.int 2)) .nil)))) (.cons (.call "_law_some_word" (.val (.var 0) (.val (.var 2) (.val (.lit (.int 2)) .nil)))) .nil)))))) .nil))))
  (.cons (.set (.nm 14) (.tup (.cons (.var 13) (.cons (.var 12) (.cons (.call "_law_below" (.val (.var 0) (.val (.var 6) .nil))) .nil)))))
  (.cons (.expr (.mw .append (.var 9) (.cons (.ite (.of (.op2 .eq (.call "_law_below" (.val (.var 0) (.val (.lit (.int 8)) .nil))) (.lit (.int 0)))) (.lit .non) (.var 14)) .nil)))
  .nil)))) [10, 12, 13, 14])
  (.cons (.set (.nm 11) (.ite (.of (.op2 .eq (.call "_law_below" (.val (.var 0) (.val (.lit (.int 5)) .nil))) (.lit (.int 0)))) (.lit .non) (.call "_law_some_word" (.val (.var 0) (.val (.var 2) (.val (.lit (.int 2)) .nil))))))
  (.cons (.expr (.mw .append (.var 8) (.cons (.tup (.cons (.bi .tuple (.cons (.var 9) .nil)) (.cons (.var 11) .nil))) .nil)))
  .nil)))) [3, 9, 10, 11, 12, 13, 14])
  (.cons (.set (.nm 4) (.tup (.cons (.var 2) (.cons (.call "_law_some_word" (.val (.var 0) (.val (.var 2) (.val (.lit (.int 2)) .nil)))) (.cons (.bi .tuple (.cons (.var 8) .nil)) .nil)))))
  (.cons (.set (.nm 5) (.call "_law_sizes" (.val (.var 4) .nil)))
  (.cons (.ite (.and (.of (.op2 .ne (.var 5) (.fr (.dct false)))) (.of (.op2 .gt (.bi .max (.cons (.fr (.lc [15] (.nm 15) (.of (.var 5)) .nil (.idx (.idx (.var 5) (.var 15)) (.lit (.int 0))))) .nil)) (.lit (.int 30)))))
  (.cons (.set (.nm 4) (.tup (.cons (.var 2) (.cons (.idx (.var 4) (.lit (.int 1))) (.cons (.bi .tuple (.cons (.fr (.lc [3] (.nm 3) (.of (.var 8)) .nil (.call "_law_plainer" (.val (.var 3) .nil)))) .nil)) .nil)))))
  .nil)
  .nil)
  (.cons (.ret (.var 4))
  .nil)))))))⟩
/-- _law_plainer -/
def fd__law_plainer : Fd := ⟨1, ["state", "move"],
  (.cons (.ret (.tup (.cons (.bi .tuple (.cons (.fr (.lc [1] (.nm 1) (.of (.idx (.var 0) (.lit (.int 0)))) .nil (.ite (.of (.op2 .isN (.var 1) (.lit .non))) (.lit .non) (.tup (.cons (.idx (.var 1) (.lit (.int 0))) (.cons (.lit (.str [])) (.cons (.idx (.var 1) (.lit (.int 2))) .nil))))))) .nil)) (.cons (.idx (.var 0) (.lit (.int 1))) .nil))))
  .nil)⟩
/-- _law_calls -/
def fd__law_calls : Fd := ⟨1, ["expander", "found", "state", "sign"],
  (.cons (.set (.nm 1) (.fr (.lst .nil)))
  (.cons (.for_ (.nm 2) (.rng1 (.bi .len (.cons (.idx (.var 0) (.lit (.int 2))) .nil)))
  (.cons (.set (.nm 1) (.op2 .add (.var 1) (.fr (.lc [3] (.nm 3) (.of (.idx (.var 0) (.lit (.int 0)))) .nil (.tup (.cons (.var 2) (.cons (.var 3) .nil)))))))
  .nil) [2])
  (.cons (.ret (.var 1))
  .nil)))⟩
/-- _law_sizes -/
def fd__law_sizes : Fd := ⟨1, ["expander", "found", "lap", "state", "sign", "move", "one", "size", "here", "more"],
  (.cons (.own 1 (.dct true))
  (.cons (.for_ (.nm 2) (.rng1 (.op2 .mul (.bi .len (.cons (.idx (.var 0) (.lit (.int 2))) .nil)) (.bi .len (.cons (.idx (.var 0) (.lit (.int 0))) .nil))))
  (.cons (.for_ (.t2 (.nm 3) (.nm 4)) (.of (.call "_law_calls" (.val (.var 0) .nil)))
  (.cons (.set (.nm 5) (.idx (.idx (.idx (.idx (.var 0) (.lit (.int 2))) (.var 3)) (.lit (.int 0))) (.mt .index (.idx (.var 0) (.lit (.int 0))) (.cons (.var 4) .nil))))
  (.cons (.ite (.and (.of (.op2 .notN (.var 5) (.lit .non))) (.of (.op2 .nmem (.tup (.cons (.var 3) (.cons (.var 4) .nil))) (.var 1))))
  (.cons (.par [7, 8] (.cons (.bi .len (.cons (.idx (.var 5) (.lit (.int 0))) .nil)) (.cons (.idx (.var 5) (.lit (.int 2))) .nil)))
  (.cons (.for_ (.nm 6) (.of (.idx (.var 5) (.lit (.int 1))))
  (.cons (.set (.nm 9) (.ite (.of (.op2 .notN (.var 8) (.lit .non))) (.mx .get2 (.var 1) (.cons (.tup (.cons (.var 8) (.cons (.var 6) .nil))) (.cons (.tup (.cons (.lit (.int 0)) (.cons (.lit .non) .nil))) .nil))) (.tup (.cons (.lit (.int 0)) (.cons (.lit .non) .nil)))))
  (.cons (.par [7, 8] (.cons (.op2 .add (.var 7) (.idx (.var 9) (.lit (.int 0)))) (.cons (.idx (.var 9) (.lit (.int 1))) .nil)))
  .nil)) [6, 9])
  (.cons (.ite (.of (.op2 .notN (.var 8) (.lit .non)))
  (.cons (.setIx (.var 1) (.tup (.cons (.var 3) (.cons (.var 4) .nil))) (.tup (.cons (.var 7) (.cons (.var 8) .nil))))
  .nil)
  .nil)
  .nil)))
  .nil)
  .nil)) [3, 4, 5, 6, 7, 8, 9])
  .nil) [2, 3, 4, 5, 6, 7, 8, 9])
  (.cons (.ret (.var 1))
  .nil)))⟩
/-- _law_is_short -/
def fd__law_is_short : Fd := ⟨2, ["signs", "thing", "sign"],
  (.cons (.ret (.and (.isi "str" (.var 1)) (.and (.op2 .lt (.bi .len (.cons (.var 1) .nil)) (.lit (.int 2001))) (.op2 .eq (.fr (.lc [2] (.nm 2) (.of (.var 1)) (.one (.of (.op2 .nmem (.var 2) (.var 0)))) (.lit (.int 1)))) (.fr (.lst .nil))))))
  .nil)⟩
/-- _law_is_count -/
def fd__law_is_count : Fd := ⟨2, ["thing", "bound"],
  (.cons (.ret (.and (.isi "int" (.var 0)) (.and (.not (.isi "bool" (.var 0))) (.chain .le .lt (.lit (.int 0)) (.var 0) (.var 1)))))
  .nil)⟩
/-- _law_is_move -/
def fd__law_is_move : Fd := ⟨3, ["signs", "many", "thing"],
  (.cons (.ite (.of (.op2 .isN (.var 2) (.lit .non)))
  (.cons (.ret (.lit (.bl true)))
  .nil)
  .nil)
  (.cons (.ite (.or (.not (.of (.isi "tuple" (.var 2)))) (.or (.of (.op2 .ne (.bi .len (.cons (.var 2) .nil)) (.lit (.int 3)))) (.not (.of (.call "_law_is_count" (.val (.idx (.var 2) (.lit (.int 2))) (.val (.var 1) .nil)))))))
  (.cons (.ret (.lit (.bl false)))
  .nil)
  .nil)
  (.cons (.ret (.and (.call "_law_is_short" (.val (.var 0) (.val (.idx (.var 2) (.lit (.int 0))) .nil))) (.call "_law_is_short" (.val (.var 0) (.val (.idx (.var 2) (.lit (.int 1))) .nil)))))
  .nil)))⟩
/-- _law_is_state -/
def fd__law_is_state : Fd := ⟨3, ["signs", "many", "thing", "move"],
  (.cons (.ite (.or (.not (.of (.isi "tuple" (.var 2)))) (.or (.of (.op2 .ne (.bi .len (.cons (.var 2) .nil)) (.lit (.int 2)))) (.not (.of (.isi "tuple" (.idx (.var 2) (.lit (.int 0))))))))
  (.cons (.ret (.lit (.bl false)))
  .nil)
  .nil)
  (.cons (.ite (.of (.op2 .ne (.bi .len (.cons (.idx (.var 2) (.lit (.int 0))) .nil)) (.bi .len (.cons (.var 0) .nil))))
  (.cons (.ret (.lit (.bl false)))
  .nil)
  .nil)
  (.cons (.ite (.and (.of (.op2 .notN (.idx (.var 2) (.lit (.int 1))) (.lit .non))) (.not (.of (.call "_law_is_short" (.val (.var 0) (.val (.idx (.var 2) (.lit (.int 1))) .nil))))))
  (.cons (.ret (.lit (.bl false)))
  .nil)
  .nil)
  (.cons (.ret (.op2 .eq (.fr (.lc [3] (.nm 3) (.of (.idx (.var 2) (.lit (.int 0)))) (.one (.not (.of (.call "_law_is_move" (.val (.var 0) (.val (.var 1) (.val (.var 3) .nil))))))) (.lit (.int 1)))) (.fr (.lst .nil))))
  .nil))))⟩
/-- _law_is_expander -/
def fd__law_is_expander : Fd := ⟨1, ["thing", "letters", "signs", "states", "state", "sign"],
  (.cons (.ite (.or (.not (.of (.isi "tuple" (.var 0)))) (.or (.of (.op2 .ne (.bi .len (.cons (.var 0) .nil)) (.lit (.int 3)))) (.or (.not (.of (.isi "str" (.idx (.var 0) (.lit (.int 0)))))) (.not (.of (.chain .le .le (.lit (.int 1)) (.bi .len (.cons (.idx (.var 0) (.lit (.int 0))) .nil)) (.lit (.int 4))))))))
  (.cons (.ret (.lit (.bl false)))
  .nil)
  .nil)
  (.cons (.set (.t3 (.nm 1) (.nm 2) (.nm 3)) (.tup (.cons (.lit (.str [97, 98, 99, 100, 101, 102, 103, 104, 105, 106, 107, 108, 109, 110, 111, 112, 113, 114, 115, 116, 117, 118, 119, 120, 121, 122])) (.cons (.idx (.var 0) (.lit (.int 0))) (.cons (.idx (.var 0) (.lit (.int 2))) .nil)))))
  (.cons (.ite (.or (.of (.op2 .ne (.fr (.lc [5] (.nm 5) (.of (.var 2)) (.one (.of (.op2 .nmem (.var 5) (.var 1)))) (.lit (.int 1)))) (.fr (.lst .nil)))) (.of (.op2 .ne (.mt .join (.lit (.str [])) (.cons (.sset (.var 2)) .nil)) (.var 2))))
  (.cons (.ret (.lit (.bl false)))
  .nil)
  .nil)
  (.cons (.ite (.or (.not (.of (.call "_law_is_short" (.val (.var 2) (.val (.idx (.var 0) (.lit (.int 1))) .nil))))) (.or (.not (.of (.isi "tuple" (.var 3)))) (.not (.of (.chain .le .le (.lit (.int 1)) (.bi .len (.cons (.var 3) .nil)) (.lit (.int 60)))))))
  (.cons (.ret (.lit (.bl false)))
  .nil)
  .nil)
  (.cons (.ret (.op2 .eq (.fr (.lc [4] (.nm 4) (.of (.var 3)) (.one (.not (.of (.call "_law_is_state" (.val (.var 2) (.val (.bi .len (.cons (.var 3) .nil)) (.val (.var 4) .nil))))))) (.lit (.int 1)))) (.fr (.lst .nil))))
  .nil)))))⟩
/-- _law_spoilt -/
def fd__law_spoilt : Fd := ⟨2, ["pot", "expander", "odd", "spot", "signs", "first", "states", "choice", "at", "some", "moves", "last", "state", "place", "move"],
  (.cons (.set (.t3 (.nm 4) (.nm 5) (.nm 6)) (.var 1))
  (.cons (.par [7, 8] (.cons (.call "_law_below" (.val (.var 0) (.val (.lit (.int 9)) .nil))) (.cons (.call "_law_below" (.val (.var 0) (.val (.bi .len (.cons (.var 6) .nil)) .nil))) .nil)))
  (.cons (.set (.nm 2) (.call "_law_pick" (.val (.var 0) (.val (.fr (.lst (.cons (.lit .non) (.cons (.lit (.int 0)) (.cons (.lit (.str [65])) (.cons (.lit (.str [97, 98, 32, 99])) (.cons (.fr (.lst (.cons (.lit (.str [97])) .nil))) (.cons (.tup (.cons (.lit (.str [97])) .nil)) (.cons (.lit (.bl true)) (.cons (.lit (.str [121])) (.cons (.op2 .mul (.lit (.str [97])) (.lit (.int 2001))) (.cons (.lit (.str [])) (.cons (.fr (.dct false)) .nil))))))))))))) .nil))))
  (.cons (.ite (.of (.op2 .eq (.var 7) (.lit (.int 0))))
  (.cons (.set (.nm 9) (.fr (.lst (.cons (.lit .non) (.cons (.slc (.var 1) .nil (.cons (.lit (.int 2)) .nil)) (.cons (.fr (.bf .list (.cons (.var 1) .nil))) (.cons (.op2 .add (.var 1) (.tup (.cons (.tup .nil) .nil))) (.cons (.var 6) (.cons (.fr (.dct false)) .nil)))))))))
  (.cons (.ret (.call "_law_pick" (.val (.var 0) (.val (.op2 .add (.var 9) (.fr (.lst (.cons (.tup (.cons (.var 4) (.cons (.var 5) (.cons (.fr (.bf .list (.cons (.var 6) .nil))) .nil)))) .nil)))) .nil))))
  .nil))
  .nil)
  (.cons (.ite (.of (.op2 .eq (.var 7) (.lit (.int 1))))
  (.cons (.set (.nm 9) (.fr (.lst (.cons (.op2 .add (.rev (.var 4)) (.lit (.str [97]))) (.cons (.lit (.str [97, 98, 99, 100, 101])) (.cons (.lit (.str [])) (.cons (.op2 .add (.var 4) (.var 4)) (.cons (.lit (.str [65, 66])) (.cons (.tup (.cons (.lit (.str [97])) (.cons (.lit (.str [98])) .nil))) (.cons (.lit .non) (.cons (.lit (.str [98, 97])) .nil)))))))))))
  (.cons (.ret (.tup (.cons (.call "_law_pick" (.val (.var 0) (.val (.var 9) .nil))) (.cons (.var 5) (.cons (.var 6) .nil)))))
  .nil))
  .nil)
  (.cons (.ite (.of (.op2 .eq (.var 7) (.lit (.int 2))))
  (.cons (.ret (.tup (.cons (.var 4) (.cons (.var 2) (.cons (.var 6) .nil)))))
  .nil)
  .nil)
  (.cons (.ite (.of (.op2 .eq (.var 7) (.lit (.int 3))))
  (.cons (.set (.nm 9) (.fr (.lst (.cons (.tup .nil) (.cons (.op2 .mul (.var 6) (.lit (.int 61))) (.cons (.op2 .add (.var 6) (.tup (.cons (.lit .non) .nil))) (.cons (.op2 .add (.op2 .add (.slc (.var 6) .nil (.cons (.var 8) .nil)) (.tup (.cons (.var 2) .nil))) (.slc (.var 6) (.cons (.var 8) .nil) .nil)) (.cons (.idx (.var 6) (.lit (.int 0))) .nil))))))))
  (.cons (.ret (.tup (.cons (.var 4) (.cons (.var 5) (.cons (.call "_law_pick" (.val (.var 0) (.val (.var 9) .nil))) .nil)))))
  .nil))
  .nil)
  (.cons (.set (.t2 (.nm 10) (.nm 11)) (.idx (.var 6) (.var 8)))
  (.cons (.set (.nm 3) (.call "_law_below" (.val (.var 0) (.val (.bi .len (.cons (.var 10) .nil)) .nil))))
  (.cons (.ite (.of (.op2 .eq (.var 7) (.lit (.int 4))))
  (.cons (.set (.nm 9) (.fr (.lst (.cons (.tup (.cons (.var 10) (.cons (.var 2) .nil))) (.cons (.tup (.cons (.fr (.bf .list (.cons (.var 10) .nil))) (.cons (.var 11) .nil))) (.cons (.tup (.cons (.slc (.var 10) (.cons (.lit (.int 1)) .nil) .nil) (.cons (.var 11) .nil))) (.cons (.tup (.cons (.op2 .add (.var 10) (.tup (.cons (.lit .non) .nil))) (.cons (.var 11) .nil))) (.cons (.tup (.cons (.var 10) .nil)) .nil))))))))
  (.cons (.set (.nm 12) (.call "_law_pick" (.val (.var 0) (.val (.op2 .add (.var 9) (.fr (.lst (.cons (.fr (.lst (.cons (.var 10) (.cons (.var 11) .nil)))) (.cons (.tup (.cons (.var 10) (.cons (.var 11) (.cons (.var 11) .nil)))) (.cons (.tup (.cons (.var 10) (.cons (.var 11) (.cons (.lit .non) .nil)))) .nil)))))) .nil))))
  .nil))
  (.cons (.ite (.or (.of (.op2 .eq (.var 7) (.lit (.int 5)))) (.of (.op2 .isN (.idx (.var 10) (.var 3)) (.lit .non))))
  (.cons (.set (.nm 12) (.tup (.cons (.op2 .add (.op2 .add (.slc (.var 10) .nil (.cons (.var 3) .nil)) (.tup (.cons (.call "_law_pick" (.val (.var 0) (.val (.fr (.lst (.cons (.var 2) (.cons (.tup (.cons (.lit (.str [])) (.cons (.lit (.str [])) (.cons (.bi .len (.cons (.var 6) .nil)) .nil)))) (.cons (.tup (.cons (.lit (.str [])) (.cons (.lit (.str [])) .nil))) .nil))))) .nil))) .nil))) (.slc (.var 10) (.cons (.op2 .add (.var 3) (.lit (.int 1))) .nil) .nil)) (.cons (.var 11) .nil))))
  .nil)
  (.cons (.parF [13] (.cons (.call "_law_below" (.val (.var 0) (.val (.lit (.int 3)) .nil))) .nil) 14 (.bf .list (.cons (.idx (.var 10) (.var 3)) .nil)))
  (.cons (.setIx (.var 14) (.var 13) (.call "_law_pick" (.val (.var 0) (.val (.fr (.lst (.cons (.var 2) (.cons (.var 2) (.cons (.bi .len (.cons (.var 6) .nil)) (.cons (.op2 .sub (.lit (.int 0)) (.lit (.int 1))) (.cons (.lit (.bl true)) (.cons (.lit (.str [48])) .nil)))))))) .nil))))
  (.cons (.set (.nm 9) (.fr (.lst (.cons (.bi .tuple (.cons (.var 14) .nil)) (.cons (.bi .tuple (.cons (.var 14) .nil)) (.cons (.fr (.bf .list (.cons (.idx (.var 10) (.var 3)) .nil))) (.cons (.op2 .add (.idx (.var 10) (.var 3)) (.tup (.cons (.lit (.int 0)) .nil))) (.cons (.op2 .add (.idx (.var 10) (.var 3)) (.tup (.cons (.lit (.str [])) .nil))) .nil))))))))
  (.cons (.set (.nm 12) (.tup (.cons (.op2 .add (.op2 .add (.slc (.var 10) .nil (.cons (.var 3) .nil)) (.tup (.cons (.call "_law_pick" (.val (.var 0) (.val (.var 9) .nil))) .nil))) (.slc (.var 10) (.cons (.op2 .add (.var 3) (.lit (.int 1))) .nil) .nil)) (.cons (.var 11) .nil))))
  .nil)))))
  .nil))
  (.cons (.ret (.tup (.cons (.var 4) (.cons (.var 5) (.cons (.op2 .add (.op2 .add (.slc (.var 6) .nil (.cons (.var 8) .nil)) (.tup (.cons (.var 12) .nil))) (.slc (.var 6) (.cons (.op2 .add (.var 8) (.lit (.int 1))) .nil) .nil)) .nil)))))
  .nil)))))))))))⟩
/-- law -/
def fd_law : Fd := ⟨1, ["script", "pot", "turn", "expander", "wide", "some", "word", "move", "moves", "thing", "before", "last"],
  (.cons (.new 1 (.call "_law_pot_of" (.val (.var 0) .nil)))
  (.cons (.for_ (.nm 2) (.rng1 (.lit (.int 14)))
  (.cons (.set (.nm 3) (.call "_law_some_expander" (.val (.var 1) (.val (.lit (.int 4)) .nil))))
  (.cons (.set (.nm 4) (.tup (.cons (.idx (.var 3) (.lit (.int 0))) (.cons (.idx (.var 3) (.lit (.int 1))) (.cons (.slc (.op2 .mul (.idx (.var 3) (.lit (.int 2))) (.lit (.int 60))) .nil (.cons (.call "_law_pick" (.val (.var 1) (.val (.fr (.lst (.cons (.lit (.int 59)) (.cons (.lit (.int 60)) (.cons (.lit (.int 61)) .nil))))) .nil))) .nil)) .nil)))))
  (.cons (.own 5 (.lst (.cons (.tup (.cons (.lit (.str [97, 98, 99, 122])) (.cons (.idx (.var 3) (.lit (.int 1))) (.cons (.bi .tuple (.cons (.fr (.lc [8, 11] (.t2 (.nm 8) (.nm 11)) (.of (.idx (.var 3) (.lit (.int 2)))) .nil (.tup (.cons (.slc (.op2 .mul (.var 8) (.lit (.int 4))) .nil (.cons (.lit (.int 4)) .nil)) (.cons (.var 11) .nil))))) .nil)) .nil)))) .nil)))
  (.cons (.set (.nm 6) (.op2 .mul (.idx (.idx (.var 3) (.lit (.int 0))) (.lit (.int 0))) (.call "_law_pick" (.val (.var 1) (.val (.fr (.lst (.cons (.lit (.int 200)) (.cons (.lit (.int 201)) (.cons (.lit (.int 2000)) .nil))))) .nil)))))
  (.cons (.set (.nm 7) (.tup (.cons (.call "_law_pick" (.val (.var 1) (.val (.fr (.lst (.cons (.var 6) (.cons (.lit (.str [])) .nil)))) .nil))) (.cons (.call "_law_pick" (.val (.var 1) (.val (.fr (.lst (.cons (.var 6) (.cons (.lit (.str [])) .nil)))) .nil))) (.cons (.lit (.int 0)) .nil)))))
  (.cons (.set (.nm 8) (.op2 .mul (.tup (.cons (.var 7) .nil)) (.bi .len (.cons (.idx (.var 3) (.lit (.int 0))) .nil))))
  (.cons (.expr (.mw .append (.var 5) (.cons (.tup (.cons (.idx (.var 3) (.lit (.int 0))) (.cons (.call "_law_pick" (.val (.var 1) (.val (.fr (.lst (.cons (.var 6) (.cons (.lit (.str [])) .nil)))) .nil))) (.cons (.tup (.cons (.tup (.cons (.var 8) (.cons (.call "_law_pick" (.val (.var 1) (.val (.fr (.lst (.cons (.var 6) (.cons (.lit .non) .nil)))) .nil))) .nil))) .nil)) .nil)))) .nil)))
  (.cons (.expr (.mw .append (.var 5) (.cons (.tup (.cons (.idx (.var 3) (.lit (.int 0))) (.cons (.lit (.str [])) (.cons (.op2 .mul (.tup (.cons (.tup (.cons (.op2 .mul (.tup (.cons (.lit .non) .nil)) (.bi .len (.cons (.idx (.var 3) (.lit (.int 0))) .nil))) (.cons (.slc (.var 6) .nil (.cons (.lit (.int 2000)) .nil)) .nil))) .nil)) (.call "_law_pick" (.val (.var 1) (.val (.fr (.lst (.cons (.lit (.int 1)) (.cons (.lit (.int 60)) .nil)))) .nil)))) .nil)))) .nil)))
  (.cons (.set (.nm 5) (.op2 .add (.var 5) (.fr (.lst (.cons (.var 3) (.cons (.call "_law_spoilt" (.val (.var 1) (.val (.var 3) .nil))) (.cons (.call "_law_spoilt" (.val (.var 1) (.val (.var 3) .nil))) (.cons (.var 4) (.cons (.lit .non) (.cons (.tup .nil) (.cons (.fr (.lst .nil)) (.cons (.fr (.dct false)) (.cons (.lit (.str [120])) (.cons (.lit (.int 0)) .nil))))))))))))))
  (.cons (.for_ (.nm 9) (.of (.var 5))
  (.cons (.set (.nm 10) (.bi .repr (.cons (.var 9) .nil)))
  (.cons (.ite (.or (.of (.op2 .ne (.bi .repr (.cons (.call "is_expander" (.val (.var 9) .nil)) .nil)) (.bi .repr (.cons (.call "_law_is_expander" (.val (.var 9) .nil)) .nil)))) (.of (.op2 .ne (.bi .repr (.cons (.var 9) .nil)) (.var 10))))
  (.cons (.ret (.lit (.bl false)))
  .nil)
  .nil)
  .nil)) [9, 10])
  .nil)))))))))) [2, 3, 4, 5, 6, 7, 8, 9, 10])
  (.cons (.ret (.lit (.bl true)))
  .nil)))⟩
def fns (f : String) : Option Fd := match f with
  | "is_integer" => some fd_is_integer
  | "is_below" => some fd_is_below
  | "is_word" => some fd_is_word
  | "is_short" => some fd_is_short
  | "are_signs" => some fd_are_signs
  | "is_move" => some fd_is_move
  | "is_state" => some fd_is_state
  | "is_expander" => some fd_is_expander
  | "_law_kneaded" => some fd__law_kneaded
  | "_law_pot_of" => some fd__law_pot_of
  | "_law_below" => some fd__law_below
  | "_law_pick" => some fd__law_pick
  | "_law_some_word" => some fd__law_some_word
  | "_law_some_expander" => some fd__law_some_expander
  | "_law_plainer" => some fd__law_plainer
  | "_law_calls" => some fd__law_calls
  | "_law_sizes" => some fd__law_sizes
  | "_law_is_short" => some fd__law_is_short
  | "_law_is_count" => some fd__law_is_count
  | "_law_is_move" => some fd__law_is_move
  | "_law_is_state" => some fd__law_is_state
  | "_law_is_expander" => some fd__law_is_expander
  | "_law_spoilt" => some fd__law_spoilt
  | "law" => some fd_law
  | _ => none
def glb (x : String) : Option D := match x with
  | "MAX_WORD" => some (.int 2000)
  | "LETTERS" => some (.str [97, 98, 99, 100, 101, 102, 103, 104, 105, 106, 107, 108, 109, 110, 111, 112, 113, 114, 115, 116, 117, 118, 119, 120, 121, 122])
  | "MAX_SIGNS" => some (.int 4)
  | "MAX_STATES" => some (.int 60)
  | _ => none
abbrev P : Prog := ⟨fns, glb⟩
end K02

/-! Hl9: the law k02, by the evaluator. -/
namespace HL
open RS
theorem has02 : Has K02.P := ⟨rfl, rfl, rfl, rfl, rfl, rfl, rfl, rfl, rfl⟩
theorem pg02 : Pg K02.P := ⟨rfl, rfl, rfl, rfl, rfl, rfl, rfl, rfl, rfl, rfl, rfl, rfl⟩
theorem lx02 : Lx K02.P := ⟨rfl, rfl, rfl, rfl, rfl⟩
section
variable {P : Prog} {n : Nat}
theorem call_exp (h : Has P) {o : Ob} {r : List Ob} {many : Int} {env : List Slot} {Q : Arg → S → Prop} (ho : Pot o) (m0 : 0 < many) (m1 : many ≤ 60)
    (k : ∀ (cs fw : Txt) (states : List D) o', Sg cs → Wd cs 2 (.str fw) → (∀ x ∈ states, St cs states.length x) → 1 ≤ states.length → (states.length : Int) ≤ many → Pot o' → Q (.val (.tup [.str cs, .str fw, .tup states])) ⟨env, o' :: r⟩) :
    okR (callF (fnAt P (n + 5)) "_law_some_expander" [.val (.ref 0), .val (.int many)] ⟨env, o :: r⟩) Q :=
  okR_call rfl ((some_expander h ho m0 m1).mono fun x _ st' q => by
    obtain ⟨⟨cs, f, states, rfl, a, b, c, d, e⟩, o', p, rfl⟩ := q
    have b' := b
    obtain ⟨fw, rfl, _⟩ := b
    exact k cs fw states o' a b' c d e p)
theorem call_spoilt (h : Has P) (hsp : P.fns "_law_spoilt" = some fd__law_spoilt) {o : Ob} {r : List Ob} {cs fw : Txt} {states : List D} {env : List Slot} {Q : Arg → S → Prop} (ho : Pot o) (hs : Sg cs) (hw : Wd cs 2 (.str fw)) (hst : ∀ x ∈ states, St cs states.length x) (h1 : 1 ≤ states.length) (h4 : states.length ≤ 4)
    (k : ∀ d o', Rq 1000000 20 d → Pot o' → Q (.val d) ⟨env, o' :: r⟩) :
    okR (callF (fnAt P (n + 4)) "_law_spoilt" [.val (.ref 0), .val (.tup [.str cs, .str fw, .tup states])] ⟨env, o :: r⟩) Q :=
  okR_call rfl ((spoilt h hsp ho hs hw hst h1 h4).mono fun x _ st' q => by
    obtain ⟨⟨d, rfl, a⟩, o', p, rfl⟩ := q
    exact k d o' a p)
end
theorem Pot.ob {o : Ob} (h : Pot o) : True := trivial
theorem bi_repr {d : D} {t : Txt} (h : reprD d = some t) : bi .repr [d] = some (.str t) := by
  show (reprD d).map D.str = _
  rw [h]
  rfl
theorem law02 (ns : List Int) : okF (fnAt K02.P 20 "law" [.val (.kl (ns.map .int))] []) fun x _ _ => x = .val (.bl true) := by
  refine okF_fn rfl rfl ?_
  dsimp only [K02.fd_law, List.replicate]
  refine cutQ (fun s => ∃ o', s = ⟨[.val (.kl (ns.map .int)), .val (.ref 0), .un, .un, .un, .un, .un, .un, .un, .un, .un, .un], [o']⟩ ∧ Pot o') ?_ ?_
  · intro K kk
    simp -implicitDefEqProofs [List.replicate]
    refine okR_call rfl ((pot_of has02).mono fun x _ st' q => ?_)
    obtain ⟨⟨o', p, rfl⟩, rfl⟩ := q
    simp -implicitDefEqProofs 
    exact kk _ ⟨_, rfl, p⟩
  rintro s ⟨o', rfl, p⟩
  refine cutQ (fun s => True) ?_ ?_
  rotate_left
  · intro s _
    simp
  intro K kk
  simp -implicitDefEqProofs [rng_lit (show -(2 ^ 62) ≤ (14 : Int) by decide) (show (14 : Int) < 2 ^ 62 by decide)]
  refine for_ (fun xs s => ∃ o', s = ⟨[.val (.kl (ns.map .int)), .val (.ref 0), .un, .un, .un, .un, .un, .un, .un, .un, .un, .un], [o']⟩ ∧ Pot o' ∧ Ints xs) ?_ ?_ _ _ ⟨_, rfl, p, .ups⟩
  · rintro s _
    exact ⟨rfl, kk _ trivial⟩
  rintro x xs s ⟨o', rfl, p, hx⟩ K kk
  obtain ⟨i, rfl⟩ := hx x (List.mem_cons_self ..)
  have hxr : Ints xs := fun y hy => hx y (List.mem_cons_of_mem _ hy)
  clear hx
  refine ⟨_, rfl, ?_⟩
  generalize D.int i = tn
  -- expander
  refine cutQ (fun s => ∃ o' cs fw states, s = ⟨[.val (.kl (ns.map .int)), .val (.ref 0), .val tn, .val (.tup [.str cs, .str fw, .tup states]), .un, .un, .un, .un, .un, .un, .un, .un], [o']⟩ ∧ Pot o' ∧ Sg cs ∧ Wd cs 2 (.str fw) ∧ (∀ x ∈ states, St cs states.length x) ∧ 1 ≤ states.length ∧ states.length ≤ 4) ?_ ?_
  · intro K kk
    simp -implicitDefEqProofs 
    refine call_exp has02 p (by decide) (by decide) fun cs fw states o2 h1 h2 h3 h4 h5 p2 => ?_
    simp -implicitDefEqProofs 
    exact kk _ ⟨_, _, _, _, rfl, p2, h1, h2, h3, h4, by omega⟩
  rintro s ⟨o', cs, fw, states, rfl, p, hs, hw, hst, h1, h4⟩
  have hcl := hs.le
  have hcn := List.length_pos_iff.mpr hs.ne
  have hcs : ∀ q, Rp q 120000 10 (.str cs) := fun q => hs.rp.mono (by decide) (by decide)
  have hfw : ∀ q, Rp q 120000 10 (.str fw) := fun q => hw.rp hs |>.mono (by decide) (by decide)
  have hss4 : ∀ q, Rpl q 106 3 states := fun q x hx => (hst x hx).rp hs (by omega)
  have tri : ∀ {q a b c}, Rp q 240180 10 a → Rp q 240180 10 b → Rp q 240180 10 c → Rp q 1000000 20 (.tup [a, b, c]) := fun ha hb hc => (Rp.tup (L := 3) (.cons ha (.cons hb (.cons hc .nil))) (by simp)).mono (by decide) (by decide)
  have up : ∀ {q d}, Rp q 120000 10 d → Rp q 240180 10 d := fun h => h.mono (by decide) (by decide)
  -- wide
  refine cutQ (fun s => ∃ o' wd, s = ⟨[.val (.kl (ns.map .int)), .val (.ref 0), .val tn, .val (.tup [.str cs, .str fw, .tup states]), .val wd, .un, .un, .un, .un, .un, .un, .un], [o']⟩ ∧ Pot o' ∧ Rp true 1000000 20 wd) ?_ ?_
  · intro K kk
    have hm : op2 .mul (.tup states) (.int 60) = some (.tup (reps 60 states)) := op_mul_tup (by decide) (by decide) (by show states.length * 60 ≤ 16777216; omega)
    simp -implicitDefEqProofs [ixN, hm]
    refine call_pick_lst has02 p (by simp) (by simp) (by simp [D.still]) fun d o2 hd p2 => ?_
    have : ∃ j : Int, d = .int j := by
      simp only [List.mem_cons, List.not_mem_nil, or_false] at hd
      rcases hd with rfl | rfl | rfl <;> exact ⟨_, rfl⟩
    obtain ⟨j, rfl⟩ := this
    simp -implicitDefEqProofs 
    refine kk _ ⟨_, _, rfl, p2, tri (up (hcs _)) (up (hfw _)) ((Rp.tup (L := 240) (hss4 _).reps.cut (Nat.le_trans cut_len (by rw [reps_len]; omega))).mono (by decide) (by decide))⟩
  rintro s ⟨o', wd, rfl, p, hwd⟩
  -- some
  refine cutQ (fun s => ∃ sm, s = ⟨[.val (.kl (ns.map .int)), .val (.ref 0), .val tn, .val (.tup [.str cs, .str fw, .tup states]), .val wd, .own (.lst sm), .un, .un, .un, .un, .un, .un], [o']⟩ ∧ (∀ d ∈ sm, Rq 1000000 20 d) ∧ sm.length ≤ 1) ?_ ?_
  · intro K kk
    simp -implicitDefEqProofs [ixN]
    refine lc_rel (R := fun d => ∀ q, Rp q 106 3 d) (fun x hx => ?_) fun ds dl hds => ?_
    · obtain ⟨mvs, la, rfl, m1, m2, m3⟩ := hst x hx
      have hm : op2 .mul (.tup mvs) (.int 4) = some (.tup (reps 4 mvs)) := op_mul_tup (by decide) (by decide) (by show mvs.length * 4 ≤ 16777216; omega)
      simp -implicitDefEqProofs [lcStep, hm, esc_still m3.still]
      have key : ∀ q, Rp q 106 3 (.tup [.tup (cut (reps 4 mvs) none (some 4)), la]) := fun q => by
       refine Rp.tup (L := 2) (n := 52) (k := 2) (.cons (Rp.tup (L := 4) (n := 12) (k := 1) (Rpl.cut (Rpl.reps fun x hx => (m2 x hx).rp hs (by omega))) (by simp [cut, cutIx]; omega)) (.cons ((m3.rp hs).mono (by decide) (by decide)) .nil)) (by simp)
      exact ⟨key false, key true⟩
    · have hdf : D.fit ds.length = true := fitK (by omega)
      simp -implicitDefEqProofs [hdf, okOwn]
      refine kk _ ⟨_, rfl, fun d hd => ?_, by simp⟩
      rw [List.mem_singleton.mp hd]
      exact ⟨true, tri (.str (by simp) (by simp)) (up (hfw _)) ((Rp.tup (L := 4) (fun x hx => hds x hx true) (by omega)).mono (by decide) (by decide))⟩
  rintro s ⟨sm, rfl, hsm, hsl⟩
  -- word
  refine cutQ (fun s => ∃ o' w, s = ⟨[.val (.kl (ns.map .int)), .val (.ref 0), .val tn, .val (.tup [.str cs, .str fw, .tup states]), .val wd, .own (.lst sm), .val (.str w), .un, .un, .un, .un, .un], [o']⟩ ∧ Pot o' ∧ w.length ≤ 2000 ∧ ∀ c ∈ w, c < 128) ?_ ?_
  · intro K kk
    have hx0 : ixN cs.length 0 = some 0 := by simp [ixN, hcn]
    have hg0 : cs[0]? = some cs[0] := List.getElem?_eq_getElem hcn
    have hc0 : cs[0] < 128 := hs.lt _ (List.getElem_mem hcn)
    simp -implicitDefEqProofs [ixN, hcn]
    refine call_pick_lst has02 p (by simp) (by simp) (by simp [D.still]) fun d o2 hd p2 => ?_
    have : ∃ j : Int, d = .int j ∧ 0 ≤ j ∧ j ≤ 2000 := by
      simp only [List.mem_cons, List.not_mem_nil, or_false] at hd
      rcases hd with rfl | rfl | rfl <;> exact ⟨_, rfl, by decide, by decide⟩
    obtain ⟨j, rfl, j0, j1⟩ := this
    have hm : op2 .mul (.str [cs[0]]) (.int j) = some (.str (reps j.toNat [cs[0]])) := op_mul_str j0 (by omega) (by show 1 * j.toNat ≤ 16777216; omega)
    simp -implicitDefEqProofs [hm]
    have hrl : (reps j.toNat [cs[0]]).length ≤ 2000 := by rw [reps_len]; simp; omega
    refine kk _ ⟨_, _, rfl, p2, hrl, fun c hc => ?_⟩
    have := reps_mem hc
    simp at this
    omega
  rintro s ⟨o', w, rfl, p, hw1, hw2⟩
  have hwR : ∀ q, Rp q 2000 0 (.str w) := fun q => .str hw2 hw1
  have keyw : ∀ d ∈ [D.str w, .str []], ∀ q, Rp q 2000 0 d := by
    intro d hd
    simp only [List.mem_cons, List.not_mem_nil, or_false] at hd
    rcases hd with rfl | rfl
    · exact hwR
    · exact fun q => .str (by simp) (by simp)
  have keyn : ∀ d ∈ [D.str w, .non], ∀ q, Rp q 2000 0 d := by
    intro d hd
    simp only [List.mem_cons, List.not_mem_nil, or_false] at hd
    rcases hd with rfl | rfl
    · exact hwR
    · exact fun q => .non
  -- move
  refine cutQ (fun s => ∃ o' mv, s = ⟨[.val (.kl (ns.map .int)), .val (.ref 0), .val tn, .val (.tup [.str cs, .str fw, .tup states]), .val wd, .own (.lst sm), .val (.str w), .val mv, .un, .un, .un, .un], [o']⟩ ∧ Pot o' ∧ ∀ q, Rp q 6003 1 mv) ?_ ?_
  · intro K kk
    simp -implicitDefEqProofs 
    refine call_pick_lst has02 p (by simp) (by simp) (fun d hd => (keyw d hd true).still) fun d o2 hd p2 => ?_
    simp -implicitDefEqProofs [esc_still (keyw d hd true).still]
    refine call_pick_lst has02 p2 (by simp) (by simp) (fun d hd => (keyw d hd true).still) fun e o2 he p2 => ?_
    simp -implicitDefEqProofs [esc_still (keyw e he true).still]
    exact kk _ ⟨_, _, rfl, p2, fun q => Rp.tup (L := 3) (.cons (keyw d hd q) (.cons (keyw e he q) (.cons (.int (by decide)) .nil))) (by simp)⟩
  rintro s ⟨o', mv, rfl, p, hmv⟩
  -- moves
  refine cutQ (fun s => ∃ ms, s = ⟨[.val (.kl (ns.map .int)), .val (.ref 0), .val tn, .val (.tup [.str cs, .str fw, .tup states]), .val wd, .own (.lst sm), .val (.str w), .val mv, .val (.tup ms), .un, .un, .un], [o']⟩ ∧ ms.length ≤ 4 ∧ ∀ q, Rpl q 6003 1 ms) ?_ ?_
  · intro K kk
    have hm : op2 .mul (.tup [mv]) (.int cs.length) = some (.tup (reps (cs.length : Int).toNat [mv])) := op_mul_tup (by omega) (by omega) (by show 1 * (cs.length : Int).toNat ≤ 16777216; omega)
    simp -implicitDefEqProofs [ixN, esc_still (hmv true).still, hm]
    exact kk _ ⟨_, rfl, by rw [reps_len]; simp; omega, fun q => Rpl.reps (.cons (hmv q) .nil)⟩
  rintro s ⟨ms, rfl, hml, hms⟩
  have hmst : ∀ q, Rp q 24016 2 (.tup ms) := fun q => Rp.tup (L := 4) (hms q) hml
  -- append
  refine cutQ (fun s => ∃ o' sm, s = ⟨[.val (.kl (ns.map .int)), .val (.ref 0), .val tn, .val (.tup [.str cs, .str fw, .tup states]), .val wd, .own (.lst sm), .val (.str w), .val mv, .val (.tup ms), .un, .un, .un], [o']⟩ ∧ Pot o' ∧ (∀ d ∈ sm, Rq 1000000 20 d) ∧ sm.length ≤ 2) ?_ ?_
  · intro K kk
    simp -implicitDefEqProofs [isLstD, ixN]
    refine call_pick_lst has02 p (by simp) (by simp) (fun d hd => (keyw d hd true).still) fun d o2 hd p2 => ?_
    simp -implicitDefEqProofs [esc_still (keyw d hd true).still]
    refine call_pick_lst has02 p2 (by simp) (by simp) (fun d hd => (keyn d hd true).still) fun e o2 he p2 => ?_
    have hz : sm.length < szL := Nat.lt_of_lt_of_le (show sm.length < 100 by omega) (by decide)
    simp -implicitDefEqProofs [esc_still (keyn e he true).still, mw, hz]
    refine kk _ ⟨_, _, rfl, p2, fun x hx => ?_, by simp; omega⟩
    rcases List.mem_append.mp hx with hx | hx
    · exact hsm x hx
    · rw [List.mem_singleton.mp hx]
      refine ⟨true, tri (up (hcs _)) ((keyw d hd _).mono (by decide) (by decide)) ((Rp.tup (L := 1) (.cons (Rp.tup (L := 2) (.cons (hmst _) (.cons ((keyn e he _).mono (by decide) (by decide)) .nil)) (by simp)) .nil) (by simp)).mono (by decide) (by decide))⟩
  clear p hsm hsl sm o'
  rintro s ⟨o', sm, rfl, p, hsm, hsl⟩
  refine cutQ (fun s => ∃ o' sm, s = ⟨[.val (.kl (ns.map .int)), .val (.ref 0), .val tn, .val (.tup [.str cs, .str fw, .tup states]), .val wd, .own (.lst sm), .val (.str w), .val mv, .val (.tup ms), .un, .un, .un], [o']⟩ ∧ Pot o' ∧ (∀ d ∈ sm, Rq 1000000 20 d) ∧ sm.length ≤ 3) ?_ ?_
  · intro K kk
    have hm : op2 .mul (.tup [.non]) (.int cs.length) = some (.tup (reps (cs.length : Int).toNat [.non])) := op_mul_tup (by omega) (by omega) (by show 1 * (cs.length : Int).toNat ≤ 16777216; omega)
    simp -implicitDefEqProofs [isLstD, ixN, hm]
    refine call_pick_lst has02 p (by simp) (by simp) (by simp [D.still]) fun d o2 hd p2 => ?_
    have : ∃ j : Int, d = .int j ∧ 1 ≤ j ∧ j ≤ 60 := by
      simp only [List.mem_cons, List.not_mem_nil, or_false] at hd
      rcases hd with rfl | rfl <;> exact ⟨_, rfl, by decide, by decide⟩
    obtain ⟨j, rfl, j0, j1⟩ := this
    have hm2 : ∀ z, op2 .mul (.tup [z]) (.int j) = some (.tup (reps j.toNat [z])) := fun z => op_mul_tup j0 (by omega) (by show 1 * j.toNat ≤ 16777216; omega)
    have hz : sm.length < szL := Nat.lt_of_lt_of_le (show sm.length < 100 by omega) (by decide)
    simp -implicitDefEqProofs [hm2, mw, hz]
    refine kk _ ⟨_, _, rfl, p2, fun x hx => ?_, by simp; omega⟩
    rcases List.mem_append.mp hx with hx | hx
    · exact hsm x hx
    · rw [List.mem_singleton.mp hx]
      have e1 : Rp true 4 1 (.tup (reps (cs.length : Int).toNat [.non])) := Rp.tup (L := 4) (n := 0) (k := 0) (Rpl.reps (.cons .non .nil)) (by rw [reps_len]; simp; omega)
      have e2 : Rp true 2000 1 (.str (cut w none (some 2000))) := .str (fun c hc => hw2 c (mem_cut hc)) (Nat.le_trans cut_len hw1)
      have e3 : Rp true 4002 2 (.tup [.tup (reps (cs.length : Int).toNat [.non]), .str (cut w none (some 2000))]) := Rp.tup (L := 2) (n := 2000) (k := 1) (.cons (e1.mono (by decide) (by decide)) (.cons e2 .nil)) (by simp)
      have e4 : Rp true 240180 3 (.tup (reps j.toNat [.tup [.tup (reps (cs.length : Int).toNat [.non]), .str (cut w none (some 2000))]])) := Rp.tup (L := 60) (n := 4002) (k := 2) (Rpl.reps (.cons e3 .nil)) (by rw [reps_len]; simp; omega)
      refine ⟨true, tri (up (hcs _)) (.str (by simp) (by simp)) (e4.mono (by decide) (by decide))⟩
  clear p hsm hsl sm o'
  rintro s ⟨o', sm, rfl, p, hsm, hsl⟩
  -- the things
  refine cutQ (fun s => ∃ o' sm, s = ⟨[.val (.kl (ns.map .int)), .val (.ref 0), .val tn, .val (.tup [.str cs, .str fw, .tup states]), .val wd, .val (.lst sm), .val (.str w), .val mv, .val (.tup ms), .un, .un, .un], [o']⟩ ∧ Pot o' ∧ (∀ d ∈ sm, Rq 1000000 20 d)) ?_ ?_
  · intro K kk
    have hadd : ∀ l : List D, l.length = 10 → op2 .add (.lst sm) (.lst l) = some (.lst (sm ++ l)) := fun l hl => op_add_lst' (by omega)
    have hX : Rq 1000000 20 (.tup [.str cs, .str fw, .tup states]) := ⟨true, tri (up (hcs _)) (up (hfw _)) ((Rp.tup (L := 4) (hss4 _) h4).mono (by decide) (by decide))⟩
    simp -implicitDefEqProofs 
    refine call_spoilt has02 rfl p hs hw hst h1 h4 fun d o2 hd p2 => ?_
    simp -implicitDefEqProofs [esc_still hd.still]
    refine call_spoilt has02 rfl p2 hs hw hst h1 h4 fun e o2 he p2 => ?_
    simp -implicitDefEqProofs [esc_still he.still, esc_still hwd.still, hadd]
    refine kk _ ⟨_, _, rfl, p2, fun x hx => ?_⟩
    rcases List.mem_append.mp hx with hx | hx
    · exact hsm x hx
    · simp only [List.mem_cons, List.not_mem_nil, or_false] at hx
      rcases hx with rfl | rfl | rfl | rfl | rfl | rfl | rfl | rfl | rfl | rfl
      · exact hX
      · exact hd
      · exact he
      · exact ⟨_, hwd⟩
      · exact ⟨true, .non⟩
      · exact ⟨true, (Rp.tup (L := 0) (n := 0) (k := 0) .nil (by simp)).mono (by decide) (by decide)⟩
      · exact ⟨true, (Rp.lst (L := 0) (n := 0) (k := 0) .nil (by simp)).mono (by decide) (by decide)⟩
      · exact ⟨false, .dct0⟩
      · exact ⟨true, .str (by simp) (by simp)⟩
      · exact ⟨true, .int (by decide)⟩
  clear p hsm hsl sm o'
  rintro s ⟨o', sm, rfl, p, hsm⟩
  simp -implicitDefEqProofs 
  refine for_ (fun xs s => s = ⟨[.val (.kl (ns.map .int)), .val (.ref 0), .val tn, .val (.tup [.str cs, .str fw, .tup states]), .val wd, .val (.lst sm), .val (.str w), .val mv, .val (.tup ms), .un, .un, .un], [o']⟩ ∧ (∀ d ∈ xs, Rq 1000000 20 d)) ?_ ?_ _ _ ⟨rfl, hsm⟩
  · rintro s ⟨rfl, _⟩
    simp -implicitDefEqProofs 
    exact kk _ ⟨_, rfl, p, hxr⟩
  · rintro x xs s ⟨rfl, hx⟩ K kk
    obtain ⟨q, hd⟩ := hx x (List.mem_cons_self ..)
    have hxr : ∀ d ∈ xs, Rq 1000000 20 d := fun y hy => hx y (List.mem_cons_of_mem _ hy)
    refine ⟨_, rfl, ?_⟩
    obtain ⟨t, ht⟩ := hd.shows
    obtain ⟨u, hu⟩ : ∃ u, reprD (.bl (isExp x)) = some u := (Rp.bl (q := true)).shows
    have hdt := hd.dt
    simp -implicitDefEqProofs [hdt.vw, bi_repr ht, esc_still hdt.still]
    refine call_ans rfl (is_expander pg02 hdt) ?_
    simp -implicitDefEqProofs [hdt.vw, bi_repr hu, esc_still hdt.still]
    refine call_ans rfl (l_expander lx02 hdt) ?_
    simp -implicitDefEqProofs [hdt.vw, bi_repr hu, bi_repr ht, esc_still hdt.still]
    exact kk _ ⟨rfl, hxr⟩
end HL
namespace K02
open RS
theorem law_ok : ∀ ns : List Int, ns.length ≤ 63 → ∃ outs st, RS.fnAt K02.P 20 "law" [.val (.kl (ns.map .int))] [] = .ok (.val (.bl true)) outs st := fun ns _ => by
  obtain ⟨r, o, s, e, rfl⟩ := okF_ex (HL.law02 ns)
  exact ⟨o, s, e⟩
end K02


namespace K02
open PySem L2 RS
open PyProof.Rows
def top (i : Nat) : Stmt := PySem.Challenge.pw_rescans_k02_expanders_recognized.main.body.getD i (.Pass ⟨0, 0, 0, 0⟩)
theorem c_is_integer : chkQ P (fd_is_integer.names.map nm) (defScope (top 2)) fd_is_integer.body (defBody (top 2)) = true := by decide +kernel
theorem s_is_integer : FnScope (fd_is_integer.names.map nm) [nm "thing"] (defScope (top 2)) := ⟨by decide +kernel, by decide +kernel, by decide +kernel, by decide +kernel, by decide +kernel, by decide +kernel, by decide +kernel⟩
theorem c_is_below : chkQ P (fd_is_below.names.map nm) (defScope (top 3)) fd_is_below.body (defBody (top 3)) = true := by decide +kernel
theorem s_is_below : FnScope (fd_is_below.names.map nm) [nm "thing", nm "bound"] (defScope (top 3)) := ⟨by decide +kernel, by decide +kernel, by decide +kernel, by decide +kernel, by decide +kernel, by decide +kernel, by decide +kernel⟩
theorem c_is_word : chkQ P (fd_is_word.names.map nm) (defScope (top 4)) fd_is_word.body (defBody (top 4)) = true := by decide +kernel
theorem s_is_word : FnScope (fd_is_word.names.map nm) [nm "signs", nm "thing"] (defScope (top 4)) := ⟨by decide +kernel, by decide +kernel, by decide +kernel, by decide +kernel, by decide +kernel, by decide +kernel, by decide +kernel⟩
theorem c_is_short : chkQ P (fd_is_short.names.map nm) (defScope (top 5)) fd_is_short.body (defBody (top 5)) = true := by decide +kernel
theorem s_is_short : FnScope (fd_is_short.names.map nm) [nm "signs", nm "thing"] (defScope (top 5)) := ⟨by decide +kernel, by decide +kernel, by decide +kernel, by decide +kernel, by decide +kernel, by decide +kernel, by decide +kernel⟩
theorem c_are_signs : chkQ P (fd_are_signs.names.map nm) (defScope (top 10)) fd_are_signs.body (defBody (top 10)) = true := by decide +kernel
theorem s_are_signs : FnScope (fd_are_signs.names.map nm) [nm "thing"] (defScope (top 10)) := ⟨by decide +kernel, by decide +kernel, by decide +kernel, by decide +kernel, by decide +kernel, by decide +kernel, by decide +kernel⟩
theorem c_is_move : chkQ P (fd_is_move.names.map nm) (defScope (top 11)) fd_is_move.body (defBody (top 11)) = true := by decide +kernel
theorem s_is_move : FnScope (fd_is_move.names.map nm) [nm "signs", nm "many", nm "thing"] (defScope (top 11)) := ⟨by decide +kernel, by decide +kernel, by decide +kernel, by decide +kernel, by decide +kernel, by decide +kernel, by decide +kernel⟩
theorem c_is_state : chkQ P (fd_is_state.names.map nm) (defScope (top 12)) fd_is_state.body (defBody (top 12)) = true := by decide +kernel
theorem s_is_state : FnScope (fd_is_state.names.map nm) [nm "signs", nm "many", nm "thing"] (defScope (top 12)) := ⟨by decide +kernel, by decide +kernel, by decide +kernel, by decide +kernel, by decide +kernel, by decide +kernel, by decide +kernel⟩
theorem c_is_expander : chkQ P (fd_is_expander.names.map nm) (defScope (top 13)) fd_is_expander.body (defBody (top 13)) = true := by decide +kernel
theorem s_is_expander : FnScope (fd_is_expander.names.map nm) [nm "thing"] (defScope (top 13)) := ⟨by decide +kernel, by decide +kernel, by decide +kernel, by decide +kernel, by decide +kernel, by decide +kernel, by decide +kernel⟩
theorem c__law_kneaded : chkQ P (fd__law_kneaded.names.map nm) (defScope (top 15)) fd__law_kneaded.body (defBody (top 15)) = true := by decide +kernel
theorem s__law_kneaded : FnScope (fd__law_kneaded.names.map nm) [nm "seed", nm "lap"] (defScope (top 15)) := ⟨by decide +kernel, by decide +kernel, by decide +kernel, by decide +kernel, by decide +kernel, by decide +kernel, by decide +kernel⟩
theorem c__law_pot_of : chkQ P (fd__law_pot_of.names.map nm) (defScope (top 16)) fd__law_pot_of.body (defBody (top 16)) = true := by decide +kernel
theorem s__law_pot_of : FnScope (fd__law_pot_of.names.map nm) [nm "script"] (defScope (top 16)) := ⟨by decide +kernel, by decide +kernel, by decide +kernel, by decide +kernel, by decide +kernel, by decide +kernel, by decide +kernel⟩
theorem c__law_below : chkQ P (fd__law_below.names.map nm) (defScope (top 17)) fd__law_below.body (defBody (top 17)) = true := by decide +kernel
theorem s__law_below : FnScope (fd__law_below.names.map nm) [nm "pot", nm "bound"] (defScope (top 17)) := ⟨by decide +kernel, by decide +kernel, by decide +kernel, by decide +kernel, by decide +kernel, by decide +kernel, by decide +kernel⟩
theorem c__law_pick : chkQ P (fd__law_pick.names.map nm) (defScope (top 18)) fd__law_pick.body (defBody (top 18)) = true := by decide +kernel
theorem s__law_pick : FnScope (fd__law_pick.names.map nm) [nm "pot", nm "items"] (defScope (top 18)) := ⟨by decide +kernel, by decide +kernel, by decide +kernel, by decide +kernel, by decide +kernel, by decide +kernel, by decide +kernel⟩
theorem c__law_some_word : chkQ P (fd__law_some_word.names.map nm) (defScope (top 19)) fd__law_some_word.body (defBody (top 19)) = true := by decide +kernel
theorem s__law_some_word : FnScope (fd__law_some_word.names.map nm) [nm "pot", nm "signs", nm "limit"] (defScope (top 19)) := ⟨by decide +kernel, by decide +kernel, by decide +kernel, by decide +kernel, by decide +kernel, by decide +kernel, by decide +kernel⟩
theorem c__law_some_expander : chkQ P (fd__law_some_expander.names.map nm) (defScope (top 20)) fd__law_some_expander.body (defBody (top 20)) = true := by decide +kernel
theorem s__law_some_expander : FnScope (fd__law_some_expander.names.map nm) [nm "pot", nm "many"] (defScope (top 20)) := ⟨by decide +kernel, by decide +kernel, by decide +kernel, by decide +kernel, by decide +kernel, by decide +kernel, by decide +kernel⟩
theorem c__law_plainer : chkQ P (fd__law_plainer.names.map nm) (defScope (top 21)) fd__law_plainer.body (defBody (top 21)) = true := by decide +kernel
theorem s__law_plainer : FnScope (fd__law_plainer.names.map nm) [nm "state"] (defScope (top 21)) := ⟨by decide +kernel, by decide +kernel, by decide +kernel, by decide +kernel, by decide +kernel, by decide +kernel, by decide +kernel⟩
theorem c__law_calls : chkQ P (fd__law_calls.names.map nm) (defScope (top 22)) fd__law_calls.body (defBody (top 22)) = true := by decide +kernel
theorem s__law_calls : FnScope (fd__law_calls.names.map nm) [nm "expander"] (defScope (top 22)) := ⟨by decide +kernel, by decide +kernel, by decide +kernel, by decide +kernel, by decide +kernel, by decide +kernel, by decide +kernel⟩
theorem c__law_sizes : chkQ P (fd__law_sizes.names.map nm) (defScope (top 23)) fd__law_sizes.body (defBody (top 23)) = true := by decide +kernel
theorem s__law_sizes : FnScope (fd__law_sizes.names.map nm) [nm "expander"] (defScope (top 23)) := ⟨by decide +kernel, by decide +kernel, by decide +kernel, by decide +kernel, by decide +kernel, by decide +kernel, by decide +kernel⟩
theorem c__law_is_short : chkQ P (fd__law_is_short.names.map nm) (defScope (top 24)) fd__law_is_short.body (defBody (top 24)) = true := by decide +kernel
theorem s__law_is_short : FnScope (fd__law_is_short.names.map nm) [nm "signs", nm "thing"] (defScope (top 24)) := ⟨by decide +kernel, by decide +kernel, by decide +kernel, by decide +kernel, by decide +kernel, by decide +kernel, by decide +kernel⟩
theorem c__law_is_count : chkQ P (fd__law_is_count.names.map nm) (defScope (top 25)) fd__law_is_count.body (defBody (top 25)) = true := by decide +kernel
theorem s__law_is_count : FnScope (fd__law_is_count.names.map nm) [nm "thing", nm "bound"] (defScope (top 25)) := ⟨by decide +kernel, by decide +kernel, by decide +kernel, by decide +kernel, by decide +kernel, by decide +kernel, by decide +kernel⟩
theorem c__law_is_move : chkQ P (fd__law_is_move.names.map nm) (defScope (top 26)) fd__law_is_move.body (defBody (top 26)) = true := by decide +kernel
theorem s__law_is_move : FnScope (fd__law_is_move.names.map nm) [nm "signs", nm "many", nm "thing"] (defScope (top 26)) := ⟨by decide +kernel, by decide +kernel, by decide +kernel, by decide +kernel, by decide +kernel, by decide +kernel, by decide +kernel⟩
theorem c__law_is_state : chkQ P (fd__law_is_state.names.map nm) (defScope (top 27)) fd__law_is_state.body (defBody (top 27)) = true := by decide +kernel
theorem s__law_is_state : FnScope (fd__law_is_state.names.map nm) [nm "signs", nm "many", nm "thing"] (defScope (top 27)) := ⟨by decide +kernel, by decide +kernel, by decide +kernel, by decide +kernel, by decide +kernel, by decide +kernel, by decide +kernel⟩
theorem c__law_is_expander : chkQ P (fd__law_is_expander.names.map nm) (defScope (top 28)) fd__law_is_expander.body (defBody (top 28)) = true := by decide +kernel
theorem s__law_is_expander : FnScope (fd__law_is_expander.names.map nm) [nm "thing"] (defScope (top 28)) := ⟨by decide +kernel, by decide +kernel, by decide +kernel, by decide +kernel, by decide +kernel, by decide +kernel, by decide +kernel⟩
theorem c__law_spoilt : chkQ P (fd__law_spoilt.names.map nm) (defScope (top 29)) fd__law_spoilt.body (defBody (top 29)) = true := by decide +kernel
theorem s__law_spoilt : FnScope (fd__law_spoilt.names.map nm) [nm "pot", nm "expander"] (defScope (top 29)) := ⟨by decide +kernel, by decide +kernel, by decide +kernel, by decide +kernel, by decide +kernel, by decide +kernel, by decide +kernel⟩
theorem c_law : chkQ P (fd_law.names.map nm) (defScope (top 30)) fd_law.body (defBody (top 30)) = true := by decide +kernel
theorem s_law : FnScope (fd_law.names.map nm) [nm "script"] (defScope (top 30)) := ⟨by decide +kernel, by decide +kernel, by decide +kernel, by decide +kernel, by decide +kernel, by decide +kernel, by decide +kernel⟩
theorem top_facts {K : PySem.W.Frag} {h : Heap} {mg : Str → Option Value} {f0 : Addr} {od0 an0 : Option Addr} {sl0 : Array (Option Value)} {oc0 kV0 dc0 pm0 cd0 ct0 : Value} {f1 : Addr} {od1 an1 : Option Addr} {sl1 : Array (Option Value)} {oc1 kV1 dc1 pm1 cd1 ct1 : Value} {f2 : Addr} {od2 an2 : Option Addr} {sl2 : Array (Option Value)} {oc2 kV2 dc2 pm2 cd2 ct2 : Value} {f3 : Addr} {od3 an3 : Option Addr} {sl3 : Array (Option Value)} {oc3 kV3 dc3 pm3 cd3 ct3 : Value} {f4 : Addr} {od4 an4 : Option Addr} {sl4 : Array (Option Value)} {oc4 kV4 dc4 pm4 cd4 ct4 : Value} {f5 : Addr} {od5 an5 : Option Addr} {sl5 : Array (Option Value)} {oc5 kV5 dc5 pm5 cd5 ct5 : Value} {f6 : Addr} {od6 an6 : Option Addr} {sl6 : Array (Option Value)} {oc6 kV6 dc6 pm6 cd6 ct6 : Value} {f7 : Addr} {od7 an7 : Option Addr} {sl7 : Array (Option Value)} {oc7 kV7 dc7 pm7 cd7 ct7 : Value} {f8 : Addr} {od8 an8 : Option Addr} {sl8 : Array (Option Value)} {oc8 kV8 dc8 pm8 cd8 ct8 : Value} {f9 : Addr} {od9 an9 : Option Addr} {sl9 : Array (Option Value)} {oc9 kV9 dc9 pm9 cd9 ct9 : Value} {f10 : Addr} {od10 an10 : Option Addr} {sl10 : Array (Option Value)} {oc10 kV10 dc10 pm10 cd10 ct10 : Value} {f11 : Addr} {od11 an11 : Option Addr} {sl11 : Array (Option Value)} {oc11 kV11 dc11 pm11 cd11 ct11 : Value} {f12 : Addr} {od12 an12 : Option Addr} {sl12 : Array (Option Value)} {oc12 kV12 dc12 pm12 cd12 ct12 : Value} {f13 : Addr} {od13 an13 : Option Addr} {sl13 : Array (Option Value)} {oc13 kV13 dc13 pm13 cd13 ct13 : Value} {f14 : Addr} {od14 an14 : Option Addr} {sl14 : Array (Option Value)} {oc14 kV14 dc14 pm14 cd14 ct14 : Value} {f15 : Addr} {od15 an15 : Option Addr} {sl15 : Array (Option Value)} {oc15 kV15 dc15 pm15 cd15 ct15 : Value} {f16 : Addr} {od16 an16 : Option Addr} {sl16 : Array (Option Value)} {oc16 kV16 dc16 pm16 cd16 ct16 : Value} {f17 : Addr} {od17 an17 : Option Addr} {sl17 : Array (Option Value)} {oc17 kV17 dc17 pm17 cd17 ct17 : Value} {f18 : Addr} {od18 an18 : Option Addr} {sl18 : Array (Option Value)} {oc18 kV18 dc18 pm18 cd18 ct18 : Value} {f19 : Addr} {od19 an19 : Option Addr} {sl19 : Array (Option Value)} {oc19 kV19 dc19 pm19 cd19 ct19 : Value} {f20 : Addr} {od20 an20 : Option Addr} {sl20 : Array (Option Value)} {oc20 kV20 dc20 pm20 cd20 ct20 : Value} {f21 : Addr} {od21 an21 : Option Addr} {sl21 : Array (Option Value)} {oc21 kV21 dc21 pm21 cd21 ct21 : Value} {f22 : Addr} {od22 an22 : Option Addr} {sl22 : Array (Option Value)} {oc22 kV22 dc22 pm22 cd22 ct22 : Value} {f23 : Addr} {od23 an23 : Option Addr} {sl23 : Array (Option Value)} {oc23 kV23 dc23 pm23 cd23 ct23 : Value} {t0 : Tok} {t1 : Tok} {t2 : Tok} {t3 : Tok} (X : K.In h) (G : h.Ns mainGlobals mg)
    (a0 : PySem.W.nsIn K mainGlobals "is_integer" = some (some (.ref f0))) (l0 : K.lookup f0 = some ⟨oc0, od0, .func (PySem.W.fnOf "is_integer" "is_integer" (defArgs (top 2)) (defBody (top 2)) (defScope (top 2)) .none kV0 dc0 pm0 an0 cd0 ct0), sl0⟩) (c0 : PySem.W.codeIn K cd0 "is_integer" = true) (k0 : PySem.W.keepIn K (.ref f0) = true)
    (a1 : PySem.W.nsIn K mainGlobals "is_below" = some (some (.ref f1))) (l1 : K.lookup f1 = some ⟨oc1, od1, .func (PySem.W.fnOf "is_below" "is_below" (defArgs (top 3)) (defBody (top 3)) (defScope (top 3)) .none kV1 dc1 pm1 an1 cd1 ct1), sl1⟩) (c1 : PySem.W.codeIn K cd1 "is_below" = true) (k1 : PySem.W.keepIn K (.ref f1) = true)
    (a2 : PySem.W.nsIn K mainGlobals "is_word" = some (some (.ref f2))) (l2 : K.lookup f2 = some ⟨oc2, od2, .func (PySem.W.fnOf "is_word" "is_word" (defArgs (top 4)) (defBody (top 4)) (defScope (top 4)) .none kV2 dc2 pm2 an2 cd2 ct2), sl2⟩) (c2 : PySem.W.codeIn K cd2 "is_word" = true) (k2 : PySem.W.keepIn K (.ref f2) = true)
    (a3 : PySem.W.nsIn K mainGlobals "is_short" = some (some (.ref f3))) (l3 : K.lookup f3 = some ⟨oc3, od3, .func (PySem.W.fnOf "is_short" "is_short" (defArgs (top 5)) (defBody (top 5)) (defScope (top 5)) .none kV3 dc3 pm3 an3 cd3 ct3), sl3⟩) (c3 : PySem.W.codeIn K cd3 "is_short" = true) (k3 : PySem.W.keepIn K (.ref f3) = true)
    (a4 : PySem.W.nsIn K mainGlobals "are_signs" = some (some (.ref f4))) (l4 : K.lookup f4 = some ⟨oc4, od4, .func (PySem.W.fnOf "are_signs" "are_signs" (defArgs (top 10)) (defBody (top 10)) (defScope (top 10)) .none kV4 dc4 pm4 an4 cd4 ct4), sl4⟩) (c4 : PySem.W.codeIn K cd4 "are_signs" = true) (k4 : PySem.W.keepIn K (.ref f4) = true)
    (a5 : PySem.W.nsIn K mainGlobals "is_move" = some (some (.ref f5))) (l5 : K.lookup f5 = some ⟨oc5, od5, .func (PySem.W.fnOf "is_move" "is_move" (defArgs (top 11)) (defBody (top 11)) (defScope (top 11)) .none kV5 dc5 pm5 an5 cd5 ct5), sl5⟩) (c5 : PySem.W.codeIn K cd5 "is_move" = true) (k5 : PySem.W.keepIn K (.ref f5) = true)
    (a6 : PySem.W.nsIn K mainGlobals "is_state" = some (some (.ref f6))) (l6 : K.lookup f6 = some ⟨oc6, od6, .func (PySem.W.fnOf "is_state" "is_state" (defArgs (top 12)) (defBody (top 12)) (defScope (top 12)) .none kV6 dc6 pm6 an6 cd6 ct6), sl6⟩) (c6 : PySem.W.codeIn K cd6 "is_state" = true) (k6 : PySem.W.keepIn K (.ref f6) = true)
    (a7 : PySem.W.nsIn K mainGlobals "is_expander" = some (some (.ref f7))) (l7 : K.lookup f7 = some ⟨oc7, od7, .func (PySem.W.fnOf "is_expander" "is_expander" (defArgs (top 13)) (defBody (top 13)) (defScope (top 13)) .none kV7 dc7 pm7 an7 cd7 ct7), sl7⟩) (c7 : PySem.W.codeIn K cd7 "is_expander" = true) (k7 : PySem.W.keepIn K (.ref f7) = true)
    (a8 : PySem.W.nsIn K mainGlobals "_law_kneaded" = some (some (.ref f8))) (l8 : K.lookup f8 = some ⟨oc8, od8, .func (PySem.W.fnOf "_law_kneaded" "_law_kneaded" (defArgs (top 15)) (defBody (top 15)) (defScope (top 15)) .none kV8 dc8 pm8 an8 cd8 ct8), sl8⟩) (c8 : PySem.W.codeIn K cd8 "_law_kneaded" = true) (k8 : PySem.W.keepIn K (.ref f8) = true)
    (a9 : PySem.W.nsIn K mainGlobals "_law_pot_of" = some (some (.ref f9))) (l9 : K.lookup f9 = some ⟨oc9, od9, .func (PySem.W.fnOf "_law_pot_of" "_law_pot_of" (defArgs (top 16)) (defBody (top 16)) (defScope (top 16)) .none kV9 dc9 pm9 an9 cd9 ct9), sl9⟩) (c9 : PySem.W.codeIn K cd9 "_law_pot_of" = true) (k9 : PySem.W.keepIn K (.ref f9) = true)
    (a10 : PySem.W.nsIn K mainGlobals "_law_below" = some (some (.ref f10))) (l10 : K.lookup f10 = some ⟨oc10, od10, .func (PySem.W.fnOf "_law_below" "_law_below" (defArgs (top 17)) (defBody (top 17)) (defScope (top 17)) .none kV10 dc10 pm10 an10 cd10 ct10), sl10⟩) (c10 : PySem.W.codeIn K cd10 "_law_below" = true) (k10 : PySem.W.keepIn K (.ref f10) = true)
    (a11 : PySem.W.nsIn K mainGlobals "_law_pick" = some (some (.ref f11))) (l11 : K.lookup f11 = some ⟨oc11, od11, .func (PySem.W.fnOf "_law_pick" "_law_pick" (defArgs (top 18)) (defBody (top 18)) (defScope (top 18)) .none kV11 dc11 pm11 an11 cd11 ct11), sl11⟩) (c11 : PySem.W.codeIn K cd11 "_law_pick" = true) (k11 : PySem.W.keepIn K (.ref f11) = true)
    (a12 : PySem.W.nsIn K mainGlobals "_law_some_word" = some (some (.ref f12))) (l12 : K.lookup f12 = some ⟨oc12, od12, .func (PySem.W.fnOf "_law_some_word" "_law_some_word" (defArgs (top 19)) (defBody (top 19)) (defScope (top 19)) .none kV12 dc12 pm12 an12 cd12 ct12), sl12⟩) (c12 : PySem.W.codeIn K cd12 "_law_some_word" = true) (k12 : PySem.W.keepIn K (.ref f12) = true)
    (a13 : PySem.W.nsIn K mainGlobals "_law_some_expander" = some (some (.ref f13))) (l13 : K.lookup f13 = some ⟨oc13, od13, .func (PySem.W.fnOf "_law_some_expander" "_law_some_expander" (defArgs (top 20)) (defBody (top 20)) (defScope (top 20)) .none kV13 dc13 pm13 an13 cd13 ct13), sl13⟩) (c13 : PySem.W.codeIn K cd13 "_law_some_expander" = true) (k13 : PySem.W.keepIn K (.ref f13) = true)
    (a14 : PySem.W.nsIn K mainGlobals "_law_plainer" = some (some (.ref f14))) (l14 : K.lookup f14 = some ⟨oc14, od14, .func (PySem.W.fnOf "_law_plainer" "_law_plainer" (defArgs (top 21)) (defBody (top 21)) (defScope (top 21)) .none kV14 dc14 pm14 an14 cd14 ct14), sl14⟩) (c14 : PySem.W.codeIn K cd14 "_law_plainer" = true) (k14 : PySem.W.keepIn K (.ref f14) = true)
    (a15 : PySem.W.nsIn K mainGlobals "_law_calls" = some (some (.ref f15))) (l15 : K.lookup f15 = some ⟨oc15, od15, .func (PySem.W.fnOf "_law_calls" "_law_calls" (defArgs (top 22)) (defBody (top 22)) (defScope (top 22)) .none kV15 dc15 pm15 an15 cd15 ct15), sl15⟩) (c15 : PySem.W.codeIn K cd15 "_law_calls" = true) (k15 : PySem.W.keepIn K (.ref f15) = true)
    (a16 : PySem.W.nsIn K mainGlobals "_law_sizes" = some (some (.ref f16))) (l16 : K.lookup f16 = some ⟨oc16, od16, .func (PySem.W.fnOf "_law_sizes" "_law_sizes" (defArgs (top 23)) (defBody (top 23)) (defScope (top 23)) .none kV16 dc16 pm16 an16 cd16 ct16), sl16⟩) (c16 : PySem.W.codeIn K cd16 "_law_sizes" = true) (k16 : PySem.W.keepIn K (.ref f16) = true)
    (a17 : PySem.W.nsIn K mainGlobals "_law_is_short" = some (some (.ref f17))) (l17 : K.lookup f17 = some ⟨oc17, od17, .func (PySem.W.fnOf "_law_is_short" "_law_is_short" (defArgs (top 24)) (defBody (top 24)) (defScope (top 24)) .none kV17 dc17 pm17 an17 cd17 ct17), sl17⟩) (c17 : PySem.W.codeIn K cd17 "_law_is_short" = true) (k17 : PySem.W.keepIn K (.ref f17) = true)
    (a18 : PySem.W.nsIn K mainGlobals "_law_is_count" = some (some (.ref f18))) (l18 : K.lookup f18 = some ⟨oc18, od18, .func (PySem.W.fnOf "_law_is_count" "_law_is_count" (defArgs (top 25)) (defBody (top 25)) (defScope (top 25)) .none kV18 dc18 pm18 an18 cd18 ct18), sl18⟩) (c18 : PySem.W.codeIn K cd18 "_law_is_count" = true) (k18 : PySem.W.keepIn K (.ref f18) = true)
    (a19 : PySem.W.nsIn K mainGlobals "_law_is_move" = some (some (.ref f19))) (l19 : K.lookup f19 = some ⟨oc19, od19, .func (PySem.W.fnOf "_law_is_move" "_law_is_move" (defArgs (top 26)) (defBody (top 26)) (defScope (top 26)) .none kV19 dc19 pm19 an19 cd19 ct19), sl19⟩) (c19 : PySem.W.codeIn K cd19 "_law_is_move" = true) (k19 : PySem.W.keepIn K (.ref f19) = true)
    (a20 : PySem.W.nsIn K mainGlobals "_law_is_state" = some (some (.ref f20))) (l20 : K.lookup f20 = some ⟨oc20, od20, .func (PySem.W.fnOf "_law_is_state" "_law_is_state" (defArgs (top 27)) (defBody (top 27)) (defScope (top 27)) .none kV20 dc20 pm20 an20 cd20 ct20), sl20⟩) (c20 : PySem.W.codeIn K cd20 "_law_is_state" = true) (k20 : PySem.W.keepIn K (.ref f20) = true)
    (a21 : PySem.W.nsIn K mainGlobals "_law_is_expander" = some (some (.ref f21))) (l21 : K.lookup f21 = some ⟨oc21, od21, .func (PySem.W.fnOf "_law_is_expander" "_law_is_expander" (defArgs (top 28)) (defBody (top 28)) (defScope (top 28)) .none kV21 dc21 pm21 an21 cd21 ct21), sl21⟩) (c21 : PySem.W.codeIn K cd21 "_law_is_expander" = true) (k21 : PySem.W.keepIn K (.ref f21) = true)
    (a22 : PySem.W.nsIn K mainGlobals "_law_spoilt" = some (some (.ref f22))) (l22 : K.lookup f22 = some ⟨oc22, od22, .func (PySem.W.fnOf "_law_spoilt" "_law_spoilt" (defArgs (top 29)) (defBody (top 29)) (defScope (top 29)) .none kV22 dc22 pm22 an22 cd22 ct22), sl22⟩) (c22 : PySem.W.codeIn K cd22 "_law_spoilt" = true) (k22 : PySem.W.keepIn K (.ref f22) = true)
    (a23 : PySem.W.nsIn K mainGlobals "law" = some (some (.ref f23))) (l23 : K.lookup f23 = some ⟨oc23, od23, .func (PySem.W.fnOf "law" "law" (defArgs (top 30)) (defBody (top 30)) (defScope (top 30)) .none kV23 dc23 pm23 an23 cd23 ct23), sl23⟩) (c23 : PySem.W.codeIn K cd23 "law" = true) (k23 : PySem.W.keepIn K (.ref f23) = true)
    (gg0 : PySem.W.nsIn K mainGlobals "MAX_WORD" = some (some (.int 2000 t0)))
    (gg1 : PySem.W.nsIn K mainGlobals "LETTERS" = some (some (.str "abcdefghijklmnopqrstuvwxyz" t1)))
    (gg2 : PySem.W.nsIn K mainGlobals "MAX_SIGNS" = some (some (.int 4 t2)))
    (gg3 : PySem.W.nsIn K mainGlobals "MAX_STATES" = some (some (.int 60 t3)))
    (z0 : PySem.W.nsIn K mainGlobals "len" = some none)
    (z1 : PySem.W.nsIn K mainGlobals "abs" = some none)
    (z2 : PySem.W.nsIn K mainGlobals "int" = some none)
    (z3 : PySem.W.nsIn K mainGlobals "str" = some none)
    (z4 : PySem.W.nsIn K mainGlobals "repr" = some none)
    (z5 : PySem.W.nsIn K mainGlobals "all" = some none)
    (z6 : PySem.W.nsIn K mainGlobals "any" = some none)
    (z7 : PySem.W.nsIn K mainGlobals "sum" = some none)
    (z8 : PySem.W.nsIn K mainGlobals "max" = some none)
    (z9 : PySem.W.nsIn K mainGlobals "min" = some none)
    (z10 : PySem.W.nsIn K mainGlobals "tuple" = some none)
    (z11 : PySem.W.nsIn K mainGlobals "isinstance" = some none)
    (z12 : PySem.W.nsIn K mainGlobals "sorted" = some none)
    (z13 : PySem.W.nsIn K mainGlobals "set" = some none)
    (z14 : PySem.W.nsIn K mainGlobals "list" = some none)
    (z15 : PySem.W.nsIn K mainGlobals "dict" = some none)
    (z16 : PySem.W.nsIn K mainGlobals "bool" = some none)
    (z17 : PySem.W.nsIn K mainGlobals "range" = some none)
    (z18 : PySem.W.nsIn K mainGlobals "enumerate" = some none)
    (z19 : PySem.W.nsIn K mainGlobals "zip" = some none) : TopF P K mg := by
  have hf : ∀ f fd, P.fns f = some fd → ∃ a fdt ps, FnF P K mg f fd a fdt ps := by
    intro f fd h
    show _
    have h : fns f = some fd := h
    unfold fns at h
    split at h
    · cases h
      have F := fun_mk (st := top 2) l0 c0 k0
      exact ⟨f0, _, [nm "thing"], PySem.W.mg_of X G a0, k0, F.binds fun _ _ _ _ _ _ us hl => match us, hl with | [_], _ => rfl, rfl, _, _, top 2, fd_is_integer.names.map nm, F, s_is_integer, by decide +kernel, c_is_integer⟩
    · cases h
      have F := fun_mk (st := top 3) l1 c1 k1
      exact ⟨f1, _, [nm "thing", nm "bound"], PySem.W.mg_of X G a1, k1, F.binds fun _ _ _ _ _ _ us hl => match us, hl with | [_, _], _ => rfl, rfl, _, _, top 3, fd_is_below.names.map nm, F, s_is_below, by decide +kernel, c_is_below⟩
    · cases h
      have F := fun_mk (st := top 4) l2 c2 k2
      exact ⟨f2, _, [nm "signs", nm "thing"], PySem.W.mg_of X G a2, k2, F.binds fun _ _ _ _ _ _ us hl => match us, hl with | [_, _], _ => rfl, rfl, _, _, top 4, fd_is_word.names.map nm, F, s_is_word, by decide +kernel, c_is_word⟩
    · cases h
      have F := fun_mk (st := top 5) l3 c3 k3
      exact ⟨f3, _, [nm "signs", nm "thing"], PySem.W.mg_of X G a3, k3, F.binds fun _ _ _ _ _ _ us hl => match us, hl with | [_, _], _ => rfl, rfl, _, _, top 5, fd_is_short.names.map nm, F, s_is_short, by decide +kernel, c_is_short⟩
    · cases h
      have F := fun_mk (st := top 10) l4 c4 k4
      exact ⟨f4, _, [nm "thing"], PySem.W.mg_of X G a4, k4, F.binds fun _ _ _ _ _ _ us hl => match us, hl with | [_], _ => rfl, rfl, _, _, top 10, fd_are_signs.names.map nm, F, s_are_signs, by decide +kernel, c_are_signs⟩
    · cases h
      have F := fun_mk (st := top 11) l5 c5 k5
      exact ⟨f5, _, [nm "signs", nm "many", nm "thing"], PySem.W.mg_of X G a5, k5, F.binds fun _ _ _ _ _ _ us hl => match us, hl with | [_, _, _], _ => rfl, rfl, _, _, top 11, fd_is_move.names.map nm, F, s_is_move, by decide +kernel, c_is_move⟩
    · cases h
      have F := fun_mk (st := top 12) l6 c6 k6
      exact ⟨f6, _, [nm "signs", nm "many", nm "thing"], PySem.W.mg_of X G a6, k6, F.binds fun _ _ _ _ _ _ us hl => match us, hl with | [_, _, _], _ => rfl, rfl, _, _, top 12, fd_is_state.names.map nm, F, s_is_state, by decide +kernel, c_is_state⟩
    · cases h
      have F := fun_mk (st := top 13) l7 c7 k7
      exact ⟨f7, _, [nm "thing"], PySem.W.mg_of X G a7, k7, F.binds fun _ _ _ _ _ _ us hl => match us, hl with | [_], _ => rfl, rfl, _, _, top 13, fd_is_expander.names.map nm, F, s_is_expander, by decide +kernel, c_is_expander⟩
    · cases h
      have F := fun_mk (st := top 15) l8 c8 k8
      exact ⟨f8, _, [nm "seed", nm "lap"], PySem.W.mg_of X G a8, k8, F.binds fun _ _ _ _ _ _ us hl => match us, hl with | [_, _], _ => rfl, rfl, _, _, top 15, fd__law_kneaded.names.map nm, F, s__law_kneaded, by decide +kernel, c__law_kneaded⟩
    · cases h
      have F := fun_mk (st := top 16) l9 c9 k9
      exact ⟨f9, _, [nm "script"], PySem.W.mg_of X G a9, k9, F.binds fun _ _ _ _ _ _ us hl => match us, hl with | [_], _ => rfl, rfl, _, _, top 16, fd__law_pot_of.names.map nm, F, s__law_pot_of, by decide +kernel, c__law_pot_of⟩
    · cases h
      have F := fun_mk (st := top 17) l10 c10 k10
      exact ⟨f10, _, [nm "pot", nm "bound"], PySem.W.mg_of X G a10, k10, F.binds fun _ _ _ _ _ _ us hl => match us, hl with | [_, _], _ => rfl, rfl, _, _, top 17, fd__law_below.names.map nm, F, s__law_below, by decide +kernel, c__law_below⟩
    · cases h
      have F := fun_mk (st := top 18) l11 c11 k11
      exact ⟨f11, _, [nm "pot", nm "items"], PySem.W.mg_of X G a11, k11, F.binds fun _ _ _ _ _ _ us hl => match us, hl with | [_, _], _ => rfl, rfl, _, _, top 18, fd__law_pick.names.map nm, F, s__law_pick, by decide +kernel, c__law_pick⟩
    · cases h
      have F := fun_mk (st := top 19) l12 c12 k12
      exact ⟨f12, _, [nm "pot", nm "signs", nm "limit"], PySem.W.mg_of X G a12, k12, F.binds fun _ _ _ _ _ _ us hl => match us, hl with | [_, _, _], _ => rfl, rfl, _, _, top 19, fd__law_some_word.names.map nm, F, s__law_some_word, by decide +kernel, c__law_some_word⟩
    · cases h
      have F := fun_mk (st := top 20) l13 c13 k13
      exact ⟨f13, _, [nm "pot", nm "many"], PySem.W.mg_of X G a13, k13, F.binds fun _ _ _ _ _ _ us hl => match us, hl with | [_, _], _ => rfl, rfl, _, _, top 20, fd__law_some_expander.names.map nm, F, s__law_some_expander, by decide +kernel, c__law_some_expander⟩
    · cases h
      have F := fun_mk (st := top 21) l14 c14 k14
      exact ⟨f14, _, [nm "state"], PySem.W.mg_of X G a14, k14, F.binds fun _ _ _ _ _ _ us hl => match us, hl with | [_], _ => rfl, rfl, _, _, top 21, fd__law_plainer.names.map nm, F, s__law_plainer, by decide +kernel, c__law_plainer⟩
    · cases h
      have F := fun_mk (st := top 22) l15 c15 k15
      exact ⟨f15, _, [nm "expander"], PySem.W.mg_of X G a15, k15, F.binds fun _ _ _ _ _ _ us hl => match us, hl with | [_], _ => rfl, rfl, _, _, top 22, fd__law_calls.names.map nm, F, s__law_calls, by decide +kernel, c__law_calls⟩
    · cases h
      have F := fun_mk (st := top 23) l16 c16 k16
      exact ⟨f16, _, [nm "expander"], PySem.W.mg_of X G a16, k16, F.binds fun _ _ _ _ _ _ us hl => match us, hl with | [_], _ => rfl, rfl, _, _, top 23, fd__law_sizes.names.map nm, F, s__law_sizes, by decide +kernel, c__law_sizes⟩
    · cases h
      have F := fun_mk (st := top 24) l17 c17 k17
      exact ⟨f17, _, [nm "signs", nm "thing"], PySem.W.mg_of X G a17, k17, F.binds fun _ _ _ _ _ _ us hl => match us, hl with | [_, _], _ => rfl, rfl, _, _, top 24, fd__law_is_short.names.map nm, F, s__law_is_short, by decide +kernel, c__law_is_short⟩
    · cases h
      have F := fun_mk (st := top 25) l18 c18 k18
      exact ⟨f18, _, [nm "thing", nm "bound"], PySem.W.mg_of X G a18, k18, F.binds fun _ _ _ _ _ _ us hl => match us, hl with | [_, _], _ => rfl, rfl, _, _, top 25, fd__law_is_count.names.map nm, F, s__law_is_count, by decide +kernel, c__law_is_count⟩
    · cases h
      have F := fun_mk (st := top 26) l19 c19 k19
      exact ⟨f19, _, [nm "signs", nm "many", nm "thing"], PySem.W.mg_of X G a19, k19, F.binds fun _ _ _ _ _ _ us hl => match us, hl with | [_, _, _], _ => rfl, rfl, _, _, top 26, fd__law_is_move.names.map nm, F, s__law_is_move, by decide +kernel, c__law_is_move⟩
    · cases h
      have F := fun_mk (st := top 27) l20 c20 k20
      exact ⟨f20, _, [nm "signs", nm "many", nm "thing"], PySem.W.mg_of X G a20, k20, F.binds fun _ _ _ _ _ _ us hl => match us, hl with | [_, _, _], _ => rfl, rfl, _, _, top 27, fd__law_is_state.names.map nm, F, s__law_is_state, by decide +kernel, c__law_is_state⟩
    · cases h
      have F := fun_mk (st := top 28) l21 c21 k21
      exact ⟨f21, _, [nm "thing"], PySem.W.mg_of X G a21, k21, F.binds fun _ _ _ _ _ _ us hl => match us, hl with | [_], _ => rfl, rfl, _, _, top 28, fd__law_is_expander.names.map nm, F, s__law_is_expander, by decide +kernel, c__law_is_expander⟩
    · cases h
      have F := fun_mk (st := top 29) l22 c22 k22
      exact ⟨f22, _, [nm "pot", nm "expander"], PySem.W.mg_of X G a22, k22, F.binds fun _ _ _ _ _ _ us hl => match us, hl with | [_, _], _ => rfl, rfl, _, _, top 29, fd__law_spoilt.names.map nm, F, s__law_spoilt, by decide +kernel, c__law_spoilt⟩
    · cases h
      have F := fun_mk (st := top 30) l23 c23 k23
      exact ⟨f23, _, [nm "script"], PySem.W.mg_of X G a23, k23, F.binds fun _ _ _ _ _ _ us hl => match us, hl with | [_], _ => rfl, rfl, _, _, top 30, fd_law.names.map nm, F, s_law, by decide +kernel, c_law⟩
    · cases h
  refine ⟨hf, fun x d h => ?_, ?_⟩
  · have h : glb x = some d := h
    unfold glb at h
    split at h
    · cases h
      exact ⟨_, _, PySem.W.mg_of X G gg0, (show RelV (.int 2000) _ from ⟨t0, rfl⟩), fun r => rfl⟩
    · cases h
      exact ⟨_, _, PySem.W.mg_of X G gg1, (show RelV (.str "abcdefghijklmnopqrstuvwxyz") _ from ⟨t1, rfl⟩), fun r => ⟨by decide +kernel, by decide +kernel⟩⟩
    · cases h
      exact ⟨_, _, PySem.W.mg_of X G gg2, (show RelV (.int 4) _ from ⟨t2, rfl⟩), fun r => rfl⟩
    · cases h
      exact ⟨_, _, PySem.W.mg_of X G gg3, (show RelV (.int 60) _ from ⟨t3, rfl⟩), fun r => rfl⟩
    · cases h
  · intro x hx
    have all : ∀ x ∈ blts, mg (nm x) = none := by
      simp only [blts, List.forall_mem_cons]
      exact ⟨PySem.W.mg_none_of X G z0, PySem.W.mg_none_of X G z1, PySem.W.mg_none_of X G z2, PySem.W.mg_none_of X G z3, PySem.W.mg_none_of X G z4, PySem.W.mg_none_of X G z5, PySem.W.mg_none_of X G z6, PySem.W.mg_none_of X G z7, PySem.W.mg_none_of X G z8, PySem.W.mg_none_of X G z9, PySem.W.mg_none_of X G z10, PySem.W.mg_none_of X G z11, PySem.W.mg_none_of X G z12, PySem.W.mg_none_of X G z13, PySem.W.mg_none_of X G z14, PySem.W.mg_none_of X G z15, PySem.W.mg_none_of X G z16, PySem.W.mg_none_of X G z17, PySem.W.mg_none_of X G z18, PySem.W.mg_none_of X G z19, fun x h => by cases h⟩
    exact all x hx
theorem all_mk {l : PySem.W.OpenLaw} {w : World} {fa : Addr} {K : PySem.W.Frag} {h : Heap} {mg : Str → Option Value} {f0 : Addr} {od0 an0 : Option Addr} {sl0 : Array (Option Value)} {oc0 kV0 dc0 pm0 cd0 ct0 : Value} {f1 : Addr} {od1 an1 : Option Addr} {sl1 : Array (Option Value)} {oc1 kV1 dc1 pm1 cd1 ct1 : Value} {f2 : Addr} {od2 an2 : Option Addr} {sl2 : Array (Option Value)} {oc2 kV2 dc2 pm2 cd2 ct2 : Value} {f3 : Addr} {od3 an3 : Option Addr} {sl3 : Array (Option Value)} {oc3 kV3 dc3 pm3 cd3 ct3 : Value} {f4 : Addr} {od4 an4 : Option Addr} {sl4 : Array (Option Value)} {oc4 kV4 dc4 pm4 cd4 ct4 : Value} {f5 : Addr} {od5 an5 : Option Addr} {sl5 : Array (Option Value)} {oc5 kV5 dc5 pm5 cd5 ct5 : Value} {f6 : Addr} {od6 an6 : Option Addr} {sl6 : Array (Option Value)} {oc6 kV6 dc6 pm6 cd6 ct6 : Value} {f7 : Addr} {od7 an7 : Option Addr} {sl7 : Array (Option Value)} {oc7 kV7 dc7 pm7 cd7 ct7 : Value} {f8 : Addr} {od8 an8 : Option Addr} {sl8 : Array (Option Value)} {oc8 kV8 dc8 pm8 cd8 ct8 : Value} {f9 : Addr} {od9 an9 : Option Addr} {sl9 : Array (Option Value)} {oc9 kV9 dc9 pm9 cd9 ct9 : Value} {f10 : Addr} {od10 an10 : Option Addr} {sl10 : Array (Option Value)} {oc10 kV10 dc10 pm10 cd10 ct10 : Value} {f11 : Addr} {od11 an11 : Option Addr} {sl11 : Array (Option Value)} {oc11 kV11 dc11 pm11 cd11 ct11 : Value} {f12 : Addr} {od12 an12 : Option Addr} {sl12 : Array (Option Value)} {oc12 kV12 dc12 pm12 cd12 ct12 : Value} {f13 : Addr} {od13 an13 : Option Addr} {sl13 : Array (Option Value)} {oc13 kV13 dc13 pm13 cd13 ct13 : Value} {f14 : Addr} {od14 an14 : Option Addr} {sl14 : Array (Option Value)} {oc14 kV14 dc14 pm14 cd14 ct14 : Value} {f15 : Addr} {od15 an15 : Option Addr} {sl15 : Array (Option Value)} {oc15 kV15 dc15 pm15 cd15 ct15 : Value} {f16 : Addr} {od16 an16 : Option Addr} {sl16 : Array (Option Value)} {oc16 kV16 dc16 pm16 cd16 ct16 : Value} {f17 : Addr} {od17 an17 : Option Addr} {sl17 : Array (Option Value)} {oc17 kV17 dc17 pm17 cd17 ct17 : Value} {f18 : Addr} {od18 an18 : Option Addr} {sl18 : Array (Option Value)} {oc18 kV18 dc18 pm18 cd18 ct18 : Value} {f19 : Addr} {od19 an19 : Option Addr} {sl19 : Array (Option Value)} {oc19 kV19 dc19 pm19 cd19 ct19 : Value} {f20 : Addr} {od20 an20 : Option Addr} {sl20 : Array (Option Value)} {oc20 kV20 dc20 pm20 cd20 ct20 : Value} {f21 : Addr} {od21 an21 : Option Addr} {sl21 : Array (Option Value)} {oc21 kV21 dc21 pm21 cd21 ct21 : Value} {f22 : Addr} {od22 an22 : Option Addr} {sl22 : Array (Option Value)} {oc22 kV22 dc22 pm22 cd22 ct22 : Value} {f23 : Addr} {od23 an23 : Option Addr} {sl23 : Array (Option Value)} {oc23 kV23 dc23 pm23 cd23 ct23 : Value} {t0 : Tok} {t1 : Tok} {t2 : Tok} {t3 : Tok} (X : K.In h) (G : h.Ns mainGlobals mg) (hfa : mg "law" = some (.ref fa))
    (a0 : PySem.W.nsIn K mainGlobals "is_integer" = some (some (.ref f0))) (l0 : K.lookup f0 = some ⟨oc0, od0, .func (PySem.W.fnOf "is_integer" "is_integer" (defArgs (top 2)) (defBody (top 2)) (defScope (top 2)) .none kV0 dc0 pm0 an0 cd0 ct0), sl0⟩) (c0 : PySem.W.codeIn K cd0 "is_integer" = true) (k0 : PySem.W.keepIn K (.ref f0) = true)
    (a1 : PySem.W.nsIn K mainGlobals "is_below" = some (some (.ref f1))) (l1 : K.lookup f1 = some ⟨oc1, od1, .func (PySem.W.fnOf "is_below" "is_below" (defArgs (top 3)) (defBody (top 3)) (defScope (top 3)) .none kV1 dc1 pm1 an1 cd1 ct1), sl1⟩) (c1 : PySem.W.codeIn K cd1 "is_below" = true) (k1 : PySem.W.keepIn K (.ref f1) = true)
    (a2 : PySem.W.nsIn K mainGlobals "is_word" = some (some (.ref f2))) (l2 : K.lookup f2 = some ⟨oc2, od2, .func (PySem.W.fnOf "is_word" "is_word" (defArgs (top 4)) (defBody (top 4)) (defScope (top 4)) .none kV2 dc2 pm2 an2 cd2 ct2), sl2⟩) (c2 : PySem.W.codeIn K cd2 "is_word" = true) (k2 : PySem.W.keepIn K (.ref f2) = true)
    (a3 : PySem.W.nsIn K mainGlobals "is_short" = some (some (.ref f3))) (l3 : K.lookup f3 = some ⟨oc3, od3, .func (PySem.W.fnOf "is_short" "is_short" (defArgs (top 5)) (defBody (top 5)) (defScope (top 5)) .none kV3 dc3 pm3 an3 cd3 ct3), sl3⟩) (c3 : PySem.W.codeIn K cd3 "is_short" = true) (k3 : PySem.W.keepIn K (.ref f3) = true)
    (a4 : PySem.W.nsIn K mainGlobals "are_signs" = some (some (.ref f4))) (l4 : K.lookup f4 = some ⟨oc4, od4, .func (PySem.W.fnOf "are_signs" "are_signs" (defArgs (top 10)) (defBody (top 10)) (defScope (top 10)) .none kV4 dc4 pm4 an4 cd4 ct4), sl4⟩) (c4 : PySem.W.codeIn K cd4 "are_signs" = true) (k4 : PySem.W.keepIn K (.ref f4) = true)
    (a5 : PySem.W.nsIn K mainGlobals "is_move" = some (some (.ref f5))) (l5 : K.lookup f5 = some ⟨oc5, od5, .func (PySem.W.fnOf "is_move" "is_move" (defArgs (top 11)) (defBody (top 11)) (defScope (top 11)) .none kV5 dc5 pm5 an5 cd5 ct5), sl5⟩) (c5 : PySem.W.codeIn K cd5 "is_move" = true) (k5 : PySem.W.keepIn K (.ref f5) = true)
    (a6 : PySem.W.nsIn K mainGlobals "is_state" = some (some (.ref f6))) (l6 : K.lookup f6 = some ⟨oc6, od6, .func (PySem.W.fnOf "is_state" "is_state" (defArgs (top 12)) (defBody (top 12)) (defScope (top 12)) .none kV6 dc6 pm6 an6 cd6 ct6), sl6⟩) (c6 : PySem.W.codeIn K cd6 "is_state" = true) (k6 : PySem.W.keepIn K (.ref f6) = true)
    (a7 : PySem.W.nsIn K mainGlobals "is_expander" = some (some (.ref f7))) (l7 : K.lookup f7 = some ⟨oc7, od7, .func (PySem.W.fnOf "is_expander" "is_expander" (defArgs (top 13)) (defBody (top 13)) (defScope (top 13)) .none kV7 dc7 pm7 an7 cd7 ct7), sl7⟩) (c7 : PySem.W.codeIn K cd7 "is_expander" = true) (k7 : PySem.W.keepIn K (.ref f7) = true)
    (a8 : PySem.W.nsIn K mainGlobals "_law_kneaded" = some (some (.ref f8))) (l8 : K.lookup f8 = some ⟨oc8, od8, .func (PySem.W.fnOf "_law_kneaded" "_law_kneaded" (defArgs (top 15)) (defBody (top 15)) (defScope (top 15)) .none kV8 dc8 pm8 an8 cd8 ct8), sl8⟩) (c8 : PySem.W.codeIn K cd8 "_law_kneaded" = true) (k8 : PySem.W.keepIn K (.ref f8) = true)
    (a9 : PySem.W.nsIn K mainGlobals "_law_pot_of" = some (some (.ref f9))) (l9 : K.lookup f9 = some ⟨oc9, od9, .func (PySem.W.fnOf "_law_pot_of" "_law_pot_of" (defArgs (top 16)) (defBody (top 16)) (defScope (top 16)) .none kV9 dc9 pm9 an9 cd9 ct9), sl9⟩) (c9 : PySem.W.codeIn K cd9 "_law_pot_of" = true) (k9 : PySem.W.keepIn K (.ref f9) = true)
    (a10 : PySem.W.nsIn K mainGlobals "_law_below" = some (some (.ref f10))) (l10 : K.lookup f10 = some ⟨oc10, od10, .func (PySem.W.fnOf "_law_below" "_law_below" (defArgs (top 17)) (defBody (top 17)) (defScope (top 17)) .none kV10 dc10 pm10 an10 cd10 ct10), sl10⟩) (c10 : PySem.W.codeIn K cd10 "_law_below" = true) (k10 : PySem.W.keepIn K (.ref f10) = true)
    (a11 : PySem.W.nsIn K mainGlobals "_law_pick" = some (some (.ref f11))) (l11 : K.lookup f11 = some ⟨oc11, od11, .func (PySem.W.fnOf "_law_pick" "_law_pick" (defArgs (top 18)) (defBody (top 18)) (defScope (top 18)) .none kV11 dc11 pm11 an11 cd11 ct11), sl11⟩) (c11 : PySem.W.codeIn K cd11 "_law_pick" = true) (k11 : PySem.W.keepIn K (.ref f11) = true)
    (a12 : PySem.W.nsIn K mainGlobals "_law_some_word" = some (some (.ref f12))) (l12 : K.lookup f12 = some ⟨oc12, od12, .func (PySem.W.fnOf "_law_some_word" "_law_some_word" (defArgs (top 19)) (defBody (top 19)) (defScope (top 19)) .none kV12 dc12 pm12 an12 cd12 ct12), sl12⟩) (c12 : PySem.W.codeIn K cd12 "_law_some_word" = true) (k12 : PySem.W.keepIn K (.ref f12) = true)
    (a13 : PySem.W.nsIn K mainGlobals "_law_some_expander" = some (some (.ref f13))) (l13 : K.lookup f13 = some ⟨oc13, od13, .func (PySem.W.fnOf "_law_some_expander" "_law_some_expander" (defArgs (top 20)) (defBody (top 20)) (defScope (top 20)) .none kV13 dc13 pm13 an13 cd13 ct13), sl13⟩) (c13 : PySem.W.codeIn K cd13 "_law_some_expander" = true) (k13 : PySem.W.keepIn K (.ref f13) = true)
    (a14 : PySem.W.nsIn K mainGlobals "_law_plainer" = some (some (.ref f14))) (l14 : K.lookup f14 = some ⟨oc14, od14, .func (PySem.W.fnOf "_law_plainer" "_law_plainer" (defArgs (top 21)) (defBody (top 21)) (defScope (top 21)) .none kV14 dc14 pm14 an14 cd14 ct14), sl14⟩) (c14 : PySem.W.codeIn K cd14 "_law_plainer" = true) (k14 : PySem.W.keepIn K (.ref f14) = true)
    (a15 : PySem.W.nsIn K mainGlobals "_law_calls" = some (some (.ref f15))) (l15 : K.lookup f15 = some ⟨oc15, od15, .func (PySem.W.fnOf "_law_calls" "_law_calls" (defArgs (top 22)) (defBody (top 22)) (defScope (top 22)) .none kV15 dc15 pm15 an15 cd15 ct15), sl15⟩) (c15 : PySem.W.codeIn K cd15 "_law_calls" = true) (k15 : PySem.W.keepIn K (.ref f15) = true)
    (a16 : PySem.W.nsIn K mainGlobals "_law_sizes" = some (some (.ref f16))) (l16 : K.lookup f16 = some ⟨oc16, od16, .func (PySem.W.fnOf "_law_sizes" "_law_sizes" (defArgs (top 23)) (defBody (top 23)) (defScope (top 23)) .none kV16 dc16 pm16 an16 cd16 ct16), sl16⟩) (c16 : PySem.W.codeIn K cd16 "_law_sizes" = true) (k16 : PySem.W.keepIn K (.ref f16) = true)
    (a17 : PySem.W.nsIn K mainGlobals "_law_is_short" = some (some (.ref f17))) (l17 : K.lookup f17 = some ⟨oc17, od17, .func (PySem.W.fnOf "_law_is_short" "_law_is_short" (defArgs (top 24)) (defBody (top 24)) (defScope (top 24)) .none kV17 dc17 pm17 an17 cd17 ct17), sl17⟩) (c17 : PySem.W.codeIn K cd17 "_law_is_short" = true) (k17 : PySem.W.keepIn K (.ref f17) = true)
    (a18 : PySem.W.nsIn K mainGlobals "_law_is_count" = some (some (.ref f18))) (l18 : K.lookup f18 = some ⟨oc18, od18, .func (PySem.W.fnOf "_law_is_count" "_law_is_count" (defArgs (top 25)) (defBody (top 25)) (defScope (top 25)) .none kV18 dc18 pm18 an18 cd18 ct18), sl18⟩) (c18 : PySem.W.codeIn K cd18 "_law_is_count" = true) (k18 : PySem.W.keepIn K (.ref f18) = true)
    (a19 : PySem.W.nsIn K mainGlobals "_law_is_move" = some (some (.ref f19))) (l19 : K.lookup f19 = some ⟨oc19, od19, .func (PySem.W.fnOf "_law_is_move" "_law_is_move" (defArgs (top 26)) (defBody (top 26)) (defScope (top 26)) .none kV19 dc19 pm19 an19 cd19 ct19), sl19⟩) (c19 : PySem.W.codeIn K cd19 "_law_is_move" = true) (k19 : PySem.W.keepIn K (.ref f19) = true)
    (a20 : PySem.W.nsIn K mainGlobals "_law_is_state" = some (some (.ref f20))) (l20 : K.lookup f20 = some ⟨oc20, od20, .func (PySem.W.fnOf "_law_is_state" "_law_is_state" (defArgs (top 27)) (defBody (top 27)) (defScope (top 27)) .none kV20 dc20 pm20 an20 cd20 ct20), sl20⟩) (c20 : PySem.W.codeIn K cd20 "_law_is_state" = true) (k20 : PySem.W.keepIn K (.ref f20) = true)
    (a21 : PySem.W.nsIn K mainGlobals "_law_is_expander" = some (some (.ref f21))) (l21 : K.lookup f21 = some ⟨oc21, od21, .func (PySem.W.fnOf "_law_is_expander" "_law_is_expander" (defArgs (top 28)) (defBody (top 28)) (defScope (top 28)) .none kV21 dc21 pm21 an21 cd21 ct21), sl21⟩) (c21 : PySem.W.codeIn K cd21 "_law_is_expander" = true) (k21 : PySem.W.keepIn K (.ref f21) = true)
    (a22 : PySem.W.nsIn K mainGlobals "_law_spoilt" = some (some (.ref f22))) (l22 : K.lookup f22 = some ⟨oc22, od22, .func (PySem.W.fnOf "_law_spoilt" "_law_spoilt" (defArgs (top 29)) (defBody (top 29)) (defScope (top 29)) .none kV22 dc22 pm22 an22 cd22 ct22), sl22⟩) (c22 : PySem.W.codeIn K cd22 "_law_spoilt" = true) (k22 : PySem.W.keepIn K (.ref f22) = true)
    (a23 : PySem.W.nsIn K mainGlobals "law" = some (some (.ref f23))) (l23 : K.lookup f23 = some ⟨oc23, od23, .func (PySem.W.fnOf "law" "law" (defArgs (top 30)) (defBody (top 30)) (defScope (top 30)) .none kV23 dc23 pm23 an23 cd23 ct23), sl23⟩) (c23 : PySem.W.codeIn K cd23 "law" = true) (k23 : PySem.W.keepIn K (.ref f23) = true)
    (gg0 : PySem.W.nsIn K mainGlobals "MAX_WORD" = some (some (.int 2000 t0)))
    (gg1 : PySem.W.nsIn K mainGlobals "LETTERS" = some (some (.str "abcdefghijklmnopqrstuvwxyz" t1)))
    (gg2 : PySem.W.nsIn K mainGlobals "MAX_SIGNS" = some (some (.int 4 t2)))
    (gg3 : PySem.W.nsIn K mainGlobals "MAX_STATES" = some (some (.int 60 t3)))
    (z0 : PySem.W.nsIn K mainGlobals "len" = some none)
    (z1 : PySem.W.nsIn K mainGlobals "abs" = some none)
    (z2 : PySem.W.nsIn K mainGlobals "int" = some none)
    (z3 : PySem.W.nsIn K mainGlobals "str" = some none)
    (z4 : PySem.W.nsIn K mainGlobals "repr" = some none)
    (z5 : PySem.W.nsIn K mainGlobals "all" = some none)
    (z6 : PySem.W.nsIn K mainGlobals "any" = some none)
    (z7 : PySem.W.nsIn K mainGlobals "sum" = some none)
    (z8 : PySem.W.nsIn K mainGlobals "max" = some none)
    (z9 : PySem.W.nsIn K mainGlobals "min" = some none)
    (z10 : PySem.W.nsIn K mainGlobals "tuple" = some none)
    (z11 : PySem.W.nsIn K mainGlobals "isinstance" = some none)
    (z12 : PySem.W.nsIn K mainGlobals "sorted" = some none)
    (z13 : PySem.W.nsIn K mainGlobals "set" = some none)
    (z14 : PySem.W.nsIn K mainGlobals "list" = some none)
    (z15 : PySem.W.nsIn K mainGlobals "dict" = some none)
    (z16 : PySem.W.nsIn K mainGlobals "bool" = some none)
    (z17 : PySem.W.nsIn K mainGlobals "range" = some none)
    (z18 : PySem.W.nsIn K mainGlobals "enumerate" = some none)
    (z19 : PySem.W.nsIn K mainGlobals "zip" = some none) :
    ∃ fd : FuncData, (∀ (s : Shared) (v : Value), BindsTo s fd ⟨[v], []⟩ [("script", v)]) ∧ ∀ base : Heap, K.In base → base.Ns mainGlobals mg → FnG l.prog w K mg base 20 fa fd ["script"] (spF ⟨K, mg⟩ (fnAt P 20) "law" 1) := by
  have e := hfa.symm.trans (PySem.W.mg_of X G a23)
  cases e
  have T : TopF P K mg := top_facts X G a0 l0 c0 k0 a1 l1 c1 k1 a2 l2 c2 k2 a3 l3 c3 k3 a4 l4 c4 k4 a5 l5 c5 k5 a6 l6 c6 k6 a7 l7 c7 k7 a8 l8 c8 k8 a9 l9 c9 k9 a10 l10 c10 k10 a11 l11 c11 k11 a12 l12 c12 k12 a13 l13 c13 k13 a14 l14 c14 k14 a15 l15 c15 k15 a16 l16 c16 k16 a17 l17 c17 k17 a18 l18 c18 k18 a19 l19 c19 k19 a20 l20 c20 k20 a21 l21 c21 k21 a22 l22 c22 k22 a23 l23 c23 k23 gg0 gg1 gg2 gg3 z0 z1 z2 z3 z4 z5 z6 z7 z8 z9 z10 z11 z12 z13 z14 z15 z16 z17 z18 z19
  have F4 := fun_mk (st := top 30) l23 c23 k23
  exact ⟨_, fun s v => .of_eq rfl, fun base _ _ => fn_all T 20 "law" fd_law _ _ ["script"] rfl ⟨PySem.W.mg_of X G a23, k23, F4.binds fun _ _ _ _ _ _ us hl => match us, hl with | [_], _ => rfl, rfl, _, _, top 30, fd_law.names.map nm, F4, s_law, by decide +kernel, c_law⟩⟩
end K02

open PySem PySem.W PyProof.Rows
set_option maxRecDepth 100000 in
set_option maxHeartbeats 0 in
theorem PySem.Challenge.cw_rescans_k02_expanders_recognized_holds : PySem.Challenge.rw_rescans_k02_expanders_recognized.Holds := by
  w_on; o_law; k_head; (case hw => w_witness2)
  k_fill
  refine RS.walk_G (l := PySem.Challenge.rw_rescans_k02_expanders_recognized) (k := 20) (x := "script") (Φ := RS.fnAt K02.P 20) (f := "law") rfl rfl ⟨rfl, by decide, by decide⟩ (fun w h Y => PySem.W.kIn_of Y) ?F K02.law_ok
  case F =>
    intro w mg fa h KX G hmg
    refine' K02.all_mk KX G hmg ?a0 ?l0 ?c0 ?k0 ?a1 ?l1 ?c1 ?k1 ?a2 ?l2 ?c2 ?k2 ?a3 ?l3 ?c3 ?k3 ?a4 ?l4 ?c4 ?k4 ?a5 ?l5 ?c5 ?k5 ?a6 ?l6 ?c6 ?k6 ?a7 ?l7 ?c7 ?k7 ?a8 ?l8 ?c8 ?k8 ?a9 ?l9 ?c9 ?k9 ?a10 ?l10 ?c10 ?k10 ?a11 ?l11 ?c11 ?k11 ?a12 ?l12 ?c12 ?k12 ?a13 ?l13 ?c13 ?k13 ?a14 ?l14 ?c14 ?k14 ?a15 ?l15 ?c15 ?k15 ?a16 ?l16 ?c16 ?k16 ?a17 ?l17 ?c17 ?k17 ?a18 ?l18 ?c18 ?k18 ?a19 ?l19 ?c19 ?k19 ?a20 ?l20 ?c20 ?k20 ?a21 ?l21 ?c21 ?k21 ?a22 ?l22 ?c22 ?k22 ?a23 ?l23 ?c23 ?k23 ?gg0 ?gg1 ?gg2 ?gg3 ?z0 ?z1 ?z2 ?z3 ?z4 ?z5 ?z6 ?z7 ?z8 ?z9 ?z10 ?z11 ?z12 ?z13 ?z14 ?z15 ?z16 ?z17 ?z18 ?z19
    (case a0 => k_is)
    (case l0 => k_is)
    (case c0 => k_is)
    (case k0 => k_is)
    (case a1 => k_is)
    (case l1 => k_is)
    (case c1 => k_is)
    (case k1 => k_is)
    (case a2 => k_is)
    (case l2 => k_is)
    (case c2 => k_is)
    (case k2 => k_is)
    (case a3 => k_is)
    (case l3 => k_is)
    (case c3 => k_is)
    (case k3 => k_is)
    (case a4 => k_is)
    (case l4 => k_is)
    (case c4 => k_is)
    (case k4 => k_is)
    (case a5 => k_is)
    (case l5 => k_is)
    (case c5 => k_is)
    (case k5 => k_is)
    (case a6 => k_is)
    (case l6 => k_is)
    (case c6 => k_is)
    (case k6 => k_is)
    (case a7 => k_is)
    (case l7 => k_is)
    (case c7 => k_is)
    (case k7 => k_is)
    (case a8 => k_is)
    (case l8 => k_is)
    (case c8 => k_is)
    (case k8 => k_is)
    (case a9 => k_is)
    (case l9 => k_is)
    (case c9 => k_is)
    (case k9 => k_is)
    (case a10 => k_is)
    (case l10 => k_is)
    (case c10 => k_is)
    (case k10 => k_is)
    (case a11 => k_is)
    (case l11 => k_is)
    (case c11 => k_is)
    (case k11 => k_is)
    (case a12 => k_is)
    (case l12 => k_is)
    (case c12 => k_is)
    (case k12 => k_is)
    (case a13 => k_is)
    (case l13 => k_is)
    (case c13 => k_is)
    (case k13 => k_is)
    (case a14 => k_is)
    (case l14 => k_is)
    (case c14 => k_is)
    (case k14 => k_is)
    (case a15 => k_is)
    (case l15 => k_is)
    (case c15 => k_is)
    (case k15 => k_is)
    (case a16 => k_is)
    (case l16 => k_is)
    (case c16 => k_is)
    (case k16 => k_is)
    (case a17 => k_is)
    (case l17 => k_is)
    (case c17 => k_is)
    (case k17 => k_is)
    (case a18 => k_is)
    (case l18 => k_is)
    (case c18 => k_is)
    (case k18 => k_is)
    (case a19 => k_is)
    (case l19 => k_is)
    (case c19 => k_is)
    (case k19 => k_is)
    (case a20 => k_is)
    (case l20 => k_is)
    (case c20 => k_is)
    (case k20 => k_is)
    (case a21 => k_is)
    (case l21 => k_is)
    (case c21 => k_is)
    (case k21 => k_is)
    (case a22 => k_is)
    (case l22 => k_is)
    (case c22 => k_is)
    (case k22 => k_is)
    (case a23 => k_is)
    (case l23 => k_is)
    (case c23 => k_is)
    (case k23 => k_is)
    (case gg0 => k_is)
    (case gg1 => k_is)
    (case gg2 => k_is)
    (case gg3 => k_is)
    (case z0 => k_is)
    (case z1 => k_is)
    (case z2 => k_is)
    (case z3 => k_is)
    (case z4 => k_is)
    (case z5 => k_is)
    (case z6 => k_is)
    (case z7 => k_is)
    (case z8 => k_is)
    (case z9 => k_is)
    (case z10 => k_is)
    (case z11 => k_is)
    (case z12 => k_is)
    (case z13 => k_is)
    (case z14 => k_is)
    (case z15 => k_is)
    (case z16 => k_is)
    (case z17 => k_is)
    (case z18 => k_is)
    (case z19 => k_is)
