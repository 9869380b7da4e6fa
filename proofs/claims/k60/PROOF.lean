import PyProof.Rows.All
import PySem.Challenge.RW_triplesonce_k60_whole_sums_and_orders
import HandS.ForMost
import HandS.ForExc
import HandS.TupAny
import HandS.SortInts
import HandS.Deep
import KE.KSorted
import HandS.TupLen
import HandS.DictTup
import HandS.TupSets
import KE.DatumOrd
import PyProof.Draws
import PyProof.EnumMake
import HandS.Zip0
import HandS.Iter
import HandS.Walk
import KE.GoesEnumKw
import KE.KTurns
import HandS.Zip
import HandS.Flow
import HandS.IsInst
import HandS.WordsExc
import HandS.SetFor
import HandS.NoneIn
import HandS.Conv
import HandS.Style
import HandS.Star
import HandS.Ends
import PyProof.TableCode
set_option Elab.async false
set_option linter.all false
set_option maxRecDepth 1000000
set_option maxHeartbeats 4000000
/-! Mp: a small interpreter of the part of Python that the laws use. Values by content (D); mutable things at numbers (Ob), or owned by a slot. -/
namespace Mp
open PySem (Str)

abbrev Kd := Sum Int Str
/-- a dict's keys: ints and texts; tuples of them -/
inductive Ks where
  | k (ks : List Kd) | t (ks : List (List Kd))
  deriving DecidableEq
/-- a value, by content; ref n: the mutable thing at n; scr: the script -/
inductive D where
  | non | bl (b : Bool) | int (i : Int) | str (s : Str)
  | tup (xs : List D) | lst (xs : List D) | dct (ks : Ks) (vs : List D) | ref (n : Nat) | scr (ns : List Int)
  | rp (d : D)
/-- a mutable thing's content -/
inductive Ob where
  | lst (xs : List D) | dct (ks : Ks) (vs : List D)
def Ob.d : Ob → D
  | .lst xs => .lst xs
  | .dct ks vs => .dct ks vs
/-- an expression's answer: a value; a new thing that nobody holds; what slot i owns -/
inductive Rv where
  | v (d : D) | fr (o : Ob) | bor (i : Nat)
/-- a slot: unset; a value; a thing of its own; the same while it is walked -/
inductive Sl where
  | un | v (d : D) | ow (o : Ob) | lk (xs : List D)
abbrev Ev := List Sl
abbrev AH := List Ob
/-- an answer with the slots and the things behind it, or an exception (class, what it bears) -/
inductive O (α : Type) where
  | ok (a : α) (e : Ev) (h : AH)
  | ex (c : Str) (p : Option (Str × D)) (e : Ev) (h : AH)
def bd {α β : Type} (m : Option (O α)) (f : α → Ev → AH → Option (O β)) : Option (O β) :=
  match m with
  | some (.ok a e h) => f a e h
  | some (.ex c p e h) => some (.ex c p e h)
  | none => none
@[simp] theorem bd_ok {α β : Type} (a : α) (e : Ev) (h : AH) (f : α → Ev → AH → Option (O β)) : bd (some (.ok a e h)) f = f a e h := rfl
@[simp] theorem bd_ex {α β : Type} (c : Str) (p : Option (Str × D)) (e : Ev) (h : AH) (f : α → Ev → AH → Option (O β)) : bd (some (.ex c p e h)) f = some (.ex c p e h) := rfl
@[simp] theorem bd_none {α β : Type} (f : α → Ev → AH → Option (O β)) : bd none f = none := rfl

/-! ### data -/
mutual
/-- no reference, no dict, at most n deep -/
def D.plain : Nat → D → Bool
  | _, .non => true
  | _, .bl _ => true
  | _, .int _ => true
  | _, .str s => PySem.PyData.strOk s
  | n + 1, .tup xs => D.plains n xs
  | n + 1, .lst xs => D.plains n xs
  | _, _ => false
def D.plains : Nat → List D → Bool
  | _, [] => true
  | n, x :: xs => D.plain n x && D.plains n xs
end
mutual
def toPy : D → PySem.PyData
  | .non => .none
  | .bl b => .bool b
  | .int i => .int i
  | .str s => .str s
  | .tup xs => .tuple (toPys xs)
  | .lst xs => .list (toPys xs)
  | _ => .none
def toPys : List D → List PySem.PyData
  | [] => []
  | x :: xs => toPy x :: toPys xs
end
mutual
/-- the very same content -/
def sameD : D → D → Bool
  | .non, .non => true
  | .bl a, .bl b => a == b
  | .int i, .int j => i == j
  | .str x, .str y => x == y
  | .lst xs, .lst ys => sameDs xs ys
  | .tup xs, .tup ys => sameDs xs ys
  | _, _ => false
def sameDs : List D → List D → Bool
  | [], [] => true
  | x :: xs, y :: ys => sameD x y && sameDs xs ys
  | _, _ => false
end
mutual
/-- == of plain data -/
def eqB : D → D → Bool
  | .non, .non => true
  | .bl a, .bl b => a == b
  | .bl a, .int j => (if a then 1 else 0) == j
  | .int i, .bl b => i == (if b then 1 else 0)
  | .int i, .int j => i == j
  | .str x, .str y => x == y
  | .lst xs, .lst ys => eqBs xs ys
  | .tup xs, .tup ys => eqBs xs ys
  | _, _ => false
def eqBs : List D → List D → Bool
  | [], [] => true
  | x :: xs, y :: ys => eqB x y && eqBs xs ys
  | _, _ => false
end
mutual
/-- no list or dict within -/
def D.nol : D → Bool
  | .tup xs => D.nols xs
  | .lst _ => false
  | .dct _ _ => false
  | _ => true
def D.nols : List D → Bool
  | [] => true
  | x :: xs => D.nol x && D.nols xs
end
def Ob.nol : Ob → Bool
  | .lst xs => D.nols xs
  | .dct _ vs => D.nols vs
def sizeMax : Nat := 16777216

/-- truth -/
def truth : D → Option Bool
  | .non => some false
  | .bl b => some b
  | .int i => some (i != 0)
  | .str s => if s.length ≤ sizeMax then some ((s.length : Int) != 0) else none
  | .tup xs => some (!xs.isEmpty)
  | .lst xs => some (!xs.isEmpty)
  | .dct _ _ => none
  | .ref _ => none
  | .scr ns => some (!ns.isEmpty)
  | .rp _ => none

/-- read an answer by its content -/
def rd (e : Ev) (h : AH) : Rv → Option D
  | .v (.ref n) => h[n]?.map Ob.d
  | .v d => some d
  | .fr o => some o.d
  | .bor i => match e[i]? with
    | some (.ow o) => some o.d
    | some (.lk xs) => some (.lst xs)
    | _ => none
/-- store an answer: what is owned is frozen -/
def frz (e : Ev) : Rv → Option (D × Ev)
  | .v d => some (d, e)
  | .fr o => some (o.d, e)
  | .bor i => match e[i]? with
    | some (.ow o) => some (o.d, e.set i (.v o.d))
    | _ => none

/-! ### the syntax -/
inductive Op2 where
  | add | sub | mul | fdiv | mod | pow | xor | shl
  deriving DecidableEq
inductive Cm where
  | eq | ne | lt | le | gt | ge | is | isnt | isin | notin
  deriving DecidableEq
inductive Ty where
  | int | bool | str | tuple | list | dict
  deriving DecidableEq
/-- built-in functions by name, over contents -/
inductive Bi where
  | len | tuple | list | sorted | sum | max | min | abs | int | repr | all | any | dict
  deriving DecidableEq
/-- methods, by what they are of -/
inductive Me where
  | lappend | lpop | lextend | lcount | lindex
  deriving DecidableEq
mutual
inductive E where
  | var (i : Nat)
  | non | bl (b : Bool) | int (i : Int) | str (s : Str)
  | neg (a : E) | not (a : E)
  | bin (o : Op2) (a b : E)
  | cmp (o : Cm) (a b : E)
  | chain (o o' : Cm) (a b c : E)
  | and (a b : E) | or (a b : E)
  | ite (c a b : E)
  | tup (es : Es) | lst (es : Es)
  | ix (a i : E)
  | call (f : Nat) (es : Es)
  | bi (b : Bi) (es : Es)
  | me (m : Me) (o : E) (es : Es)
  | isi (a : E) (t : Ty)
  | comp (elt : E) (own : List Nat) (g : G) (it : It) (c : E)
  | shr (a : E)
  | dct (tk : Bool) (kvs : Es)
  | rev (a : E)
  | sl (a : E) (lo hi : Es)
  | bad
  | lit (tp : Bool) (it : It)
inductive Es where
  | nil | cons (star : Bool) (e : E) (r : Es)
/-- what is walked -/
inductive It where
  | e (a : E)
  | rng1 (a : E) | rng2 (a b : E) | rng3 (a b c : E)
  | enum (a : E) | zip (a b : E) (st : Bool) | items (a : E) | values (a : E)
/-- targets of names -/
inductive G where
  | nm (i : Nat) | tp (gs : Gs)
inductive Gs where
  | nil | cons (g : G) (r : Gs)
end
mutual
inductive S where
  | expr (e : E)
  | asg (g : G) (e : E)
  | par (js : List Nat) (es : Es)
  | sset (o i e : E)
  | ifs (c : E) (a b : Ss)
  | whl (c : E) (b : Ss)
  | fr (g : G) (it : It) (b : Ss)
  | ret (e : E) | retN
  | pass | brk | cnt | bad
inductive Ss where
  | nil | cons (s : S) (r : Ss)
end

end Mp

namespace Mp
open PySem (Str)

/-! ### operators over contents -/
def ltI (o : Cm) (i j : Int) : Option Bool :=
  match o with
  | .lt => some (decide (i < j))
  | .le => some (decide (i ≤ j))
  | .gt => some (decide (j < i))
  | .ge => some (decide (j ≤ i))
  | _ => none
def small64 (i : Int) : Bool := decide (-(2 ^ 64) < i) && decide (i < 2 ^ 64)
def op2 (o : Op2) (a b : D) : Option Rv :=
  match o, a, b with
  | .add, .int i, .int j => some (.v (.int (i + j)))
  | .sub, .int i, .int j => some (.v (.int (i - j)))
  | .mul, .int i, .int j => if small64 i || small64 j then some (.v (.int (i * j))) else none
  | .fdiv, .int i, .int j => if j != 0 && decide (j.natAbs < 1073741824) then some (.v (.int (i.fdiv j))) else none
  | .mod, .int i, .int j => if j != 0 then some (.v (.int (i.fmod j))) else none
  | .pow, .int i, .int j => if decide (0 ≤ j) && decide (j ≤ 1000000) && decide (i.natAbs < 2 ^ 64) then some (.v (.int (i ^ j.toNat))) else none
  | .add, .tup xs, .tup ys => if decide (xs.length + ys.length ≤ sizeMax) then some (.v (.tup (xs ++ ys))) else none
  | .add, .lst xs, .lst ys => if decide (xs.length + ys.length ≤ sizeMax) then some (.fr (.lst (xs ++ ys))) else none
  | .mul, .lst xs, .int k => if decide (-(2 ^ 63) ≤ k) && decide (k < 2 ^ 63) && decide (xs.length * k.toNat ≤ sizeMax) then some (.fr (.lst (List.replicate k.toNat xs).flatten)) else none
  | _, _, _ => none
/-! dicts -/
def keyK : D → Option Kd
  | .int i => some (.inl i)
  | .str s => some (.inr s)
  | _ => none
def keyKs : List D → Option (List Kd)
  | [] => some []
  | d :: ds => (keyK d).bind fun k => (keyKs ds).map (k :: ·)
def keyT : D → Option (List Kd)
  | .tup ds => keyKs ds
  | _ => none
section
variable {κ : Type} [DecidableEq κ]
def lk : List κ → List D → κ → Option D
  | k' :: ks, v :: vs, k => if k' = k then some v else lk ks vs k
  | _, _, _ => none
def rpl : List κ → List D → κ → D → List D
  | k' :: ks, v' :: vs, k, v => (if k' = k then v else v') :: rpl ks vs k v
  | _, _, _, _ => []
def hasK (ks : List κ) (k : κ) : Bool := ks.any fun k' => decide (k' = k)
def put (ks : List κ) (vs : List D) (k : κ) (v : D) : List κ × List D := if hasK ks k then (ks, rpl ks vs k v) else (ks ++ [k], vs ++ [v])
end
/-- d[y] -/
def dgetD : Ks → List D → D → Option (Option D)
  | .k ks, vs, y => (keyK y).map (lk ks vs)
  | .t ks, vs, y => (keyT y).map (lk ks vs)
/-- d[y] = v -/
def dputD : Ks → List D → D → D → Option (Ks × List D)
  | .k ks, vs, y, v => (keyK y).map fun k => (.k (put ks vs k v).1, (put ks vs k v).2)
  | .t ks, vs, y, v => (keyT y).map fun k => (.t (put ks vs k v).1, (put ks vs k v).2)
/-- x in xs -/
def inB (x : D) (xs : List D) : Bool := xs.any fun y => eqB y x
def plain (d : D) : Bool := d.plain 60
/-- scalars that == tells apart at once -/
def scalB : D → D → Bool
  | .non, .non => true
  | .non, .int _ => true
  | .int _, .non => true
  | .non, .bl _ => true
  | .bl _, .non => true
  | .non, .str _ => true
  | .str _, .non => true
  | .int _, .int _ => true
  | .bl _, .bl _ => true
  | .str _, .str _ => true
  | .int _, .str _ => true
  | .str _, .int _ => true
  | .bl _, .str _ => true
  | .str _, .bl _ => true
  | _, _ => false
def cmpD (o : Cm) (a b : D) : Option Bool :=
  match o, a, b with
  | .is, a, .non => some (match a with | .non => true | _ => false)
  | .isnt, a, .non => some (match a with | .non => false | _ => true)
  | .eq, .rp a, .rp b => if sameD a b then some true else none
  | .ne, .rp a, .rp b => if sameD a b then some false else none
  | .eq, a, b => if scalB a b || (plain a && plain b) then some (eqB a b) else none
  | .ne, a, b => if scalB a b || (plain a && plain b) then some (!eqB a b) else none
  | .isin, a, .lst xs => if plain a && plain (.lst xs) then some (inB a xs) else none
  | .isin, a, .tup xs => if plain a && plain (.tup xs) then some (inB a xs) else none
  | .notin, a, .lst xs => if plain a && plain (.lst xs) then some (!inB a xs) else none
  | .notin, a, .tup xs => if plain a && plain (.tup xs) then some (!inB a xs) else none
  | .isin, a, .dct ks vs => (dgetD ks vs a).map Option.isSome
  | .notin, a, .dct ks vs => (dgetD ks vs a).map fun r => !r.isSome
  | o, .int i, .int j => ltI o i j
  | _, _, _ => none
/-- the place that an index means -/
def ixN (n : Nat) (i : Int) : Option Nat := if 0 ≤ i then (if i < n then some i.toNat else none) else if -(n : Int) ≤ i then some (i + n).toNat else none
def ixD (a i : D) : Option D :=
  match a, i with
  | .tup xs, .int k => (ixN xs.length k).bind fun j => xs[j]?
  | .lst xs, .int k => (ixN xs.length k).bind fun j => xs[j]?
  | .dct ks vs, y => (dgetD ks vs y).bind id
  | _, _ => none
def isTy (d : D) (t : Ty) : Bool :=
  match d, t with
  | .int _, .int => true
  | .bl _, .int => true
  | .bl _, .bool => true
  | .str _, .str => true
  | .tup _, .tuple => true
  | .lst _, .list => true
  | .scr _, .list => true
  | .rp _, .str => true
  | .dct _ _, .dict => true
  | _, _ => false
def seqOf : D → Option (List D)
  | .tup xs => some xs
  | .lst xs => some xs
  | _ => none
def intsOf : List D → Option (List Int)
  | [] => some []
  | .int i :: r => (intsOf r).map (i :: ·)
  | _ :: _ => none
def insI (i : Int) : List Int → List Int
  | [] => [i]
  | j :: r => if i ≤ j then i :: j :: r else j :: insI i r
def sortI : List Int → List Int
  | [] => []
  | i :: r => insI i (sortI r)
def maxI (i : Int) (r : List Int) : Int := r.foldl (fun a b => if b > a then b else a) i
def minI (i : Int) (r : List Int) : Int := r.foldl (fun a b => if b < a then b else a) i
/-- truth of ints and bools -/
def truL : List D → Option (List Bool)
  | [] => some []
  | .int i :: r => (truL r).map ((i != 0) :: ·)
  | .bl b :: r => (truL r).map (b :: ·)
  | _ :: _ => none
/-- tuples of ints, all of one length, bounded, by their codes -/
def tupsOf : List D → Option (List (List Int))
  | [] => some []
  | .tup xs :: r => (intsOf xs).bind fun l => (tupsOf r).map (l :: ·)
  | _ :: _ => none
def cdI (B : Int) : List Int → Int
  | [] => 0
  | i :: l => i * B ^ l.length + cdI B l
def insT (B : Int) (l : List Int) : List (List Int) → List (List Int)
  | [] => [l]
  | m :: r => if cdI B l ≤ cdI B m then l :: m :: r else m :: insT B l r
def sortT (B : Int) : List (List Int) → List (List Int)
  | [] => []
  | l :: r => insT B l (sortT B r)
def topI : List Int → Int
  | [] => 1
  | i :: l => let m := topI l; if i < m then m else i + 1
def topT : List (List Int) → Int
  | [] => 1
  | l :: r => let m := topT r; let n := topI l; if n < m then m else n
def tupD (l : List Int) : D := .tup (l.map D.int)
def sortTs (nss : List (List Int)) : Option (List (List Int)) :=
  match nss with
  | [] => some []
  | l :: r => if decide (r.length < 63) && decide (1 ≤ l.length) && r.all (fun m => decide (m.length = l.length)) && (l :: r).all (fun m => m.all fun i => decide (0 ≤ i)) then some (sortT (topT (l :: r)) (l :: r)) else none
mutual
/-- small enough to be shown -/
def shw : D → Bool
  | .non => true
  | .bl _ => true
  | .int i => decide (i.natAbs < 100000000000000000000)
  | .str _ => true
  | .tup xs => shws xs
  | .lst xs => shws xs
  | _ => false
def shws : List D → Bool
  | [] => true
  | x :: xs => shw x && shws xs
end
mutual
def wgt : D → Nat
  | .tup xs => wgts xs
  | .lst xs => wgts xs
  | .str s => s.cps.size
  | _ => 0
def wgts : List D → Nat
  | [] => 0
  | x :: xs => wgt x + 1 + wgts xs
end
def repOk (d : D) : Bool := shw d && plain d && decide (wgt d ≤ 300000)
def bfn (b : Bi) (ds : List D) : Option Rv :=
  match b, ds with
  | .len, [.lst xs] => some (.v (.int xs.length))
  | .len, [.tup xs] => some (.v (.int xs.length))
  | .len, [.scr xs] => some (.v (.int xs.length))
  | .tuple, [.lst xs] => some (.v (.tup xs))
  | .tuple, [.tup xs] => some (.v (.tup xs))
  | .list, [.lst xs] => some (.fr (.lst xs))
  | .list, [.tup xs] => some (.fr (.lst xs))
  | .abs, [.int i] => some (.v (.int (if i < 0 then -i else i)))
  | .int, [.int i] => some (.v (.int i))
  | .max, [.int i, .int j] => some (.v (.int (if j > i then j else i)))
  | .min, [.int i, .int j] => some (.v (.int (if j < i then j else i)))
  | .sum, [.lst xs] => (intsOf xs).map fun l => .v (.int l.sum)
  | .max, [.lst xs] => match intsOf xs with | some (i :: r) => some (.v (.int (maxI i r))) | _ => none
  | .min, [.lst xs] => match intsOf xs with | some (i :: r) => some (.v (.int (minI i r))) | _ => none
  | .repr, [d] => if repOk d then some (.v (.rp d)) else none
  | .len, [.dct _ vs] => some (.v (.int vs.length))
  | .any, [.lst xs] => (truL xs).map fun l => .v (.bl (l.any id))
  | .all, [.lst xs] => (truL xs).map fun l => .v (.bl (l.all id))
  | .sorted, [.lst xs] => match intsOf xs with
    | some l => some (.fr (.lst ((sortI l).map D.int)))
    | none => ((tupsOf xs).bind sortTs).map fun nss => .fr (.lst (nss.map tupD))
  | .max, [.tup xs] => match intsOf xs with | some (i :: r) => some (.v (.int (maxI i r))) | _ => none
  | .min, [.tup xs] => match intsOf xs with | some (i :: r) => some (.v (.int (minI i r))) | _ => none
  | .int, [.bl b] => some (.v (.int (if b then 1 else 0)))
  | _, _ => none
/-- what a method is of -/
def Me.of (m : Me) (d : D) : Bool :=
  match m, d with
  | _, .lst _ => true
  | _, _ => false
/-- what a method reads -/
def mer (m : Me) (o : D) (ds : List D) : Option Rv :=
  match m, o, ds with
  | .lcount, .lst xs, [.int k] => (intsOf xs).map fun l => .v (.int (l.count k))
  | _, _, _ => none
/-- what a method changes -/
def mew (m : Me) (o : Ob) (ds : List D) : Option (Ob × D) :=
  match m, o, ds with
  | .lappend, .lst xs, [x] => if decide (xs.length < sizeMax) then some (.lst (xs ++ [x]), .non) else none
  | .lpop, .lst xs, [] => match xs[xs.length - 1]? with | some x => some (.lst xs.dropLast, x) | none => none
  | .lpop, .lst xs, [.int k] => if decide (-(2 ^ 63) ≤ k) && decide (k < 2 ^ 63) then (match ixN xs.length k with | some j => (xs[j]?).map fun x => (.lst (xs.eraseIdx j), x) | none => none) else none
  | .lextend, .lst xs, [.lst ys] => if decide (xs.length + ys.length ≤ sizeMax) then some (.lst (xs ++ ys), .non) else none
  | _, _, _ => none
def Me.writes : Me → Bool
  | .lappend | .lpop | .lextend => true
  | _ => false
/-- whether its arguments come to stand in the thing -/
def Me.stores : Me → Bool
  | .lappend => true
  | _ => false
def setOb (o : Ob) (i v : D) : Option Ob :=
  match o, i with
  | .lst xs, .int k => (ixN xs.length k).map fun j => .lst (xs.set j v)
  | .dct ks vs, y => if vs.length < sizeMax then (dputD ks vs y v).map fun p => .dct p.1 p.2 else none
  | _, _ => none
def rngL (lo c : Int) (n : Nat) : List D := (List.range n).map fun (k : Nat) => D.int (lo + (k : Int) * c)
def in62 (i : Int) : Bool := decide (-(2 ^ 62) ≤ i) && decide (i < 2 ^ 62)
def rng3 (lo hi c : Int) : Option (List D) :=
  if c != 0 && decide (c.natAbs < 1073741824) && PySem.Builtin.Range.small lo hi c && decide (0 ≤ PySem.Builtin.Range.rangeSize lo hi c) then some (rngL lo c (PySem.Builtin.Range.rangeSize lo hi c).toNat) else none

/-! ### storing -/
def bindG : G → D → Ev → Option Ev
  | .nm i, d, e => if i < e.length then some (e.set i (.v d)) else none
  | .tp gs, .tup ds, e => bindGs gs ds e
  | .tp gs, .lst ds, e => bindGs gs ds e
  | _, _, _ => none
where bindGs : Gs → List D → Ev → Option Ev
  | .nil, [], e => some e
  | .cons g r, d :: ds, e => (bindG g d e).bind fun e => bindGs r ds e
  | _, _, _ => none
def bindR (g : G) (r : Rv) (e : Ev) : Option Ev :=
  match g, r with
  | .nm i, .fr o => if i < e.length then some (e.set i (.ow o)) else none
  | g, r => (frz e r).bind fun (d, e) => bindG g d e
/-- several answers, the owned ones frozen -/
def frzs : List Rv → Ev → Option (List Rv × Ev)
  | [], e => some ([], e)
  | .bor i :: r, e => (frz e (.bor i)).bind fun (d, e) => (frzs r e).map fun (rs, e) => (.v d :: rs, e)
  | x :: r, e => (frzs r e).map fun (rs, e) => (x :: rs, e)
def bindRs : List Nat → List Rv → Ev → Option Ev
  | [], [], e => some e
  | i :: js, x :: xs, e => (bindR (.nm i) x e).bind fun e => bindRs js xs e
  | _, _, _ => none
/-- slots that are walked: locked; let go -/
def lock1 : Sl → Sl
  | .ow (.lst xs) => .lk xs
  | s => s
def free1 : Sl → Sl
  | .lk xs => .ow (.lst xs)
  | s => s
def lockS : List Nat → Ev → Ev
  | [], e => e
  | i :: r, e => lockS r (e.modify i lock1)
def freeS : List Nat → Ev → Ev
  | [], e => e
  | i :: r, e => freeS r (e.modify i free1)
def arg (e : Ev) : Rv → Option Sl
  | .v d => some (.v d)
  | .fr o => some (.ow o)
  | .bor i => match e[i]? with
    | some (.ow o) => some (.v o.d)
    | some (.lk xs) => some (.v (.lst xs))
    | _ => none
def isBor : Rv → Bool
  | .bor _ => true
  | _ => false
def Rv.nol : Rv → Bool
  | .v d => d.nol
  | .fr o => o.nol
  | .bor _ => false

def nodupB : List Kd → Bool
  | [] => true
  | k :: r => !hasK r k && nodupB r
/-- a slice's place -/
def sx (n d : Nat) : Option Int → Nat
  | none => d
  | some v => if v < 0 then (v + (n : Int)).toNat else min v.toNat n
def cutD (xs : List D) (lo hi : Option Int) : List D := (xs.drop (sx xs.length 0 lo)).take (sx xs.length xs.length hi - sx xs.length 0 lo)
def slD (d : D) (lo hi : Option Int) : Option Rv :=
  match d with
  | .lst xs => some (.fr (.lst (cutD xs lo hi)))
  | .tup xs => some (.v (.tup (cutD xs lo hi)))
  | _ => none
def parts (e : Ev) (h : AH) (rs : List Rv) : Option (Option Int) :=
  match rs with
  | [] => some none
  | [r] => match rd e h r with
    | some (.int i) => some (some i)
    | _ => none
  | _ => none
/-- what may be walked with a count, or beside another: its items, the slot to be locked -/
def wkd (e : Ev) : Rv → Option (List D × List Nat)
  | .v (.tup xs) => some (xs, [])
  | .v (.lst xs) => some (xs, [])
  | .fr (.lst xs) => some (xs, [])
  | .bor i => match e[i]? with
    | some (.ow (.lst xs)) => some (xs, [i])
    | some (.lk xs) => some (xs, [])
    | _ => none
  | _ => none
def zipL : List D → List D → List D
  | x :: xs, y :: ys => .tup [x, y] :: zipL xs ys
  | _, _ => []
def enumL : Nat → List D → List D
  | _, [] => []
  | i, x :: xs => .tup [.int (i : Nat), x] :: enumL (i + 1) xs
mutual
def D.low (n : Nat) : D → Bool
  | .tup xs => D.lows n xs
  | .lst xs => D.lows n xs
  | .dct _ vs => D.lows n vs
  | .ref k => decide (k < n)
  | _ => true
def D.lows (n : Nat) : List D → Bool
  | [] => true
  | x :: xs => D.low n x && D.lows n xs
end
def Ob.low (n : Nat) : Ob → Bool
  | .lst xs => D.lows n xs
  | .dct _ vs => D.lows n vs
def Rv.low (n : Nat) : Rv → Bool
  | .v d => d.low n
  | .fr o => o.low n
  | .bor _ => false
def Sl.low (n : Nat) : Sl → Bool
  | .un => true
  | .v d => d.low n
  | .ow o => o.low n
  | .lk xs => D.lows n xs
/-- an answer that hangs on nothing shared -/
def pureC (m : Option (O Rv)) (b : Bool) : Option Rv :=
  match m with
  | some (.ok r _ []) => if r.low 0 && (!b || r.nol) then some r else none
  | _ => none
/-! ### expressions -/
abbrev Cl := Nat → List Sl → AH → Option (O Rv)
def call (cl : Cl) (f : Nat) (rs : List Rv) (e : Ev) (h : AH) : Option (O Rv) :=
  match rs.mapM (arg e) with
  | some ss =>
    match (if ss.all (Sl.low 0) then pureC (cl f ss []) (rs.any isBor) else none) with
    | some r => some (.ok r e h)
    | none => match cl f ss h with
    | some (.ok r _ h') => if rs.any isBor then (if r.nol && h'.all Ob.nol then some (.ok r e h') else none) else some (.ok r e h')
    | some (.ex c p _ h') => if rs.any isBor then none else some (.ex c p e h')
    | none => none
  | none => none
def lift (r : Option Rv) (e : Ev) (h : AH) : Option (O Rv) := r.map fun r => .ok r e h
/-- the arguments' values, as they are stored or read -/
def margs (m : Me) (rs : List Rv) (e : Ev) (h : AH) : Option (List D × Ev) :=
  if m.stores then
    match rs with
    | [r] => (frz e r).map fun (d, e) => ([d], e)
    | _ => none
  else (rs.mapM (rd e h)).map fun ds => (ds, e)
def method (m : Me) (o : Rv) (rs : List Rv) (e : Ev) (h : AH) : Option (O Rv) :=
  if m.writes then
    match margs m rs e h with
    | some (ds, e) =>
      match o with
      | .bor i => match e[i]? with
        | some (.ow ob) => (mew m ob ds).map fun (ob', d) => .ok (.v d) (e.set i (.ow ob')) h
        | _ => none
      | .v (.ref n) => match h[n]? with
        | some ob => (mew m ob ds).map fun (ob', d) => .ok (.v d) e (h.set n ob')
        | none => none
      | _ => none
    | none => none
  else
    match rd e h o, rs.mapM (rd e h) with
    | some d, some ds => lift (mer m d ds) e h
    | _, _ => none
def wipeS : List Nat → Ev → Ev
  | [], e => e
  | i :: r, e => wipeS r (e.set i .un)
def isOwn : Sl → Bool
  | .ow _ => true
  | .lk _ => true
  | _ => false
def noOwn (own : List Nat) (e : Ev) : Bool := own.all fun i => match e[i]? with | some s => !isOwn s | none => false
/-- a comprehension's turns: the own slots are forgotten ahead of each -/
def forC (own : List Nat) (f : D → Ev → AH → Option (O (Option D))) : List D → List D → Ev → AH → Option (O (List D))
  | [], acc, e, h => some (.ok acc e h)
  | x :: xs, acc, e, h => bd (f x (wipeS own e) h) fun r e h => if noOwn own e then forC own f xs (match r with | some y => acc ++ [y] | none => acc) e h else none
/-- where a raise is not let through -/
def noEx {α : Type} (m : Option (O α)) : Option (O α) :=
  match m with
  | some (.ok a e h) => some (.ok a e h)
  | _ => none
@[simp] theorem noEx_ok {α : Type} (a : α) (e : Ev) (h : AH) : noEx (some (.ok a e h)) = some (.ok a e h) := rfl
@[simp] theorem noEx_none {α : Type} : noEx (none : Option (O α)) = none := rfl
def back1 (e0 e : Ev) (i : Nat) : Ev := match e0[i]? with
  | some s => e.set i s
  | none => e
def backS : List Nat → Ev → Ev → Ev
  | [], _, e => e
  | i :: r, e0, e => backS r e0 (back1 e0 e i)
mutual
def evE (cl : Cl) : E → Ev → AH → Option (O Rv)
  | .var i, e, h => match e[i]? with
    | some (.v d) => some (.ok (.v d) e h)
    | some (.ow _) => some (.ok (.bor i) e h)
    | some (.lk _) => some (.ok (.bor i) e h)
    | _ => none
  | .non, e, h => some (.ok (.v .non) e h)
  | .bl b, e, h => some (.ok (.v (.bl b)) e h)
  | .int i, e, h => some (.ok (.v (.int i)) e h)
  | .str s, e, h => some (.ok (.v (.str s)) e h)
  | .neg a, e, h => bd (evE cl a e h) fun r e h => match rd e h r with | some (.int i) => some (.ok (.v (.int (-i))) e h) | _ => none
  | .not a, e, h => bd (evE cl a e h) fun r e h => match (rd e h r).bind truth with | some b => some (.ok (.v (.bl !b)) e h) | _ => none
  | .bin o a b, e, h => bd (evE cl a e h) fun x e h => bd (evE cl b e h) fun y e h => match rd e h x, rd e h y with
    | some p, some q => lift (op2 o p q) e h
    | _, _ => none
  | .cmp o a b, e, h => bd (evE cl a e h) fun x e h => bd (evE cl b e h) fun y e h => match rd e h x, rd e h y with
    | some p, some q => lift ((cmpD o p q).map fun b => .v (.bl b)) e h
    | _, _ => none
  | .chain o o' a b c, e, h => bd (evE cl a e h) fun x e h => bd (evE cl b e h) fun y e h => match rd e h x, rd e h y with
    | some p, some q => match cmpD o p q with
      | some true => bd (evE cl c e h) fun z e h => match rd e h y, rd e h z with
        | some q, some s => lift ((cmpD o' q s).map fun b => .v (.bl b)) e h
        | _, _ => none
      | some false => some (.ok (.v (.bl false)) e h)
      | none => none
    | _, _ => none
  | .and a b, e, h => bd (evE cl a e h) fun x e h => match (rd e h x).bind truth with
    | some true => evE cl b e h
    | some false => some (.ok x e h)
    | none => none
  | .or a b, e, h => bd (evE cl a e h) fun x e h => match (rd e h x).bind truth with
    | some true => some (.ok x e h)
    | some false => evE cl b e h
    | none => none
  | .ite c a b, e, h => bd (evE cl c e h) fun x e h => match (rd e h x).bind truth with
    | some true => evE cl a e h
    | some false => evE cl b e h
    | none => none
  | .tup es, e, h => bd (evD cl es e h) fun ds e h => if decide (ds.length ≤ sizeMax) then some (.ok (.v (.tup ds)) e h) else none
  | .lst es, e, h => bd (evD cl es e h) fun ds e h => if decide (ds.length ≤ sizeMax) then some (.ok (.fr (.lst ds)) e h) else none
  | .ix a i, e, h => bd (evE cl a e h) fun x e h => bd (evE cl i e h) fun y e h => match rd e h x, rd e h y with
    | some p, some q => lift ((ixD p q).map .v) e h
    | _, _ => none
  | .call f es, e, h => bd (evR cl es e h) fun rs e h => call cl f rs e h
  | .bi b es, e, h => bd (evR cl es e h) fun rs e h => match rs.mapM (rd e h) with
    | some ds => lift (bfn b ds) e h
    | none => none
  | .me m o es, e, h => bd (evE cl o e h) fun ro e h => match rd e h ro with
    | some d0 => if m.of d0 then bd (evR cl es e h) fun rs e h => method m ro rs e h else none
    | none => none
  | .isi a t, e, h => bd (evE cl a e h) fun x e h => match rd e h x with
    | some d => some (.ok (.v (.bl (isTy d t))) e h)
    | none => none
  | .comp elt own g it c, e0, h0 => bd (evI cl it e0 h0) fun (xs, lk) e h =>
    if noOwn own e && decide (xs.length ≤ sizeMax) then
      bd (forC own (fun x e h => match bindG g x e with
          | some e => bd (noEx (evE cl c e h)) fun t e h => match (rd e h t).bind truth with
            | some true => bd (noEx (evE cl elt e h)) fun y e h => match frz e y with
              | some (d, e) => some (.ok (some d) e h)
              | none => none
            | some false => some (.ok none e h)
            | none => none
          | none => none) xs [] (lockS lk e) h) fun ys e' h => some (.ok (.fr (.lst ys)) (freeS lk (backS own e e')) h)
    else none
  | .shr a, e, h => bd (evE cl a e h) fun x e h => match x with
    | .v (.ref n) => some (.ok (.v (.ref n)) e h)
    | .fr o => some (.ok (.v (.ref h.length)) e (h ++ [o]))
    | _ => none
  | .dct tk kvs, e, h => bd (evP cl kvs e h) fun ps e h =>
    if tk then (if ps.isEmpty then some (.ok (.fr (.dct (.t []) [])) e h) else none)
    else if nodupB (ps.map (·.1)) && decide (ps.length ≤ 15) then some (.ok (.fr (.dct (.k (ps.map (·.1))) (ps.map (·.2)))) e h) else none
  | .rev a, e, h => bd (evE cl a e h) fun x e h => match rd e h x with
    | some (.lst xs) => some (.ok (.fr (.lst xs.reverse)) e h)
    | _ => none
  | .sl a lo hi, e, h => bd (evE cl a e h) fun x e h => bd (evR cl lo e h) fun rl e h => match parts e h rl with
    | some l => bd (evR cl hi e h) fun ru e h => match parts e h ru, rd e h x with
      | some u, some d => lift (slD d l u) e h
      | _, _ => none
    | none => none
  | .bad, _, _ => none
  | .lit tp it, e, h => bd (evI cl it e h) fun (xs, lk) e h =>
    if lk.isEmpty && decide (xs.length ≤ sizeMax) then some (.ok (if tp then .v (.tup xs) else .fr (.lst xs)) e h) else none
/-- the items of a display -/
def evD (cl : Cl) : Es → Ev → AH → Option (O (List D))
  | .nil, e, h => some (.ok [] e h)
  | .cons false a r, e, h => bd (evE cl a e h) fun x e h => match frz e x with
    | some (d, e) => bd (evD cl r e h) fun ds e h => some (.ok (d :: ds) e h)
    | none => none
  | .cons true a r, e, h => bd (evE cl a e h) fun x e h => match (rd e h x).bind seqOf with
    | some xs => bd (evD cl r e h) fun ds e h => some (.ok (xs ++ ds) e h)
    | none => none
/-- the pairs of a dict display -/
def evP (cl : Cl) : Es → Ev → AH → Option (O (List (Kd × D)))
  | .nil, e, h => some (.ok [] e h)
  | .cons false k (.cons false v r), e, h => bd (evE cl k e h) fun x e h => match (rd e h x).bind keyK with
    | some kd => bd (evE cl v e h) fun y e h => match frz e y with
      | some (d, e) => bd (evP cl r e h) fun ps e h => some (.ok ((kd, d) :: ps) e h)
      | none => none
    | none => none
  | _, _, _ => none
/-- arguments -/
def evR (cl : Cl) : Es → Ev → AH → Option (O (List Rv))
  | .nil, e, h => some (.ok [] e h)
  | .cons false a r, e, h => bd (evE cl a e h) fun x e h => bd (evR cl r e h) fun rs e h => some (.ok (x :: rs) e h)
  | .cons true _ _, _, _ => none
/-- what is walked: its items, the slots to be locked -/
def evI (cl : Cl) : It → Ev → AH → Option (O (List D × List Nat))
  | .e a, e, h => bd (evE cl a e h) fun x e h => match x with
    | .v (.tup xs) => some (.ok (xs, []) e h)
    | .v (.lst xs) => some (.ok (xs, []) e h)
    | .v (.scr ns) => some (.ok (ns.map D.int, []) e h)
    | .fr (.lst xs) => some (.ok (xs, []) e h)
    | .bor i => match e[i]? with
      | some (.ow (.lst xs)) => some (.ok (xs, [i]) e h)
      | some (.lk xs) => some (.ok (xs, []) e h)
      | _ => none
    | _ => none
  | .rng1 a, e, h => bd (evE cl a e h) fun x e h => match rd e h x with
    | some (.int j) => if in62 j then some (.ok (rngL 0 1 j.toNat, []) e h) else none
    | _ => none
  | .rng2 a b, e, h => bd (evE cl a e h) fun x e h => bd (evE cl b e h) fun y e h => match rd e h x, rd e h y with
    | some (.int i), some (.int j) => if in62 i && in62 j then some (.ok (rngL i 1 (j - i).toNat, []) e h) else none
    | _, _ => none
  | .rng3 a b c, e, h => bd (evE cl a e h) fun x e h => bd (evE cl b e h) fun y e h => bd (evE cl c e h) fun z e h => match rd e h x, rd e h y, rd e h z with
    | some (.int i), some (.int j), some (.int k) => match rng3 i j k with
      | some xs => some (.ok (xs, []) e h)
      | none => none
    | _, _, _ => none
  | .enum a, e, h => bd (evE cl a e h) fun x e h => match wkd e x with
    | some (xs, lk) => some (.ok (enumL 0 xs, lk) e h)
    | none => none
  | .zip a b st, e, h => bd (evE cl a e h) fun x e h => bd (evE cl b e h) fun y e h => match wkd e x, wkd e y with
    | some (xs, l1), some (ys, l2) => if !st || xs.length == ys.length then some (.ok (zipL xs ys, l1 ++ l2) e h) else none
    | _, _ => none
  | _, _, _ => none
end

/-! ### statements -/
inductive Fl where
  | nx | rt (r : Rv) | bk | ct
/-- a for's turns -/
def forS (f : D → Ev → AH → Option (O Fl)) : List D → Ev → AH → Option (O Fl)
  | [], e, h => some (.ok .nx e h)
  | x :: xs, e, h => bd (f x e h) fun fl e h => match fl with
    | .nx => forS f xs e h
    | .ct => forS f xs e h
    | .bk => some (.ok .nx e h)
    | .rt r => some (.ok (.rt r) e h)
/-- a while's turns -/
def whlS (c : Ev → AH → Option (O Bool)) (f : Ev → AH → Option (O Fl)) : Nat → Ev → AH → Option (O Fl)
  | 0, _, _ => none
  | n + 1, e, h => bd (c e h) fun b e h => match b with
    | false => some (.ok .nx e h)
    | true => bd (f e h) fun fl e h => match fl with
      | .nx => whlS c f n e h
      | .ct => whlS c f n e h
      | .bk => some (.ok .nx e h)
      | .rt r => some (.ok (.rt r) e h)
/-- a for loop lets its lists go -/
def letGo (lk : List Nat) (m : Option (O Fl)) : Option (O Fl) :=
  match m with
  | some (.ok fl e h) => some (.ok fl (freeS lk e) h)
  | some (.ex c p e h) => some (.ex c p (freeS lk e) h)
  | none => none
/-- what is handed back: a slot's own thing leaves it -/
def retR (e : Ev) : Rv → Option (Rv × Ev)
  | .bor i => match e[i]? with
    | some (.ow o) => some (.fr o, e.set i .un)
    | _ => none
  | r => some (r, e)
mutual
def evS (cl : Cl) (W : Nat) : S → Ev → AH → Option (O Fl)
  | .expr a, e, h => bd (evE cl a e h) fun _ e h => some (.ok .nx e h)
  | .asg g a, e, h => bd (evE cl a e h) fun r e h => match bindR g r e with
    | some e => some (.ok .nx e h)
    | none => none
  | .par js es, e, h => bd (evR cl es e h) fun rs e h => match (frzs rs e).bind fun (rs, e) => bindRs js rs e with
    | some e => some (.ok .nx e h)
    | none => none
  | .sset o i a, e, h => bd (evE cl a e h) fun r e h => match frz e r with
    | some (d, e) => bd (evE cl o e h) fun ro e h => bd (evE cl i e h) fun ri e h => match rd e h ri with
      | some k => match ro with
        | .bor s => match e[s]? with
          | some (.ow ob) => (setOb ob k d).map fun ob' => .ok .nx (e.set s (.ow ob')) h
          | _ => none
        | .v (.ref n) => match h[n]? with
          | some ob => (setOb ob k d).map fun ob' => .ok .nx e (h.set n ob')
          | none => none
        | _ => none
      | none => none
    | none => none
  | .ifs c a b, e, h => bd (evE cl c e h) fun x e h => match (rd e h x).bind truth with
    | some true => evSs cl W a e h
    | some false => evSs cl W b e h
    | none => none
  | .whl c b, e, h => whlS (fun e h => bd (evE cl c e h) fun x e h => match (rd e h x).bind truth with
      | some b => some (.ok b e h)
      | none => none) (fun e h => evSs cl W b e h) W e h
  | .fr g it b, e, h => bd (evI cl it e h) fun (xs, lk) e h =>
    letGo lk (forS (fun x e h => match bindG g x e with
      | some e => evSs cl W b e h
      | none => none) xs (lockS lk e) h)
  | .ret a, e, h => bd (evE cl a e h) fun r e h => match retR e r with
    | some (r, e) => some (.ok (.rt r) e h)
    | none => none
  | .retN, e, h => some (.ok (.rt (.v .non)) e h)
  | .pass, e, h => some (.ok .nx e h)
  | .brk, e, h => some (.ok .bk e h)
  | .cnt, e, h => some (.ok .ct e h)
  | .bad, _, _ => none
def evSs (cl : Cl) (W : Nat) : Ss → Ev → AH → Option (O Fl)
  | .nil, e, h => some (.ok .nx e h)
  | .cons s r, e, h => bd (evS cl W s e h) fun fl e h => match fl with
    | .nx => evSs cl W r e h
    | fl => some (.ok fl e h)
end

/-! ### defs -/
structure Fn where
  np : Nat
  ns : Nat
  body : Ss
/-- what a call made and nobody sees is dropped -/
def trim (n : Nat) (r : Rv) (h : AH) : AH := if h.length = n then h else if r.low n && (h.take n).all (Ob.low n) then h.take n else h
def runF (cl : Cl) (W : Nat) (F : Fn) (ss : List Sl) (h : AH) : Option (O Rv) :=
  if ss.length = F.np then
    match evSs cl W F.body (ss ++ List.replicate (F.ns - F.np) .un) h with
    | some (.ok (.rt r) _ h') => some (.ok r [] (trim h.length r h'))
    | some (.ok .nx _ h') => some (.ok (.v .non) [] (trim h.length (.v .non) h'))
    | some (.ok _ _ _) => none
    | some (.ex c p _ h') => some (.ex c p [] h')
    | none => none
  else none
def callN (T : Nat → Option Fn) (W : Nat) : Nat → Cl
  | 0 => fun _ _ _ => none
  | k + 1 => fun f ss h => match T f with
    | some F => runF (callN T W k) W F ss h
    | none => none
end Mp

/-! what an answer of the interpreter means over the abstract heap -/
namespace Mp
open PySem L2

/-! ### contents -/
def kD : Key → D
  | .inl i => .int i
  | .inr s => .str s
/-- the world: where the mutable things stand, what each slot owns -/
structure Wd where
  ρ : List Addr
  ω : Nat → Option Addr
  τ : Addr → Prop
  lam : Nat → Option Addr
/-- what is in the world's hand: shared, a slot's own, made and not yet placed, or walked (lam: what a slot owned when its walk began) -/
def Wd.M (w : Wd) (a : Addr) : Prop := a ∈ w.ρ ∨ (∃ i, w.ω i = some a) ∨ w.τ a ∨ ∃ i, w.lam i = some a
/-- what nobody changes meanwhile: made and not yet placed, or walked -/
def Wd.T (w : Wd) (a : Addr) : Prop := w.τ a ∨ ∃ i, w.lam i = some a

/-- the dict at a: its keys, its values -/
def DcR (H : Hp) (a : Addr) (ks : Ks) (vs : List V) : Prop :=
  match ks with
  | .k ks => ∃ kvs : List (Key × V), H a = some (.dK kvs) ∧ ks = kvs.map (·.1) ∧ vs = kvs.map (·.2)
  | .t ks => ∃ kvs : List (List Key × V), H a = some (.dT kvs) ∧ ks = kvs.map (·.1) ∧ vs = kvs.map (·.2)
theorem DcR.at {H H' : Hp} {a : Addr} {ks : Ks} {vs : List V} (h : DcR H a ks vs) (k : ∀ u, H a = some u → H' a = some u) : DcR H' a ks vs := by
  cases ks with
  | k ks => obtain ⟨kvs, e, q⟩ := h; exact ⟨kvs, k _ e, q⟩
  | t ks => obtain ⟨kvs, e, q⟩ := h; exact ⟨kvs, k _ e, q⟩
theorem DcR.there {H : Hp} {a : Addr} {ks : Ks} {vs : List V} (h : DcR H a ks vs) : ∃ u, H a = some u ∧ (∀ xs, u ≠ .tup xs) ∧ ∀ o v, u ≠ .frz o v := by
  cases ks with
  | k ks => obtain ⟨kvs, e, q⟩ := h; exact ⟨_, e, (fun _ z => nomatch z), (fun _ _ z => nomatch z)⟩
  | t ks => obtain ⟨kvs, e, q⟩ := h; exact ⟨_, e, (fun _ z => nomatch z), (fun _ _ z => nomatch z)⟩
mutual
/-- the value x is the data d -/
def RV (K : PySem.W.Frag) (w : Wd) (H : Hp) : D → V → Prop
  | .non, x => x = .non
  | .bl b, x => x = .bl b
  | .int i, x => x = .int i
  | .str s, x => x = .str s
  | .tup ds, x => ∃ a vs, x = .ref a ∧ H a = some (.tup vs) ∧ RVs K w H ds vs
  | .lst ds, x => ∃ a vs, x = .ref a ∧ ¬ w.M a ∧ H a = some (.lst vs) ∧ RVs K w H ds vs
  | .dct ks ds, x => ∃ a vs, x = .ref a ∧ ¬ w.M a ∧ DcR H a ks vs ∧ RVs K w H ds vs
  | .ref n, x => ∃ a, x = .ref a ∧ w.ρ[n]? = some a
  | .rp d, x => x = .str (toPy d).shown
  | .scr ns, x => ∃ a, x = .ref a ∧ ¬ w.M a ∧ (∃ o, H a = some (.frz o (.lst (ns.map V.int)))) ∨ (∃ (o : Obj) (its : Array Value) (n : Nat), x = .ref a ∧ K.lookup a = some o ∧ o.cls = .type "list" ∧ o.dict = none ∧ o.data = .seq its n ∧ its.size ≤ sizeLine ∧ Vals (ns.map V.int) its.toList)
def RVs (K : PySem.W.Frag) (w : Wd) (H : Hp) : List D → List V → Prop
  | [], vs => vs = []
  | d :: ds, vs => ∃ x r, vs = x :: r ∧ RV K w H d x ∧ RVs K w H ds r
end
/-- contents are carried: what is not in w's hand stands; what comes into the hand was there or is new -/
structure ExtV (w : Wd) (H : Hp) (w' : Wd) (H' : Hp) : Prop where
  keepV : ∀ b o, H b = some o → ¬ w.M b → H' b = some o
  tup : ∀ b xs, H b = some (.tup xs) → H' b = some (.tup xs)
  new : ∀ b, w'.M b → w.M b ∨ H b = none
  rho : ∀ (n : Nat) (a : Addr), w.ρ[n]? = some a → w'.ρ[n]? = some a
/-- how the world goes on: things not yet placed stand too -/
structure Ext (w : Wd) (H : Hp) (w' : Wd) (H' : Hp) : Prop extends ExtV w H w' H' where
  keepT : ∀ b o, H b = some o → w.T b → H' b = some o
  tmp : ∀ b, w.τ b → w'.τ b
  lam : w'.lam = w.lam
theorem Ext.mk' {w : Wd} {H : Hp} {w' : Wd} {H' : Hp} (keep : ∀ b o, H b = some o → ¬ w.M b ∨ w.T b → H' b = some o) (tup : ∀ b xs, H b = some (.tup xs) → H' b = some (.tup xs))
    (new : ∀ b, w'.M b → w.M b ∨ H b = none) (rho : ∀ (n : Nat) (a : Addr), w.ρ[n]? = some a → w'.ρ[n]? = some a) (tmp : ∀ b, w.τ b → w'.τ b) (lam : w'.lam = w.lam := by rfl) : Ext w H w' H' :=
  ⟨⟨fun b o q n => keep b o q (.inl n), tup, new, rho⟩, fun b o q n => keep b o q (.inr n), tmp, lam⟩
theorem Ext.keep {w : Wd} {H : Hp} {w' : Wd} {H' : Hp} (x : Ext w H w' H') : ∀ b o, H b = some o → ¬ w.M b ∨ w.T b → H' b = some o := fun b o q n => by
  rcases n with n | n
  · exact x.keepV b o q n
  · exact x.keepT b o q n
theorem Ext.T {w : Wd} {H : Hp} {w' : Wd} {H' : Hp} (x : Ext w H w' H') {b : Addr} (t : w.T b) : w'.T b := by
  rcases t with t | ⟨i, t⟩
  · exact .inl (x.tmp b t)
  · exact .inr ⟨i, by rw [x.lam]; exact t⟩
theorem Ext.refl (w : Wd) (H : Hp) : Ext w H w H := .mk' (fun _ _ h _ => h) (fun _ _ h => h) (fun _ h => .inl h) (fun _ _ h => h) (fun _ h => h)
theorem Ext.trans {w w1 w2 : Wd} {H H1 H2 : Hp} (a : Ext w H w1 H1) (b : Ext w1 H1 w2 H2) : Ext w H w2 H2 := .mk'
  (fun c o h n => b.keep c o (a.keep c o h n) (by
    rcases n with n | n
    · refine .inl fun m => ?_
      rcases a.new c m with z | z
      · exact n z
      · rw [h] at z; cases z
    · exact .inr (a.T n)))
  (fun c xs h => b.tup c xs (a.tup c xs h))
  (fun c m => by
    rcases b.new c m with z | z
    · exact a.new c z
    · by_cases hm : w.M c
      · exact .inl hm
      · refine .inr ?_
        cases q : H c with
        | none => rfl
        | some o => rw [a.keep c o q (.inl hm)] at z; cases z)
  (fun n c h => b.rho n c (a.rho n c h))
  (fun c h => b.tmp c (a.tmp c h))
  (b.lam.trans a.lam)
theorem ExtV.nM {w w' : Wd} {H H' : Hp} (x : ExtV w H w' H') {b : Addr} {o : HO} (h : H b = some o) (n : ¬ w.M b) : ¬ w'.M b := fun m => by
  rcases x.new b m with z | z
  · exact n z
  · rw [h] at z; cases z
theorem ExtV.rd {w w' : Wd} {H H' : Hp} (x : ExtV w H w' H') {b : Addr} {u : HO} (h : Rd H b u) (n : ¬ w.M b) : Rd H' b u ∧ ¬ w'.M b := by
  rcases h with h | ⟨o, h⟩
  · exact ⟨.inl (x.keepV b u h n), x.nM h n⟩
  · exact ⟨.inr ⟨o, x.keepV b _ h n⟩, x.nM h n⟩
section
variable {K : PySem.W.Frag} {w w' : Wd} {H H' : Hp}
mutual
theorem RV.monoV (x : ExtV w H w' H') : ∀ (d : D) (v : V), RV K w H d v → RV K w' H' d v
  | .non, v, h => by unfold RV at h ⊢; exact h
  | .bl _, v, h => by unfold RV at h ⊢; exact h
  | .int _, v, h => by unfold RV at h ⊢; exact h
  | .str _, v, h => by unfold RV at h ⊢; exact h
  | .tup ds, v, h => by
    unfold RV at h ⊢
    obtain ⟨a, vs, e, t, r⟩ := h
    exact ⟨a, vs, e, x.tup a vs t, RVs.monoV x ds vs r⟩
  | .lst ds, v, h => by
    unfold RV at h ⊢
    obtain ⟨a, vs, e, n, t, r⟩ := h
    exact ⟨a, vs, e, x.nM t n, x.keepV a _ t n, RVs.monoV x ds vs r⟩
  | .dct ks ds, v, h => by
    unfold RV at h ⊢
    obtain ⟨a, vs, e, n, t, r⟩ := h
    obtain ⟨u, hu, _⟩ := t.there
    exact ⟨a, vs, e, x.nM hu n, t.at fun u' hu' => x.keepV a _ hu' n, RVs.monoV x ds vs r⟩
  | .ref n, v, h => by
    unfold RV at h ⊢
    obtain ⟨a, e, r⟩ := h
    exact ⟨a, e, x.rho n a r⟩
  | .rp _, v, h => by unfold RV at h ⊢; exact h
  | .scr ns, v, h => by
    unfold RV at h ⊢
    obtain ⟨a, h⟩ := h
    rcases h with ⟨e, n, o, h⟩ | h
    · exact ⟨a, .inl ⟨e, x.nM h n, o, x.keepV a _ h n⟩⟩
    · exact ⟨a, .inr h⟩
theorem RVs.monoV (x : ExtV w H w' H') : ∀ (ds : List D) (vs : List V), RVs K w H ds vs → RVs K w' H' ds vs
  | [], vs, h => by unfold RVs at h ⊢; exact h
  | d :: ds, vs, h => by
    unfold RVs at h ⊢
    obtain ⟨v, r, e, h1, h2⟩ := h
    exact ⟨v, r, e, RV.monoV x d v h1, RVs.monoV x ds r h2⟩
end
theorem RV.mono (x : Ext w H w' H') (d : D) (v : V) (h : RV K w H d v) : RV K w' H' d v := RV.monoV x.toExtV d v h
theorem RVs.mono {ds : List D} {vs : List V} (h : RVs K w H ds vs) (x : Ext w H w' H') : RVs K w' H' ds vs := RVs.monoV x.toExtV ds vs h
theorem RVs.length : ∀ {ds : List D} {vs : List V}, RVs K w H ds vs → vs.length = ds.length
  | [], vs, h => by unfold RVs at h; subst h; rfl
  | d :: ds, vs, h => by
    unfold RVs at h
    obtain ⟨v, r, e, _, h2⟩ := h
    subst e
    simp [RVs.length h2]
theorem RVs.nil : RVs K w H [] [] := by unfold RVs; rfl
theorem RVs.cons {d : D} {ds : List D} {v : V} {vs : List V} (h : RV K w H d v) (t : RVs K w H ds vs) : RVs K w H (d :: ds) (v :: vs) := by unfold RVs; exact ⟨v, vs, rfl, h, t⟩
theorem RVs.append : ∀ {ds es : List D} {vs us : List V}, RVs K w H ds vs → RVs K w H es us → RVs K w H (ds ++ es) (vs ++ us)
  | [], es, vs, us, h, k => by unfold RVs at h; subst h; exact k
  | d :: ds, es, vs, us, h, k => by
    unfold RVs at h
    obtain ⟨v, r, e, h1, h2⟩ := h
    subst e
    exact RVs.cons h1 (RVs.append h2 k)
theorem RVs.get : ∀ {ds : List D} {vs : List V} {i : Nat} {d : D}, RVs K w H ds vs → ds[i]? = some d → ∃ v, vs[i]? = some v ∧ RV K w H d v
  | [], _, _, _, _, e => by simp at e
  | d :: ds, vs, 0, d', h, e => by
    unfold RVs at h
    obtain ⟨v, r, e1, h1, _⟩ := h
    subst e1
    simp at e; subst e
    exact ⟨v, rfl, h1⟩
  | d :: ds, vs, i + 1, d', h, e => by
    unfold RVs at h
    obtain ⟨v, r, e1, _, h2⟩ := h
    subst e1
    obtain ⟨u, h3, h4⟩ := RVs.get (i := i) h2 (by simpa using e)
    exact ⟨u, by simpa using h3, h4⟩
theorem RVs.geti : ∀ {ds : List D} {vs : List V} {i : Nat} {v : V}, RVs K w H ds vs → vs[i]? = some v → ∃ d, ds[i]? = some d ∧ RV K w H d v
  | ds, vs, i, v, h, e => by
    have hl := h.length
    have hi := (List.getElem?_eq_some_iff.mp e).1
    have hd : ds[i]? = some ds[i] := List.getElem?_eq_getElem (by omega)
    obtain ⟨u, h1, h2⟩ := h.get hd
    rw [e] at h1; cases h1
    exact ⟨_, hd, h2⟩
theorem RVs.set {d : D} {v : V} (r : RV K w H d v) : ∀ {ds : List D} {vs : List V} (i : Nat), RVs K w H ds vs → RVs K w H (ds.set i d) (vs.set i v)
  | [], vs, i, h => by unfold RVs at h; subst h; simpa using RVs.nil
  | e :: ds, vs, i, h => by
    unfold RVs at h
    obtain ⟨u, t, e1, h1, h2⟩ := h
    subst e1
    cases i with
    | zero => exact RVs.cons r h2
    | succ i => exact RVs.cons h1 (RVs.set r i h2)
theorem RVs.take : ∀ {ds : List D} {vs : List V} (n : Nat), RVs K w H ds vs → RVs K w H (ds.take n) (vs.take n)
  | ds, vs, 0, h => by simpa using RVs.nil
  | [], vs, n + 1, h => by unfold RVs at h; subst h; simpa using RVs.nil
  | d :: ds, vs, n + 1, h => by
    unfold RVs at h
    obtain ⟨u, t, e1, h1, h2⟩ := h
    subst e1
    exact RVs.cons h1 (RVs.take n h2)
theorem RVs.drop : ∀ {ds : List D} {vs : List V} (n : Nat), RVs K w H ds vs → RVs K w H (ds.drop n) (vs.drop n)
  | ds, vs, 0, h => by simpa using h
  | [], vs, n + 1, h => by unfold RVs at h; subst h; simpa using RVs.nil
  | d :: ds, vs, n + 1, h => by
    unfold RVs at h
    obtain ⟨u, t, e1, h1, h2⟩ := h
    subst e1
    exact RVs.drop n h2
theorem RVs.eraseIdx : ∀ {ds : List D} {vs : List V} (n : Nat), RVs K w H ds vs → RVs K w H (ds.eraseIdx n) (vs.eraseIdx n)
  | [], vs, n, h => by unfold RVs at h; subst h; simpa using RVs.nil
  | d :: ds, vs, 0, h => by
    unfold RVs at h
    obtain ⟨u, t, e1, h1, h2⟩ := h
    subst e1
    simpa using h2
  | d :: ds, vs, n + 1, h => by
    unfold RVs at h
    obtain ⟨u, t, e1, h1, h2⟩ := h
    subst e1
    exact RVs.cons h1 (RVs.eraseIdx n h2)
theorem RVs.dropLast {ds : List D} {vs : List V} (h : RVs K w H ds vs) : RVs K w H ds.dropLast vs.dropLast := by
  rw [List.dropLast_eq_take, List.dropLast_eq_take, h.length]
  exact h.take _
theorem RVs.replicate {ds : List D} {vs : List V} (h : RVs K w H ds vs) : ∀ n : Nat, RVs K w H (List.replicate n ds).flatten (List.replicate n vs).flatten
  | 0 => by simpa using RVs.nil
  | n + 1 => by
    rw [List.replicate_succ, List.replicate_succ, List.flatten_cons, List.flatten_cons]
    exact h.append (RVs.replicate h n)
end

/-! ### mutable things, slots -/
def ObR (K : PySem.W.Frag) (w : Wd) (H : Hp) (o : Ob) (a : Addr) : Prop :=
  match o with
  | .lst xs => ∃ vs, H a = some (.lst vs) ∧ RVs K w H xs vs
  | .dct ks ds => ∃ vs, DcR H a ks vs ∧ RVs K w H ds vs
/-- carried where the thing itself stands -/
theorem ObR.at {K : PySem.W.Frag} {w w' : Wd} {H H' : Hp} {o : Ob} {a : Addr} (h : ObR K w H o a) (x : ExtV w H w' H') (k : ∀ u, H a = some u → H' a = some u) : ObR K w' H' o a := by
  cases o with
  | lst xs => obtain ⟨vs, e, r⟩ := h; exact ⟨vs, k _ e, RVs.monoV x _ _ r⟩
  | dct ks ds =>
    obtain ⟨vs, e, r⟩ := h
    exact ⟨vs, e.at k, RVs.monoV x _ _ r⟩
theorem ObR.some {K : PySem.W.Frag} {w : Wd} {H : Hp} {o : Ob} {a : Addr} (h : ObR K w H o a) : ∃ u, H a = some u ∧ ∀ xs, u ≠ .tup xs := by
  cases o with
  | lst xs => obtain ⟨vs, e, r⟩ := h; exact ⟨_, e, fun _ z => nomatch z⟩
  | dct ks ds =>
    obtain ⟨vs, e, r⟩ := h
    obtain ⟨u, hu, h1, _⟩ := e.there
    exact ⟨u, hu, h1⟩
def SlR (K : PySem.W.Frag) (w : Wd) (H : Hp) (i : Nat) (s : Sl) (x : Option (Option V)) : Prop :=
  match s with
  | .un => w.ω i = none
  | .v d => w.ω i = none ∧ ∃ v, x = some (some v) ∧ RV K w H d v
  | .ow o => ∃ a, w.ω i = some a ∧ x = some (some (.ref a)) ∧ ObR K w H o a
  | .lk xs => w.ω i = none ∧ ∃ a, w.lam i = some a ∧ x = some (some (.ref a)) ∧ ObR K w H (.lst xs) a
structure Rel (K : PySem.W.Frag) (w : Wd) (e : Ev) (h : AH) (σ : St) (H : Hp) : Prop where
  len : e.length = σ.length
  slot : ∀ (i : Nat) (s : Sl), e[i]? = some s → SlR K w H i s σ[i]?
  beyond : ∀ i : Nat, e.length ≤ i → w.ω i = none
  lenρ : w.ρ.length = h.length
  obs : ∀ (n : Nat) (o : Ob) (a : Addr), h[n]? = some o → w.ρ[n]? = some a → ObR K w H o a
  ndρ : w.ρ.Nodup
  ndω : ∀ i j a, w.ω i = some a → w.ω j = some a → i = j
  ndx : ∀ i a, w.ω i = some a → a ∉ w.ρ
  ndT : ∀ a, w.T a → a ∉ w.ρ ∧ (∀ i, w.ω i ≠ some a) ∧ ∃ u, H a = some u ∧ ∀ xs, u ≠ .tup xs
  ndτ : ∀ a i, w.τ a → w.lam i ≠ some a
  ndl : ∀ i j a, w.lam i = some a → w.lam j = some a → i = j
/-- what an answer means -/
def RR (K : PySem.W.Frag) (w : Wd) (σ : St) (H : Hp) (r : Rv) (x : V) : Prop :=
  match r with
  | .v d => RV K w H d x
  | .fr o => ∃ a, x = .ref a ∧ w.τ a ∧ ObR K w H o a
  | .bor i => σ[i]? = some (some x)
/-- a new thing is none of those that were not yet placed -/
def New (w : Wd) (r : Rv) (x : V) : Prop :=
  match r with
  | .fr _ => ∀ a, x = .ref a → ¬ w.τ a
  | _ => True
section
variable {K : PySem.W.Frag} {w w' : Wd} {H H' : Hp} {e : Ev} {h : AH} {σ : St}
theorem RR.mono {r : Rv} {x : V} (k : RR K w σ H r x) (q : Ext w H w' H') : RR K w' σ H' r x := by
  cases r with
  | v d => exact RV.mono q d x k
  | bor i => exact k
  | fr o =>
    obtain ⟨a, e, n, ob⟩ := k
    exact ⟨a, e, q.tmp a n, ob.at q.toExtV fun u hu => q.keep a u hu (.inr (.inl n))⟩
theorem New.step {r : Rv} {x : V} {w1 : Wd} {H1 : Hp} (q : Ext w H w1 H1) (k : New w1 r x) : New w r x := by
  cases r with
  | v d => trivial
  | bor i => trivial
  | fr o => exact fun a ea t => k a ea (q.tmp a t)
theorem Wd.M_cases {a : Addr} (m : w.M a) : a ∈ w.ρ ∨ (∃ i, w.ω i = some a) ∨ w.T a := by
  rcases m with m | m | m | m
  · exact .inl m
  · exact .inr (.inl m)
  · exact .inr (.inr (.inl m))
  · exact .inr (.inr (.inr m))
theorem Wd.T_M {a : Addr} (t : w.T a) : w.M a := by
  rcases t with t | t
  · exact .inr (.inr (.inl t))
  · exact .inr (.inr (.inr t))
/-- what is in the world's hand is there -/
theorem Rel.there (R : Rel K w e h σ H) {a : Addr} (m : w.M a) : ∃ u, H a = some u ∧ ∀ xs, u ≠ .tup xs := by
  rcases Wd.M_cases m with m | ⟨i, m⟩ | m
  · obtain ⟨n, hn, q⟩ := List.mem_iff_getElem.mp m
    have hr : w.ρ[n]? = some a := by rw [List.getElem?_eq_getElem hn, q]
    have hh : n < h.length := by rw [← R.lenρ]; exact hn
    exact (R.obs n h[n] a (List.getElem?_eq_getElem hh) hr).some
  · by_cases hi : i < e.length
    · have q := R.slot i e[i] (List.getElem?_eq_getElem hi)
      cases s : e[i] with
      | un => rw [s] at q; have q' : w.ω i = none := q; rw [m] at q'; cases q'
      | v d => rw [s] at q; have q' := q.1; rw [m] at q'; cases q'
      | ow o => rw [s] at q; obtain ⟨b, e1, _, q⟩ := q; rw [m] at e1; cases e1; exact q.some
      | lk o => rw [s] at q; have q' := q.1; rw [m] at q'; cases q'
    · rw [R.beyond i (by omega)] at m; cases m
  · exact (R.ndT a m).2.2
theorem Rel.notNone (R : Rel K w e h σ H) {a : Addr} (m : w.M a) : H a ≠ none := fun z => by
  obtain ⟨u, hu, _⟩ := R.there m
  rw [z] at hu; cases hu
theorem Rel.notTup (R : Rel K w e h σ H) {a : Addr} {xs : List V} (q : H a = some (.tup xs)) : ¬ w.M a := fun m => by
  obtain ⟨u, hu, hn⟩ := R.there m
  rw [q] at hu; cases hu
  exact hn xs rfl
theorem SlR.at {i : Nat} {s : Sl} {x : Option (Option V)} (q : SlR K w H i s x) (X : ExtV w H w' H') (ho : w'.ω i = w.ω i) (hl : w'.lam i = w.lam i) (k : ∀ a u, w.ω i = some a ∨ w.lam i = some a → H a = some u → H' a = some u) : SlR K w' H' i s x := by
  cases s with
  | un => exact ho.trans q
  | v d => obtain ⟨z1, v, z2, z3⟩ := q; exact ⟨ho.trans z1, v, z2, RV.monoV X d v z3⟩
  | ow o => obtain ⟨a, z1, z2, z3⟩ := q; exact ⟨a, ho.trans z1, z2, z3.at X fun u hu => k a u (.inl z1) hu⟩
  | lk o => obtain ⟨z0, a, z1, z2, z3⟩ := q; exact ⟨ho.trans z0, a, hl.trans z1, z2, z3.at X fun u hu => k a u (.inr z1) hu⟩
theorem Ext.kept (k : ∀ b o, H b = some o → H' b = some o) : Ext w H w H' := .mk' (fun b o q _ => k b o q) (fun b xs q => k b _ q) (fun b m => .inl m) (fun n a q => q) (fun b q => q)
/-- the world's own things stand too -/
theorem Rel.kept (R : Rel K w e h σ H) (k : ∀ b o, H b = some o → H' b = some o) : Rel K w e h σ H' := by
  have x : ExtV w H w H' := (Ext.kept k).toExtV
  exact ⟨R.len, fun i s q => (R.slot i s q).at x rfl rfl fun a u _ hu => k a u hu, R.beyond, R.lenρ, fun n o a h1 h2 => (R.obs n o a h1 h2).at x fun u hu => k a u hu, R.ndρ, R.ndω, R.ndx, fun a q => let ⟨q1, q2, u, q3, q4⟩ := R.ndT a q; ⟨q1, q2, u, k a u q3, q4⟩, R.ndτ, R.ndl⟩
theorem keep_upd {p : Addr} {u : HO} (hp : H p = none) : ∀ b o, H b = some o → upd H p u b = some o := fun b o q => by
  rw [upd_ne (ne_of_none q hp)]; exact q
/-- a thing just made -/
def Wd.put (w : Wd) (p : Addr) : Wd := { w with τ := fun a => w.τ a ∨ a = p }
theorem Wd.put_M {p b : Addr} : (w.put p).M b ↔ w.M b ∨ b = p := by
  unfold Wd.M Wd.put
  simp only
  constructor
  · rintro (z | z | (z | z) | z)
    · exact .inl (.inl z)
    · exact .inl (.inr (.inl z))
    · exact .inl (.inr (.inr (.inl z)))
    · exact .inr z
    · exact .inl (.inr (.inr (.inr z)))
  · rintro ((z | z | z | z) | z)
    · exact .inl z
    · exact .inr (.inl z)
    · exact .inr (.inr (.inl (.inl z)))
    · exact .inr (.inr (.inr z))
    · exact .inr (.inr (.inl (.inr z)))
theorem Ext.put {p : Addr} {u : HO} (hp : H p = none) : Ext w H (w.put p) (upd H p u) :=
  .mk' (fun b o q _ => keep_upd hp b o q) (fun b xs q => keep_upd hp b _ q) (fun b m => by
    rcases Wd.put_M.mp m with m | rfl
    · exact .inl m
    · exact .inr hp) (fun n a q => q) (fun b q => .inl q)
theorem Rel.put (R : Rel K w e h σ H) {p : Addr} {u : HO} (hp : H p = none) (nt : ∀ xs, u ≠ .tup xs) : Rel K (w.put p) e h σ (upd H p u) := by
  have x : ExtV w H (w.put p) (upd H p u) := (Ext.put hp).toExtV
  have nm : ¬ w.M p := fun m => R.notNone m hp
  refine ⟨R.len, fun i s q => (R.slot i s q).at x rfl rfl fun a u _ hu => keep_upd hp a u hu, R.beyond, R.lenρ, fun n o a h1 h2 => (R.obs n o a h1 h2).at x fun u hu => keep_upd hp a u hu, R.ndρ, R.ndω, R.ndx, fun a q => ?_, fun a i q => ?_, R.ndl⟩
  · have q' : w.T a ∨ a = p := by
      rcases q with (q | q) | q
      · exact .inl (.inl q)
      · exact .inr q
      · exact .inl (.inr q)
    rcases q' with q | rfl
    · obtain ⟨q1, q2, v, q3, q4⟩ := R.ndT a q
      exact ⟨q1, q2, v, keep_upd hp a v q3, q4⟩
    · exact ⟨fun z => nm (.inl z), fun i z => nm (.inr (.inl ⟨i, z⟩)), u, upd_same, nt⟩
  · rcases q with q | rfl
    · exact R.ndτ a i q
    · exact fun z => nm (.inr (.inr (.inr ⟨i, z⟩)))
end
end Mp

/-! operations on contents, over the hand layer's rules -/
namespace Mp
open PySem L2

/-- x has the content d (a list may be in the world's hand) -/
def Cn (K : PySem.W.Frag) (w : Wd) (H : Hp) (d : D) (x : V) : Prop :=
  match d with
  | .lst xs => ∃ a vs, x = .ref a ∧ H a = some (.lst vs) ∧ RVs K w H xs vs
  | .dct ks ds => ∃ a vs, x = .ref a ∧ DcR H a ks vs ∧ RVs K w H ds vs
  | .ref _ => False
  | d => RV K w H d x
/-- what the world's hand holds is there, and no tuple -/
def WOk (w : Wd) (H : Hp) : Prop := ∀ a, w.M a → H a ≠ none ∧ ∀ xs, H a ≠ some (.tup xs)
/-- behind an operation that makes new things alone -/
def Pst (K : PySem.W.Frag) (w : Wd) (H : Hp) (r : Rv) (Q : VK) : Prop :=
  match r with
  | .v d => ∀ H' x, (∀ b o, H b = some o → H' b = some o) → RV K w H' d x → Q x H'
  | .fr o => ∀ p u, H p = none → (∀ xs, u ≠ .tup xs) → ObR K (w.put p) (upd H p u) o p → Q (.ref p) (upd H p u)
  | .bor _ => False
section
variable {K : PySem.W.Frag} {w : Wd} {H H' : Hp} {Q : VK}
theorem Rel.wok {e : Ev} {h : AH} {σ : St} (R : Rel K w e h σ H) : WOk w H := fun a m => by
  obtain ⟨u, hu, hn⟩ := R.there m
  refine ⟨fun z => ?_, fun xs z => ?_⟩
  · rw [hu] at z; cases z
  · rw [hu] at z; cases z; exact hn xs rfl
theorem Pst.v {d : D} {x : V} (p : Pst K w H (.v d) Q) (h : RV K w H d x) : Q x H := p H x (fun _ _ q => q) h
theorem Pst.int {i : Int} (p : Pst K w H (.v (.int i)) Q) : Q (.int i) H := p.v (by unfold RV; rfl)
theorem Pst.bl {i : Bool} (p : Pst K w H (.v (.bl i)) Q) : Q (.bl i) H := p.v (by unfold RV; rfl)
theorem Pst.str {i : Str} (p : Pst K w H (.v (.str i)) Q) : Q (.str i) H := p.v (by unfold RV; rfl)
theorem RVs.up {ds : List D} {vs : List V} (k : ∀ b o, H b = some o → H' b = some o) (h : RVs K w H ds vs) : RVs K w H' ds vs := h.mono (Ext.kept k)
theorem RV.up {d : D} {v : V} (k : ∀ b o, H b = some o → H' b = some o) (h : RV K w H d v) : RV K w H' d v := RV.mono (Ext.kept k) d v h
theorem Pst.lst {xs : List D} {vs : List V} (ok : WOk w H) (p : Pst K w H (.fr (.lst xs)) Q) (h : RVs K w H xs vs) : ∀ a, H a = none → Q (.ref a) (upd H a (.lst vs)) := fun a ha =>
  p a _ ha (fun _ z => nomatch z) ⟨vs, upd_same, h.mono (Ext.put ha)⟩
theorem Pst.tup {xs : List D} {vs : List V} (p : Pst K w H (.v (.tup xs)) Q) (h : RVs K w H xs vs) : ∀ a, H a = none → Q (.ref a) (upd H a (.tup vs)) := fun a ha =>
  p _ _ (keep_upd ha) (by unfold RV; exact ⟨a, vs, rfl, upd_same, h.up (keep_upd ha)⟩)
theorem Cn.int {i : Int} {x : V} (h : Cn K w H (.int i) x) : x = .int i := by unfold Cn RV at h; exact h
theorem Cn.str {i : Str} {x : V} (h : Cn K w H (.str i) x) : x = .str i := by unfold Cn RV at h; exact h
theorem Cn.bl {i : Bool} {x : V} (h : Cn K w H (.bl i) x) : x = .bl i := by unfold Cn RV at h; exact h
theorem Cn.rp {d : D} {x : V} (h : Cn K w H (.rp d) x) : x = .str (toPy d).shown := by unfold Cn RV at h; exact h
theorem Cn.non {x : V} (h : Cn K w H .non x) : x = .non := by unfold Cn RV at h; exact h
theorem Cn.lst {xs : List D} {x : V} (h : Cn K w H (.lst xs) x) : ∃ a vs, x = .ref a ∧ H a = some (.lst vs) ∧ RVs K w H xs vs := h
theorem Cn.tup {xs : List D} {x : V} (h : Cn K w H (.tup xs) x) : ∃ a vs, x = .ref a ∧ H a = some (.tup vs) ∧ RVs K w H xs vs := by
  unfold Cn RV at h; exact h
/-- a value has its content -/
theorem RV.cn {d : D} {x : V} (h : RV K w H d x) (n : ∀ k, d ≠ .ref k) : Cn K w H d x := by
  cases d with
  | lst xs => unfold RV at h; obtain ⟨a, vs, e, _, q, r⟩ := h; exact ⟨a, vs, e, q, r⟩
  | dct ks ds =>
    unfold RV at h
    obtain ⟨a, vs, e, _, q, r⟩ := h
    exact ⟨a, vs, e, q, r⟩
  | ref k => exact absurd rfl (n k)
  | _ => exact h
theorem ObR.cn {o : Ob} {a : Addr} (h : ObR K w H o a) : Cn K w H o.d (.ref a) := by
  cases o with
  | lst xs => obtain ⟨vs, e, r⟩ := h; exact ⟨a, vs, rfl, e, r⟩
  | dct ks ds => obtain ⟨vs, e, r⟩ := h; exact ⟨a, vs, rfl, e, r⟩
/-- reading an answer -/
theorem rd_cn {e : Ev} {h : AH} {σ : St} {r : Rv} {x : V} {d : D} (R : Rel K w e h σ H) (q : RR K w σ H r x) (k : rd e h r = some d) : Cn K w H d x := by
  cases r with
  | v d' =>
    cases d' with
    | ref n =>
      have k' : h[n]?.map Ob.d = some d := k
      simp only [Option.map_eq_some_iff] at k'
      obtain ⟨o, ho, rfl⟩ := k'
      have q' : RV K w H (.ref n) x := q
      unfold RV at q'
      obtain ⟨a, rfl, hr⟩ := q'
      exact (R.obs n o a ho hr).cn
    | _ =>
      cases (Option.some.inj k)
      exact RV.cn q fun _ z => nomatch z
  | fr o =>
    cases (Option.some.inj k)
    obtain ⟨a, rfl, _, ob⟩ := q
    exact ob.cn
  | bor i =>
    have q' : σ[i]? = some (some x) := q
    cases s : e[i]? with
    | none => simp [rd, s] at k
    | some sl =>
      have z := R.slot i _ s
      cases sl with
      | un => simp [rd, s] at k
      | v d => simp [rd, s] at k
      | ow o =>
        simp [rd, s] at k
        subst k
        obtain ⟨a, _, e2, ob⟩ := z
        rw [q'] at e2; cases e2
        exact ob.cn
      | lk xs =>
        simp [rd, s] at k
        subst k
        obtain ⟨_, a, _, e2, vs, ob, r⟩ := z
        rw [q'] at e2; cases e2
        exact ⟨a, vs, rfl, ob, r⟩
end

/-! ### plain data -/
theorem canLay_pys {ds : List PyData} : PyData.canLay0 (.tuple ds) = PyData.canLayAll0 ds := by simp [PyData.canLay0]
theorem canLay_pyl {ds : List PyData} : PyData.canLay0 (.list ds) = PyData.canLayAll0 ds := by simp [PyData.canLay0]
mutual
theorem plain_lay : ∀ (n : Nat) (d : D), d.plain n = true → (toPy d).canLay0 = true ∧ (toPy d).depth ≤ n
  | n, .non, _ => by simp [toPy, PyData.canLay0, PyData.depth]
  | n, .bl _, _ => by simp [toPy, PyData.canLay0, PyData.depth]
  | n, .int _, _ => by simp [toPy, PyData.canLay0, PyData.depth]
  | n, .str s, h => by
    have h' : PyData.strOk s = true := by cases n <;> simpa [D.plain] using h
    simp [toPy, PyData.canLay0, PyData.depth, h']
  | n + 1, .tup xs, h => by
    have q := plains_lay n xs (by simpa [D.plain] using h)
    simp only [toPy, PyData.canLay0, PyData.depth]
    exact ⟨q.1, by omega⟩
  | n + 1, .lst xs, h => by
    have q := plains_lay n xs (by simpa [D.plain] using h)
    simp only [toPy, PyData.canLay0, PyData.depth]
    exact ⟨q.1, by omega⟩
  | 0, .tup xs, h => by simp [D.plain] at h
  | 0, .lst xs, h => by simp [D.plain] at h
  | n, .dct ks vs, h => by cases n <;> simp [D.plain] at h
  | n, .ref k, h => by cases n <;> simp [D.plain] at h
  | n, .scr k, h => by cases n <;> simp [D.plain] at h
  | n, .rp k, h => by cases n <;> simp [D.plain] at h
theorem plains_lay : ∀ (n : Nat) (ds : List D), D.plains n ds = true → PyData.canLayAll0 (toPys ds) = true ∧ PyData.depthAll (toPys ds) ≤ n
  | n, [], _ => by simp [toPys, PyData.canLayAll0, PyData.depthAll]
  | n, d :: ds, h => by
    have h' : d.plain n = true ∧ D.plains n ds = true := by simpa [D.plains] using h
    have a := plain_lay n d h'.1
    have b := plains_lay n ds h'.2
    simp only [toPys, PyData.canLayAll0, PyData.depthAll]
    exact ⟨by simp [a.1, b.1], by omega⟩
end
theorem plain_shaped {d : D} (h : plain d = true) : SeqAt.shaped (toPy d) = true := by
  obtain ⟨a, b⟩ := plain_lay 60 d h
  unfold SeqAt.shaped
  rw [a]
  simp
  omega
mutual
theorem eqB_py : ∀ (n m : Nat) (a b : D), a.plain n = true → b.plain m = true → eqB a b = PyData.eqv (toPy a) (toPy b)
  | n, m, .non, b, ha, hb => by cases b <;> first | (cases m <;> simp [D.plain] at hb; done) | simp [eqB, toPy, PyData.eqv]
  | n, m, .bl _, b, ha, hb => by cases b <;> first | (cases m <;> simp [D.plain] at hb; done) | simp [eqB, toPy, PyData.eqv]
  | n, m, .int _, b, ha, hb => by cases b <;> first | (cases m <;> simp [D.plain] at hb; done) | simp [eqB, toPy, PyData.eqv]
  | n, m, .str _, b, ha, hb => by cases b <;> first | (cases m <;> simp [D.plain] at hb; done) | simp [eqB, toPy, PyData.eqv]
  | 0, m, .tup xs, b, ha, hb => by simp [D.plain] at ha
  | 0, m, .lst xs, b, ha, hb => by simp [D.plain] at ha
  | n + 1, m, .tup xs, b, ha, hb => by
    cases b with
    | tup ys =>
      cases m with
      | zero => simp [D.plain] at hb
      | succ m =>
        simp only [eqB, toPy, PyData.eqv]
        exact eqBs_py n m xs ys (by simpa [D.plain] using ha) (by simpa [D.plain] using hb)
    | dct _ _ => cases m <;> simp [D.plain] at hb
    | ref _ => cases m <;> simp [D.plain] at hb
    | scr _ => cases m <;> simp [D.plain] at hb
    | rp _ => cases m <;> simp [D.plain] at hb
    | _ => simp [eqB, toPy, PyData.eqv]
  | n + 1, m, .lst xs, b, ha, hb => by
    cases b with
    | lst ys =>
      cases m with
      | zero => simp [D.plain] at hb
      | succ m =>
        simp only [eqB, toPy, PyData.eqv]
        exact eqBs_py n m xs ys (by simpa [D.plain] using ha) (by simpa [D.plain] using hb)
    | dct _ _ => cases m <;> simp [D.plain] at hb
    | ref _ => cases m <;> simp [D.plain] at hb
    | scr _ => cases m <;> simp [D.plain] at hb
    | rp _ => cases m <;> simp [D.plain] at hb
    | _ => simp [eqB, toPy, PyData.eqv]
  | n, m, .dct _ _, b, ha, hb => by cases n <;> simp [D.plain] at ha
  | n, m, .ref _, b, ha, hb => by cases n <;> simp [D.plain] at ha
  | n, m, .scr _, b, ha, hb => by cases n <;> simp [D.plain] at ha
  | n, m, .rp _, b, ha, hb => by cases n <;> simp [D.plain] at ha
theorem eqBs_py : ∀ (n m : Nat) (a b : List D), D.plains n a = true → D.plains m b = true → eqBs a b = PyData.eqvAll (toPys a) (toPys b)
  | n, m, [], [], ha, hb => by simp [eqBs, toPys, PyData.eqvAll]
  | n, m, [], _ :: _, ha, hb => by simp [eqBs, toPys, PyData.eqvAll]
  | n, m, _ :: _, [], ha, hb => by simp [eqBs, toPys, PyData.eqvAll]
  | n, m, a :: as, b :: bs, ha, hb => by
    have ha' : a.plain n = true ∧ D.plains n as = true := by simpa [D.plains] using ha
    have hb' : b.plain m = true ∧ D.plains m bs = true := by simpa [D.plains] using hb
    simp only [eqBs, toPys, PyData.eqvAll]
    rw [eqB_py n m a b ha'.1 hb'.1, eqBs_py n m as bs ha'.2 hb'.2]
end
section
variable {K : PySem.W.Frag} {w : Wd} {H H' : Hp} {Q : VK}
mutual
theorem RV.dp : ∀ (n : Nat) (d : D) (x : V), d.plain n = true → RV K w H d x → Dp K H x (toPy d)
  | n, .non, x, _, h => by unfold RV at h; subst h; simp only [toPy]; exact .non
  | n, .bl _, x, _, h => by unfold RV at h; subst h; simp only [toPy]; exact .bl _
  | n, .int _, x, _, h => by unfold RV at h; subst h; simp only [toPy]; exact .int _
  | n, .str _, x, _, h => by unfold RV at h; subst h; simp only [toPy]; exact .str _
  | 0, .tup xs, x, p, h => by simp [D.plain] at p
  | 0, .lst xs, x, p, h => by simp [D.plain] at p
  | n + 1, .tup xs, x, p, h => by
    unfold RV at h
    obtain ⟨a, vs, rfl, q, r⟩ := h
    simp only [toPy]
    exact .tup (SqT.of q) (RVs.dp n xs vs (by simpa [D.plain] using p) r)
  | n + 1, .lst xs, x, p, h => by
    unfold RV at h
    obtain ⟨a, vs, rfl, _, q, r⟩ := h
    simp only [toPy]
    exact .lst (SqL.of q) (RVs.dp n xs vs (by simpa [D.plain] using p) r)
  | n, .dct _ _, x, p, h => by cases n <;> simp [D.plain] at p
  | n, .ref _, x, p, h => by cases n <;> simp [D.plain] at p
  | n, .scr _, x, p, h => by cases n <;> simp [D.plain] at p
  | n, .rp _, x, p, h => by cases n <;> simp [D.plain] at p
theorem RVs.dp : ∀ (n : Nat) (ds : List D) (vs : List V), D.plains n ds = true → RVs K w H ds vs → DpAll K H vs (toPys ds)
  | n, [], vs, _, h => by unfold RVs at h; subst h; simp only [toPys]; exact .nil
  | n, d :: ds, vs, p, h => by
    unfold RVs at h
    obtain ⟨v, r, rfl, h1, h2⟩ := h
    have p' : d.plain n = true ∧ D.plains n ds = true := by simpa [D.plains] using p
    simp only [toPys]
    exact .cons (RV.dp n d v p'.1 h1) (RVs.dp n ds r p'.2 h2)
end
theorem Cn.dp {d : D} {x : V} (p : plain d = true) (h : Cn K w H d x) : Dp K H x (toPy d) := by
  cases d with
  | lst xs =>
    obtain ⟨a, vs, rfl, q, r⟩ := h
    simp only [toPy]
    exact .lst (SqL.of q) (RVs.dp 59 xs vs (by simpa [plain, D.plain] using p) r)
  | dct _ _ => simp [plain, D.plain] at p
  | ref _ => simp [plain, D.plain] at p
  | _ => exact RV.dp (w := w) 60 _ x p h
end

/-! ### two-place operators -/
def opOf : Op2 → Operator
  | .add => .Add | .sub => .Sub | .mul => .Mult | .fdiv => .FloorDiv | .mod => .Mod | .pow => .Pow | .xor => .BitXor | .shl => .LShift
def rOp (K : PySem.W.Frag) (o : Op2) : R2 := fun x y H Q => ∃ w a b r, WOk w H ∧ Cn K w H a x ∧ Cn K w H b y ∧ op2 o a b = some r ∧ Pst K w H r Q
theorem sizeLine_max : sizeLine = sizeMax := by rw [sizeLine_eq]; rfl
section
variable {X : Cx}
theorem op_ok (o : Op2) : OpR X (binaryOp (opOf o)) (rOp X.K o) := by
  intro pins s σ H x y v u Q I rx ry h
  obtain ⟨w, a, b, r, ok, ca, cb, e, p⟩ := h
  unfold op2 at e
  split at e
  · cases e; cases ca.int; cases cb.int
    exact op_add pins s σ H _ _ v u Q I rx ry ⟨_, _, rfl, rfl, p.int⟩
  · cases e; cases ca.int; cases cb.int
    exact op_sub pins s σ H _ _ v u Q I rx ry ⟨_, _, rfl, rfl, p.int⟩
  · rename_i i j
    split at e
    · rename_i c
      cases e; cases ca.int; cases cb.int
      refine op_mul pins s σ H _ _ v u Q I rx ry ⟨_, _, rfl, rfl, ?_, p.int⟩
      simp only [small64, Bool.or_eq_true, Bool.and_eq_true, decide_eq_true_eq] at c
      exact c
    · cases e
  · rename_i i j
    split at e
    · rename_i c
      cases e; cases ca.int; cases cb.int
      simp only [Bool.and_eq_true, decide_eq_true_eq, bne_iff_ne, ne_eq] at c
      exact op_fdivN pins s σ H _ _ v u Q I rx ry ⟨_, _, rfl, rfl, c, p.int⟩
    · cases e
  · rename_i i j
    split at e
    · rename_i c
      cases e; cases ca.int; cases cb.int
      simp only [bne_iff_ne, ne_eq] at c
      exact op_modN pins s σ H _ _ v u Q I rx ry ⟨_, _, rfl, rfl, c, p.int⟩
    · cases e
  · rename_i i j
    split at e
    · rename_i c
      cases e; cases ca.int; cases cb.int
      simp only [Bool.and_eq_true, decide_eq_true_eq] at c
      exact op_pow pins s σ H _ _ v u Q I rx ry ⟨_, _, rfl, rfl, ⟨c.1.1, c.1.2, c.2⟩, p.int⟩
    · cases e
  · rename_i xs ys
    split at e
    · rename_i c
      cases e
      obtain ⟨a1, v1, rfl, q1, r1⟩ := ca.tup
      obtain ⟨a2, v2, rfl, q2, r2⟩ := cb.tup
      simp only [decide_eq_true_eq] at c
      have r12 := r1.append r2
      refine op_catA pins s σ H _ _ v u Q I rx ry ⟨a1, a2, v1, v2, rfl, rfl, SqT.of q1, SqT.of q2, by rw [sizeLine_max, r1.length, r2.length]; exact c, fun z => ?_, fun _ z => ?_, fun _ _ => p.tup r12⟩
      · subst z
        exact p H _ (fun _ _ z => z) (by unfold RV; exact ⟨a2, v2, rfl, q2, r12⟩)
      · subst z
        rw [List.append_nil] at r12
        exact p H _ (fun _ _ z => z) (by unfold RV; exact ⟨a1, v1, rfl, q1, r12⟩)
    · cases e
  · rename_i xs ys
    split at e
    · rename_i c
      cases e
      obtain ⟨a1, v1, rfl, q1, r1⟩ := ca.lst
      obtain ⟨a2, v2, rfl, q2, r2⟩ := cb.lst
      simp only [decide_eq_true_eq] at c
      refine op_cat pins s σ H _ _ v u Q I rx ry ⟨a1, a2, v1, v2, rfl, rfl, q1, q2, by rw [sizeLine_max, r1.length, r2.length]; exact c, p.lst ok (r1.append r2)⟩
    · cases e
  · rename_i xs k
    split at e
    · rename_i c
      cases e
      obtain ⟨a1, v1, rfl, q1, r1⟩ := ca.lst
      cases cb.int
      simp only [Bool.and_eq_true, decide_eq_true_eq] at c
      refine op_rep pins s σ H _ _ v u Q I rx ry ⟨a1, k, v1, rfl, rfl, q1, c.1.1, c.1.2, by rw [sizeLine_max, r1.length]; exact c.2, p.lst ok (r1.replicate _)⟩
    · cases e
  · cases e
end

/-! ### dicts -/
mutual
theorem sameD_eq : ∀ a b : D, sameD a b = true → a = b
  | .non, b, h => by cases b <;> first | rfl | cases h
  | .bl x, b, h => by cases b <;> first | (rw [show x = _ from eq_of_beq h]; done) | cases h
  | .int x, b, h => by cases b <;> first | (rw [show x = _ from eq_of_beq h]; done) | cases h
  | .str x, b, h => by cases b <;> first | (rw [show x = _ from eq_of_beq h]; done) | cases h
  | .tup xs, b, h => by
    cases b with
    | tup ys => rw [sameDs_eq xs ys (by simpa [sameD] using h)]
    | _ => simp [sameD] at h
  | .lst xs, b, h => by
    cases b with
    | lst ys => rw [sameDs_eq xs ys (by simpa [sameD] using h)]
    | _ => simp [sameD] at h
  | .dct _ _, b, h => by simp [sameD] at h
  | .ref _, b, h => by simp [sameD] at h
  | .scr _, b, h => by simp [sameD] at h
  | .rp _, b, h => by simp [sameD] at h
theorem sameDs_eq : ∀ a b : List D, sameDs a b = true → a = b
  | [], [], _ => rfl
  | [], _ :: _, h => by simp [sameDs] at h
  | _ :: _, [], h => by simp [sameDs] at h
  | a :: as, b :: bs, h => by
    have h' : sameD a b = true ∧ sameDs as bs = true := by simpa [sameDs] using h
    rw [sameD_eq a b h'.1, sameDs_eq as bs h'.2]
end
section
variable {K : PySem.W.Frag} {w : Wd} {H : Hp}
theorem key_cn {d : D} {k : Kd} {x : V} (h : Cn K w H d x) (e : keyK d = some k) : x = kV k := by
  cases d with
  | int i => cases e; exact h.int
  | str s => cases e; exact h.str
  | _ => cases e
theorem keys_cn : ∀ {ds : List D} {k : List Kd} {us : List V}, RVs K w H ds us → keyKs ds = some k → us = k.map kV
  | [], k, us, r, e => by cases e; unfold RVs at r; subst r; rfl
  | d :: ds, k, us, r, e => by
    unfold RVs at r
    obtain ⟨x, t, rfl, r1, r2⟩ := r
    simp only [keyKs, Option.bind_eq_some_iff, Option.map_eq_some_iff] at e
    obtain ⟨k1, h1, ks, h2, rfl⟩ := e
    rw [keys_cn r2 h2]
    have hx : Cn K w H d x := r1.cn fun n z => by subst z; cases h1
    rw [key_cn hx h1]
    rfl
theorem lk_val {κ : Type} [DecidableEq κ] {k : κ} : ∀ {kvs : List (κ × V)} {vs : List D}, RVs K w H vs (kvs.map (·.2)) →
    (lk (kvs.map (·.1)) vs k = none ∧ valV kvs k = none) ∨ ∃ d z, lk (kvs.map (·.1)) vs k = some d ∧ valV kvs k = some z ∧ RV K w H d z
  | [], vs, r => by
    refine .inl ⟨?_, rfl⟩
    cases vs <;> rfl
  | p :: kvs, [], r => by
    unfold RVs at r
    cases r
  | p :: kvs, d :: vs, r => by
    unfold RVs at r
    obtain ⟨z, t, e, r1, r2⟩ := r
    obtain ⟨e1, e2⟩ := List.cons.inj e
    by_cases hk : p.1 = k
    · refine .inr ⟨d, z, ?_, ?_, r1⟩
      · show (if p.1 = k then some d else _) = _
        rw [if_pos hk]
      · rw [valV_pos hk]; exact congrArg some e1
    · have ih := lk_val (k := k) (kvs := kvs) (vs := vs) (by rw [show kvs.map (·.2) = t from e2]; exact r2)
      have e3 : lk ((p :: kvs).map (·.1)) (d :: vs) k = lk (kvs.map (·.1)) vs k := by
        show (if p.1 = k then some d else _) = _
        rw [if_neg hk]
      rw [e3, valV_neg hk]
      exact ih
/-- d[y] -/
theorem dget_ok {a : Addr} {ks : Ks} {vs : List D} {us : List V} {y : D} {x : V} {r : Option D} (h : DcR H a ks us) (rv : RVs K w H vs us) (cn : Cn K w H y x) (e : dgetD ks vs y = some r) :
    ∃ o, DGet H a x o ∧ ((r = none ∧ o = none) ∨ ∃ d z, r = some d ∧ o = some z ∧ RV K w H d z) := by
  cases ks with
  | k ks =>
    obtain ⟨kvs, h1, rfl, rfl⟩ := h
    simp only [dgetD, Option.map_eq_some_iff] at e
    obtain ⟨k, hk, rfl⟩ := e
    rw [key_cn cn hk]
    refine ⟨_, DGet.k h1, ?_⟩
    rcases lk_val (k := k) rv with ⟨q1, q2⟩ | ⟨d, z, q1, q2, q3⟩
    · exact .inl ⟨q1, q2⟩
    · exact .inr ⟨d, z, q1, q2, q3⟩
  | t ks =>
    obtain ⟨kvs, h1, rfl, rfl⟩ := h
    simp only [dgetD, Option.map_eq_some_iff] at e
    obtain ⟨k, hk, rfl⟩ := e
    cases y with
    | tup ds =>
      obtain ⟨b, us, rfl, hb, rs⟩ := cn.tup
      have eu := keys_cn rs hk
      subst eu
      refine ⟨_, DGet.t h1 hb, ?_⟩
      rcases lk_val (k := k) rv with ⟨q1, q2⟩ | ⟨d, z, q1, q2, q3⟩
      · exact .inl ⟨q1, q2⟩
      · exact .inr ⟨d, z, q1, q2, q3⟩
    | _ => cases hk
theorem hasK_map {κ : Type} [DecidableEq κ] {k : κ} (kvs : List (κ × V)) : hasK (kvs.map (·.1)) k = kvs.any fun kv => decide (kv.1 = k) := by
  unfold hasK
  rw [List.any_map]
  rfl
theorem rpl_ok {κ : Type} [DecidableEq κ] {k : κ} {d : D} {z : V} (rz : RV K w H d z) : ∀ {kvs : List (κ × V)} {vs : List D}, RVs K w H vs (kvs.map (·.2)) → RVs K w H (rpl (kvs.map (·.1)) vs k d) ((kvs.map fun kv => if kv.1 = k then (kv.1, z) else kv).map (·.2))
  | [], vs, r => by
    have e : rpl (([] : List (κ × V)).map (·.1)) vs k d = [] := by cases vs <;> rfl
    rw [e]
    exact RVs.nil
  | p :: kvs, [], r => by
    unfold RVs at r
    cases r
  | p :: kvs, v :: vs, r => by
    unfold RVs at r
    obtain ⟨x, t, e, r1, r2⟩ := r
    obtain ⟨e1, e2⟩ := List.cons.inj e
    have ih := rpl_ok (k := k) rz (kvs := kvs) (vs := vs) (by rw [show kvs.map (·.2) = t from e2]; exact r2)
    show RVs K w H ((if p.1 = k then d else v) :: rpl (kvs.map (·.1)) vs k d) ((if p.1 = k then (p.1, z) else p).2 :: (kvs.map fun kv => if kv.1 = k then (kv.1, z) else kv).map (·.2))
    refine RVs.cons ?_ ih
    by_cases hk : p.1 = k
    · rw [if_pos hk, if_pos hk]; exact rz
    · rw [if_neg hk, if_neg hk, show p.2 = x from e1]; exact r1
theorem put_ok {κ : Type} [DecidableEq κ] {k : κ} {d : D} {z : V} (rz : RV K w H d z) {kvs : List (κ × V)} {vs : List D} (r : RVs K w H vs (kvs.map (·.2))) :
    (put (kvs.map (·.1)) vs k d).1 = (putK kvs k z).map (·.1) ∧ RVs K w H (put (kvs.map (·.1)) vs k d).2 ((putK kvs k z).map (·.2)) := by
  unfold put putK
  rw [hasK_map]
  split
  · refine ⟨?_, rpl_ok rz r⟩
    show kvs.map (·.1) = _
    rw [List.map_map]
    refine List.map_congr_left fun p _ => ?_
    show p.1 = (if p.1 = k then (p.1, z) else p).1
    split <;> rfl
  · refine ⟨by simp, ?_⟩
    show RVs K w H (vs ++ [d]) _
    rw [List.map_append]
    exact r.append (RVs.cons rz RVs.nil)
/-- d[y] = v -/
theorem dput_ok {a : Addr} {ks ks' : Ks} {vs vs' : List D} {us : List V} {y d : D} {x z : V} (h : DcR H a ks us) (rv : RVs K w H vs us) (cn : Cn K w H y x) (rz : RV K w H d z) (hl : us.length < sizeLine) (e : dputD ks vs y d = some (ks', vs')) :
    ∃ u us', DPut H a x z (upd H a u) ∧ DcR (upd H a u) a ks' us' ∧ RVs K w H vs' us' := by
  cases ks with
  | k ks =>
    obtain ⟨kvs, h1, rfl, rfl⟩ := h
    simp only [dputD, Option.map_eq_some_iff] at e
    obtain ⟨k, hk, e⟩ := e
    cases e
    rw [key_cn cn hk]
    obtain ⟨q1, q2⟩ := put_ok (k := k) rz rv
    exact ⟨_, _, DPut.k h1 (by simpa using hl), ⟨_, upd_same, q1, rfl⟩, q2⟩
  | t ks =>
    obtain ⟨kvs, h1, rfl, rfl⟩ := h
    simp only [dputD, Option.map_eq_some_iff] at e
    obtain ⟨k, hk, e⟩ := e
    cases e
    cases y with
    | tup ds =>
      obtain ⟨b, us, rfl, hb, rs⟩ := cn.tup
      have eu := keys_cn rs hk
      subst eu
      obtain ⟨q1, q2⟩ := put_ok (k := k) rz rv
      exact ⟨_, _, DPut.t h1 hb (by simpa using hl), ⟨_, upd_same, q1, rfl⟩, q2⟩
    | _ => cases hk
end
end Mp

namespace Mp
open PySem L2

/-! ### lists of ints -/
theorem intsOf_map : ∀ {xs : List D} {l : List Int}, intsOf xs = some l → xs = l.map D.int
  | [], l, h => by simp [intsOf] at h; subst h; rfl
  | x :: xs, l, h => by
    cases x with
    | int i =>
      simp only [intsOf, Option.map_eq_some_iff] at h
      obtain ⟨t, ht, rfl⟩ := h
      rw [intsOf_map ht]
      rfl
    | _ => simp [intsOf] at h
theorem intsOf_ints : ∀ l : List Int, intsOf (l.map D.int) = some l
  | [] => rfl
  | i :: l => by simp [intsOf, intsOf_ints l]
section
variable {K : PySem.W.Frag} {w : Wd} {H H' : Hp} {Q : VK}
theorem RVs.ints : ∀ {l : List Int} {vs : List V}, RVs K w H (l.map D.int) vs → vs = l.map V.int
  | [], vs, h => by simp only [List.map_nil] at h; unfold RVs at h; subst h; rfl
  | i :: l, vs, h => by
    simp only [List.map_cons] at h
    unfold RVs at h
    obtain ⟨v, r, rfl, h1, h2⟩ := h
    unfold RV at h1
    rw [h1, RVs.ints h2]
    rfl
theorem RVs.of_ints : ∀ l : List Int, RVs K w H (l.map D.int) (l.map V.int)
  | [] => RVs.nil
  | i :: l => by
    refine RVs.cons ?_ (RVs.of_ints l)
    unfold RV; rfl
end
theorem insI_perm (i : Int) : ∀ l, (insI i l).Perm (i :: l)
  | [] => .refl _
  | j :: r => by
    unfold insI
    split
    · exact .refl _
    · exact ((insI_perm i r).cons j).trans (.swap i j r)
theorem sortI_perm : ∀ l, (sortI l).Perm l
  | [] => .refl _
  | i :: r => (insI_perm i (sortI r)).trans ((sortI_perm r).cons i)
theorem insI_sorted (i : Int) : ∀ l : List Int, l.Pairwise (· ≤ ·) → (insI i l).Pairwise (· ≤ ·)
  | [], _ => by simp [insI]
  | j :: r, h => by
    unfold insI
    have h' := List.pairwise_cons.mp h
    split
    · rename_i c
      refine List.pairwise_cons.mpr ⟨fun x hx => ?_, h⟩
      rcases List.mem_cons.mp hx with rfl | hx
      · exact c
      · exact Int.le_trans c (h'.1 x hx)
    · rename_i c
      refine List.pairwise_cons.mpr ⟨fun x hx => ?_, insI_sorted i r h'.2⟩
      rcases List.mem_cons.mp ((insI_perm i r).mem_iff.mp hx) with rfl | hx
      · omega
      · exact h'.1 x hx
theorem sortI_sorted : ∀ l : List Int, (sortI l).Pairwise (· ≤ ·)
  | [] => .nil
  | i :: r => insI_sorted i _ (sortI_sorted r)
theorem sorted_same {a b : List Int} (p : a.Perm b) (ha : a.Pairwise (· ≤ ·)) (hb : b.Pairwise (· ≤ ·)) : a = b :=
  p.eq_of_pairwise (fun x y _ _ h1 h2 => Int.le_antisymm h1 h2) ha hb
theorem maxI_mem : ∀ (r : List Int) (i : Int), maxI i r ∈ i :: r ∧ ∀ x ∈ i :: r, x ≤ maxI i r
  | [], i => by simp [maxI]
  | j :: r, i => by
    have q := maxI_mem r (if j > i then j else i)
    have e : maxI i (j :: r) = maxI (if j > i then j else i) r := rfl
    rw [e]
    refine ⟨?_, fun x hx => ?_⟩
    · rcases List.mem_cons.mp q.1 with z | z
      · rw [z]
        split
        · simp
        · simp
      · exact List.mem_cons_of_mem _ (List.mem_cons_of_mem _ z)
    · have q0 := q.2 _ List.mem_cons_self
      have q1 : i ≤ (if j > i then j else i) ∧ j ≤ (if j > i then j else i) := by split <;> omega
      rcases List.mem_cons.mp hx with rfl | hx
      · exact Int.le_trans q1.1 q0
      · rcases List.mem_cons.mp hx with rfl | hx
        · exact Int.le_trans q1.2 q0
        · exact q.2 x (List.mem_cons_of_mem _ hx)
theorem minI_mem : ∀ (r : List Int) (i : Int), minI i r ∈ i :: r ∧ ∀ x ∈ i :: r, minI i r ≤ x
  | [], i => by simp [minI]
  | j :: r, i => by
    have q := minI_mem r (if j < i then j else i)
    have e : minI i (j :: r) = minI (if j < i then j else i) r := rfl
    rw [e]
    refine ⟨?_, fun x hx => ?_⟩
    · rcases List.mem_cons.mp q.1 with z | z
      · rw [z]
        split
        · simp
        · simp
      · exact List.mem_cons_of_mem _ (List.mem_cons_of_mem _ z)
    · have q0 := q.2 _ List.mem_cons_self
      have q1 : (if j < i then j else i) ≤ i ∧ (if j < i then j else i) ≤ j := by split <;> omega
      rcases List.mem_cons.mp hx with rfl | hx
      · exact Int.le_trans q0 q1.1
      · rcases List.mem_cons.mp hx with rfl | hx
        · exact Int.le_trans q0 q1.2
        · exact q.2 x (List.mem_cons_of_mem _ hx)

/-! ### comparisons -/
def cmOf : Cm → CmpOp
  | .eq => .Eq | .ne => .NotEq | .lt => .Lt | .le => .LtE | .gt => .Gt | .ge => .GtE | .is => .Is | .isnt => .IsNot | .isin => .In | .notin => .NotIn
def rCmp (K : PySem.W.Frag) (o : Cm) : R2 := fun x y H Q => ∃ w a b k, WOk w H ∧ Cn K w H a x ∧ Cn K w H b y ∧ cmpD o a b = some k ∧ Q (.bl k) H
theorem inB_py : ∀ {x : D} {xs : List D} {n m : Nat}, x.plain n = true → D.plains m xs = true → inB x xs = (toPys xs).any fun z => PyData.eqv z (toPy x)
  | x, [], n, m, _, _ => rfl
  | x, y :: ys, n, m, hx, h => by
    have h' : y.plain m = true ∧ D.plains m ys = true := by simpa [D.plains] using h
    have ih := inB_py (n := n) (m := m) (xs := ys) hx h'.2
    simp only [inB, List.any_cons, toPys] at ih ⊢
    rw [ih, eqB_py m n y x h'.1 hx]
theorem scal_eq {a b : D} {K : PySem.W.Frag} {w : Wd} {H : Hp} {x y : V} (s : scalB a b = true) (ha : Cn K w H a x) (hb : Cn K w H b y) : scal x y = true ∧ decide (x = y) = eqB a b := by
  cases a <;> cases b <;> first | (simp [scalB] at s; done) | skip
  all_goals (
    first
    | cases ha.int | cases ha.str | cases ha.bl | cases ha.non)
  all_goals (
    first
    | cases hb.int | cases hb.str | cases hb.bl | cases hb.non)
  all_goals first
    | (refine ⟨rfl, ?_⟩; simp [eqB]; done)
    | (refine ⟨rfl, ?_⟩; simp only [eqB]; first | exact dec_int | exact dec_bl | exact dec_str)
section
variable {X : Cx}
theorem cmp_ok (hu : X.A.units + 65 < cLine) (o : Cm) : OpR X (compareOp (cmOf o)) (rCmp X.K o) := by
  intro pins s σ H x y v u Q I rx ry h
  obtain ⟨w, a, b, k, ok, ca, cb, e, q⟩ := h
  unfold cmpD at e
  split at e
  · -- is None
    cases e
    cases cb.non
    refine op_isN pins s σ H _ _ v u Q I rx ry ⟨rfl, ?_⟩
    cases a
    case non => cases ca.non; exact q
    case bl => cases ca.bl; exact q
    case int => cases ca.int; exact q
    case str => cases ca.str; exact q
    case tup => obtain ⟨_, _, rfl, _⟩ := ca.tup; exact q
    case lst => obtain ⟨_, _, rfl, _⟩ := ca.lst; exact q
    case dct => obtain ⟨_, _, rfl, _⟩ := ca; exact q
    case ref => exact ca.elim
    case rp => cases ca.rp; exact q
    case scr =>
      unfold Cn RV at ca
      obtain ⟨_, ca⟩ := ca
      rcases ca with ⟨rfl, _⟩ | ⟨_, _, _, rfl, _⟩ <;> exact q
  · cases e
    cases cb.non
    refine op_notN pins s σ H _ _ v u Q I rx ry ⟨rfl, ?_⟩
    cases a
    case non => cases ca.non; exact q
    case bl => cases ca.bl; exact q
    case int => cases ca.int; exact q
    case str => cases ca.str; exact q
    case tup => obtain ⟨_, _, rfl, _⟩ := ca.tup; exact q
    case lst => obtain ⟨_, _, rfl, _⟩ := ca.lst; exact q
    case dct => obtain ⟨_, _, rfl, _⟩ := ca; exact q
    case ref => exact ca.elim
    case rp => cases ca.rp; exact q
    case scr =>
      unfold Cn RV at ca
      obtain ⟨_, ca⟩ := ca
      rcases ca with ⟨rfl, _⟩ | ⟨_, _, _, rfl, _⟩ <;> exact q
  · split at e
    · rename_i c
      cases e
      have ec := sameD_eq _ _ c
      subst ec
      obtain ⟨s1, s2⟩ := scal_eq (K := X.K) (w := w) (H := H) (a := .str _) (b := .str _) rfl (by unfold Cn RV; exact ca.rp) (by unfold Cn RV; exact cb.rp)
      exact op_eq pins s σ H _ _ v u Q I rx ry ⟨s1, by rw [s2]; simpa [eqB] using q⟩
    · cases e
  · split at e
    · rename_i c
      cases e
      have ec := sameD_eq _ _ c
      subst ec
      obtain ⟨s1, s2⟩ := scal_eq (K := X.K) (w := w) (H := H) (a := .str _) (b := .str _) rfl (by unfold Cn RV; exact ca.rp) (by unfold Cn RV; exact cb.rp)
      exact op_ne pins s σ H _ _ v u Q I rx ry ⟨s1, by rw [s2]; simpa [eqB] using q⟩
    · cases e
  · -- ==
    split at e
    · rename_i c
      cases e
      by_cases sc : scalB a b = true
      · obtain ⟨s1, s2⟩ := scal_eq sc ca cb
        exact op_eq pins s σ H _ _ v u Q I rx ry ⟨s1, by rw [s2]; exact q⟩
      · simp only [Bool.or_eq_true, Bool.and_eq_true] at c
        rcases c with c | c
        · exact absurd c sc
        · exact op_eqD (by omega) pins s σ H _ _ v u Q I rx ry ⟨_, _, ca.dp c.1, cb.dp c.2, plain_shaped c.1, plain_shaped c.2, by rw [← eqB_py 60 60 a b c.1 c.2]; exact q⟩
    · cases e
  · split at e
    · rename_i c
      cases e
      by_cases sc : scalB a b = true
      · obtain ⟨s1, s2⟩ := scal_eq sc ca cb
        exact op_ne pins s σ H _ _ v u Q I rx ry ⟨s1, by rw [s2]; exact q⟩
      · simp only [Bool.or_eq_true, Bool.and_eq_true] at c
        rcases c with c | c
        · exact absurd c sc
        · exact op_neD (by omega) pins s σ H _ _ v u Q I rx ry ⟨_, _, ca.dp c.1, cb.dp c.2, plain_shaped c.1, plain_shaped c.2, by rw [← eqB_py 60 60 a b c.1 c.2]; exact q⟩
    · cases e
  · rename_i xs
    split at e
    · rename_i c
      cases e
      simp only [Bool.and_eq_true] at c
      refine op_inD hu pins s σ H _ _ v u Q I rx ry ⟨_, _, ca.dp c.1, (by have := cb.dp c.2; simpa only [toPy] using this), plain_shaped c.1, (by have := plain_shaped c.2; simpa only [toPy] using this), ?_⟩
      rw [← inB_py (n := 60) (m := 59) c.1 (by simpa [plain, D.plain] using c.2)]
      exact q
    · cases e
  · rename_i xs
    split at e
    · rename_i c
      cases e
      simp only [Bool.and_eq_true] at c
      obtain ⟨as, r1⟩ := Dp.reads I _ x v (ca.dp c.1) rx
      obtain ⟨bs, r2⟩ := Dp.reads I _ y u (cb.dp c.2) ry
      have sd := plain_shaped c.1
      have se := plain_shaped c.2
      simp only [toPy] at r2 se
      refine SeqAt.in_tuple_reads r2 r1 (SeqAt.canLay_of_shaped se) (SeqAt.canLay_of_shaped sd) (PyProof.Rows.room_in_shaped sd hu) ⟨.bl _, H, I, rfl, ?_⟩
      rw [← inB_py (n := 60) (m := 59) c.1 (by simpa [plain, D.plain] using c.2)]
      exact q
    · cases e
  · rename_i xs
    split at e
    · rename_i c
      cases e
      simp only [Bool.and_eq_true] at c
      refine op_notInD hu pins s σ H _ _ v u Q I rx ry ⟨_, _, ca.dp c.1, (by have := cb.dp c.2; simpa only [toPy] using this), plain_shaped c.1, (by have := plain_shaped c.2; simpa only [toPy] using this), ?_⟩
      rw [← inB_py (n := 60) (m := 59) c.1 (by simpa [plain, D.plain] using c.2)]
      exact q
    · cases e
  · rename_i xs
    split at e
    · rename_i c
      cases e
      simp only [Bool.and_eq_true] at c
      obtain ⟨as, r1⟩ := Dp.reads I _ x v (ca.dp c.1) rx
      obtain ⟨bs, r2⟩ := Dp.reads I _ y u (cb.dp c.2) ry
      have sd := plain_shaped c.1
      have se := plain_shaped c.2
      simp only [toPy] at r2 se
      refine SeqAt.notIn_tuple_reads r2 r1 (SeqAt.canLay_of_shaped se) (SeqAt.canLay_of_shaped sd) (PyProof.Rows.room_in_shaped sd hu) ⟨.bl _, H, I, rfl, ?_⟩
      rw [← inB_py (n := 60) (m := 59) c.1 (by simpa [plain, D.plain] using c.2)]
      exact q
    · cases e
  · simp only [Option.map_eq_some_iff] at e
    obtain ⟨r, hr, rfl⟩ := e
    obtain ⟨b, us, rfl, dr, rv⟩ := cb
    obtain ⟨oo, hg, hh⟩ := dget_ok dr rv ca hr
    cases ry
    refine d_in (by omega) I hg rx fun s' I' => ⟨.bl _, H, I', rfl, ?_⟩
    rcases hh with ⟨rfl, rfl⟩ | ⟨d, z, rfl, rfl, _⟩ <;> exact q
  · simp only [Option.map_eq_some_iff] at e
    obtain ⟨r, hr, rfl⟩ := e
    obtain ⟨b, us, rfl, dr, rv⟩ := cb
    obtain ⟨oo, hg, hh⟩ := dget_ok dr rv ca hr
    cases ry
    refine d_notIn (by omega) I hg rx fun s' I' => ⟨.bl _, H, I', rfl, ?_⟩
    rcases hh with ⟨rfl, rfl⟩ | ⟨d, z, rfl, rfl, _⟩ <;> exact q
  · -- ints
    rename_i i j _ _
    cases ca.int
    cases cb.int
    cases o <;> simp [ltI] at e <;> subst e
    · exact op_lt pins s σ H _ _ v u Q I rx ry ⟨_, _, rfl, rfl, q⟩
    · exact op_le pins s σ H _ _ v u Q I rx ry ⟨_, _, rfl, rfl, q⟩
    · exact op_gt pins s σ H _ _ v u Q I rx ry ⟨_, _, rfl, rfl, q⟩
    · exact op_ge pins s σ H _ _ v u Q I rx ry ⟨_, _, rfl, rfl, q⟩
  · cases e
/-! ### truth, items -/
theorem truth_ok {K : PySem.W.Frag} {w : Wd} {H : Hp} {d : D} {x : V} {b : Bool} (h : Cn K w H d x) (e : truth d = some b) : TruV K x H b := by
  cases d
  case non => cases h.non; cases e; rfl
  case bl => cases h.bl; cases e; rfl
  case int => cases h.int; cases e; rfl
  case str =>
    cases h.str
    simp only [truth] at e
    split at e
    · rename_i c
      cases e
      exact ⟨by rw [sizeLine_max]; exact c, rfl⟩
    · cases e
  case tup =>
    obtain ⟨a, vs, rfl, q, r⟩ := h.tup
    cases e
    refine .inr (.inl ⟨vs, SqT.of q, ?_⟩)
    have := r.length
    rename_i xs
    cases xs <;> cases vs <;> simp_all
  case lst =>
    obtain ⟨a, vs, rfl, q, r⟩ := h.lst
    cases e
    refine .inl ⟨vs, SqL.of q, ?_⟩
    have := r.length
    rename_i xs
    cases xs <;> cases vs <;> simp_all
  case dct => cases e
  case ref => cases e
  case rp => cases e
  case scr ns =>
    cases e
    unfold Cn RV at h
    obtain ⟨a, h⟩ := h
    rcases h with ⟨rfl, _, o, h⟩ | ⟨o, its, n, rfl, h⟩
    · refine .inl ⟨_, .inl (.inr ⟨o, h⟩), ?_⟩
      cases ns <;> rfl
    · refine .inl ⟨ns.map V.int, .inr ⟨o, its, n, h⟩, ?_⟩
      cases ns <;> rfl
def rIxD (K : PySem.W.Frag) : R2 := fun x y H Q => ∃ w a b d, Cn K w H a x ∧ Cn K w H b y ∧ ixD a b = some d ∧ ∀ z, RV K w H d z → Q z H
theorem ix_ok (hu : X.A.units + 65 < cLine) : IxR X (Mp.rIxD X.K) := by
  intro value slice pins s σ H x y v u Q I rx ry h hs
  obtain ⟨w, a, b, d, ca, cb, e, q⟩ := h
  unfold ixD at e
  split at e
  · rename_i xs k
    cases cb.int
    obtain ⟨p, vs, rfl, q1, r1⟩ := ca.tup
    simp only [Option.bind_eq_some_iff] at e
    obtain ⟨j, h1, h2⟩ := e
    obtain ⟨z, hz, rz⟩ := r1.get h2
    refine ix_tup value slice pins s σ H _ _ v u Q I rx ry ⟨p, vs, k, z, rfl, rfl, SqT.of q1, ?_, q z rz⟩ hs
    show (L2.ixN vs.length k).bind _ = _
    rw [r1.length]
    have h1' : L2.ixN xs.length k = some j := h1
    rw [h1']
    exact hz
  · rename_i xs k
    cases cb.int
    obtain ⟨p, vs, rfl, q1, r1⟩ := ca.lst
    simp only [Option.bind_eq_some_iff] at e
    obtain ⟨j, h1, h2⟩ := e
    obtain ⟨z, hz, rz⟩ := r1.get h2
    refine ix_list value slice pins s σ H _ _ v u Q I rx ry ⟨p, vs, k, z, rfl, rfl, SqL.of q1, ?_, q z rz⟩ hs
    show (L2.ixN vs.length k).bind _ = _
    rw [r1.length]
    have h1' : L2.ixN xs.length k = some j := h1
    rw [h1']
    exact hz
  · simp only [Option.bind_eq_some_iff, id] at e
    obtain ⟨r, hr, rfl⟩ := e
    obtain ⟨p, us, rfl, dr, rv⟩ := ca
    obtain ⟨oo, hg, hh⟩ := dget_ok dr rv cb hr
    rcases hh with ⟨hh, _⟩ | ⟨d', z, hh, rfl, rz⟩
    · cases hh
    · cases hh
      cases rx
      exact PyProof.Rows.tail_any (dict_typeIs I hg) PySem.F.slot_dict_getitem.lookup (d_getItem (by omega) I hg ry fun w' s' I' r' => ⟨z, H, I', r', q z rz⟩) hs
  · cases e

/-! ### built-in functions -/
def biVal : Bi → Value
  | .len => .builtin "len" | .tuple => .type "tuple" | .list => .type "list" | .sorted => .builtin "sorted" | .sum => .builtin "sum" | .max => .builtin "max" | .min => .builtin "min"
  | .abs => .builtin "abs" | .int => .type "int" | .repr => .builtin "repr" | .all => .builtin "all" | .any => .builtin "any" | .dict => .type "dict"
def biName : Bi → String
  | .len => "len" | .tuple => "tuple" | .list => "list" | .sorted => "sorted" | .sum => "sum" | .max => "max" | .min => "min"
  | .abs => "abs" | .int => "int" | .repr => "repr" | .all => "all" | .any => "any" | .dict => "dict"
def Cns (K : PySem.W.Frag) (w : Wd) (H : Hp) : List D → List V → Prop
  | [], vs => vs = []
  | d :: ds, vs => ∃ x r, vs = x :: r ∧ Cn K w H d x ∧ Cns K w H ds r
theorem Cns.one {K : PySem.W.Frag} {w : Wd} {H : Hp} {d : D} {vs : List V} (h : Cns K w H [d] vs) : ∃ x, vs = [x] ∧ Cn K w H d x := by
  obtain ⟨x, r, rfl, h1, h2⟩ := h
  cases (show r = [] from h2)
  exact ⟨x, rfl, h1⟩
theorem Cns.two {K : PySem.W.Frag} {w : Wd} {H : Hp} {d e : D} {vs : List V} (h : Cns K w H [d, e] vs) : ∃ x y, vs = [x, y] ∧ Cn K w H d x ∧ Cn K w H e y := by
  obtain ⟨x, r, rfl, h1, h2⟩ := h
  obtain ⟨y, rfl, h3⟩ := Cns.one h2
  exact ⟨x, y, rfl, h1, h3⟩
def rBi (K : PySem.W.Frag) (b : Bi) : List V → Hp → VK → Prop := fun xs H Q => ∃ w ds r, WOk w H ∧ Cns K w H ds xs ∧ bfn b ds = some r ∧ Pst K w H r Q
theorem scr_sq {K : PySem.W.Frag} {w : Wd} {H : Hp} {ns : List Int} {x : V} (h : Cn K w H (.scr ns) x) : ∃ a, x = .ref a ∧ SqL K H a (ns.map V.int) := by
  unfold Cn RV at h
  obtain ⟨a, h⟩ := h
  rcases h with ⟨rfl, _, o, h⟩ | ⟨o, its, n, rfl, h⟩
  · exact ⟨a, rfl, .inl (.inr ⟨o, h⟩)⟩
  · exact ⟨a, rfl, .inr ⟨o, its, n, h⟩⟩
/-! ### any, all -/
theorem truL_at {K : PySem.W.Frag} {w : Wd} {H : Hp} : ∀ {ds : List D} {vs : List V} {us : List Value} {bs : List Bool}, RVs K w H ds vs → Vals vs us → truL ds = some bs → us.length = bs.length ∧ ∀ (i : Nat) (u : Value), us[i]? = some u → ∃ b, bs[i]? = some b ∧ ((∃ j t, u = .int j t ∧ b = (j != 0)) ∨ u = .bool b)
  | [], vs, us, bs, r, rv, e => by
    unfold RVs at r
    subst r
    cases rv
    cases e
    exact ⟨rfl, fun i u z => by simp at z⟩
  | d :: ds, vs, us, bs, r, rv, e => by
    unfold RVs at r
    obtain ⟨x, t, rfl, r1, r2⟩ := r
    cases rv with
    | cons q1 q2 =>
      rename_i u0 us
      have go : ∀ (b : Bool) (l : List Bool), truL ds = some l → bs = b :: l → ((∃ j t, u0 = Value.int j t ∧ b = (j != 0)) ∨ u0 = .bool b) → (u0 :: us).length = bs.length ∧ ∀ (i : Nat) (u : Value), (u0 :: us)[i]? = some u → ∃ b, bs[i]? = some b ∧ ((∃ j t, u = .int j t ∧ b = (j != 0)) ∨ u = .bool b) := fun b l hl eb hu => by
        subst eb
        obtain ⟨l1, l2⟩ := truL_at r2 q2 hl
        refine ⟨by simp [l1], fun i u z => ?_⟩
        cases i with
        | zero => cases z; exact ⟨b, rfl, hu⟩
        | succ i => exact l2 i u z
      cases d with
      | int j =>
        simp only [truL, Option.map_eq_some_iff] at e
        obtain ⟨l, hl, e⟩ := e
        have ex : x = .int j := by unfold RV at r1; exact r1
        subst ex
        obtain ⟨t, rfl⟩ := q1
        exact go _ l hl e.symm (.inl ⟨j, t, rfl, rfl⟩)
      | bl b =>
        simp only [truL, Option.map_eq_some_iff] at e
        obtain ⟨l, hl, e⟩ := e
        have ex : x = .bl b := by unfold RV at r1; exact r1
        subst ex
        cases q1
        exact go _ l hl e.symm (.inr rfl)
      | _ => simp [truL] at e
theorem truth_flat {prog : Program} {wd : World} {A : Around} {us : List Value} {bs : List Bool} (h : ∀ (i : Nat) (u : Value), us[i]? = some u → ∃ b, bs[i]? = some b ∧ ((∃ j t, u = .int j t ∧ b = (j != 0)) ∨ u = .bool b)) :
    TruthOf prog wd A (fun i v => us.toArray[i]? = some v) (fun i => bs.getD i false) := by
  intro i v t Q E hv hq
  obtain ⟨b, h1, h2⟩ := h i v (by simpa using hv)
  have e : bs.getD i false = b := by rw [List.getD_eq_getElem?_getD, h1]; rfl
  have hq' : Q (bs.getD i false) t := hq
  rw [e] at hq'
  rcases h2 with ⟨j, tk, rfl, rfl⟩ | rfl
  · exact PyProof.Rows.truthy_int hq'
  · exact wpAny_truthy_bool hq'
theorem anyF (hc : X.calm = true) {w : Wd} {pins : List (Addr × Obj)} {s : Shared} {σ : L2.St} {H : Hp} {a : Addr} {ds : List D} {vs : List V} {bs : List Bool} {Q : VK} (I : L2.Inv X pins σ H s) (q : H a = some (.lst vs)) (r : RVs X.K w H ds vs) (hb : truL ds = some bs) (hQ : Q (.bl (bs.any id)) H) :
    wpAny (model X.prog X.w) X.A (PySem.call (.builtin "any") [.ref a]) (EP X pins σ Q) X.xe s := by
  obtain ⟨its, rv, hl, _⟩ := I.list (SqL.of q)
  obtain ⟨h1, h2⟩ := truL_at r rv hb
  apply call_any_walk
  apply iter_any hl.isList
  intro t et st hne
  subst et
  refine ⟨_, _, _, _, _, _, _, rfl, Walks.list (A := X.A.in1) (I.ok.hd hc) _ a hne its.toArray, st, truth_flat h2, ?_⟩
  intro h' tk hk
  refine ⟨.bl (bs.any id), H, I.kept ?_, ?_, hQ⟩
  · intro b o eo
    refine hk b o (fun m => ?_) (Heap.get?_push_of_some _ eo)
    rcases List.mem_cons.mp m with e1 | m
    · exact absurd (e1 ▸ Heap.lt_size eo) (Nat.lt_irrefl _)
    · cases m
  · show Value.bool _ = Value.bool _
    rw [← any_range, List.size_toArray, h1]
theorem allF (hc : X.calm = true) {w : Wd} {pins : List (Addr × Obj)} {s : Shared} {σ : L2.St} {H : Hp} {a : Addr} {ds : List D} {vs : List V} {bs : List Bool} {Q : VK} (I : L2.Inv X pins σ H s) (q : H a = some (.lst vs)) (r : RVs X.K w H ds vs) (hb : truL ds = some bs) (hQ : Q (.bl (bs.all id)) H) :
    wpAny (model X.prog X.w) X.A (PySem.call (.builtin "all") [.ref a]) (EP X pins σ Q) X.xe s := by
  obtain ⟨its, rv, hl, _⟩ := I.list (SqL.of q)
  obtain ⟨h1, h2⟩ := truL_at r rv hb
  apply call_all_walk
  apply iter_any hl.isList
  intro t et st hne
  subst et
  refine ⟨_, _, _, _, _, _, _, rfl, Walks.list (A := X.A.in1) (I.ok.hd hc) _ a hne its.toArray, st, truth_flat h2, ?_⟩
  intro h' tk hk
  refine ⟨.bl (bs.all id), H, I.kept ?_, ?_, hQ⟩
  · intro b o eo
    refine hk b o (fun m => ?_) (Heap.get?_push_of_some _ eo)
    rcases List.mem_cons.mp m with e1 | m
    · exact absurd (e1 ▸ Heap.lt_size eo) (Nat.lt_irrefl _)
    · cases m
  · show Value.bool _ = Value.bool _
    rw [← all_range, List.size_toArray, h1]

/-! ### sorted of tuples of ints -/
theorem cdI_eq (B : Int) : ∀ l, cdI B l = TS.code B l
  | [] => rfl
  | i :: l => by show i * B ^ l.length + cdI B l = i * B ^ l.length + TS.code B l; rw [cdI_eq B l]
theorem insT_perm (B : Int) (l : List Int) : ∀ r, (insT B l r).Perm (l :: r)
  | [] => .refl _
  | m :: r => by
    unfold insT
    split
    · exact .refl _
    · exact ((insT_perm B l r).cons m).trans (.swap l m r)
theorem sortT_perm (B : Int) : ∀ r, (sortT B r).Perm r
  | [] => .refl _
  | l :: r => (insT_perm B l (sortT B r)).trans ((sortT_perm B r).cons l)
theorem insT_sorted (B : Int) (l : List Int) : ∀ r : List (List Int), r.Pairwise (fun a b => cdI B a ≤ cdI B b) → (insT B l r).Pairwise (fun a b => cdI B a ≤ cdI B b)
  | [], _ => by simp [insT]
  | m :: r, h => by
    unfold insT
    have h' := List.pairwise_cons.mp h
    split
    · rename_i c
      refine List.pairwise_cons.mpr ⟨fun x hx => ?_, h⟩
      rcases List.mem_cons.mp hx with rfl | hx
      · exact c
      · exact Int.le_trans c (h'.1 x hx)
    · rename_i c
      refine List.pairwise_cons.mpr ⟨fun x hx => ?_, insT_sorted B l r h'.2⟩
      rcases List.mem_cons.mp ((insT_perm B l r).mem_iff.mp hx) with rfl | hx
      · omega
      · exact h'.1 x hx
theorem sortT_sorted (B : Int) : ∀ r : List (List Int), (sortT B r).Pairwise (fun a b => cdI B a ≤ cdI B b)
  | [] => .nil
  | l :: r => insT_sorted B l _ (sortT_sorted B r)
theorem cdI_inj {B : Int} : ∀ {l m : List Int}, l.length = m.length → TS.Bd B l → TS.Bd B m → cdI B l = cdI B m → l = m
  | [], [], _, _, _, _ => rfl
  | [], _ :: _, h, _, _, _ => by cases h
  | _ :: _, [], h, _, _, _ => by cases h
  | i :: l, j :: m, h, bl, bm, e => by
    have hl : l.length = m.length := by simpa using h
    rw [cdI_eq, cdI_eq] at e
    have ne1 : ¬ i < j := fun z => by have := TS.code_lt hl bl.tail bm.tail z; omega
    have ne2 : ¬ j < i := fun z => by have := TS.code_lt hl.symm bm.tail bl.tail z; omega
    have ej : i = j := by omega
    subst ej
    have e2 : cdI B l = cdI B m := by
      have : i * B ^ l.length + cdI B l = i * B ^ m.length + cdI B m := by rw [cdI_eq, cdI_eq]; exact e
      rw [hl] at this
      omega
    rw [cdI_inj hl bl.tail bm.tail e2]
theorem topI_lt : ∀ (l : List Int), ∀ i ∈ l, i < topI l
  | i :: l, j, h => by
    have ih := topI_lt l
    unfold topI
    simp only
    rcases List.mem_cons.mp h with rfl | h
    · split <;> omega
    · have := ih j h
      split <;> omega
theorem topT_le : ∀ (r : List (List Int)), ∀ l ∈ r, topI l ≤ topT r
  | l :: r, m, h => by
    have ih := topT_le r
    unfold topT
    simp only
    rcases List.mem_cons.mp h with rfl | h
    · split <;> omega
    · have := ih m h
      split <;> omega
theorem tupsOf_map : ∀ {xs : List D} {nss : List (List Int)}, tupsOf xs = some nss → xs = nss.map tupD
  | [], nss, h => by cases h; rfl
  | .tup xs :: r, nss, h => by
    simp only [tupsOf, Option.bind_eq_some_iff, Option.map_eq_some_iff] at h
    obtain ⟨l, h1, m, h2, rfl⟩ := h
    rw [List.map_cons, ← tupsOf_map h2, intsOf_map h1]
    rfl
  | .non :: _, nss, h => by cases h
  | .bl _ :: _, nss, h => by cases h
  | .int _ :: _, nss, h => by cases h
  | .str _ :: _, nss, h => by cases h
  | .lst _ :: _, nss, h => by cases h
  | .dct _ _ :: _, nss, h => by cases h
  | .ref _ :: _, nss, h => by cases h
  | .scr _ :: _, nss, h => by cases h
  | .rp _ :: _, nss, h => by cases h
/-- a rearranged list has its contents rearranged -/
theorem RVs.perm {K : PySem.W.Frag} {w : Wd} {H : Hp} {vs us : List V} (p : vs.Perm us) : ∀ {ds : List D}, RVs K w H ds vs → ∃ es, es.Perm ds ∧ RVs K w H es us := by
  induction p with
  | nil => exact fun {ds} h => ⟨ds, .refl _, h⟩
  | cons x p ih =>
    intro ds h
    cases ds with
    | nil => unfold RVs at h; cases h
    | cons d ds =>
      unfold RVs at h
      obtain ⟨y, t, e, h1, h2⟩ := h
      cases e
      obtain ⟨es, q1, q2⟩ := ih h2
      exact ⟨d :: es, q1.cons d, RVs.cons h1 q2⟩
  | swap x y l =>
    intro ds h
    cases ds with
    | nil => unfold RVs at h; cases h
    | cons d ds =>
      unfold RVs at h
      obtain ⟨z, t, e, h1, h2⟩ := h
      cases e
      cases ds with
      | nil => unfold RVs at h2; cases h2
      | cons d2 ds =>
        unfold RVs at h2
        obtain ⟨z2, t2, e2, h3, h4⟩ := h2
        cases e2
        exact ⟨d2 :: d :: ds, .swap d d2 ds, RVs.cons h3 (RVs.cons h1 h4)⟩
  | trans p q ih1 ih2 =>
    intro ds h
    obtain ⟨es, a1, a2⟩ := ih1 h
    obtain ⟨fs, b1, b2⟩ := ih2 a2
    exact ⟨fs, b1.trans a1, b2⟩
theorem RVs.mem {K : PySem.W.Frag} {w : Wd} {H : Hp} : ∀ {ds : List D} {vs : List V} {x : V}, RVs K w H ds vs → x ∈ vs → ∃ d ∈ ds, RV K w H d x
  | [], vs, x, h, hx => by unfold RVs at h; subst h; simp at hx
  | d :: ds, vs, x, h, hx => by
    unfold RVs at h
    obtain ⟨y, t, rfl, h1, h2⟩ := h
    rcases List.mem_cons.mp hx with rfl | hx
    · exact ⟨d, List.mem_cons_self .., h1⟩
    · obtain ⟨d', q1, q2⟩ := RVs.mem h2 hx
      exact ⟨d', List.mem_cons_of_mem _ q1, q2⟩
theorem tupD_i {K : PySem.W.Frag} {w : Wd} {H : Hp} {l : List Int} {x : V} (h : RV K w H (tupD l) x) : TupI K H x l := by
  unfold tupD RV at h
  obtain ⟨a, vs, rfl, q, r⟩ := h
  rw [r.ints] at q
  exact ⟨a, rfl, SqT.of q⟩
theorem RVs.unmap {B : Int} {K : PySem.W.Frag} {w : Wd} {H : Hp} : ∀ {nss : List (List Int)} {vs : List V}, RVs K w H (nss.map tupD) vs → ∀ R : V → V → Prop, vs.Pairwise R → (∀ x y n m, R x y → TupI K H x n → TupI K H y m → cdI B n ≤ cdI B m) → nss.Pairwise (fun a b => cdI B a ≤ cdI B b)
  | [], vs, _, R, _, _ => .nil
  | n :: nss, vs, h, R, pw, hR => by
    have h' : RVs K w H (tupD n :: nss.map tupD) vs := h
    unfold RVs at h'
    obtain ⟨x, t, rfl, h1, h2⟩ := h'
    have pw' := List.pairwise_cons.mp pw
    refine List.pairwise_cons.mpr ⟨fun m hm => ?_, RVs.unmap h2 R pw'.2 hR⟩
    have hm' : tupD m ∈ nss.map tupD := List.mem_map.mpr ⟨m, hm, rfl⟩
    obtain ⟨k, hk, ek⟩ := List.mem_iff_getElem.mp hm'
    obtain ⟨y, hy, ry⟩ := h2.get (List.getElem?_eq_some_iff.mpr ⟨hk, ek⟩)
    exact hR x y n m (pw'.1 y (List.mem_of_getElem? hy)) (tupD_i h1) (tupD_i ry)
theorem tupD_inj {a b : List Int} (h : tupD a = tupD b) : a = b := by
  unfold tupD at h
  have h' : a.map D.int = b.map D.int := by injection h
  exact List.map_inj_right (fun x y e => by injection e) |>.mp h'
/-- what is sorted, by content -/
theorem sortTs_ok {K : PySem.W.Frag} {w : Wd} {H : Hp} {nss mss : List (List Int)} {vs ys : List V} (h : sortTs nss = some mss) (hne : nss ≠ []) (r : RVs K w H (nss.map tupD) vs) (p : ys.Perm vs)
    (pw : ys.Pairwise (fun x y => ∀ n m, TupI K H x n → TupI K H y m → TS.code (topT nss) n ≤ TS.code (topT nss) m)) : RVs K w H (mss.map tupD) ys := by
  obtain ⟨es, q1, q2⟩ := RVs.perm p.symm r
  -- the contents of ys
  obtain ⟨nss', q3, rfl⟩ : ∃ nss' : List (List Int), nss'.Perm nss ∧ es = nss'.map tupD := by
    have hall : ∀ e ∈ es, ∃ n, e = tupD n := fun e he => by
      obtain ⟨n, _, hn⟩ := List.mem_map.mp (q1.mem_iff.mp he)
      exact ⟨n, hn.symm⟩
    have : ∃ nss' : List (List Int), es = nss'.map tupD := by
      clear q1 q2
      induction es with
      | nil => exact ⟨[], rfl⟩
      | cons e es ih =>
        obtain ⟨n, rfl⟩ := hall e (List.mem_cons_self ..)
        obtain ⟨l, rfl⟩ := ih fun e he => hall e (List.mem_cons_of_mem _ he)
        exact ⟨n :: l, rfl⟩
    obtain ⟨nss', rfl⟩ := this
    refine ⟨nss', ?_, rfl⟩
    have q := q1.map (fun d => match d with | .tup xs => (intsOf xs).getD [] | _ => [])
    have e : ∀ l : List (List Int), (l.map tupD).map (fun d => match d with | .tup xs => (intsOf xs).getD [] | _ => []) = l := fun l => by
      rw [List.map_map]
      refine (List.map_congr_left fun x _ => ?_).trans (List.map_id l)
      show (intsOf (x.map D.int)).getD [] = x
      rw [intsOf_ints]; rfl
    rw [e, e] at q
    exact q
  unfold sortTs at h
  cases nss with
  | nil => exact absurd rfl hne
  | cons l r' =>
    simp only at h
    split at h
    · rename_i c
      cases h
      simp only [Bool.and_eq_true, decide_eq_true_eq, List.all_eq_true] at c
      obtain ⟨⟨⟨c1, c2⟩, c3⟩, c4⟩ := c
      have len : ∀ m ∈ l :: r', m.length = l.length := fun m hm => by
        rcases List.mem_cons.mp hm with rfl | hm
        · rfl
        · exact c3 m hm
      have bd : ∀ m ∈ l :: r', TS.Bd (topT (l :: r')) m := fun m hm i hi => ⟨c4 m hm i hi, Int.lt_of_lt_of_le (topI_lt m i hi) (topT_le _ m hm)⟩
      have pw' := RVs.unmap (B := topT (l :: r')) q2 _ pw fun x y n m hxy hx hy => by
        rw [cdI_eq, cdI_eq]
        exact hxy n m hx hy
      have e1 : nss' = sortT (topT (l :: r')) (l :: r') := by
        refine List.Perm.eq_of_pairwise (fun a b ha hb h1 h2 => ?_) pw' (sortT_sorted _ _) (q3.trans (sortT_perm _ _).symm)
        have ma := q3.mem_iff.mp ha
        have mb := (sortT_perm _ _).mem_iff.mp hb
        exact cdI_inj ((len a ma).trans (len b mb).symm) (bd a ma) (bd b mb) (Int.le_antisymm h1 h2)
      rw [← e1]
      exact q2
    · cases h
mutual
theorem shw_ok : ∀ (n : Nat) (d : D), d.plain n = true → shw d = true → (toPy d).showable = true ∧ (toPy d).leavesShort 21 = true ∧ (toPy d).hasDict = false ∧ (toPy d).bulk = wgt d
  | n, .non, _, _ => by simp [toPy, PyData.showable, PyData.leavesShort, PyData.hasDict, PyData.bulk, wgt]
  | n, .bl _, _, _ => by simp [toPy, PyData.showable, PyData.leavesShort, PyData.hasDict, PyData.bulk, wgt]
  | n, .int i, _, h => by
    have h' : i.natAbs < 100000000000000000000 := by simpa [shw] using h
    have h1 : i.natAbs.log2 < 1920 := by
      have : i.natAbs < 2 ^ 1920 := Nat.lt_of_lt_of_le h' (by decide +kernel)
      by_cases z : i.natAbs = 0
      · rw [z]; decide
      · exact (Nat.log2_lt z).mpr this
    have h2 : (PyData.shown (.int i)).length ≤ 21 := by
      have := int_text_length_le10 (a := i) (k := 20) (by decide) (by simpa using h')
      show (PySem.Str.ofString (toString i)).length ≤ 21
      rw [ofString_length]
      exact this
    simp [toPy, PyData.showable, PyData.leavesShort, PyData.hasDict, PyData.bulk, wgt, h1, h2]
  | n, .str s, p, _ => by
    have p' : PyData.strOk s = true := by cases n <;> simpa [D.plain] using p
    have h2 : (PyData.str s).leavesShort 21 = true := by
      simp only [PyData.leavesShort, List.all_eq_true, decide_eq_true_eq]
      intro c hc
      have := Array.all_eq_true_iff_forall_mem.mp p' c (by simpa using hc)
      have : c < 0x110000 := by simpa using this
      omega
    simp only [toPy]
    exact ⟨rfl, h2, rfl, rfl⟩
  | n + 1, .tup xs, p, h => by
    have q := shws_ok n xs (by simpa [D.plain] using p) (by simpa [shw] using h)
    simpa [toPy, PyData.showable, PyData.leavesShort, PyData.hasDict, PyData.bulk, wgt] using q
  | n + 1, .lst xs, p, h => by
    have q := shws_ok n xs (by simpa [D.plain] using p) (by simpa [shw] using h)
    simpa [toPy, PyData.showable, PyData.leavesShort, PyData.hasDict, PyData.bulk, wgt] using q
  | 0, .tup xs, p, _ => by simp [D.plain] at p
  | 0, .lst xs, p, _ => by simp [D.plain] at p
  | n, .dct _ _, p, _ => by cases n <;> simp [D.plain] at p
  | n, .ref _, p, _ => by cases n <;> simp [D.plain] at p
  | n, .scr _, p, _ => by cases n <;> simp [D.plain] at p
  | n, .rp _, p, _ => by cases n <;> simp [D.plain] at p
theorem shws_ok : ∀ (n : Nat) (ds : List D), D.plains n ds = true → shws ds = true → PyData.showableAll (toPys ds) = true ∧ PyData.leavesShortAll 21 (toPys ds) = true ∧ PyData.hasDictAll (toPys ds) = false ∧ PyData.bulkAll (toPys ds) = wgts ds
  | n, [], _, _ => by simp [toPys, PyData.showableAll, PyData.leavesShortAll, PyData.hasDictAll, PyData.bulkAll, wgts]
  | n, d :: ds, p, h => by
    have p' : d.plain n = true ∧ D.plains n ds = true := by simpa [D.plains] using p
    have h' : shw d = true ∧ shws ds = true := by simpa [shws] using h
    obtain ⟨a1, a2, a3, a4⟩ := shw_ok n d p'.1 h'.1
    obtain ⟨b1, b2, b3, b4⟩ := shws_ok n ds p'.2 h'.2
    simp [toPys, PyData.showableAll, PyData.leavesShortAll, PyData.hasDictAll, PyData.bulkAll, wgts, a1, a2, a3, a4, b1, b2, b3, b4]
end
/-- repr -/
theorem repr_ok (hu : X.A.units + 65 < cLine) (hg : X.A.guards = some []) {w : Wd} {pins : List (Addr × Obj)} {s : Shared} {σ : L2.St} {H : Hp} {x : V} {u : Value} {d : D} {Q : VK} (I : L2.Inv X pins σ H s) (rx : RelV x u) (c : Cn X.K w H d x) (ok : repOk d = true) (q : Q (.str (toPy d).shown) H) :
    wpAny (model X.prog X.w) X.A (PySem.call (.builtin "repr") [u]) (EP X pins σ Q) X.xe s := by
  unfold repOk at ok
  simp only [Bool.and_eq_true, decide_eq_true_eq] at ok
  obtain ⟨⟨o1, o2⟩, o3⟩ := ok
  obtain ⟨a1, a2, a3, a4⟩ := shw_ok 60 d o2 o1
  obtain ⟨as, rd⟩ := Dp.reads I _ x u (c.dp o2) rx
  have hsz : (toPy d).shown.length ≤ sizeLine := by
    have := PyData.shown_le_bulk 21 (by decide) (toPy d) a2
    rw [a4] at this
    rw [sizeLine_eq]
    omega
  have hdp := (plain_lay 60 d o2).2
  clear a2 a4 o1 o2 o3 c
  generalize toPy d = pd at *
  have fin : ∀ h' u' tk, (∀ b o, s.heap.get? b = some o → h'.get? b = some o) → EP X pins σ Q (.str pd.shown u') { s with heap := h', toks := tk } := fun h' u' tk hk => ⟨.str pd.shown, H, I.kept hk, ⟨u', rfl⟩, q⟩
  cases u with
  | ref a => exact repr_of_reads' rd a1 (fun z => by rw [a3] at z; cases z) hg (by omega) (fun _ _ e => e) fin hsz
  | none => cases rd; exact PySem.P.repr_of_none (by first | exact fin s.heap _ _ fun _ _ e => e | exact ⟨.str _, H, I.tok _, ⟨_, rfl⟩, q⟩)
  | bool b => cases rd; exact PySem.P.repr_of_bool (by first | exact fin s.heap _ _ fun _ _ e => e | exact ⟨.str _, H, I.tok _, ⟨_, rfl⟩, q⟩)
  | int i t => cases rd; exact PySem.P.repr_of_int (by simpa [PyData.showable] using a1) ⟨.str _, H, I.tok _, ⟨_, rfl⟩, q⟩
  | str z t => cases rd; exact PySem.P.repr_of_str ⟨.str _, H, I.tok _, ⟨_, rfl⟩, q⟩ hsz
  | _ => cases rd
open PySem.W PyProof.Rows in
theorem minOf_I (l : List Int) : ∀ i, minOf i l = minI i l := by
  unfold minOf minI
  induction l with
  | nil => intro i; rfl
  | cons k r ih =>
    intro i
    rw [List.foldl_cons, List.foldl_cons, ih]
    simp [DatumOrd.lt]
open PySem.W PyProof.Rows in
theorem maxOf_I (l : List Int) : ∀ i, maxOf i l = maxI i l := by
  unfold maxOf maxI
  induction l with
  | nil => intro i; rfl
  | cons k r ih =>
    intro i
    rw [List.foldl_cons, List.foldl_cons, ih]
    simp [DatumOrd.lt]
open PySem.W PyProof.Rows in
theorem hold_ints {h : Heap} {vs : List Value} {l : List Int} (r : IntsAre vs l) : HoldAll h vs l := ⟨[], r.reads h⟩
open PySem.W PyProof.Rows in
theorem min_tupI (hc : X.calm = true) (hu : X.A.units + 65 < cLine) {a : Addr} {i : Int} {l : List Int} {Q : VK} (I : Inv X pins σ H s) (q : SqT X.K H a ((i :: l).map V.int)) (p : Q (.int (minI i l)) H) :
    wpAny (model X.prog X.w) X.A (PySem.call (.builtin "min") [.ref a]) (EP X pins σ Q) X.xe s := by
  obtain ⟨its, rv, hl, _⟩ := I.tuple q
  refine min_tuple_datum (x := i) (xs := l) (I.ok.hd hc) hl (hold_ints (by simpa using rv.ints)) (by show X.A.units + 1 + 0 < cLine; omega) fun j v h' tk _ hv hk => ?_
  obtain ⟨as, rr⟩ := hv
  rw [minOf_I] at rr
  cases rr
  exact ⟨.int _, H, I.kept hk, ⟨_, rfl⟩, p⟩
open PySem.W PyProof.Rows in
theorem max_tupI (hc : X.calm = true) (hu : X.A.units + 65 < cLine) {a : Addr} {i : Int} {l : List Int} {Q : VK} (I : Inv X pins σ H s) (q : SqT X.K H a ((i :: l).map V.int)) (p : Q (.int (maxI i l)) H) :
    wpAny (model X.prog X.w) X.A (PySem.call (.builtin "max") [.ref a]) (EP X pins σ Q) X.xe s := by
  obtain ⟨its, rv, hl, _⟩ := I.tuple q
  refine max_tuple_datum (x := i) (xs := l) (I.ok.hd hc) hl (hold_ints (by simpa using rv.ints)) (by show X.A.units + 1 + 0 < cLine; omega) fun j v h' tk _ hv hk => ?_
  obtain ⟨as, rr⟩ := hv
  rw [maxOf_I] at rr
  cases rr
  exact ⟨.int _, H, I.kept hk, ⟨_, rfl⟩, p⟩
theorem bi_ok (hc : X.calm = true) (hu : X.A.units + 65 < cLine) (hgd : X.A.guards = some []) (b : Bi) : CallR X (biVal b) (rBi X.K b) := by
  intro pins s σ H xs us Q I rs h
  obtain ⟨w, ds, r, ok, cs, e, p⟩ := h
  unfold bfn at e
  split at e
  · cases e
    obtain ⟨x, rfl, c⟩ := cs.one
    obtain ⟨a, vs, rfl, q, r⟩ := c.lst
    refine call_len_seq pins s σ H _ us Q I rs ⟨a, vs, rfl, .inl (SqL.of q), ?_⟩
    rw [r.length]; exact p.int
  · cases e
    obtain ⟨x, rfl, c⟩ := cs.one
    obtain ⟨a, vs, rfl, q, r⟩ := c.tup
    refine call_len_seq pins s σ H _ us Q I rs ⟨a, vs, rfl, .inr (SqT.of q), ?_⟩
    rw [r.length]; exact p.int
  · cases e
    obtain ⟨x, rfl, c⟩ := cs.one
    obtain ⟨a, rfl, q⟩ := scr_sq c
    refine call_len_seq pins s σ H _ us Q I rs ⟨a, _, rfl, .inl q, ?_⟩
    rw [List.length_map]; exact p.int
  · cases e
    obtain ⟨x, rfl, c⟩ := cs.one
    obtain ⟨a, vs, rfl, q, r⟩ := c.lst
    exact call_tuple_of pins s σ H _ us Q I rs ⟨a, vs, rfl, .inl ⟨SqL.of q, p.tup r⟩⟩
  · cases e
    obtain ⟨x, rfl, c⟩ := cs.one
    have c' := c
    obtain ⟨a, vs, rfl, q, r⟩ := c.tup
    exact call_tuple_of pins s σ H _ us Q I rs ⟨a, vs, rfl, .inr ⟨SqT.of q, p.v (by unfold Cn at c'; exact c')⟩⟩
  · cases e
    obtain ⟨x, rfl, c⟩ := cs.one
    obtain ⟨a, vs, rfl, q, r⟩ := c.lst
    exact call_list_of pins s σ H _ us Q I rs ⟨a, vs, rfl, .inl (SqL.of q), p.lst ok r⟩
  · cases e
    obtain ⟨x, rfl, c⟩ := cs.one
    obtain ⟨a, vs, rfl, q, r⟩ := c.tup
    exact call_list_of pins s σ H _ us Q I rs ⟨a, vs, rfl, .inr (SqT.of q), p.lst ok r⟩
  · cases e
    obtain ⟨x, rfl, c⟩ := cs.one
    cases c.int
    exact call_abs pins s σ H _ us Q I rs ⟨_, rfl, p.int⟩
  · cases e
    obtain ⟨x, rfl, c⟩ := cs.one
    cases c.int
    exact call_int1 pins s σ H _ us Q I rs (.inl ⟨_, rfl, p.int⟩)
  · cases e
    obtain ⟨x, y, rfl, c, c2⟩ := cs.two
    cases c.int
    cases c2.int
    exact call_max2 hc pins s σ H _ us Q I rs ⟨_, _, rfl, p.int⟩
  · cases e
    obtain ⟨x, y, rfl, c, c2⟩ := cs.two
    cases c.int
    cases c2.int
    exact call_min2 hc pins s σ H _ us Q I rs ⟨_, _, rfl, p.int⟩
  · simp only [Option.map_eq_some_iff] at e
    obtain ⟨l, hl, rfl⟩ := e
    obtain ⟨x, rfl, c⟩ := cs.one
    obtain ⟨a, vs, rfl, q, r⟩ := c.lst
    rw [intsOf_map hl] at r
    rw [r.ints] at q
    exact cr_sum hc pins s σ H _ us Q I rs ⟨a, l, rfl, SqL.of q, p.int⟩
  · split at e
    · rename_i xs i l hl
      cases e
      obtain ⟨x, rfl, c⟩ := cs.one
      obtain ⟨a, vs, rfl, q, r⟩ := c.lst
      rw [intsOf_map hl] at r
      rw [r.ints] at q
      refine cr_max hc pins s σ H _ us Q I rs ⟨a, i :: l, rfl, SqL.of q, by simp, fun m hm hle => ?_⟩
      have z := maxI_mem l i
      have e1 : m = maxI i l := Int.le_antisymm (z.2 m hm) (hle _ z.1)
      rw [e1]; exact p.int
    · cases e
  · split at e
    · rename_i xs i l hl
      cases e
      obtain ⟨x, rfl, c⟩ := cs.one
      obtain ⟨a, vs, rfl, q, r⟩ := c.lst
      rw [intsOf_map hl] at r
      rw [r.ints] at q
      refine cr_min hc pins s σ H _ us Q I rs ⟨a, i :: l, rfl, SqL.of q, by simp, fun m hm hle => ?_⟩
      have z := minI_mem l i
      have e1 : m = minI i l := Int.le_antisymm (hle _ z.1) (z.2 m hm)
      rw [e1]; exact p.int
    · cases e
  · split at e
    · rename_i c
      cases e
      obtain ⟨x, rfl, cx⟩ := cs.one
      obtain ⟨u, rfl, ru⟩ := vals1 rs
      exact repr_ok hu hgd I ru cx c (p.v (by unfold RV; rfl))
    · cases e
  · cases e
    obtain ⟨x, rfl, c⟩ := cs.one
    obtain ⟨a, us', rfl, dr, rv⟩ := c
    unfold DcR at dr
    split at dr
    · obtain ⟨kvs, h1, _, rfl⟩ := dr
      refine call_lenD pins s σ H _ us Q I rs ⟨a, kvs, rfl, h1, ?_⟩
      have := rv.length
      rw [List.length_map] at this
      rw [this]
      exact p.int
    · obtain ⟨kvs, h1, _, rfl⟩ := dr
      refine call_len_dT pins s σ H _ us Q I rs ⟨a, kvs, rfl, h1, ?_⟩
      have := rv.length
      rw [List.length_map] at this
      rw [this]
      exact p.int
  · simp only [Option.map_eq_some_iff] at e
    obtain ⟨l, hl, rfl⟩ := e
    obtain ⟨x, rfl, c⟩ := cs.one
    obtain ⟨a, vs, rfl, q, r⟩ := c.lst
    obtain ⟨u, rfl, ru⟩ := vals1 rs
    cases ru
    exact anyF hc I q r hl p.bl
  · simp only [Option.map_eq_some_iff] at e
    obtain ⟨l, hl, rfl⟩ := e
    obtain ⟨x, rfl, c⟩ := cs.one
    obtain ⟨a, vs, rfl, q, r⟩ := c.lst
    obtain ⟨u, rfl, ru⟩ := vals1 rs
    cases ru
    exact allF hc I q r hl p.bl
  · split at e
    · rename_i xs l hl
      cases e
      obtain ⟨x, rfl, c⟩ := cs.one
      obtain ⟨a, vs, rfl, q, r⟩ := c.lst
      rw [intsOf_map hl] at r
      rw [r.ints] at q
      refine cr_sortedI pins s σ H _ us Q I rs ⟨a, l, rfl, SqL.of q, fun ns' b hp hs hb => ?_⟩
      have e1 : ns' = sortI l := sorted_same (hp.trans (sortI_perm l).symm) hs (sortI_sorted l)
      rw [e1]
      exact p.lst ok (RVs.of_ints _) b hb
    · simp only [Option.map_eq_some_iff, Option.bind_eq_some_iff] at e
      obtain ⟨mss, ⟨nss, hn, hs⟩, rfl⟩ := e
      obtain ⟨x, rfl, c⟩ := cs.one
      obtain ⟨a, vs, rfl, q, r⟩ := c.lst
      have hx := tupsOf_map hn
      subst hx
      have hs' := hs
      unfold sortTs at hs'
      cases nss with
      | nil =>
        rename_i hno
        simp [intsOf] at hno
      | cons l0 r0 =>
        simp only at hs'
        split at hs'
        · rename_i cc
          simp only [Bool.and_eq_true, decide_eq_true_eq, List.all_eq_true] at cc
          obtain ⟨⟨⟨c1, c2⟩, c3⟩, c4⟩ := cc
          have lenv := r.length
          refine cr_sortT (d := l0.length) (B := topT (l0 :: r0)) c2 pins s σ H _ us Q I rs ⟨a, vs, rfl, SqL.of q, ?_, fun y hy => ?_, fun ys b hp hw hb => ?_⟩
          · rw [lenv]
            simp
            omega
          · obtain ⟨d, hd, rd⟩ := r.mem hy
            obtain ⟨n, hn', rfl⟩ := List.mem_map.mp hd
            refine ⟨n, tupD_i rd, ?_, fun i hi => ⟨c4 n hn' i hi, Int.lt_of_lt_of_le (topI_lt n i hi) (topT_le _ n hn')⟩⟩
            rcases List.mem_cons.mp hn' with rfl | hn'
            · rfl
            · exact c3 n hn'
          · exact p.lst ok (sortTs_ok hs (by simp) r hp hw) b hb
        · cases hs'
  · split at e
    · rename_i xs i l hl
      cases e
      obtain ⟨x, rfl, c⟩ := cs.one
      obtain ⟨a, vs, rfl, q, r⟩ := c.tup
      rw [intsOf_map hl] at r
      rw [r.ints] at q
      obtain ⟨u, rfl, ru⟩ := vals1 rs
      cases ru
      exact max_tupI hc hu I (SqT.of q) p.int
    · cases e
  · split at e
    · rename_i xs i l hl
      cases e
      obtain ⟨x, rfl, c⟩ := cs.one
      obtain ⟨a, vs, rfl, q, r⟩ := c.tup
      rw [intsOf_map hl] at r
      rw [r.ints] at q
      obtain ⟨u, rfl, ru⟩ := vals1 rs
      cases ru
      exact min_tupI hc hu I (SqT.of q) p.int
    · cases e
  · cases e
    obtain ⟨x, rfl, c⟩ := cs.one
    cases c.bl
    exact call_int1 pins s σ H _ us Q I rs (.inr ⟨_, rfl, p.int⟩)
  · cases e
end
end Mp

/-! enumerate over tuples -/
namespace Mp
open PySem L2 PyProof.Rows
open Sem (wp)
open AutoSeq1 (wpAny_loadPart')

theorem meets_enumT (l : Addr) (items : Array Value) (n : Nat) (dd : Option Addr) (sl : Array (Option Value)) : Meets (Builtin.«enumerate.__new__» ⟨[.type "enumerate", .ref l], []⟩) (fun _ R t =>
      t.heap.get? l = some { cls := .type "tuple", dict := dd, data := .seq items n, slots := sl } ∧ R (.ok (.ret (.ref (t.heap.push { cls := .type "tuple_iterator", data := .fields #[.ref l, .int 0 0] }).objs.size)))
        { t with heap := (t.heap.push { cls := .type "tuple_iterator", data := .fields #[.ref l, .int 0 0] }).push { cls := .type "enumerate", data := .fields #[.none, .bool false, .ref t.heap.objs.size, rawInt 0, .none, .none] } }) := by
  refine .of_wp fun prog w A R t h => ?_
  obtain ⟨hp, g, d, tk, os⟩ := t
  obtain ⟨hl, h⟩ := h
  have sube := sub_enumerate
  have hT : Heap.IsTuple (Shared.heap ⟨hp, g, d, tk, os⟩) l items := ⟨_, hl, rfl, n, rfl⟩
  wp_walk using wpAny_loadPart' hl
  refine wpAny_stack_any (fun st => wpAny_pure ?_)
  split
  · rename_i c _ _ _ _ _
    cases (c == Value.type "enumerate")
    all_goals
      wp_walk using wpAny_loadPart' hl, wpAny_pyIter_tuple hT
      exact ⟨_, rfl, h⟩
  · wp_walk using wpAny_loadPart' hl, wpAny_pyIter_tuple hT
    exact ⟨_, rfl, h⟩
section
variable {prog : Program} {w : World} {A : Around} {E : Value → Shared → Prop} {t : Shared}
theorem call_enumT {l : Addr} {items : Array Value} {Q : Value → Shared → Prop} (hL : t.heap.IsTuple l items)
    (h : ∀ h', IsEnum h' (t.heap.objs.size + 1) t.heap.objs.size 0 .none → h'.IsTupleIter t.heap.objs.size l 0 → (∀ b o, t.heap.get? b = some o → h'.get? b = some o) → Q (.ref (t.heap.objs.size + 1)) { t with heap := h' }) :
    wpAny (model prog w) A (PySem.call (.type "enumerate") [.ref l]) Q E t := by
  obtain ⟨⟨c, dd, dt, sl⟩, hl, hc, n, hd⟩ := hL
  replace hc : c = .type "tuple" := hc
  replace hd : dt = .seq items n := hd
  subst hc hd
  refine callType_new F.called_enumerate (by decide) (F.typeCall_enumerate_1 _) (F.newCall_enumerate_1 _) (fun obj => F.args_object_init_2 obj _) F.entry_enumerate_new (meets_enumT l items n dd sl) (And.intro hl ?_)
  have hz : (t.heap.push { cls := .type "tuple_iterator", data := .fields #[.ref l, .int 0 0] }).objs.size = t.heap.objs.size + 1 := Heap.size_push ..
  show _ ∧ _
  rw [hz]
  have he : IsEnum ((t.heap.push { cls := .type "tuple_iterator", data := .fields #[.ref l, .int 0 0] }).push { cls := .type "enumerate", data := .fields #[.none, .bool false, .ref t.heap.objs.size, rawInt 0, .none, .none] })
      (t.heap.objs.size + 1) t.heap.objs.size 0 .none := by
    have z := Heap.get?_push_size (t.heap.push { cls := .type "tuple_iterator", data := .fields #[.ref l, .int 0 0] }) (o := { cls := .type "enumerate", data := .fields #[.none, .bool false, .ref t.heap.objs.size, rawInt 0, .none, .none] }) rfl
    rw [hz] at z
    exact z
  refine ⟨⟨_, he, rfl⟩, h _ he ⟨_, Heap.get?_push_of_some _ (Heap.get?_push_size _ rfl), rfl, rfl⟩ fun b o x => ?_⟩
  exact Heap.get?_push_of_some _ (Heap.get?_push_of_some _ x)
theorem draws_tup (hh : A.handled = none) (it l : Addr) (hne : l ≠ it) (items : Array Value) : Draws prog w A it [it, l] items.size (fun i v => items[i]? = some v) (fun i h => h.IsTupleIter it l i ∧ h.IsTuple l items) where
  live := fun _ _ st => let ⟨o, ho, _⟩ := st.1; ⟨o, ho⟩
  frame := by
    rintro i h h' ⟨s1, o, s2, s3⟩ hk
    exact ⟨s1.at fun o e => hk it (by simp) o e, o, hk l (by simp) o s2, s3⟩
  item := by
    intro i s Q E hi st hQ
    refine RZ.nextOf_tuple_item st.1 st.2 (x := items[i]) (by simp [hi]) fun h' hit' hs' => ?_
    exact hQ _ h' s.toks (by simp [hi]) ⟨hit', st.2.extBut hs'.extBut hne⟩ hs'
  done := by
    intro s Q E st hE
    exact RZ.nextOf_tuple_end hh st.1 st.2 (by simp) hE
end
/-- the tuple at a, each item in a new pair with its number -/
def IteT (K : PySem.W.Frag) (a : Addr) : L2.It :=
  ⟨fun i H => ∃ (xs : List V) (x : V), SqT K H a xs ∧ xs[i]? = some x, fun i H v H' => ∃ b x, v = .ref b ∧ H b = none ∧ H' = upd H b (.tup [.int (i : Nat), x]) ∧ ∀ xs, SqT K H a xs → xs[i]? = some x, fun i H => ∃ xs : List V, SqT K H a xs ∧ xs.length = i⟩
theorem turn_enumT {P : Program} {w : World} {K : PySem.W.Frag} {elts : List Expr} {kk : Nat} {tpos : Pos} (a e it : Addr) (hai : a ≠ it) :
    Turn P w K (.Tuple elts kk tpos) (IteT K a) [e, it] e (fun i h => (∃ old, IsEnum h e it ((i : Nat) : Int) old) ∧ h.IsTupleIter it a i ∧ e ≠ it ∧ e ≠ a) where
  mem := by simp
  obj := by
    rintro i h ⟨⟨old, he⟩, ⟨o, ho, hc, hd⟩, _⟩ b hb
    rcases (show b = e ∨ b = it by simpa using hb) with rfl | rfl
    · exact ⟨_, he, fun v q => nomatch q⟩
    · exact ⟨o, ho, fun v q => by rw [hd] at q; cases q⟩
  keep := by
    rintro i h h' ⟨⟨old, he⟩, hi, hne⟩ k
    exact ⟨⟨old, k e (by simp) _ he⟩, hi.at (fun o q => k it (by simp) o q), hne⟩
  item := by
    intro X hP hw hK hc i pins t σ H E I hf st hg
    subst hP hw hK
    obtain ⟨⟨old, he⟩, hit, hne, hea⟩ := st
    obtain ⟨xs, x, hq, hx⟩ := hg
    obtain ⟨its, rv, p, hz⟩ := I.tuple hq
    obtain ⟨u, hu, ru⟩ := rv.get hx
    have hel : e < t.heap.objs.size := Heap.lt_size he
    have hil : it < t.heap.objs.size := by obtain ⟨_, q, _⟩ := hit; exact Heap.lt_size q
    have hlt : i < its.toArray.size := by
      have := (List.getElem?_eq_some_iff.mp hu).1
      simpa using this
    refine wpAny_pyNext_enum_itemD (draws_tup (A := X.A.in1) (I.ok.hd hc) it a hai its.toArray) he ⟨hit, p⟩ hlt hne (by simp [hne, hea]) ?_
    intro x' h' tk hx' ho hst hT hsz hk
    have ex : x' = u := by
      have hx' : its.toArray[i]? = some x' := hx'
      have : its[i]? = some x' := by simpa using hx'
      rw [hu] at this
      exact (Option.some.inj this).symm
    subst ex
    refine ⟨_, rfl, wpAny_letOwnedTupleGo_enum (s := { t with heap := h', toks := tk + 1 }) ho fun h'' he' sb => ?_⟩
    have hT2 : h''.get? t.heap.objs.size = some { cls := .type "tuple", data := .seq #[.int i tk, x'] } := (sb.2 _ (Nat.ne_of_gt hel)).trans hT
    have new : ObjOk X.prog X.w (upd H t.heap.objs.size (.tup [.int (i : Nat), x])) h'' t.heap.objs.size (.tup [.int (i : Nat), x]) :=
      ⟨by show 2 ≤ sizeLine; decide, [.int i tk, x'], .cons ⟨_, rfl⟩ (.cons ru .nil), ⟨_, hT2, rfl, _, rfl⟩⟩
    have I1 : L2.Inv X pins σ (upd H t.heap.objs.size (.tup [.int (i : Nat), x])) { t with heap := h'', toks := tk + 1 } := by
      refine I.turnedNew (ch := [e, it]) (fun b ob hb q => ?_) hf (Nat.le_refl _) new
      exact (sb.2 b (fun z => hb (by simp [z]))).trans (hk b ob (fun z => hb (by simp [z])) (fun z => hb (by simp [z])) q)
    refine ⟨.ref t.heap.objs.size, _, I1, rfl, ⟨_, x, rfl, I.hok.fresh (Nat.le_refl _), rfl, fun ys hy => ?_⟩, ⟨⟨x', ?_⟩, hst.1.at (fun o q => (sb.2 it (Ne.symm hne)).trans q), hne, hea⟩, fun b hb => ?_⟩
    · rw [I.tuple_inj hy hq]; exact hx
    · have e1 : ((i + 1 : Nat) : Int) = (i : Int) + 1 := by omega
      rw [e1]; exact he'
    · have hb' : b < t.heap.objs.size := by
        rcases (show b = e ∨ b = it by simpa using hb) with rfl | rfl
        · exact hel
        · exact hil
      rw [upd_ne (Nat.ne_of_lt hb')]
      exact (hf b hb).1
  done := by
    intro X hP hw hK hc i pins t σ H E I hf st hg
    subst hP hw hK
    obtain ⟨⟨old, he⟩, hit, hne, hea⟩ := st
    obtain ⟨xs, hq, hx⟩ := hg
    obtain ⟨its, rv, p, hz⟩ := I.tuple hq
    obtain ⟨f0, f1, f2, f3, f4, f5⟩ := hf it (by simp)
    have hl : its.toArray.size = i := by rw [List.size_toArray, ← rv.length]; exact hx
    have D0 := draws_tup (prog := X.prog) (w := X.w) (A := X.A.in1) (I.ok.hd hc) it a hai its.toArray
    rw [hl] at D0
    exact wpAny_pyNext_enum_endD D0 he ⟨hit, p⟩ fun h' eb => ⟨rfl, I.turned (t' := t.toks) (fun b o hb q => eb b o hb q) f0 f1 f3 f4 f5⟩
  self := fun A i t Q E st h => let ⟨⟨_, he⟩, _⟩ := st; wpAny_pyIter_enum he h
theorem walk_enumT {K : PySem.W.Frag} {a : Addr} {xs : List V} : L2.Walk (IteT K a) xs.length (fun H => SqT K H a xs) (YPair (fun i => some (.int (i : Nat))) (fun i => xs[i]?)) := by
  refine ⟨fun i _ hi q => ⟨xs, xs[i], q, by simp [hi]⟩, fun _ q => ⟨xs, q, rfl⟩, fun i H v H' _ q y => ?_⟩
  obtain ⟨b, x, h1, h2, h3, h4⟩ := y
  exact ⟨b, .int (i : Nat), x, h1, h2, h3, rfl, h4 xs q⟩
def iEnum2 (K : PySem.W.Frag) (ta : TA) : TI := fun σ H R => ta σ H fun vs H1 => ∃ a xs, vs = [.ref a] ∧ ((SqL K H1 a xs ∧ R (Ite K a) H1) ∨ (SqT K H1 a xs ∧ R (IteT K a) H1))
theorem pi_enum2 {X : Cx} {e : Expr} {ta : TA} {p pos tpos : Pos} {elts : List Expr} {kk : Nat} (hg : Gl X "enumerate") (hm : X.mg "enumerate" = none) (ha : PA X [e] ta) (hs : starEach [e] X.env = [(false, eval e X.env)]) :
    PI X (.Tuple elts kk tpos) (.Call (.Name "enumerate" p) [e] [] pos) (iEnum2 X.K ta) := by
  constructor
  intro pins t σ H R I h
  refine Call_ (ld_blt I hg hm boot_enumerate (PyProof.Rows.callWith_type1 (thn (ha.run pos pins t σ H _ I h) ?_) hs rfl))
  rintro us t1 ⟨vs, H1, I1, r1, a, xs, rfl, q⟩
  obtain ⟨u, rfl, ru⟩ := vals1 r1
  cases ru
  have fre : ∀ b ∈ [t1.heap.objs.size + 1, t1.heap.objs.size], FpOk X pins H1 b := by
    intro b hb
    have hle : t1.heap.objs.size ≤ b := by
      rcases (show b = t1.heap.objs.size + 1 ∨ b = t1.heap.objs.size by simpa using hb) with rfl | rfl
      · exact Nat.le_add_right _ _
      · exact Nat.le_refl _
    exact I1.fpOk hle (I1.hok.fresh hle)
  rcases q with ⟨hq, q⟩ | ⟨hq, q⟩
  · obtain ⟨its, rv, p', hz⟩ := I1.list hq
    refine call_enumerate_list p'.isList fun h' he hit hsz hk => wpAny_pyIter_enum he ?_
    exact ⟨t1.heap.objs.size + 1, [t1.heap.objs.size + 1, t1.heap.objs.size], _, _, H1, rfl, I1.kept (t' := t1.toks) hk, turn_enum a (t1.heap.objs.size + 1) t1.heap.objs.size, ⟨⟨.none, he⟩, hit, Nat.succ_ne_self _⟩, fre, q⟩
  · obtain ⟨its, rv, p', hz⟩ := I1.tuple hq
    have hal : a < t1.heap.objs.size := by obtain ⟨o, ho, _⟩ := id p'; exact Heap.lt_size ho
    refine call_enumT p' fun h' he hit hk => wpAny_pyIter_enum he ?_
    exact ⟨t1.heap.objs.size + 1, [t1.heap.objs.size + 1, t1.heap.objs.size], _, _, H1, rfl, I1.kept (t' := t1.toks) hk, turn_enumT a (t1.heap.objs.size + 1) t1.heap.objs.size (Nat.ne_of_lt hal), ⟨⟨.none, he⟩, hit, Nat.succ_ne_self _, Nat.ne_of_gt (Nat.lt_succ_of_lt hal)⟩, fre, q⟩
end Mp

/-! zip, strict or not, of lists and tuples in any mix -/
namespace Mp
open PySem L2 PyProof.Rows
open Sem (wp)

/-- an iterator over a list (kd = false) or a tuple -/
def ItS (kd : Bool) (h : Heap) (u m : Addr) (k : Nat) : Prop := if kd then h.IsTupleIter u m k else h.IsListIter u m k
def SrcS (kd : Bool) (h : Heap) (m : Addr) (xs : Array Value) : Prop := if kd then h.IsTuple m xs else h.IsList m xs
abbrev ZipO (sb : Bool) (h : Heap) (q ti to : Addr) (f0 : Value) : Prop :=
  h.get? q = some { cls := .type "zip", dict := none, data := .fields #[f0, .bool false, .bool sb, .ref ti, .ref to], slots := #[] }
theorem ItS.at' {kd : Bool} {h h' : Heap} {u m : Addr} {k : Nat} (x : ItS kd h u m k) (e : ∀ o, h.get? u = some o → h'.get? u = some o) : ItS kd h' u m k := by
  cases kd with
  | true => exact Heap.IsTupleIter.at (show h.IsTupleIter u m k from x) e
  | false => exact Heap.IsListIter.at (show h.IsListIter u m k from x) e
theorem SrcS.at' {kd : Bool} {h h' : Heap} {m : Addr} {xs : Array Value} (x : SrcS kd h m xs) (e : ∀ o, h.get? m = some o → h'.get? m = some o) : SrcS kd h' m xs := by
  cases kd with
  | true => obtain ⟨o, ho, r⟩ := (show h.IsTuple m xs from x); exact ⟨o, e o ho, r⟩
  | false => obtain ⟨o, ho, r⟩ := (show h.IsList m xs from x); exact ⟨o, e o ho, r⟩
theorem ItS.there {kd : Bool} {h : Heap} {u m : Addr} {k : Nat} (x : ItS kd h u m k) : ∃ o, h.get? u = some o ∧ ∀ v, o.data ≠ .cell v := by
  cases kd with
  | true => obtain ⟨o, ho, _, hd⟩ := (show h.IsTupleIter u m k from x); exact ⟨o, ho, fun v q => by rw [hd] at q; cases q⟩
  | false => obtain ⟨o, ho, _, hd⟩ := (show h.IsListIter u m k from x); exact ⟨o, ho, fun v q => by rw [hd] at q; cases q⟩
section
variable {prog : Program} {w : World} {A : Around} {E : Value → Shared → Prop} {t : Shared}
theorem drw_item {kd : Bool} {u m : Addr} {k : Nat} {xs : Array Value} {x : Value} {Q : Value → Shared → Prop} (a : ItS kd t.heap u m k) (b : SrcS kd t.heap m xs) (c : xs[k]? = some x)
    (hQ : ∀ h', ItS kd h' u m (k + 1) → Heap.SameBut u t.heap h' → Q x { t with heap := h' }) : wpAny (model prog w) A (Builtin.SmallTypes.nextOf (.ref u)) Q E t := by
  cases kd with
  | true => exact RZ.nextOf_tuple_item a b c hQ
  | false => exact wpAny_nextOf_list_item a b c hQ
theorem drw_end {kd : Bool} {u m : Addr} {k : Nat} {xs : Array Value} {Q : Value → Shared → Prop} (hh : A.handled = none) (a : ItS kd t.heap u m k) (b : SrcS kd t.heap m xs) (c : xs[k]? = none)
    (hE : ∀ h' e, Heap.ExtBut u t.heap h' → (∃ o, h'.get? e = some o ∧ o.cls = .type "StopIteration") → E (.ref e) { t with heap := h' }) : wpAny (model prog w) A (Builtin.SmallTypes.nextOf (.ref u)) Q E t := by
  cases kd with
  | true => exact RZ.nextOf_tuple_end hh a b c hE
  | false => exact wpAny_nextOf_list_end hh a b c hE
/-- .. where its end is an answer -/
theorem dre_item {kd : Bool} {u m : Addr} {k : Nat} {xs : Array Value} {x : Value} {Q : Option Value → Shared → Prop} (a : ItS kd t.heap u m k) (b : SrcS kd t.heap m xs) (c : xs[k]? = some x)
    (hQ : ∀ h', ItS kd h' u m (k + 1) → Heap.SameBut u t.heap h' → Q (some x) { t with heap := h' }) : wpAny (model prog w) A (Builtin.SmallTypes.nextOrEnd (.ref u)) Q E t := by
  unfold Builtin.SmallTypes.nextOrEnd
  exact wpAny_bind (wpAny_attempt (drw_item a b c fun h' p r => wpAny_pure (hQ h' p r)))
theorem dre_end {kd : Bool} {u m : Addr} {k : Nat} {xs : Array Value} {Q : Option Value → Shared → Prop} (hh : A.handled = none) (a : ItS kd t.heap u m k) (b : SrcS kd t.heap m xs) (c : xs[k]? = none)
    (hQ : ∀ h', Heap.ExtBut u t.heap h' → Q none { t with heap := h' }) : wpAny (model prog w) A (Builtin.SmallTypes.nextOrEnd (.ref u)) Q E t := by
  unfold Builtin.SmallTypes.nextOrEnd
  refine wpAny_bind (wpAny_attempt (drw_end hh a b c fun h' e p r => ?_))
  obtain ⟨o, ho, hc⟩ := r
  exact wpAny_bind (wpAny_isInstance (T := "StopIteration") (b := true) ⟨o, ho, hc⟩ isSubtype_stop (wpAny_pure (hQ h' p)))

/-- one turn: both have an item -/
theorem zo_item {sb k1 k2 : Bool} {q ti to u1 u2 m1 m2 : Addr} {i j : Nat} {xs ys : Array Value} {x y a b : Value} {Q : Value → Shared → Prop} (D : ZipApart q ti to u1 u2 m1 m2)
    (hq : ZipO sb t.heap q ti to .none) (hti : IsPair t.heap ti (.ref u1) (.ref u2)) (hto : IsPair t.heap to a b)
    (a1 : ItS k1 t.heap u1 m1 i) (a2 : ItS k2 t.heap u2 m2 j) (b1 : SrcS k1 t.heap m1 xs) (b2 : SrcS k2 t.heap m2 ys) (hx : xs[i]? = some x) (hy : ys[j]? = some y)
    (hQ : ∀ h', ZipO sb h' q ti to (rawInt t.heap.objs.size) → IsPair h' to x y → ItS k1 h' u1 m1 (i + 1) → ItS k2 h' u2 m2 (j + 1) → IsPair h' t.heap.objs.size x y →
      (∀ c o, c ≠ q → c ≠ to → c ≠ u1 → c ≠ u2 → t.heap.get? c = some o → h'.get? c = some o) → Q (.ref t.heap.objs.size) { t with heap := h' }) :
    wpAny (model prog w) A (Builtin.«zip.__next__» ⟨[.ref q], []⟩) (fun fin t' => ∃ v, fin = .done (.ret v) ∧ Q v t') E t := by
  show wpAny _ _ (field (.ref q) 2 >>= _) _ _ _
  refine wpAny_bind (wpAny_field hq rfl (x := .bool sb) rfl ?_)
  show wpAny _ _ (field (.ref q) 3 >>= _) _ _ _
  refine wpAny_bind (wpAny_field hq rfl (x := .ref ti) rfl ?_)
  refine wpAny_bind (wpAny_seqItems hti rfl ?_)
  show wpAny _ _ (Builtin.SmallTypes.ownedTupleIsFree (.ref q) >>= _) _ _ _
  refine wpAny_bind ?_
  unfold Builtin.SmallTypes.ownedTupleIsFree
  refine wpAny_bind (wpAny_field hq rfl (x := .none) rfl (wpAny_pure ?_))
  simp only [if_true]
  refine wpAny_bind (wpAny_rule ?_)
  refine wpAny_bind (wpAny_field hq rfl (x := .ref to) rfl ?_)
  refine wpAny_bind (wpAny_setField_rec hq (by simp) fun h₁ hq₁ s₁ => ?_)
  replace hq₁ : ZipO sb h₁ q ti to .ellipsis := hq₁
  refine wpAny_bind ?_
  simp only [List.zipIdx_cons, List.zipIdx_nil, List.forIn_cons, List.forIn_nil]
  have A1 : ItS k1 h₁ u1 m1 i := a1.at' fun o e => s₁.extBut _ _ D.i1z e
  have B1 : SrcS k1 h₁ m1 xs := b1.at' fun o e => s₁.extBut _ _ D.l1z e
  refine wpAny_bind (wpAny_bind (wpAny_onRaise ?_))
  have first : ∀ {R : Option Value → Shared → Prop} {E' : Value → Shared → Prop}, (∀ h', ItS k1 h' u1 m1 (i + 1) → Heap.SameBut u1 h₁ h' → R (some x) { t with heap := h' }) →
      wpAny (model prog w) A (if ((Value.bool sb == .bool true) = true) then Builtin.SmallTypes.nextOrEnd (.ref u1) else (do return some (← Builtin.SmallTypes.nextOf (.ref u1)))) R E' { t with heap := h₁ } := fun {R E'} r => by
    cases sb with
    | true => exact dre_item (t := { t with heap := h₁ }) A1 B1 hx r
    | false => exact wpAny_bind (drw_item (t := { t with heap := h₁ }) A1 B1 hx fun h' p1 p2 => wpAny_pure (r h' p1 p2))
  refine first fun h₂ A2 s₂ => ?_
  have hto₂ : IsPair h₂ to a b := s₂.extBut _ _ D.TOi1 (s₁.extBut _ _ D.TOz hto)
  refine wpAny_bind (wpAny_seqItems hto₂ rfl ?_)
  refine wpAny_bind (wpAny_updateSeq_pair hto₂ fun h₃ hto₃ s₃ => ?_)
  replace hto₃ : IsPair h₃ to x b := hto₃
  refine wpAny_bind (wpAny_letGo (wpAny_pure ?_))
  have A3 : ItS k2 h₃ u2 m2 j := ((a2.at' fun o e => s₁.extBut _ _ D.i2z e).at' fun o e => s₂.extBut _ _ D.i12.symm e).at' fun o e => s₃.extBut _ _ D.TOi2.symm e
  have B3 : SrcS k2 h₃ m2 ys := ((b2.at' fun o e => s₁.extBut _ _ D.l2z e).at' fun o e => s₂.extBut _ _ D.l2i1 e).at' fun o e => s₃.extBut _ _ D.l2TO e
  refine wpAny_bind (wpAny_bind (wpAny_onRaise ?_))
  have second : ∀ {R : Option Value → Shared → Prop} {E' : Value → Shared → Prop}, (∀ h', ItS k2 h' u2 m2 (j + 1) → Heap.SameBut u2 h₃ h' → R (some y) { t with heap := h' }) →
      wpAny (model prog w) A (if ((Value.bool sb == .bool true) = true) then Builtin.SmallTypes.nextOrEnd (.ref u2) else (do return some (← Builtin.SmallTypes.nextOf (.ref u2)))) R E' { t with heap := h₃ } := fun {R E'} r => by
    cases sb with
    | true => exact dre_item (t := { t with heap := h₃ }) A3 B3 hy r
    | false => exact wpAny_bind (drw_item (t := { t with heap := h₃ }) A3 B3 hy fun h' p1 p2 => wpAny_pure (r h' p1 p2))
  refine second fun h₄ A4 s₄ => ?_
  have hto₄ : IsPair h₄ to x b := s₄.extBut _ _ D.TOi2 hto₃
  refine wpAny_bind (wpAny_seqItems hto₄ rfl ?_)
  refine wpAny_bind (wpAny_updateSeq_pair hto₄ fun h₅ hto₅ s₅ => ?_)
  replace hto₅ : IsPair h₅ to x y := hto₅
  refine wpAny_bind (wpAny_letGo (wpAny_pure (wpAny_pure ?_)))
  refine wpAny_bind (wpAny_seqItems hto₅ rfl ?_)
  refine wpAny_bind (wpAny_newTuple ?_)
  have hsz : h₅.objs.size = t.heap.objs.size := by rw [s₅.1, s₄.1, s₃.1, s₂.1, s₁.1]
  have all : ∀ c o, c ≠ q → c ≠ to → c ≠ u1 → c ≠ u2 → t.heap.get? c = some o → h₅.get? c = some o := fun c o n1 n2 n3 n4 e =>
    s₅.extBut _ _ n2 (s₄.extBut _ _ n4 (s₃.extBut _ _ n2 (s₂.extBut _ _ n3 (s₁.extBut _ _ n1 e))))
  have hq₅ : ZipO sb h₅ q ti to .ellipsis := s₅.extBut _ _ D.TOz.symm (s₄.extBut _ _ D.i2z.symm (s₃.extBut _ _ D.TOz.symm (s₂.extBut _ _ D.i1z.symm hq₁)))
  have A5 : ItS k1 h₅ u1 m1 (i + 1) := ((A2.at' fun o e => s₃.extBut _ _ D.TOi1.symm e).at' fun o e => s₄.extBut _ _ D.i12 e).at' fun o e => s₅.extBut _ _ D.TOi1.symm e
  have A6 : ItS k2 h₅ u2 m2 (j + 1) := A4.at' fun o e => s₅.extBut _ _ D.TOi2.symm e
  have lq : q < h₅.objs.size := Heap.lt_size hq₅
  show wpAny _ _ (Builtin.SmallTypes.ownedTupleHandOut (.ref q) (.ref h₅.objs.size) >>= _) _ _ _
  refine wpAny_bind ?_
  unfold Builtin.SmallTypes.ownedTupleHandOut
  have hq₆ : ZipO sb (h₅.push { cls := .type "tuple", data := .seq #[x, y] }) q ti to .ellipsis := Heap.get?_push_of_some _ hq₅
  refine wpAny_bind (wpAny_setField_rec hq₆ (by simp) fun h₇ hq₇ s₇ => ?_)
  replace hq₇ : ZipO sb h₇ q ti to (rawInt h₅.objs.size) := hq₇
  refine wpAny_setField_rec hq₇ (by simp) fun h₈ hq₈ s₈ => ?_
  replace hq₈ : ZipO sb h₈ q ti to (rawInt h₅.objs.size) := hq₈
  have go : ∀ c o, c ≠ q → h₅.get? c = some o → h₈.get? c = some o := fun c o n e => s₈.extBut _ _ n (s₇.extBut _ _ n (Heap.get?_push_of_some _ e))
  have new₈ : IsPair h₈ h₅.objs.size x y := s₈.extBut _ _ (Nat.ne_of_gt lq) (s₇.extBut _ _ (Nat.ne_of_gt lq) (Heap.get?_push_size _ rfl))
  rw [hsz] at hq₈ new₈
  refine wpAny_pure ⟨_, rfl, ?_⟩
  show Q (.ref h₅.objs.size) _
  rw [hsz]
  exact hQ h₈ hq₈ (go _ _ D.TOz hto₅) (A5.at' fun o e => go _ o D.i1z e) (A6.at' fun o e => go _ o D.i2z e) new₈ fun c o n1 n2 n3 n4 e => go c o n1 (all c o n1 n2 n3 n4 e)
/-- the end -/
theorem zo_end {sb k1 k2 : Bool} {q ti to u1 u2 m1 m2 : Addr} {i j : Nat} {xs ys : Array Value} {a b : Value} {Q : PySem.Fin → Shared → Prop} (hh : A.handled = none) (D : ZipApart q ti to u1 u2 m1 m2)
    (hq : ZipO sb t.heap q ti to .none) (hti : IsPair t.heap ti (.ref u1) (.ref u2)) (hto : IsPair t.heap to a b)
    (a1 : ItS k1 t.heap u1 m1 i) (a2 : ItS k2 t.heap u2 m2 j) (b1 : SrcS k1 t.heap m1 xs) (b2 : SrcS k2 t.heap m2 ys) (hx : (sb = false ∧ ys[j]? = none) ∨ (xs[i]? = none ∧ (sb = true → ys[j]? = none)))
    (hE : ∀ h' e, (∀ c o, c ≠ q → c ≠ to → c ≠ u1 → c ≠ u2 → t.heap.get? c = some o → h'.get? c = some o) → (∃ o, h'.get? e = some o ∧ o.cls = .type "StopIteration") → E (.ref e) { t with heap := h' }) :
    wpAny (model prog w) A (Builtin.«zip.__next__» ⟨[.ref q], []⟩) Q E t := by
  show wpAny _ _ (field (.ref q) 2 >>= _) _ _ _
  refine wpAny_bind (wpAny_field hq rfl (x := .bool sb) rfl ?_)
  show wpAny _ _ (field (.ref q) 3 >>= _) _ _ _
  refine wpAny_bind (wpAny_field hq rfl (x := .ref ti) rfl ?_)
  refine wpAny_bind (wpAny_seqItems hti rfl ?_)
  show wpAny _ _ (Builtin.SmallTypes.ownedTupleIsFree (.ref q) >>= _) _ _ _
  refine wpAny_bind ?_
  unfold Builtin.SmallTypes.ownedTupleIsFree
  refine wpAny_bind (wpAny_field hq rfl (x := .none) rfl (wpAny_pure ?_))
  simp only [if_true]
  refine wpAny_bind (wpAny_rule ?_)
  refine wpAny_bind (wpAny_field hq rfl (x := .ref to) rfl ?_)
  refine wpAny_bind (wpAny_setField_rec hq (by simp) fun h₁ hq₁ s₁ => ?_)
  replace hq₁ : ZipO sb h₁ q ti to .ellipsis := hq₁
  refine wpAny_bind ?_
  simp only [List.zipIdx_cons, List.zipIdx_nil, List.forIn_cons, List.forIn_nil]
  have A1 : ItS k1 h₁ u1 m1 i := a1.at' fun o e => s₁.extBut _ _ D.i1z e
  have B1 : SrcS k1 h₁ m1 xs := b1.at' fun o e => s₁.extBut _ _ D.l1z e
  cases sb with
  | false =>
    refine wpAny_bind (wpAny_bind (wpAny_onRaise ?_))
    show wpAny _ _ (Builtin.SmallTypes.nextOf (.ref u1) >>= _) _ _ _
    have fin : ∀ {h₂ : Heap} {e : Addr}, (∀ c o, c ≠ q → c ≠ to → c ≠ u1 → c ≠ u2 → t.heap.get? c = some o → h₂.get? c = some o) → ZipO false h₂ q ti to .ellipsis → (∃ o, h₂.get? e = some o ∧ o.cls = .type "StopIteration") →
        wpAny (model prog w) A (setField (.ref q) 0 .none) (fun _ t' => E (.ref e) t') E { t with heap := h₂ } := fun {h₂ e} k kq he => by
      obtain ⟨o, ho, hc⟩ := he
      have neq : e ≠ q := fun z => by subst z; rw [kq] at ho; cases ho; simp at hc
      exact wpAny_setField_rec kq (by simp) fun h₃ _ s₃ => hE h₃ e (fun c o n1 n2 n3 n4 x => s₃.extBut _ _ n1 (k c o n1 n2 n3 n4 x)) ⟨o, s₃.extBut _ _ neq ho, hc⟩
    cases hx1 : xs[i]? with
    | none =>
      refine wpAny_bind (drw_end (t := { t with heap := h₁ }) hh A1 B1 hx1 fun h₂ e s₂ he => ?_)
      exact fin (fun c o n1 _ n3 _ x => s₂ _ _ n3 (s₁.extBut _ _ n1 x)) (s₂ _ _ D.i1z.symm hq₁) he
    | some x =>
      have hy1 : ys[j]? = none := by
        rcases hx with z | z
        · exact z.2
        · rw [hx1] at z; cases z.1
      refine wpAny_bind (drw_item (t := { t with heap := h₁ }) A1 B1 hx1 fun h₂ A2 s₂ => wpAny_pure ?_)
      have hto₂ : IsPair h₂ to a b := s₂.extBut _ _ D.TOi1 (s₁.extBut _ _ D.TOz hto)
      refine wpAny_bind (wpAny_seqItems hto₂ rfl ?_)
      refine wpAny_bind (wpAny_updateSeq_pair hto₂ fun h₃ hto₃ s₃ => ?_)
      refine wpAny_bind (wpAny_letGo (wpAny_pure ?_))
      have A3 : ItS k2 h₃ u2 m2 j := ((a2.at' fun o e => s₁.extBut _ _ D.i2z e).at' fun o e => s₂.extBut _ _ D.i12.symm e).at' fun o e => s₃.extBut _ _ D.TOi2.symm e
      have B3 : SrcS k2 h₃ m2 ys := ((b2.at' fun o e => s₁.extBut _ _ D.l2z e).at' fun o e => s₂.extBut _ _ D.l2i1 e).at' fun o e => s₃.extBut _ _ D.l2TO e
      refine wpAny_bind (wpAny_bind (wpAny_onRaise ?_))
      show wpAny _ _ (Builtin.SmallTypes.nextOf (.ref u2) >>= _) _ _ _
      refine wpAny_bind (drw_end (t := { t with heap := h₃ }) hh A3 B3 hy1 fun h₄ e s₄ he => ?_)
      exact fin (fun c o n1 n2 n3 n4 x => s₄ _ _ n4 (s₃.extBut _ _ n2 (s₂.extBut _ _ n3 (s₁.extBut _ _ n1 x)))) (s₄ _ _ D.i2z.symm (s₃.extBut _ _ D.TOz.symm (s₂.extBut _ _ D.i1z.symm hq₁))) he
  | true =>
    have hx1 : xs[i]? = none := by
      rcases hx with z | z
      · cases z.1
      · exact z.1
    have hy1 : ys[j]? = none := by
      rcases hx with z | z
      · cases z.1
      · exact z.2 rfl
    refine wpAny_bind (wpAny_bind (wpAny_onRaise ?_))
    show wpAny _ _ (Builtin.SmallTypes.nextOrEnd (.ref u1)) _ _ _
    refine dre_end (t := { t with heap := h₁ }) hh A1 B1 hx1 fun h₂ s₂ => ?_
    have hq₂ : ZipO true h₂ q ti to .ellipsis := s₂ _ _ D.i1z.symm hq₁
    refine wpAny_bind (wpAny_setField_rec (s := { t with heap := h₂ }) hq₂ (by simp) fun h₃ hq₃ s₃ => ?_)
    have A3 : ItS k2 h₃ u2 m2 j := ((a2.at' fun o e => s₁.extBut _ _ D.i2z e).at' fun o e => s₂ _ _ D.i12.symm e).at' fun o e => s₃.extBut _ _ D.i2z e
    have B3 : SrcS k2 h₃ m2 ys := ((b2.at' fun o e => s₁.extBut _ _ D.l2z e).at' fun o e => s₂ _ _ D.l2i1 e).at' fun o e => s₃.extBut _ _ D.l2z e
    refine wpAny_bind ?_
    refine wpAny_bind ?_
    simp only [List.drop_succ_cons, List.drop_zero, List.zipIdx_cons, List.zipIdx_nil, List.forIn_cons, List.forIn_nil]
    refine wpAny_bind (wpAny_bind (dre_end (t := { t with heap := h₃ }) hh A3 B3 hy1 fun h₄ s₄ => ?_))
    refine wpAny_pure ?_
    refine wpAny_pure ?_
    refine wpAny_bind (wpAny_rule ?_)
    show wpAny _ _ (newExc (.type "StopIteration") [] >>= _) _ _ _
    refine wpAny_bind ?_
    simp only [newExc, newTuple]
    refine wpAny_bind (wpAny_newObj_type ?_ (by size_fits))
    refine wpAny_bind (m := firstArgMember _ _) (wpAny_of_eq (a := Value.none) (by first | rfl | (simp only [firstArgMember]; rfl)) ?_)
    refine wpAny_newObj_type ?_ (by size_fits)
    simp only [raiseNew]
    refine wpAny_bind (wpAny_handled ?_)
    first | rw [show A.in1.handled = none from hh] | rw [hh]
    refine wpAny_bind (wpAny_pure (wpAny_throw ?_))
    refine hE _ _ (fun c o n1 n2 n3 n4 x => ?_) ⟨_, Heap.get?_push_size _ rfl, rfl⟩
    exact Heap.get?_push_of_some _ (Heap.get?_push_of_some _ (s₄ _ _ n4 (s₃.extBut _ _ n1 (s₂ _ _ n3 (s₁.extBut _ _ n1 x)))))
theorem nx_item {sb k1 k2 : Bool} {q ti to u1 u2 m1 m2 : Addr} {i j : Nat} {xs ys : Array Value} {x y a b : Value} {Q : Option Value → Shared → Prop} (D : ZipApart q ti to u1 u2 m1 m2)
    (hq : ZipO sb t.heap q ti to .none) (hti : IsPair t.heap ti (.ref u1) (.ref u2)) (hto : IsPair t.heap to a b)
    (a1 : ItS k1 t.heap u1 m1 i) (a2 : ItS k2 t.heap u2 m2 j) (b1 : SrcS k1 t.heap m1 xs) (b2 : SrcS k2 t.heap m2 ys) (hx : xs[i]? = some x) (hy : ys[j]? = some y)
    (hQ : ∀ h', ZipO sb h' q ti to (rawInt t.heap.objs.size) → IsPair h' to x y → ItS k1 h' u1 m1 (i + 1) → ItS k2 h' u2 m2 (j + 1) → IsPair h' t.heap.objs.size x y →
      (∀ c o, c ≠ q → c ≠ to → c ≠ u1 → c ≠ u2 → t.heap.get? c = some o → h'.get? c = some o) → Q (some (.ref t.heap.objs.size)) { t with heap := h' }) :
    wpAny (model prog w) A (pyNext (.ref q)) Q E t := by
  have ty : t.TypeIs (.ref q) "zip" := ⟨_, hq, rfl⟩
  unfold pyNext
  refine wpAny_bind (wpAny_attempt (wpAny_callSpecial?_slot (name := Str.ofString "__next__") ty F.slot_zip_next (wpAny_call_entry F.slot_zip_next ty F.entry_zip_next ?_ (F.args_zip_next_1 _))))
  exact zo_item D hq hti hto a1 a2 b1 b2 hx hy fun h' r1 r2 r3 r4 r5 r6 => wpAny_pure (hQ h' r1 r2 r3 r4 r5 r6)
theorem nx_end {sb k1 k2 : Bool} {q ti to u1 u2 m1 m2 : Addr} {i j : Nat} {xs ys : Array Value} {a b : Value} {Q : Option Value → Shared → Prop} (hh : A.handled = none) (D : ZipApart q ti to u1 u2 m1 m2)
    (hq : ZipO sb t.heap q ti to .none) (hti : IsPair t.heap ti (.ref u1) (.ref u2)) (hto : IsPair t.heap to a b)
    (a1 : ItS k1 t.heap u1 m1 i) (a2 : ItS k2 t.heap u2 m2 j) (b1 : SrcS k1 t.heap m1 xs) (b2 : SrcS k2 t.heap m2 ys) (hx : (sb = false ∧ ys[j]? = none) ∨ (xs[i]? = none ∧ (sb = true → ys[j]? = none)))
    (hQ : ∀ h', (∀ c o, c ≠ q → c ≠ to → c ≠ u1 → c ≠ u2 → t.heap.get? c = some o → h'.get? c = some o) → Q none { t with heap := h' }) : wpAny (model prog w) A (pyNext (.ref q)) Q E t := by
  have ty : t.TypeIs (.ref q) "zip" := ⟨_, hq, rfl⟩
  unfold pyNext
  refine wpAny_bind (wpAny_attempt (wpAny_callSpecial?_slot (name := Str.ofString "__next__") ty F.slot_zip_next (wpAny_call_entry F.slot_zip_next ty F.entry_zip_next (zo_end hh D hq hti hto a1 a2 b1 b2 hx ?_) (F.args_zip_next_1 _))))
  intro h' e k ⟨o, ho, hc⟩
  exact wpAny_bind (wpAny_isInstance (T := "StopIteration") (b := true) ⟨o, ho, hc⟩ isSubtype_stop (wpAny_pure (hQ _ k)))
theorem lgo {sb : Bool} {elts : List Expr} {x1} {pos : Pos} {q ti to b : Addr} {Q : Unit → Shared → Prop} (hq : ZipO sb t.heap q ti to (rawInt b)) (hQ : ∀ h', ZipO sb h' q ti to .none → Heap.SameBut q t.heap h' → Q () { t with heap := h' }) :
    wpAny (model prog w) A (letOwnedTupleGo (.Tuple elts x1 pos) (.ref q) (.ref b)) Q E t := by
  unfold letOwnedTupleGo
  refine wpAny_bind (wpAny_load hq ?_)
  have e0 : (#[rawInt b, .bool false, .bool sb, .ref ti, .ref to] : Array Value)[0]? = some (rawInt b) := rfl
  simp only [e0]
  rw [if_pos (by simp)]
  refine wpAny_bind (wpAny_rule ?_)
  show wpAny _ _ (setField (.ref q) 0 .none) Q E t
  exact wpAny_setField_rec hq (by simp) fun h' r1 r2 => hQ h' r1 r2
theorem itr {sb : Bool} {q ti to : Addr} {f0 : Value} {Q : Value → Shared → Prop} (hq : ZipO sb t.heap q ti to f0) (h : Q (.ref q) t) : wpAny (model prog w) A (pyIter (.ref q)) Q E t := by
  have ty : t.TypeIs (.ref q) "zip" := ⟨_, hq, rfl⟩
  refine wpAny_pyIter_slot ty F.slot_zip_iter (wpAny_call_entry F.slot_zip_iter ty F.entry_zip_iter ?_ (F.args_zip_iter_1 _))
  show wpAny _ _ (ret (.ref q)) _ _ t
  exact wpAny_pure ⟨_, rfl, "zip", _, ty, F.slot_zip_next.lookup, h⟩
end
/-! ### zip(a, b) and zip(a, b, strict=True) -/
def itO (kd : Bool) (m : Addr) : Obj := { cls := .type (if kd then "tuple_iterator" else "list_iterator"), data := .fields #[.ref m, .int 0 0] }
def zkw : Bool → List (Str × Value)
  | true => [(Str.ofString "strict", .bool true)]
  | false => []
def zpA (k1 : Bool) (h : Heap) (m1 : Addr) : Heap := h.push (itO k1 m1)
def zpB (k1 k2 : Bool) (h : Heap) (m1 m2 : Addr) : Heap := (zpA k1 h m1).push (itO k2 m2)
def zpC (k1 k2 : Bool) (h : Heap) (m1 m2 : Addr) : Heap := (zpB k1 k2 h m1 m2).push { cls := .type "tuple", data := .seq #[.ref h.objs.size, .ref (zpA k1 h m1).objs.size] }
def zpD (k1 k2 : Bool) (h : Heap) (m1 m2 : Addr) : Heap := (zpC k1 k2 h m1 m2).push { cls := .type "tuple", data := .seq #[.none, .none] }
def zpE (sb k1 k2 : Bool) (h : Heap) (m1 m2 : Addr) : Heap := (zpD k1 k2 h m1 m2).push { cls := .type "zip", data := .fields #[.none, .bool false, .bool sb, .ref (zpB k1 k2 h m1 m2).objs.size, .ref (zpC k1 k2 h m1 m2).objs.size] }
theorem iter_src {prog : Program} {w : World} {A : Around} {E : Value → Shared → Prop} {t : Shared} {kd : Bool} {m : Addr} {xs : Array Value} {Q : Value → Shared → Prop} (b : SrcS kd t.heap m xs)
    (hQ : Q (.ref t.heap.objs.size) { t with heap := t.heap.push (itO kd m) }) : wpAny (model prog w) A (pyIter (.ref m)) Q E t := by
  cases kd with
  | true => exact wpAny_pyIter_tuple (show t.heap.IsTuple m xs from b) hQ
  | false => exact wpAny_pyIter_list (show t.heap.IsList m xs from b) hQ
theorem SrcS.push {kd : Bool} {h : Heap} {m : Addr} {xs : Array Value} (x : SrcS kd h m xs) (o : Obj) : SrcS kd (h.push o) m xs := x.at' fun _ e => Heap.get?_push_of_some _ e
set_option maxHeartbeats 4000000 in
theorem meets_zo (sb k1 k2 : Bool) (m1 m2 : Addr) (xs ys : Array Value) : Meets (Builtin.«zip.__new__» ⟨[.type "zip", .ref m1, .ref m2], zkw sb⟩) (fun _ R t => SrcS k1 t.heap m1 xs ∧ SrcS k2 t.heap m2 ys ∧
      R (.ok (.ret (.ref (zpD k1 k2 t.heap m1 m2).objs.size))) { t with heap := zpE sb k1 k2 t.heap m1 m2 }) := by
  refine .of_wp fun prog w A R t h => ?_
  obtain ⟨hp, g, d, tk, os⟩ := t
  obtain ⟨b1, b2, h⟩ := h
  have hsub := sub_zip
  have B1 : SrcS k1 (Shared.heap ⟨hp, g, d, tk, os⟩) m1 xs := b1
  have B2 : SrcS k2 (Shared.heap ⟨hp.push (itO k1 m1), g, d, tk, os⟩) m2 ys := SrcS.push b2 _
  cases sb with
  | false =>
    show wpAny _ _ (Builtin.«zip.__new__» ⟨[.type "zip", .ref m1, .ref m2], []⟩) _ _ _
    wp_walk using iter_src B1, iter_src B2
    exact ⟨_, rfl, h⟩
  | true =>
    show wpAny _ _ (Builtin.«zip.__new__» ⟨[.type "zip", .ref m1, .ref m2], [(Str.ofString "strict", .bool true)]⟩) _ _ _
    have e1 : (Str.ofString "strict" == ("strict" : Str)) = true := by decide +kernel
    have e2 : (Str.ofString "strict" != ("strict" : Str)) = false := by decide +kernel
    wp_walk using iter_src B1, iter_src B2
    exact ⟨_, rfl, h⟩
end Mp

namespace Mp
open PySem L2 PyProof.Rows
open Sem (wp)
theorem tcall_zs (a b c : Value) : checkTypeCall "zip" ⟨[a, b], [(Str.ofString "strict", c)]⟩ = pure () := by kernel_rfl
theorem ncall_zs (a b c : Value) : checkBuiltinCall "zip.__new__" ⟨[.type "zip", a, b], [(Str.ofString "strict", c)]⟩ = pure () := by kernel_rfl
theorem oinit_zs (o a b c : Value) : argsOk "object.__init__" ⟨[o, a, b], [(Str.ofString "strict", c)]⟩ := by unfold argsOk; kernel_rfl
section
variable {prog : Program} {w : World} {A : Around} {E : Value → Shared → Prop} {t : Shared}
theorem call_zo {sb k1 k2 : Bool} {m1 m2 : Addr} {xs ys : Array Value} {Q : Value → Shared → Prop} (b1 : SrcS k1 t.heap m1 xs) (b2 : SrcS k2 t.heap m2 ys)
    (h : ∀ h', ZipO sb h' (t.heap.objs.size + 4) (t.heap.objs.size + 2) (t.heap.objs.size + 3) .none → IsPair h' (t.heap.objs.size + 2) (.ref t.heap.objs.size) (.ref (t.heap.objs.size + 1)) →
      IsPair h' (t.heap.objs.size + 3) .none .none → ItS k1 h' t.heap.objs.size m1 0 → ItS k2 h' (t.heap.objs.size + 1) m2 0 → (∀ c o, t.heap.get? c = some o → h'.get? c = some o) → Q (.ref (t.heap.objs.size + 4)) { t with heap := h' }) :
    wpAny (model prog w) A (PySem.call (.type "zip") [.ref m1, .ref m2] (zkw sb)) Q E t := by
  have fin : wants (fun obj s₁ => s₁.TypeIs obj "zip" ∧ Q obj s₁) E (.ok (.ret (.ref (zpD k1 k2 t.heap m1 m2).objs.size))) { t with heap := zpE sb k1 k2 t.heap m1 m2 } := by
    have n1 : (zpA k1 t.heap m1).objs.size = t.heap.objs.size + 1 := Heap.size_push ..
    have n2 : (zpB k1 k2 t.heap m1 m2).objs.size = t.heap.objs.size + 2 := by unfold zpB; rw [Heap.size_push, n1]
    have n3 : (zpC k1 k2 t.heap m1 m2).objs.size = t.heap.objs.size + 3 := by unfold zpC; rw [Heap.size_push, n2]
    have n4 : (zpD k1 k2 t.heap m1 m2).objs.size = t.heap.objs.size + 4 := by unfold zpD; rw [Heap.size_push, n3]
    have up1 : ∀ c o, t.heap.get? c = some o → (zpA k1 t.heap m1).get? c = some o := fun c o x => Heap.get?_push_of_some _ x
    have up2 : ∀ c o, (zpA k1 t.heap m1).get? c = some o → (zpB k1 k2 t.heap m1 m2).get? c = some o := fun c o x => Heap.get?_push_of_some _ x
    have up3 : ∀ c o, (zpB k1 k2 t.heap m1 m2).get? c = some o → (zpC k1 k2 t.heap m1 m2).get? c = some o := fun c o x => Heap.get?_push_of_some _ x
    have up4 : ∀ c o, (zpC k1 k2 t.heap m1 m2).get? c = some o → (zpD k1 k2 t.heap m1 m2).get? c = some o := fun c o x => Heap.get?_push_of_some _ x
    have up5 : ∀ c o, (zpD k1 k2 t.heap m1 m2).get? c = some o → (zpE sb k1 k2 t.heap m1 m2).get? c = some o := fun c o x => Heap.get?_push_of_some _ x
    have nf : ∀ k m, (itO k m).isFreed = false := fun k m => rfl
    have p1 : (zpE sb k1 k2 t.heap m1 m2).get? t.heap.objs.size = some (itO k1 m1) := up5 _ _ (up4 _ _ (up3 _ _ (up2 _ _ (Heap.get?_push_size _ (nf k1 m1)))))
    have p2 : (zpE sb k1 k2 t.heap m1 m2).get? (zpA k1 t.heap m1).objs.size = some (itO k2 m2) := up5 _ _ (up4 _ _ (up3 _ _ (Heap.get?_push_size _ (nf k2 m2))))
    have p3 : (zpE sb k1 k2 t.heap m1 m2).get? (zpB k1 k2 t.heap m1 m2).objs.size = some _ := up5 _ _ (up4 _ _ (Heap.get?_push_size _ rfl))
    have p4 : (zpE sb k1 k2 t.heap m1 m2).get? (zpC k1 k2 t.heap m1 m2).objs.size = some _ := up5 _ _ (Heap.get?_push_size _ rfl)
    have p5 : (zpE sb k1 k2 t.heap m1 m2).get? (zpD k1 k2 t.heap m1 m2).objs.size = some _ := Heap.get?_push_size _ rfl
    show _ ∧ _
    rw [n2, n3, n4] at p5
    rw [n3] at p4
    rw [n1, n2] at p3
    rw [n1] at p2
    rw [n4]
    refine ⟨⟨_, p5, rfl⟩, h _ p5 p3 p4 ?_ ?_ fun c o x => up5 _ _ (up4 _ _ (up3 _ _ (up2 _ _ (up1 _ _ x))))⟩
    · cases k1 with
      | true => exact ⟨_, p1, rfl, rfl⟩
      | false => exact ⟨_, p1, rfl, rfl⟩
    · cases k2 with
      | true => exact ⟨_, p2, rfl, rfl⟩
      | false => exact ⟨_, p2, rfl, rfl⟩
  cases sb with
  | false => exact callType_new F.called_zip (by decide) (F.typeCall_zip_2 _ _) (F.newCall_zip_2 _ _) (fun o => F.args_object_init_3 o _ _) F.entry_zip_new (meets_zo false k1 k2 m1 m2 xs ys) ⟨b1, b2, fin⟩
  | true => exact callType_newKw F.called_zip (by decide) (tcall_zs _ _ _) (ncall_zs _ _ _) (fun o => oinit_zs o _ _ _) F.entry_zip_new (meets_zo true k1 k2 m1 m2 xs ys) ⟨b1, b2, fin⟩
end

/-! ### as a walk -/
def SqK (kd : Bool) (K : PySem.W.Frag) (H : Hp) (a : Addr) (xs : List V) : Prop := if kd then SqT K H a xs else SqL K H a xs
/-- what stands at a and b at each turn, item by item, in new pairs -/
def ItZ (sb k1 k2 : Bool) (K : PySem.W.Frag) (a b : Addr) : L2.It :=
  ⟨fun i H => ∃ (xs ys : List V) (x y : V), SqK k1 K H a xs ∧ SqK k2 K H b ys ∧ xs[i]? = some x ∧ ys[i]? = some y,
    fun i H v H' => ∃ c x y, v = .ref c ∧ H c = none ∧ H' = upd H c (.tup [x, y]) ∧ (∀ xs, SqK k1 K H a xs → xs[i]? = some x) ∧ ∀ ys, SqK k2 K H b ys → ys[i]? = some y,
    fun i H => ∃ xs ys : List V, SqK k1 K H a xs ∧ SqK k2 K H b ys ∧ (xs.length ≤ i ∨ ys.length ≤ i) ∧ (sb = true → xs.length = ys.length)⟩
theorem sqk_src {X : Cx} {pins : List (Addr × Obj)} {σ : L2.St} {H : Hp} {t : Shared} {kd : Bool} {a : Addr} {xs : List V} (I : L2.Inv X pins σ H t) (h : SqK kd X.K H a xs) :
    ∃ its : List Value, Vals xs its ∧ SrcS kd t.heap a its.toArray := by
  cases kd with
  | true =>
    obtain ⟨its, r, p, _⟩ := I.tuple (show SqT X.K H a xs from h)
    exact ⟨its, r, p⟩
  | false =>
    obtain ⟨its, r, p, _⟩ := I.list (show SqL X.K H a xs from h)
    exact ⟨its, r, p.isList⟩
theorem sqk_inj {X : Cx} {pins : List (Addr × Obj)} {σ : L2.St} {H : Hp} {t : Shared} {kd : Bool} {a : Addr} {xs ys : List V} (I : L2.Inv X pins σ H t) (h : SqK kd X.K H a xs) (h' : SqK kd X.K H a ys) : xs = ys := by
  cases kd with
  | true => exact I.tuple_inj (show SqT X.K H a xs from h) h'
  | false => exact I.list_inj (show SqL X.K H a xs from h) h'
theorem turn_zo {P : Program} {w : World} {K : PySem.W.Frag} {elts : List Expr} {kk : Nat} {tpos : Pos} {sb k1 k2 : Bool} {a b q ti to u1 u2 : Addr} (D : ZipApart q ti to u1 u2 a b) :
    Turn P w K (.Tuple elts kk tpos) (ItZ sb k1 k2 K a b) [q, ti, to, u1, u2] q (fun i h => ZipO sb h q ti to .none ∧ IsPair h ti (.ref u1) (.ref u2) ∧ (∃ x y, IsPair h to x y) ∧ ItS k1 h u1 a i ∧ ItS k2 h u2 b i) where
  mem := by simp
  obj := by
    rintro i h ⟨hq, hti, ⟨x, y, hto⟩, a1, a2⟩ c hc
    rcases (show c = q ∨ c = ti ∨ c = to ∨ c = u1 ∨ c = u2 by simpa using hc) with rfl | rfl | rfl | rfl | rfl
    · exact ⟨_, hq, fun v z => nomatch z⟩
    · exact ⟨_, hti, fun v z => nomatch z⟩
    · exact ⟨_, hto, fun v z => nomatch z⟩
    · exact a1.there
    · exact a2.there
  keep := by
    rintro i h h' ⟨hq, hti, ⟨x, y, hto⟩, a1, a2⟩ k
    exact ⟨k q (by simp) _ hq, k ti (by simp) _ hti, ⟨x, y, k to (by simp) _ hto⟩, a1.at' fun o e => k u1 (by simp) o e, a2.at' fun o e => k u2 (by simp) o e⟩
  item := by
    intro X hP hw hK hc i pins t σ H E I hf st hg
    subst hP hw hK
    obtain ⟨hq, hti, ⟨x0, y0, hto⟩, a1, a2⟩ := st
    obtain ⟨xs, ys, x, y, s1, s2, hx, hy⟩ := hg
    obtain ⟨its, rv, b1⟩ := sqk_src I s1
    obtain ⟨its', rv', b2⟩ := sqk_src I s2
    obtain ⟨u, hu, ru⟩ := rv.get hx
    obtain ⟨u', hu', ru'⟩ := rv'.get hy
    have lq : q < t.heap.objs.size := Heap.lt_size hq
    refine nx_item D hq hti hto a1 a2 b1 b2 (x := u) (y := u') (by simpa using hu) (by simpa using hu') fun h' hq' hto' a1' a2' new k => ?_
    refine ⟨_, rfl, lgo (t := { t with heap := h' }) hq' fun h'' hq'' sm => ?_⟩
    have put : h''.get? t.heap.objs.size = some { cls := .type "tuple", data := .seq #[u, u'] } := (sm.2 _ (Nat.ne_of_gt lq)).trans new
    have ok : ObjOk X.prog X.w (upd H t.heap.objs.size (.tup [x, y])) h'' t.heap.objs.size (.tup [x, y]) :=
      ⟨by show 2 ≤ sizeLine; decide, [u, u'], .cons ru (.cons ru' .nil), ⟨_, put, rfl, _, rfl⟩⟩
    have I1 : L2.Inv X pins σ (upd H t.heap.objs.size (.tup [x, y])) { t with heap := h'' } := by
      refine I.turnedNew (t' := t.toks) (ch := [q, ti, to, u1, u2]) (fun c ob hb z => ?_) hf (Nat.le_refl _) ok
      have nm : c ≠ q ∧ c ≠ ti ∧ c ≠ to ∧ c ≠ u1 ∧ c ≠ u2 := by simpa using hb
      exact (sm.2 c nm.1).trans (k c ob nm.1 nm.2.2.1 nm.2.2.2.1 nm.2.2.2.2 z)
    refine ⟨.ref t.heap.objs.size, _, I1, rfl, ⟨_, x, y, rfl, I.hok.fresh (Nat.le_refl _), rfl, fun l hl => by rw [sqk_inj I hl s1]; exact hx, fun l hl => by rw [sqk_inj I hl s2]; exact hy⟩, ⟨hq'', ?_, ⟨u, u', ?_⟩, ?_, ?_⟩, fun c hcm => ?_⟩
    · exact (sm.2 _ D.TIz).trans (k _ _ D.TIz D.TITO D.TIi1 D.TIi2 hti)
    · exact (sm.2 _ D.TOz).trans hto'
    · exact a1'.at' fun o z => (sm.2 _ D.i1z).trans z
    · exact a2'.at' fun o z => (sm.2 _ D.i2z).trans z
    · have old : c < t.heap.objs.size := by
        rcases (show c = q ∨ c = ti ∨ c = to ∨ c = u1 ∨ c = u2 by simpa using hcm) with rfl | rfl | rfl | rfl | rfl
        · exact lq
        · exact Heap.lt_size hti
        · exact Heap.lt_size hto
        · obtain ⟨_, z, _⟩ := a1.there; exact Heap.lt_size z
        · obtain ⟨_, z, _⟩ := a2.there; exact Heap.lt_size z
      rw [upd_ne (Nat.ne_of_lt old)]
      exact (hf c hcm).1
  done := by
    intro X hP hw hK hc i pins t σ H E I hf st hg
    subst hP hw hK
    obtain ⟨hq, hti, ⟨x0, y0, hto⟩, a1, a2⟩ := st
    obtain ⟨xs, ys, s1, s2, hend, hs⟩ := hg
    obtain ⟨its, rv, b1⟩ := sqk_src I s1
    obtain ⟨its', rv', b2⟩ := sqk_src I s2
    have l1 := rv.length
    have l2 := rv'.length
    have hx : (sb = false ∧ its'.toArray[i]? = none) ∨ (its.toArray[i]? = none ∧ (sb = true → its'.toArray[i]? = none)) := by
      cases sb with
      | false =>
        rcases hend with z | z
        · exact .inr ⟨by simp; omega, fun e => nomatch e⟩
        · exact .inl ⟨rfl, by simp; omega⟩
      | true =>
        have e := hs rfl
        exact .inr ⟨by simp; omega, fun _ => by simp; omega⟩
    refine nx_end (I.ok.hd hc) D hq hti hto a1 a2 b1 b2 hx fun h' k => ⟨rfl, ?_⟩
    refine I.turnedL (t' := t.toks) (ch := [q, ti, to, u1, u2]) (fun c ob hb z => ?_) hf
    have nm : c ≠ q ∧ c ≠ ti ∧ c ≠ to ∧ c ≠ u1 ∧ c ≠ u2 := by simpa using hb
    exact k c ob nm.1 nm.2.2.1 nm.2.2.2.1 nm.2.2.2.2 z
  self := fun A i t Q E st h => itr st.1 h
end Mp
namespace Mp
open PySem L2 PyProof.Rows
open Sem (wp)
theorem cw_typeKw {M : Model} {A : Around} {env : Env} {E : Value → Shared → Prop} {t : Shared} {pos : Pos} {T : String} {e : Expr} {rest : List Expr} {kws : List Keyword} {Q : Value → Shared → Prop}
    (h : wpAny M A (spliced (backTo pos (starEach (e :: rest) env))) (fun vs s₁ => wpAny M A (evalAll ((backToKw pos (keywordEach kws env)).map (·.2)))
      (fun ks s₂ => wpAny M A (PySem.call (.type T) vs (((backToKw pos (keywordEach kws env)).filterMap (·.1)).zip ks)) Q E s₂) E s₁) E t)
    (he : backTo pos (starEach (e :: rest) env) = (false, eval e env) :: backTo pos (starEach rest env)) (hp : (backTo pos (starEach (e :: rest) env)).any (·.1) = false)
    (ha : (backToKw pos (keywordEach kws env)).all (·.1.isSome) = true) (hk : (backToKw pos (keywordEach kws env)).any (·.1.isNone) = false) :
    wpAny M A (callWith pos (.type T) [] (backTo pos (starEach (e :: rest) env)) (backToKw pos (keywordEach kws env))) Q E t := by
  unfold callWith
  have h1 : wpAny M A (evalArgs (.type T) true (backTo pos (starEach (e :: rest) env)) (backToKw pos (keywordEach kws env))) (fun a s₁ => wpAny M A (PySem.call (.type T) ([] ++ a.pos) a.kw) Q E s₁) E t := by
    rw [he] at h ⊢
    exact evalArgs_kwB ha h
  refine wpAny_bind (wpAny_holding (wpAny_mono h1 (fun a s₁ h₁ => wpAny_bind (wpAny_standAt ?_)) fun _ _ x => x))
  simp only [hp, hk, Bool.or_false]
  refine wpAny_bind (wpAny_pure ?_)
  exact wpAny_bind (wpAny_mono h₁ (fun r s₂ hr => wpAny_bind (wpAny_holding (wpAny_point (wpAny_pure hr)))) fun _ _ x => x)
def iZo (sb : Bool) (K : PySem.W.Frag) (ta : TA) : TI := fun σ H R => ta σ H fun vs H1 => ∃ a b k1 k2 xs ys, vs = [.ref a, .ref b] ∧ SqK k1 K H1 a xs ∧ SqK k2 K H1 b ys ∧ R (ItZ sb k1 k2 K a b) H1
section
variable {X : Cx} {e e2 : Expr} {ta : TA} {p pos tpos : Pos} {elts : List Expr} {kk : Nat}
/-- where the zip has come -/
theorem zo_come {sb k1 k2 : Bool} {pins : List (Addr × Obj)} {σ : L2.St} {H1 : Hp} {t1 : Shared} {a b : Addr} {xs ys : List V} {R : L2.It → Hp → Prop} (I1 : L2.Inv X pins σ H1 t1) (s1 : SqK k1 X.K H1 a xs) (s2 : SqK k2 X.K H1 b ys) (q : R (ItZ sb k1 k2 X.K a b) H1) :
    wpAny (model X.prog X.w) X.A (PySem.call (.type "zip") [.ref a, .ref b] (zkw sb)) (fun v s' => wpAny (model X.prog X.w) X.A (pyIter v) (PIE X pins σ (.Tuple elts kk tpos) R) X.xe s') X.xe t1 := by
  obtain ⟨its, rv, b1⟩ := sqk_src I1 s1
  obtain ⟨its', rv', b2⟩ := sqk_src I1 s2
  have fre : ∀ c ∈ [t1.heap.objs.size + 4, t1.heap.objs.size + 2, t1.heap.objs.size + 3, t1.heap.objs.size, t1.heap.objs.size + 1], FpOk X pins H1 c := by
    intro c hc
    have hle : t1.heap.objs.size ≤ c := by
      rcases (show c = t1.heap.objs.size + 4 ∨ c = t1.heap.objs.size + 2 ∨ c = t1.heap.objs.size + 3 ∨ c = t1.heap.objs.size ∨ c = t1.heap.objs.size + 1 by simpa using hc) with rfl | rfl | rfl | rfl | rfl
      · exact Nat.le_add_right _ _
      · exact Nat.le_add_right _ _
      · exact Nat.le_add_right _ _
      · exact Nat.le_refl _
      · exact Nat.le_add_right _ _
    exact I1.fpOk hle (I1.hok.fresh hle)
  have lt : ∀ {kd : Bool} {m : Addr} {zs : Array Value}, SrcS kd t1.heap m zs → m < t1.heap.objs.size := fun {kd m zs} z => by
    cases kd with
    | true => obtain ⟨o, ho, _⟩ := (show t1.heap.IsTuple m zs from z); exact Heap.lt_size ho
    | false => obtain ⟨o, ho, _⟩ := (show t1.heap.IsList m zs from z); exact Heap.lt_size ho
  refine call_zo b1 b2 fun h' hq hti hto a1 a2 k => itr hq ?_
  exact ⟨t1.heap.objs.size + 4, [t1.heap.objs.size + 4, t1.heap.objs.size + 2, t1.heap.objs.size + 3, t1.heap.objs.size, t1.heap.objs.size + 1], _, _, H1, rfl, I1.kept (t' := t1.toks) k,
    turn_zo (PySem.W.ktu_apart t1.heap.objs.size a b (lt b1) (lt b2)), ⟨hq, hti, ⟨_, _, hto⟩, a1, a2⟩, fre, q⟩
theorem pi_zo (hg : Gl X "zip") (hm : X.mg "zip" = none) (ha : PA X [e, e2] ta) (hs : starEach [e, e2] X.env = [(false, eval e X.env), (false, eval e2 X.env)]) (hs2 : starEach [e2] X.env = [(false, eval e2 X.env)]) :
    PI X (.Tuple elts kk tpos) (.Call (.Name "zip" p) [e, e2] [] pos) (iZo false X.K ta) := by
  constructor
  intro pins t σ H R I h
  have hs1 : starEach [e, e2] X.env = (false, eval e X.env) :: starEach [e2] X.env := by
    rw [hs, hs2]
  have hp1 : (backTo pos (starEach [e2] X.env)).any (·.1) = false := by rw [hs2]; rfl
  refine Call_ (ld_blt I hg hm boot_zip (PyProof.Rows.callWith_type1 (thn (ha.run pos pins t σ H _ I h) ?_) hs1 hp1))
  rintro us t1 ⟨vs, H1, I1, r1, a, b, k1, k2, xs, ys, rfl, s1, s2, q⟩
  cases r1 with
  | cons r rr =>
    cases rr with
    | cons r' rr =>
      cases rr
      cases r
      cases r'
      exact zo_come (sb := false) I1 s1 s2 q
theorem pi_zoS {j : Nat} {kp cp : Pos} (hg : Gl X "zip") (hm : X.mg "zip" = none) (ha : PA X [e, e2] ta) (hs : starEach [e, e2] X.env = [(false, eval e X.env), (false, eval e2 X.env)]) (hs2 : starEach [e2] X.env = [(false, eval e2 X.env)]) (hk : PE X (.Constant (.bool true) j cp) (tC (.bl true))) :
    PI X (.Tuple elts kk tpos) (.Call (.Name "zip" p) [e, e2] [⟨some (Str.ofString "strict"), .Constant (.bool true) j cp, kp⟩] pos) (iZo true X.K ta) := by
  constructor
  intro pins t σ H R I h
  have hs1 : starEach [e, e2] X.env = (false, eval e X.env) :: starEach [e2] X.env := by
    rw [hs, hs2]
  have he : backTo pos (starEach [e, e2] X.env) = (false, eval e X.env) :: backTo pos (starEach [e2] X.env) := by rw [hs1]; rfl
  have hp : (backTo pos (starEach [e, e2] X.env)).any (·.1) = false := by rw [hs]; rfl
  have pk : PK X [⟨some (Str.ofString "strict"), .Constant (.bool true) j cp, kp⟩] (tCons (tC (.bl true)) tNil) := pk_cons hk pk_nil
  refine wpAny_Call_Name_kw (ld_blt I hg hm boot_zip ?_)
  refine cw_typeKw (thn (ha.run pos pins t σ H _ I h) ?_) he hp rfl rfl
  rintro us t1 ⟨vs, H1, I1, r1, a, b, k1, k2, xs, ys, rfl, s1, s2, q⟩
  refine thn (pk.run pos pins t1 σ H1 (fun zs H2 => zs = [.bl true] ∧ H2 = H1) I1 ⟨rfl, rfl⟩) ?_
  rintro ws t2 ⟨zs, H2, I2, r2, rfl, rfl⟩
  cases r1 with
  | cons r rr =>
    cases rr with
    | cons r' rr =>
      cases rr
      cases r
      cases r'
      cases r2 with
      | cons r2 rr2 =>
        cases rr2
        cases r2
        exact zo_come (sb := true) I2 s1 s2 q
end
theorem walk_zo {K : PySem.W.Frag} {sb k1 k2 : Bool} {a b : Addr} {xs ys : List V} {n : Nat} (hn : n = min xs.length ys.length) (hl : sb = true → xs.length = ys.length) :
    L2.Walk (ItZ sb k1 k2 K a b) n (fun H => SqK k1 K H a xs ∧ SqK k2 K H b ys) (YPair (fun i => xs[i]?) (fun i => ys[i]?)) := by
  subst hn
  refine ⟨fun i _ hi q => ⟨xs, ys, _, _, q.1, q.2, List.getElem?_eq_getElem (by omega), List.getElem?_eq_getElem (by omega)⟩, fun _ q => ⟨xs, ys, q.1, q.2, by omega, hl⟩, fun i H v H' _ q y => ?_⟩
  obtain ⟨c, x, y, h1, h2, h3, h4, h5⟩ := y
  exact ⟨c, x, y, h1, h2, h3, h4 xs q.1, h5 ys q.2⟩
end Mp

/-! defs in their own words: the promise of a def where no repr is under way around the call -/
namespace Mp
open PySem L2 PyProof.Rows

/-- the promise, asked where no guard stands -/
structure FnG (P : Program) (wd : World) (K : PySem.W.Frag) (mg : Str → Option Value) (base : Heap) (CX : CXT) (k : Nat) (f : Addr) (fd : FuncData) (ps : List Str) (sp : Sp) : Prop where
  len : ∀ vs H Q E, sp vs H Q E → vs.length = ps.length
  go : ∀ (A : Around) (fs : List Env) (t : Shared) (H : Hp) (args : Args) (us : List Value) (vs : List V) (Q : VK) (E : XK), Room k A → A.guards = some [] → Env0 P wd K mg base A fs t H →
    BindsTo t fd args (ps.zip us) → Vals vs us → sp vs H Q E → codeAny (model P wd) A (.call (.ref f) args) (CR CX fs P wd H t Q E) t
section
variable {X : Cx} {CX : CXT} {k : Nat} {f : Addr} {fd : FuncData} {ps : List Str} {sp : Sp} {E : L2.St → XK}
theorem FnG.call {pins : List (Addr × Obj)} {σ : L2.St} {H : Hp} {t : Shared} {Q : VK} {us : List Value} {vs : List V} (F : FnG X.prog X.w X.K X.mg X.base CX k f fd ps sp) (hr : Room k X.A) (hg : X.A.guards = some [])
    (hb : Binds X.K fd ps []) (hx : PassesAt CX X σ (E σ)) (I : L2.Inv X pins σ H t) (r : Vals vs us) (q : sp vs H Q (E σ)) : wpAny (model X.prog X.w) X.A (PySem.call (.ref f) us) (EP X pins σ Q) X.xe t := by
  have b := hb t us I.kIn (by rw [List.append_nil, ← r.length]; exact F.len _ _ _ _ q)
  rw [List.append_nil] at b
  refine wpAny_call (codeAny_mono (F.go X.A X.stack t H ⟨us, []⟩ us vs Q (E σ) hr hg I.env0 b r q) ?_)
  intro res t' z
  match res, z with
  | .error u, z => exact hx pins H t u t' I z
  | .ok (.ret u), z => exact I.after z
  | .ok .next, z => exact z.elim
  | .ok .brk, z => exact z.elim
  | .ok .cont, z => exact z.elim
variable {x : Str} {p pos : Pos} {e : Expr} {es : List Expr} {ta : TA}
theorem FnG.pe (F : FnG X.prog X.w X.K X.mg X.base CX k f fd ps sp) (hr : Room k X.A) (hgd : X.A.guards = some []) (hg : Gl X x) (hm : X.mg x = some (.ref f)) (hk : PySem.W.keepIn X.K (.ref f) = true)
    (hb : Binds X.K fd ps []) (hx : ∀ σ, PassesAt CX X σ (E σ)) (ha : PA X (e :: es) ta) (hd : (x == ("__debug__" : Str)) = false) (h1 : starEach (e :: es) X.env = (false, eval e X.env) :: starEach es X.env)
    (h2 : (backTo pos (starEach es X.env)).any (·.1) = false) : PE X (.Call (.Name x p) (e :: es) [] pos) (tCallS sp E ta) := by
  constructor
  intro pins t σ H Q I q
  apply wpAny_Call_Name_kw (ld_glob I hg hm ?_ hd)
  apply PySem.W.callWith_K (h₀ := X.base) I.ok.mod.kin hk (thn (ha.run pos pins t σ H _ I q) ?_) h1 h2
  rintro us t1 ⟨vs, H1, I1, r, q1⟩
  exact ⟨I1.kIn, F.call hr hgd hb (hx σ) I1 r q1⟩
theorem FnG.pe0 (F : FnG X.prog X.w X.K X.mg X.base CX k f fd ps sp) (hr : Room k X.A) (hgd : X.A.guards = some []) (hg : Gl X x) (hm : X.mg x = some (.ref f)) (hk : PySem.W.keepIn X.K (.ref f) = true)
    (hb : Binds X.K fd ps []) (hx : ∀ σ, PassesAt CX X σ (E σ)) (hd : (x == ("__debug__" : Str)) = false) : PE X (.Call (.Name x p) [] [] pos) (tCallS sp E tNil) := by
  constructor
  intro pins t σ H Q I q
  apply wpAny_Call_Name_kw (ld_glob I hg hm ?_ hd)
  exact PySem.W.callWith_K0 I.kIn hk (F.call (us := []) hr hgd hb (hx σ) I .nil q)
end
/-- a def's promise from its body -/
theorem fn_ofG {P : Program} {wd : World} {K : PySem.W.Frag} {mg : Str → Option Value} {base : Heap} {k : Nat} {x qual : Str} {st : Stmt} {f : Addr} {fd : FuncData} {N ps : List Str} {sp : Sp} (Fu : Fun K x qual st f fd) (S : FnScope N ps (defScope st))
    (len : ∀ vs H Q E, sp vs H Q E → vs.length = ps.length)
    (body : ∀ (cdv : Value) (A : Around) (fs : List Env) (t : Shared) (H : Hp) (vs : List V) (Q : VK) (E : XK), Room k (A.deeper (envOfC qual (defScope st) t.heap.objs.size f cdv)) → A.guards = some [] → sp vs H Q E →
      ∃ r, PSs (cxOf (L2.CX P wd) P wd K mg base N qual (defScope st) f cdv A fs t H E) (defBody st) r ∧ r { nx := fun _ H' => Q .non H', rt := Q } (L2.start N vs) H) : FnG P wd K mg base (L2.CX P wd) (k + 1) f fd ps sp := by
  obtain ⟨oc, od, kV, doc, pm, an, cdv, ct, osl, rfl, lk, hcd⟩ := Fu.ex
  constructor
  · exact len
  intro A fs t H args us vs Q E hr hgd e0 hb r q
  have hl := len _ _ _ _ q
  have KI : K.In t.heap := e0.mod.kin.keeps (fun b o z => (e0.bs b o z).1)
  have NL : t.heap.NoLimit := e0.mod.nolimit.keeps (fun b o z => (e0.bs b o z).1)
  have kinds : ∀ y ∈ ps.zip us, (defScope st).names.lookup y.1 = some .local ∨ ((defScope st).names.lookup y.1 = some .cell ∧ ((cellsFrom (t.heap.objs.size + 1) (defScope st).names []).lookup y.1).isSome = true) := by
    rintro ⟨n, v⟩ hy
    rcases S.par n (List.of_mem_zip hy).1 with z | z
    · exact Or.inl z
    · exact Or.inr ⟨z, PySem.W.cellsFrom_some _ _ _ (Or.inl z)⟩
  refine codeAny_call_function hr.depth (KI _ _ lk) rfl S.co S.gen rfl (PySem.W.codeRec_of KI hcd) (hb _ _ _ _ (wpAny_newFunctionEnv_cells S.kind kinds ?_))
  intro env he t1 z
  subst he
  refine And.intro (NL.keeps z.toInCall.keep) (codeAny_func ?_)
  obtain ⟨rd, hs, hq⟩ := body cdv A fs t H vs Q E (hr.deeper _) hgd q
  have I : L2.Inv (cxOf (L2.CX P wd) P wd K mg base N qual (defScope st) f cdv A fs t H E) [] (L2.start N vs) H t1 := inv_start S hr.hd e0 hl r z
  have back : ∀ {σ' : L2.St} {H' : Hp} {v : V} {u : Value} {t' : Shared}, L2.Inv (cxOf (L2.CX P wd) P wd K mg base N qual (defScope st) f cdv A fs t H E) [] σ' H' t' → RelV v u → Q v H' → CE fs P wd H t Q u t' := by
    intro σ' H' v u t' J rv w
    exact ⟨v, H', J.os, J.bare, J.base, J.hok, rv, w⟩
  apply wpAny_mono (hs.run [] t1 (L2.start N vs) H _ I hq)
  · intro fl t' w
    match fl, w with
    | .ret u, ⟨v, σ', H', J, rv, w⟩ => exact back J rv w
    | .next, ⟨σ', H', J, w⟩ => exact back (v := V.non) (u := Value.none) J rfl w
    | .brk, ⟨_, _, _, w⟩ => exact w.elim
    | .cont, ⟨_, _, _, w⟩ => exact w.elim
  · intro u t' w
    exact w
end Mp

/-! expressions: what an answer means where the code stands -/
namespace Mp
open PySem L2

/-- what a raise means: the class's value C of the name c, the exception's own dict -/
def EXR (K : PySem.W.Frag) (mg : Str → Option Value) (w : Wd) (H : Hp) (c : Str) (p : Option (Str × D)) (C : Value) (d : Option Addr) : Prop :=
  mg c = some C ∧ match p with
    | none => d = none
    | some (f, y) => ∃ b x, d = some b ∧ H b = some (.xd [(f, x)]) ∧ RV K w H y x
/-- an answer of the interpreter, as it may stand behind w, H -/
def PO (K : PySem.W.Frag) (mg : Str → Option Value) (W : WX) {α : Type} (σ : L2.St) (w : Wd) (H : Hp) (m : Option (O α)) (k : α → Ev → AH → Wd → Hp → Prop) : Prop :=
  match m with
  | some (.ok a e h) => ∀ w' H', Ext w H w' H' → Rel K w' e h σ H' → k a e h w' H'
  | some (.ex c p e h) => ∀ w' H' C d, Ext w H w' H' → Rel K w' e h σ H' → EXR K mg w' H' c p C d → W C d σ H'
  | none => False
section
variable {K : PySem.W.Frag} {mg : Str → Option Value} {W : WX} {α β : Type} {σ : L2.St} {w : Wd} {H : Hp}
theorem PO.mono {m : Option (O α)} {k k' : α → Ev → AH → Wd → Hp → Prop} (p : PO K mg W σ w H m k) (f : ∀ a e h w' H', Ext w H w' H' → Rel K w' e h σ H' → k a e h w' H' → k' a e h w' H') : PO K mg W σ w H m k' := by
  unfold PO at p ⊢
  split
  · exact fun w' H' x r => f _ _ _ _ _ x r (p w' H' x r)
  · exact p
  · exact p
theorem PO.bd {m : Option (O α)} {f : α → Ev → AH → Option (O β)} {k : β → Ev → AH → Wd → Hp → Prop} (p : PO K mg W σ w H (Mp.bd m f) k) :
    PO K mg W σ w H m fun a e h w1 H1 => PO K mg W σ w1 H1 (f a e h) k := by
  cases m with
  | none => exact p
  | some o =>
    cases o with
    | ok a e h =>
      intro w1 H1 x1 r1
      have p' : PO K mg W σ w H (f a e h) k := p
      unfold PO at p' ⊢
      split
      · rename_i e2
        rw [e2] at p'
        exact fun w' H' x r => p' w' H' (x1.trans x) r
      · rename_i e2
        rw [e2] at p'
        exact fun w' H' C d x r => p' w' H' C d (x1.trans x) r
      · rename_i e2
        rw [e2] at p'
        exact p'
    | ex c q e h => exact p
theorem PO.ok {a : α} {e : Ev} {h : AH} {k : α → Ev → AH → Wd → Hp → Prop} (p : PO K mg W σ w H (some (.ok a e h)) k) {w' : Wd} {H' : Hp} (x : Ext w H w' H') (r : Rel K w' e h σ H') : k a e h w' H' := p w' H' x r
theorem PO.bd0 {m : Option (O α)} {f : α → Ev → AH → Option (O β)} {k : β → Ev → AH → Wd → Hp → Prop} (p : PO K mg W σ w H (Mp.bd m f) k) :
    PO K mg W σ w H m fun a e h _ _ => PO K mg W σ w H (f a e h) k := by
  cases m with
  | none => exact p
  | some o =>
    cases o with
    | ok a e h => exact fun w1 H1 x1 r1 => p
    | ex c q e h => exact p
theorem PO.fwd {w1 : Wd} {H1 : Hp} {m : Option (O α)} {k : α → Ev → AH → Wd → Hp → Prop} (E1 : Ext w H w1 H1) (p : PO K mg W σ w H m k) : PO K mg W σ w1 H1 m k := by
  unfold PO at p ⊢
  split
  · exact fun w' H' x r => p w' H' (E1.trans x) r
  · exact fun w' H' C d x r => p w' H' C d (E1.trans x) r
  · exact p
end
/-- an expression's end: the answer as a value -/
abbrev kE (K : PySem.W.Frag) (σ : L2.St) (w : Wd) (Q : VK) : Rv → Ev → AH → Wd → Hp → Prop := fun r _ _ w' H' => ∀ x, RR K w' σ H' r x → New w r x → Q x H'
/-- an expression's reading -/
def tE (K : PySem.W.Frag) (mg : Str → Option Value) (W : WX) (m : Ev → AH → Option (O Rv)) : TE := fun σ H Q => ∃ w e h, Rel K w e h σ H ∧ PO K mg W σ w H (m e h) (kE K σ w Q)
/-- a test's reading -/
def tT (K : PySem.W.Frag) (mg : Str → Option Value) (W : WX) (m : Ev → AH → Option (O Rv)) : TT := fun σ H Q => ∃ w e h, Rel K w e h σ H ∧ PO K mg W σ w H (m e h) fun r e h _ H' => ∃ b, (rd e h r).bind truth = some b ∧ Q b H'
/-- several answers, the new things apart -/
def RRs (K : PySem.W.Frag) (w : Wd) (σ : L2.St) (H : Hp) : List Rv → List V → Prop
  | [], xs => xs = []
  | r :: rs, xs => ∃ x ys, xs = x :: ys ∧ RR K w σ H r x ∧ RRs K w σ H rs ys ∧ ∀ o, r = .fr o → x ∉ ys
/-- a list of data as it is frozen -/
def tD (K : PySem.W.Frag) (mg : Str → Option Value) (W : WX) (m : Ev → AH → Option (O (List D))) : TA := fun σ H Q => ∃ w e h, Rel K w e h σ H ∧ PO K mg W σ w H (m e h) fun ds _ _ w' H' => ∀ xs, RVs K w' H' ds xs → Q xs H'

/-! ### the place in the code -/
def bnames : List Str := ["len", "tuple", "list", "sorted", "sum", "max", "min", "abs", "int", "repr", "all", "any", "range", "isinstance", "bool", "str", "dict", "enumerate", "zip", "super"]
/-- a call's answer, as it may stand behind w, H -/
def PC (K : PySem.W.Frag) (mg : Str → Option Value) (w : Wd) (H : Hp) (m : Option (O Rv)) (Q : VK) (E : XK) : Prop :=
  match m with
  | some (.ok r _ h) => ∀ w' H' x, Ext w H w' H' → Rel K w' [] h [] H' → RR K w' [] H' r x → New w r x → Q x H'
  | some (.ex c p _ h) => ∀ w' H' C d, Ext w H w' H' → Rel K w' [] h [] H' → EXR K mg w' H' c p C d → E C d H'
  | none => False
/-- a def's promise -/
def spF (K : PySem.W.Frag) (mg : Str → Option Value) (cl : Cl) (f : Nat) (n : Nat) : Sp := fun vs H Q E => vs.length = n ∧ ∃ w ss h, Rel K w ss h (vs.map some) H ∧ PC K mg w H (cl f ss h) Q E
/-- a def that may be called -/
structure Callee (cl : Cl) (P : Program) (wd : World) (K : PySem.W.Frag) (mg : Str → Option Value) (base : Heap) (k : Nat) (f : Nat) (x : Str) : Prop where
  ex : ∃ (n : Nat) (a : Addr) (fd : FuncData) (ps : List Str), FnG P wd K mg base (L2.CX P wd) k a fd ps (spF K mg cl f n) ∧ mg x = some (.ref a) ∧ PySem.W.keepIn K (.ref a) = true ∧ Binds K fd ps [] ∧ ∀ ss h, cl f ss h ≠ none → ss.length = n
structure Cz (cl : Cl) (kn : List Str) (X : Cx) (N : List Str) (sc : Scope) (fnp : Str → Bool) (W : WX) : Prop where
  eN : X.N = N
  eS : X.env.scope = sc
  fn : ∀ x, fnp x = true → X.fn x = true
  nd : N.Nodup
  calm : X.calm = true
  room : X.A.units + 65 < cLine
  gd : X.A.guards = some []
  tk : Takes X W
  bn : ∀ x ∈ bnames, X.mg x = none
  fs : ∀ f x, kn[f]? = some x → ∃ k, Room k X.A ∧ Callee cl X.prog X.w X.K X.mg X.base k f x
section
variable {cl : Cl} {kn : List Str} {X : Cx} {N : List Str} {sc : Scope} {fnp : Str → Bool} {W : WX}

def visB (sc : Scope) (x : Str) : Bool := match sc.names.lookup x with
  | some .local => true
  | some .cell => true
  | some .free => true
  | _ => false
theorem vis_of (C : Cz cl kn X N sc fnp W) {x : Str} (h : visB sc x = true) : Vis X.env.scope x := by
  rw [C.eS]
  unfold visB at h
  unfold Vis
  split at h
  · exact .inl (by assumption)
  · exact .inr (.inl (by assumption))
  · exact .inr (.inr (by assumption))
  · cases h
/-- a name that is not spelt oddly -/
def okN (x : Str) : Bool := !(x == ("__debug__" : Str)) && !(x == ("__classdict__" : Str)) && !(x == ("__name__" : Str))
def chkV (N : List Str) (sc : Scope) (i : Nat) (pe : Expr) : Bool := match pe with
  | .Name x _ => N[i]? == some x && visB sc x && okN x
  | _ => false
theorem pe_varM (C : Cz cl kn X N sc fnp W) {i : Nat} {pe : Expr} (h : chkV N sc i pe = true) : PE X pe (tE X.K X.mg W (evE cl (.var i))) := by
  cases pe with
  | Name x pos =>
    simp only [chkV, Bool.and_eq_true, beq_iff_eq] at h
    have hd : (x == ("__debug__" : Str)) = false ∧ (x == ("__classdict__" : Str)) = false := by
      have := h.2
      simp only [okN, Bool.and_eq_true, Bool.not_eq_true'] at this
      exact this.1
    refine ⟨fun pins s σ H Q I hq => ?_⟩
    obtain ⟨w, e, hh, R, p⟩ := hq
    refine (pe_var (X := X) (i := i) (by rw [C.eN]; exact h.1.1) (vis_of C h.1.2) hd.1 hd.2).run pins s σ H Q I ?_
    cases q : e[i]? with
    | none => simp only [evE, q] at p; exact p.elim
    | some sl =>
      have z := R.slot i _ q
      cases sl with
      | un => simp only [evE, q] at p; exact p.elim
      | v d =>
        simp only [evE, q] at p
        obtain ⟨_, x, e1, r1⟩ := z
        exact ⟨x, e1, p.ok (.refl _ _) R x r1 trivial⟩
      | ow o =>
        simp only [evE, q] at p
        obtain ⟨a, _, e1, r1⟩ := z
        exact ⟨_, e1, p.ok (.refl _ _) R _ e1 trivial⟩
      | lk o =>
        simp only [evE, q] at p
        obtain ⟨_, a, _, e1, r1⟩ := z
        exact ⟨_, e1, p.ok (.refl _ _) R _ e1 trivial⟩
  | _ => cases h
/-- a constant -/
theorem tE_const {d : D} {x : V} {m : Ev → AH → Option (O Rv)} (hm : ∀ e h, m e h = some (.ok (.v d) e h)) (hr : ∀ K w H, RV K w H d x) {σ : L2.St} {H : Hp} {Q : VK} (q : tE X.K X.mg W m σ H Q) : tC x σ H Q := by
  obtain ⟨w, e, hh, R, p⟩ := q
  rw [hm] at p
  exact p.ok (.refl _ _) R x (hr _ _ _) trivial
theorem PE.imp {e : Expr} {t t' : TE} (h : PE X e t) (f : ∀ σ H Q, t' σ H Q → t σ H Q) : PE X e t' := ⟨fun pins s σ H Q I q => h.run pins s σ H Q I (f σ H Q q)⟩
theorem PT.imp {e : Expr} {t t' : TT} (h : PT X e t) (f : ∀ σ H Q, t' σ H Q → t σ H Q) : PT X e t' := ⟨fun pins s σ H Q I q => h.run pins s σ H Q I (f σ H Q q)⟩
theorem PA.imp {e : List Expr} {t t' : TA} (h : PA X e t) (f : ∀ σ H Q, t' σ H Q → t σ H Q) : PA X e t' := ⟨fun pos pins s σ H Q I q => h.run pos pins s σ H Q I (f σ H Q q)⟩

/-- the common shape: an operation on one, two contents -/
theorem tE_un {m : Ev → AH → Option (O Rv)} {f : Rv → Ev → AH → Option (O Rv)} {σ : L2.St} {H : Hp} {Q : VK} {r1 : V → Hp → VK → Prop} (q : tE X.K X.mg W (fun e h => Mp.bd (m e h) f) σ H Q)
    (hf : ∀ w0 H0 r e h w H x, Ext w0 H0 w H → Rel X.K w e h σ H → RR X.K w σ H r x → New w0 r x → PO X.K X.mg W σ w H (f r e h) (kE X.K σ w0 Q) → r1 x H Q) : tUn r1 (tE X.K X.mg W m) σ H Q := by
  obtain ⟨w, e, h, R, p⟩ := q
  exact ⟨w, e, h, R, p.bd.mono fun r e1 h1 w1 H1 E1 R1 p1 x rx nx => hf w H r e1 h1 w1 H1 x E1 R1 rx nx p1⟩
theorem tE_bin {m m' : Ev → AH → Option (O Rv)} {f : Rv → Rv → Ev → AH → Option (O Rv)} {σ : L2.St} {H : Hp} {Q : VK} {r2 : R2} (q : tE X.K X.mg W (fun e h => Mp.bd (m e h) fun x e h => Mp.bd (m' e h) fun y e h => f x y e h) σ H Q)
    (hf : ∀ w0 H0 r r' e h w H x y, Ext w0 H0 w H → Rel X.K w e h σ H → RR X.K w σ H r x → RR X.K w σ H r' y → PO X.K X.mg W σ w H (f r r' e h) (kE X.K σ w0 Q) → r2 x y H Q) : tOp r2 (tE X.K X.mg W m) (tE X.K X.mg W m') σ H Q := by
  obtain ⟨w, e, h, R, p⟩ := q
  refine ⟨w, e, h, R, p.bd.mono fun r e1 h1 w1 H1 E1 R1 p1 x rx nx => ?_⟩
  refine ⟨w1, e1, h1, R1, p1.bd.mono fun r' e2 h2 w2 H2 E2 R2 p2 y ry ny => ?_⟩
  exact hf w H r r' e2 h2 w2 H2 x y (E1.trans E2) R2 (rx.mono E2) ry p2
/-- behind an operation that makes new things alone -/
theorem Pst.of {σ : L2.St} {w0 w : Wd} {e : Ev} {h : AH} {H0 H : Hp} {r : Rv} {Q : VK} (E0 : Ext w0 H0 w H) (R : Rel X.K w e h σ H) (p : PO X.K X.mg W σ w H (some (.ok r e h)) (kE X.K σ w0 Q)) (nb : ∀ i, r ≠ .bor i) : Pst X.K w H r Q := by
  cases r with
  | v d => exact fun H' x k rx => p.ok (Ext.kept k) (R.kept k) x rx trivial
  | fr o => exact fun a u ha nt ob => p.ok (Ext.put ha) (R.put ha nt) _ ⟨a, rfl, .inr rfl, ob⟩ fun b eb t => by cases eb; exact R.notNone (.inr (.inr (.inl (E0.tmp _ t)))) ha
  | bor i => exact absurd rfl (nb i)
end
theorem op2_nb {o : Op2} {a b : D} {r : Rv} (h : op2 o a b = some r) : ∀ i, r ≠ .bor i := by
  unfold op2 at h
  intro i
  split at h
  all_goals first
    | (split at h <;> first | (cases h; intro z; cases z; done) | cases h)
    | (cases h; intro z; cases z; done)
    | cases h
theorem bfn_nb {b : Bi} {ds : List D} {r : Rv} (h : bfn b ds = some r) : ∀ i, r ≠ .bor i := by
  unfold bfn at h
  intro i
  split at h
  all_goals first
    | (simp only [Option.map_eq_some_iff] at h; obtain ⟨l, _, rfl⟩ := h; intro z; cases z; done)
    | (split at h <;> first | (cases h; intro z; cases z; done) | (simp only [Option.map_eq_some_iff] at h; obtain ⟨l, _, rfl⟩ := h; intro z; cases z; done))
    | (split at h <;> first | (cases h; intro z; cases z; done) | cases h)
    | (cases h; intro z; cases z; done)
    | cases h
section
variable {cl : Cl} {kn : List Str} {X : Cx} {N : List Str} {sc : Scope} {fnp : Str → Bool} {W : WX} {a b c : E} {pa pb pc : Expr} {pos : Pos}

theorem pe_binM (o : Op2) (ha : PE X pa (tE X.K X.mg W (evE cl a))) (hb : PE X pb (tE X.K X.mg W (evE cl b))) : PE X (.BinOp pa (opOf o) pb pos) (tE X.K X.mg W (evE cl (.bin o a b))) := by
  refine PE.imp (pe_op (op_ok o) ha hb) fun σ H Q q => ?_
  refine tE_bin (q := by simpa only [evE] using q) fun w0 H0 r r' e h w H x y E0 R rx ry p => ?_
  split at p
  · rename_i d1 d2 e1 e2
    cases q2 : op2 o d1 d2 with
    | none => rw [q2] at p; exact p.elim
    | some z =>
      rw [q2] at p
      exact ⟨w, d1, d2, z, R.wok, rd_cn R rx e1, rd_cn R ry e2, q2, Pst.of E0 R p (op2_nb q2)⟩
  · exact p.elim
theorem pe_negM (ha : PE X pa (tE X.K X.mg W (evE cl a))) : PE X (.UnaryOp .USub pa pos) (tE X.K X.mg W (evE cl (.neg a))) := by
  refine PE.imp (pe_un un_neg ha) fun σ H Q q => ?_
  refine tE_un (q := by simpa only [evE] using q) fun w0 H0 r e h w H x E0 R rx nx p => ?_
  split at p
  · rename_i i e1
    cases (rd_cn R rx e1).int
    exact ⟨i, rfl, p.ok (.refl _ _) R _ (by show RV _ _ _ _ _; unfold RV; rfl) trivial⟩
  · exact p.elim
theorem pe_notM (ha : PE X pa (tE X.K X.mg W (evE cl a))) : PE X (.UnaryOp .Not pa pos) (tE X.K X.mg W (evE cl (.not a))) := by
  refine PE.imp (pe_notT ha) fun σ H Q q => ?_
  have := tE_un (X := X) (W := W) (r1 := fun x H Q => ∃ k, TruV X.K x H k ∧ Q (.bl (!k)) H) (q := by simpa only [evE] using q) fun w0 H0 r e h w H x E0 R rx nx p => ?_
  · exact this
  · split at p
    · rename_i k e1
      simp only [Option.bind_eq_some_iff] at e1
      obtain ⟨d, h1, h2⟩ := e1
      exact ⟨k, truth_ok (rd_cn R rx h1) h2, p.ok (.refl _ _) R _ (by show RV _ _ _ _ _; unfold RV; rfl) trivial⟩
    · exact p.elim
theorem pe_cmpM (C : Cz cl kn X N sc fnp W) (o : Cm) (ha : PE X pa (tE X.K X.mg W (evE cl a))) (hb : PE X pb (tE X.K X.mg W (evE cl b))) (hm : behindInMarks (cmOf o) pb = false) :
    PE X (.Compare pa [cmOf o] [pb] pos) (tE X.K X.mg W (evE cl (.cmp o a b))) := by
  refine PE.imp (pe_cmpR (cmp_ok C.room o) ha hb hm) fun σ H Q q => ?_
  refine tE_bin (q := by simpa only [evE] using q) fun w0 H0 r r' e h w H x y E0 R rx ry p => ?_
  split at p
  · rename_i d1 d2 e1 e2
    cases q2 : cmpD o d1 d2 with
    | none => rw [q2] at p; exact p.elim
    | some z =>
      rw [q2] at p
      exact ⟨w, d1, d2, z, R.wok, rd_cn R rx e1, rd_cn R ry e2, q2, p.ok (.refl _ _) R _ (by show RV _ _ _ _ _; unfold RV; rfl) trivial⟩
  · exact p.elim
/-- a test's end -/
abbrev kT (Q : Bool → Hp → Prop) : Rv → Ev → AH → Wd → Hp → Prop := fun r e h _ H' => ∃ b, (rd e h r).bind truth = some b ∧ Q b H'
theorem tT_bin {m m' : Ev → AH → Option (O Rv)} {f : Rv → Rv → Ev → AH → Option (O Rv)} {σ : L2.St} {H : Hp} {Q : Bool → Hp → Prop} {Q' : VK} {r2 : R2} (q : tT X.K X.mg W (fun e h => Mp.bd (m e h) fun x e h => Mp.bd (m' e h) fun y e h => f x y e h) σ H Q)
    (hf : ∀ w0 H0 r r' e h w H x y, Ext w0 H0 w H → Rel X.K w e h σ H → RR X.K w σ H r x → RR X.K w σ H r' y → PO X.K X.mg W σ w H (f r r' e h) (kT Q) → r2 x y H Q') : tOp r2 (tE X.K X.mg W m) (tE X.K X.mg W m') σ H Q' := by
  obtain ⟨w, e, h, R, p⟩ := q
  refine ⟨w, e, h, R, p.bd.mono fun r e1 h1 w1 H1 E1 R1 p1 x rx nx => ?_⟩
  refine ⟨w1, e1, h1, R1, p1.bd.mono fun r' e2 h2 w2 H2 E2 R2 p2 y ry ny => ?_⟩
  exact hf w H r r' e2 h2 w2 H2 x y (E1.trans E2) R2 (rx.mono E2) ry p2
theorem pt_cmpM (C : Cz cl kn X N sc fnp W) (o : Cm) (ha : PE X pa (tE X.K X.mg W (evE cl a))) (hb : PE X pb (tE X.K X.mg W (evE cl b))) (hm : behindInMarks (cmOf o) pb = false) :
    PT X (.Compare pa [cmOf o] [pb] pos) (tT X.K X.mg W (evE cl (.cmp o a b))) := by
  refine PT.imp (pt_cmpR (cmp_ok C.room o) ha hb hm) fun σ H Q q => ?_
  show tOp _ _ _ σ H _
  refine tT_bin (q := by simpa only [evE] using q) fun w0 H0 r r' e h w H x y E0 R rx ry p => ?_
  split at p
  · rename_i d1 d2 e1 e2
    cases q2 : cmpD o d1 d2 with
    | none => rw [q2] at p; exact p.elim
    | some z =>
      rw [q2] at p
      obtain ⟨k, hk, hQ⟩ := p.ok (.refl _ _) R
      cases hk
      exact ⟨w, d1, d2, z, R.wok, rd_cn R rx e1, rd_cn R ry e2, q2, z, rfl, hQ⟩
  · exact p.elim
end
end Mp

/-! how the world changes -/
namespace Mp
open PySem L2
section
variable {K : PySem.W.Frag} {w w' : Wd} {H H' : Hp} {e : Ev} {h : AH} {σ : St}
/-- contents are carried into a smaller hand -/
theorem ExtV.less (hr : w'.ρ = w.ρ) (hm : ∀ b, w'.M b → w.M b) : ExtV w H w' H := ⟨fun _ _ q _ => q, fun _ _ q => q, fun b m => .inl (hm b m), fun n a q => by rw [hr]; exact q⟩
theorem RV.of_ob {o : Ob} {a : Addr} (ob : ObR K w H o a) (n : ¬ w.M a) : RV K w H o.d (.ref a) := by
  cases o with
  | lst xs =>
    obtain ⟨vs, e1, r⟩ := ob
    show RV K w H (.lst xs) _
    unfold RV
    exact ⟨a, vs, rfl, n, e1, r⟩
  | dct ks ds =>
    obtain ⟨vs, e1, r⟩ := ob
    show RV K w H (.dct ks ds) _
    unfold RV
    exact ⟨a, vs, rfl, n, e1, r⟩
/-- slot i owns nothing any more -/
def Wd.drop (w : Wd) (i : Nat) : Wd := { w with ω := fun j => if j = i then none else w.ω j }
theorem Wd.drop_some {i j : Nat} {a : Addr} (q : (w.drop i).ω j = some a) : w.ω j = some a ∧ j ≠ i := by
  by_cases hj : j = i
  · simp [Wd.drop, hj] at q
  · exact ⟨by simpa [Wd.drop, hj] using q, hj⟩
theorem Wd.drop_M {i : Nat} {a : Addr} (m : (w.drop i).M a) : w.M a := by
  rcases m with m | ⟨j, m⟩ | m
  · exact .inl m
  · exact .inr (.inl ⟨j, (Wd.drop_some m).1⟩)
  · exact .inr (.inr m)
theorem Ext.drop (i : Nat) : Ext w H (w.drop i) H := .mk' (fun _ _ q _ => q) (fun _ _ q => q) (fun b m => .inl (Wd.drop_M m)) (fun _ _ q => q) fun _ q => q
theorem Rel.drop_nM (R : Rel K w e h σ H) {i : Nat} {a : Addr} (q : w.ω i = some a) : ¬ (w.drop i).M a := fun m => by
  rcases m with m | ⟨j, m⟩ | m
  · exact R.ndx i a q m
  · obtain ⟨m1, m2⟩ := Wd.drop_some m
    exact m2 (R.ndω j i a m1 q)
  · exact (R.ndT a m).2.1 i q
theorem Wd.drop_ne {i j : Nat} (hj : j ≠ i) : (w.drop i).ω j = w.ω j := by simp [Wd.drop, hj]
/-- the slot i is set to a value -/
theorem Rel.setv (R : Rel K w e h σ H) {i : Nat} {d : D} {v : V} (hi : i < e.length) {σ' : St} (hl : σ'.length = σ.length) (hσ : ∀ j, j ≠ i → σ'[j]? = σ[j]?) (hv : σ'[i]? = some (some v)) (r : RV K (w.drop i) H d v) : Rel K (w.drop i) (e.set i (.v d)) h σ' H := by
  have X := (Ext.drop (w := w) (H := H) i).toExtV
  refine ⟨by rw [List.length_set, hl]; exact R.len, fun j s q => ?_, fun j hj => ?_, R.lenρ, fun n o a h1 h2 => (R.obs n o a h1 h2).at X fun u hu => hu, R.ndρ, fun j k a h1 h2 => R.ndω j k a (Wd.drop_some h1).1 (Wd.drop_some h2).1, fun j a h1 => R.ndx j a (Wd.drop_some h1).1,
    fun a t => let ⟨q1, q2, q3⟩ := R.ndT a t; ⟨q1, fun j z => q2 j (Wd.drop_some z).1, q3⟩, R.ndτ, R.ndl⟩
  · by_cases hj : j = i
    · subst hj
      rw [List.getElem?_set_self hi] at q
      cases q
      exact ⟨by simp [Wd.drop], v, hv, r⟩
    · rw [List.getElem?_set_ne (Ne.symm hj)] at q
      rw [hσ j hj]
      exact (R.slot j s q).at X (Wd.drop_ne hj) rfl fun a u _ hu => hu
  · rw [List.length_set] at hj
    by_cases hji : j = i
    · simp [Wd.drop, hji]
    · rw [Wd.drop_ne hji]; exact R.beyond j hj
/-- what slot i owns is frozen -/
theorem Rel.freeze (R : Rel K w e h σ H) {i : Nat} {o : Ob} {a : Addr} (hs : e[i]? = some (.ow o)) (ha : w.ω i = some a) (ob : ObR K w H o a) (hσ : σ[i]? = some (some (.ref a))) : Rel K (w.drop i) (e.set i (.v o.d)) h σ H :=
  R.setv (List.getElem?_eq_some_iff.mp hs).1 rfl (fun _ _ => rfl) hσ (RV.of_ob (ob.at (Ext.drop i).toExtV fun u hu => hu) (R.drop_nM ha))
/-- a thing just made is placed -/
def Wd.take (w : Wd) (a : Addr) : Wd := { w with τ := fun b => w.τ b ∧ b ≠ a }
theorem Wd.take_M {a b : Addr} (m : (w.take a).M b) : w.M b := by
  rcases m with m | m | m | m
  · exact .inl m
  · exact .inr (.inl m)
  · exact .inr (.inr (.inl m.1))
  · exact .inr (.inr (.inr m))
theorem Ext.take {w0 : Wd} {H0 : Hp} (E0 : Ext w0 H0 w H) {a : Addr} (n : ¬ w0.τ a) : Ext w0 H0 (w.take a) H :=
  .mk' E0.keep E0.tup (fun b m => E0.new b (Wd.take_M m)) E0.rho (fun b t => ⟨E0.tmp b t, fun z => n (by rw [← z]; exact t)⟩) E0.lam
theorem Rel.take (R : Rel K w e h σ H) (a : Addr) : Rel K (w.take a) e h σ H := by
  have X : ExtV w H (w.take a) H := ExtV.less rfl fun b m => Wd.take_M m
  refine ⟨R.len, fun i s q => (R.slot i s q).at X rfl rfl fun a u _ hu => hu, R.beyond, R.lenρ, fun n o a h1 h2 => (R.obs n o a h1 h2).at X fun u hu => hu, R.ndρ, R.ndω, R.ndx, fun b t => R.ndT b ?_, fun b i t => R.ndτ b i t.1, R.ndl⟩
  rcases t with t | t
  · exact .inl t.1
  · exact .inr t
theorem Rel.take_nM (R : Rel K w e h σ H) {a : Addr} (t : w.τ a) : ¬ (w.take a).M a := fun m => by
  obtain ⟨q1, q2, _⟩ := R.ndT a (.inl t)
  rcases m with m | ⟨j, m⟩ | m | ⟨j, m⟩
  · exact q1 m
  · exact q2 j m
  · exact m.2 rfl
  · exact R.ndτ a j t m
theorem frz_ok {w0 : Wd} {H0 : Hp} {r : Rv} {x : V} {d : D} {e' : Ev} (E0 : Ext w0 H0 w H) (R : Rel K w e h σ H) (rx : RR K w σ H r x) (nx : New w0 r x) (k : frz e r = some (d, e')) : ∃ w', Ext w0 H0 w' H ∧ Rel K w' e' h σ H ∧ RV K w' H d x := by
  cases r with
  | v d' => cases k; exact ⟨w, E0, R, rx⟩
  | fr o =>
    cases k
    obtain ⟨a, rfl, n, ob⟩ := rx
    refine ⟨w.take a, E0.take (nx a rfl), ?_, ?_⟩
    · exact R.take a
    · exact RV.of_ob (ob.at (ExtV.less rfl fun b m => Wd.take_M m) fun u hu => hu) (R.take_nM n)
  | bor i =>
    unfold frz at k
    simp only at k
    split at k
    · rename_i o ho
      cases k
      obtain ⟨a, h1, h2, ob⟩ := R.slot i _ ho
      have rx' : σ[i]? = some (some x) := rx
      rw [rx'] at h2
      cases h2
      exact ⟨w.drop i, E0.trans (Ext.drop i), R.freeze ho h1 ob rx', RV.of_ob (ob.at (Ext.drop i).toExtV fun u hu => hu) (R.drop_nM h1)⟩
    · cases k
/-- what slot i owns is changed -/
theorem Ext.own {a : Addr} {u : HO} (hm : w.M a) (ht : ¬ w.T a) (nt : ∀ xs, H a ≠ some (.tup xs)) : Ext w H w (upd H a u) := .mk'
  (fun b o q n => by
    rw [upd_ne]
    · exact q
    · rintro rfl
      rcases n with n | n
      · exact n hm
      · exact ht n)
  (fun b xs q => by
    rw [upd_ne]
    · exact q
    · rintro rfl
      exact nt xs q)
  (fun b m => .inl m) (fun n c q => q) (fun b q => q)
theorem Rel.own (R : Rel K w e h σ H) {i : Nat} {o o' : Ob} {a : Addr} {u : HO} (hs : e[i]? = some (.ow o)) (ha : w.ω i = some a) (hσ : σ[i]? = some (some (.ref a))) (ob : ObR K w (upd H a u) o' a) :
    Ext w H w (upd H a u) ∧ Rel K w (e.set i (.ow o')) h σ (upd H a u) := by
  have hm : w.M a := .inr (.inl ⟨i, ha⟩)
  have ht : ¬ w.T a := fun t => (R.ndT a t).2.1 i ha
  have X : Ext w H w (upd H a u) := Ext.own hm ht (R.wok a hm).2
  have hi := (List.getElem?_eq_some_iff.mp hs).1
  refine ⟨X, by rw [List.length_set]; exact R.len, fun j s q => ?_, fun j hj => R.beyond j (by simpa using hj), R.lenρ, fun n o2 b h1 h2 => (R.obs n o2 b h1 h2).at X.toExtV fun v hv => ?_, R.ndρ, R.ndω, R.ndx, fun b t => ?_, R.ndτ, R.ndl⟩
  · by_cases hj : j = i
    · subst hj
      rw [List.getElem?_set_self hi] at q
      cases q
      exact ⟨a, ha, hσ, ob⟩
    · rw [List.getElem?_set_ne (Ne.symm hj)] at q
      refine (R.slot j s q).at X.toExtV rfl rfl fun b v hb hv => ?_
      rw [upd_ne]
      · exact hv
      · rintro rfl
        rcases hb with hb | hb
        · exact hj (R.ndω j i _ hb ha)
        · exact ht (.inr ⟨j, hb⟩)
  · rw [upd_ne]
    · exact hv
    · rintro rfl
      exact R.ndx i _ ha (List.mem_of_getElem? h2)
  · obtain ⟨q1, q2, v, q3, q4⟩ := R.ndT b t
    exact ⟨q1, q2, v, X.keepT b v q3 t, q4⟩
/-- a shared thing is changed -/
theorem Rel.shared (R : Rel K w e h σ H) {n : Nat} {o' : Ob} {a : Addr} {u : HO} (ha : w.ρ[n]? = some a) (ob : ObR K w (upd H a u) o' a) :
    Ext w H w (upd H a u) ∧ Rel K w e (h.set n o') σ (upd H a u) := by
  have hm : w.M a := .inl (List.mem_of_getElem? ha)
  have ht : ¬ w.T a := fun t => (R.ndT a t).1 (List.mem_of_getElem? ha)
  have X : Ext w H w (upd H a u) := Ext.own hm ht (R.wok a hm).2
  refine ⟨X, R.len, fun j s q => (R.slot j s q).at X.toExtV rfl rfl fun b v hb hv => ?_, R.beyond, by rw [List.length_set]; exact R.lenρ, fun m o2 b h1 h2 => ?_, R.ndρ, R.ndω, R.ndx, fun b t => ?_, R.ndτ, R.ndl⟩
  · rw [upd_ne]
    · exact hv
    · rintro rfl
      rcases hb with hb | hb
      · exact R.ndx j _ hb (List.mem_of_getElem? ha)
      · exact ht (.inr ⟨j, hb⟩)
  · by_cases hmn : m = n
    · subst hmn
      rw [ha] at h2; cases h2
      have hl : m < h.length := by
        have := (List.getElem?_eq_some_iff.mp h1).1
        simpa using this
      rw [List.getElem?_set_self hl] at h1
      cases h1
      exact ob
    · rw [List.getElem?_set_ne (Ne.symm hmn)] at h1
      refine (R.obs m o2 b h1 h2).at X.toExtV fun v hv => ?_
      rw [upd_ne]
      · exact hv
      · rintro rfl
        have i1 := (List.getElem?_eq_some_iff.mp h2)
        have i2 := (List.getElem?_eq_some_iff.mp ha)
        obtain ⟨l1, e1⟩ := i1
        obtain ⟨l2, e2⟩ := i2
        exact hmn ((List.getElem_inj R.ndρ).mp (e1.trans e2.symm))
  · obtain ⟨q1, q2, v, q3, q4⟩ := R.ndT b t
    exact ⟨q1, q2, v, X.keepT b v q3 t, q4⟩
end
end Mp

/-! expressions: tests, chains, items, displays, arguments, built-in functions -/
namespace Mp
open PySem L2 PyProof.Rows
theorem rv_bl {K : PySem.W.Frag} {w : Wd} {H : Hp} (b : Bool) : RV K w H (.bl b) (.bl b) := by unfold RV; rfl
section
variable {cl : Cl} {kn : List Str} {X : Cx} {N : List Str} {sc : Scope} {fnp : Str → Bool} {W : WX} {a b c : E} {pa pb pc : Expr} {rest : List Expr} {pos : Pos}

/-- any expression whose test is its value's truth -/
theorem pt_plainM {m : Ev → AH → Option (O Rv)} (ha : PE X pa (tE X.K X.mg W m)) (he : ∀ whole, isTrue pa X.env whole = (do let v ← whole; standAt pa.pos; holding [v] (truthy v))) : PT X pa (tT X.K X.mg W m) := by
  refine PT.imp (pt_truth ha he) fun σ H Q q => ?_
  obtain ⟨w, e, h, R, p⟩ := q
  refine ⟨w, e, h, R, p.mono fun r e1 h1 w1 H1 E1 R1 k x rx nx => ?_⟩
  obtain ⟨b, hb, hQ⟩ := k
  simp only [Option.bind_eq_some_iff] at hb
  obtain ⟨d, h1, h2⟩ := hb
  exact ⟨b, truth_ok (rd_cn R1 rx h1) h2, hQ⟩
/-- a test goes on by its answer -/
theorem tT_then {m : Ev → AH → Option (O Rv)} {α : Type} {f : Rv → Ev → AH → Option (O α)} {σ : L2.St} {w : Wd} {e : Ev} {h : AH} {H : Hp} {k : α → Ev → AH → Wd → Hp → Prop} {Q : Bool → Hp → Prop} (R : Rel X.K w e h σ H) (p : PO X.K X.mg W σ w H (Mp.bd (m e h) f) k)
    (hf : ∀ r e1 h1 w1 H1, Ext w H w1 H1 → Rel X.K w1 e1 h1 σ H1 → PO X.K X.mg W σ w1 H1 (f r e1 h1) k → ∃ b, (rd e1 h1 r).bind truth = some b ∧ Q b H1) : tT X.K X.mg W m σ H Q :=
  ⟨w, e, h, R, p.bd.mono fun r e1 h1 w1 H1 E1 R1 p1 => hf r e1 h1 w1 H1 E1 R1 p1⟩

/-! ### and, or -/
theorem pe_andM (ha : PE X pa (tE X.K X.mg W (evE cl a))) (hb : PE X (.BoolOp .And (pb :: rest) pos) (tE X.K X.mg W (evE cl b))) : PE X (.BoolOp .And (pa :: pb :: rest) pos) (tE X.K X.mg W (evE cl (.and a b))) := by
  refine PE.imp (pe_andT ha hb) fun σ H Q q => ?_
  have := tE_un (X := X) (W := W) (r1 := fun x H1 => fun Q => ∃ k, TruV X.K x H1 k ∧ if k = true then tE X.K X.mg W (evE cl b) σ H1 Q else Q x H1) (q := by simpa only [evE] using q) fun w0 H0 r e h w H x E0 R rx nx p => ?_
  · exact this
  · split at p
    · rename_i e1
      simp only [Option.bind_eq_some_iff] at e1
      obtain ⟨d, h1, h2⟩ := e1
      refine ⟨true, truth_ok (rd_cn R rx h1) h2, ?_⟩
      rw [if_pos rfl]
      exact ⟨w, e, h, R, p.mono fun r2 e2 h2 w2 H2 E2 R2 k x2 rx2 n2 => k x2 rx2 (n2.step E0)⟩
    · rename_i e1
      simp only [Option.bind_eq_some_iff] at e1
      obtain ⟨d, h1, h2⟩ := e1
      refine ⟨false, truth_ok (rd_cn R rx h1) h2, ?_⟩
      rw [if_neg Bool.false_ne_true]
      exact p.ok (.refl _ _) R x rx nx
    · exact p.elim
theorem tru_of {w : Wd} {e : Ev} {h : AH} {σ : L2.St} {H : Hp} {r : Rv} {x : V} {b : Bool} (R : Rel X.K w e h σ H) (rx : RR X.K w σ H r x) (k : (rd e h r).bind truth = some b) : TruV X.K x H b := by
  simp only [Option.bind_eq_some_iff] at k
  obtain ⟨d, h1, h2⟩ := k
  exact truth_ok (rd_cn R rx h1) h2
/-- an answer's end, seen from further back -/
theorem kE_back {σ : L2.St} {w0 w : Wd} {H0 H : Hp} {Q : VK} {m : Option (O Rv)} (E0 : Ext w0 H0 w H) (p : PO X.K X.mg W σ w H m (kE X.K σ w0 Q)) : PO X.K X.mg W σ w H m (kE X.K σ w Q) :=
  p.mono fun _ _ _ _ _ _ _ k x rx nx => k x rx (nx.step E0)
theorem pe_orM (ha : PE X pa (tE X.K X.mg W (evE cl a))) (hb : PE X (.BoolOp .Or (pb :: rest) pos) (tE X.K X.mg W (evE cl b))) : PE X (.BoolOp .Or (pa :: pb :: rest) pos) (tE X.K X.mg W (evE cl (.or a b))) := by
  refine PE.imp (pe_orT ha hb) fun σ H Q q => ?_
  have := tE_un (X := X) (W := W) (r1 := fun x H1 => fun Q => ∃ k, TruV X.K x H1 k ∧ if k = true then Q x H1 else tE X.K X.mg W (evE cl b) σ H1 Q) (q := by simpa only [evE] using q) fun w0 H0 r e h w H x E0 R rx nx p => ?_
  · exact this
  · split at p
    · rename_i e1
      refine ⟨true, tru_of R rx e1, ?_⟩
      rw [if_pos rfl]
      exact p.ok (.refl _ _) R x rx nx
    · rename_i e1
      refine ⟨false, tru_of R rx e1, ?_⟩
      rw [if_neg Bool.false_ne_true]
      exact ⟨w, e, h, R, kE_back E0 p⟩
    · exact p.elim
/-- the test of and: by the parts' tests -/
theorem tT_and {σ : L2.St} {H : Hp} {Q : Bool → Hp → Prop} (q : tT X.K X.mg W (evE cl (.and a b)) σ H Q) : tAnd (tT X.K X.mg W (evE cl a)) (tT X.K X.mg W (evE cl b)) σ H Q := by
  obtain ⟨w, e, h, R, p⟩ := q
  simp only [evE] at p
  refine tT_then R p fun r e1 h1 w1 H1 E1 R1 p1 => ?_
  split at p1
  · rename_i k
    refine ⟨true, k, ?_⟩
    rw [if_pos rfl]
    exact ⟨w1, e1, h1, R1, p1⟩
  · rename_i k
    refine ⟨false, k, ?_⟩
    rw [if_neg Bool.false_ne_true]
    obtain ⟨b, hb, hQ⟩ := p1.ok (.refl _ _) R1
    rw [k] at hb
    cases hb
    exact hQ
  · exact p1.elim
theorem tT_or {σ : L2.St} {H : Hp} {Q : Bool → Hp → Prop} (q : tT X.K X.mg W (evE cl (.or a b)) σ H Q) : tOr (tT X.K X.mg W (evE cl a)) (tT X.K X.mg W (evE cl b)) σ H Q := by
  obtain ⟨w, e, h, R, p⟩ := q
  simp only [evE] at p
  refine tT_then R p fun r e1 h1 w1 H1 E1 R1 p1 => ?_
  split at p1
  · rename_i k
    refine ⟨true, k, ?_⟩
    rw [if_pos rfl]
    obtain ⟨b, hb, hQ⟩ := p1.ok (.refl _ _) R1
    rw [k] at hb
    cases hb
    exact hQ
  · rename_i k
    refine ⟨false, k, ?_⟩
    rw [if_neg Bool.false_ne_true]
    exact ⟨w1, e1, h1, R1, p1⟩
  · exact p1.elim
theorem PW.of_bool {op : BoolOp} {vs : List Expr} {t : TT} (h : PT X (.BoolOp op vs pos) t) : PW X (.BoolOp op vs pos) t := ⟨fun _ pins s σ H Q I q => h.run pins s σ H Q I q⟩
theorem pt_andM (ha : PT X pa (tT X.K X.mg W (evE cl a))) (hb : PW X (.BoolOp .And (pb :: rest) pos) (tT X.K X.mg W (evE cl b))) : PT X (.BoolOp .And (pa :: pb :: rest) pos) (tT X.K X.mg W (evE cl (.and a b))) :=
  PT.imp (pw_and ha hb).pt fun σ H Q q => tT_and q
theorem pt_orM (ha : PT X pa (tT X.K X.mg W (evE cl a))) (hb : PW X (.BoolOp .Or (pb :: rest) pos) (tT X.K X.mg W (evE cl b))) : PT X (.BoolOp .Or (pa :: pb :: rest) pos) (tT X.K X.mg W (evE cl (.or a b))) :=
  PT.imp (pw_or ha hb).pt fun σ H Q q => tT_or q
theorem pt_notM (ha : PT X pa (tT X.K X.mg W (evE cl a))) : PT X (.UnaryOp .Not pa pos) (tT X.K X.mg W (evE cl (.not a))) := by
  refine PT.imp (pt_not ha) fun σ H Q q => ?_
  obtain ⟨w, e, h, R, p⟩ := q
  simp only [evE] at p
  refine tT_then R p fun r e1 h1 w1 H1 E1 R1 p1 => ?_
  split at p1
  · rename_i k hk
    refine ⟨k, hk, ?_⟩
    obtain ⟨b, hb, hQ⟩ := p1.ok (.refl _ _) R1
    cases hb
    exact hQ
  · exact p1.elim

/-! ### x if c else y -/
theorem pe_iteM (hc : PT X pc (tT X.K X.mg W (evE cl c))) (ha : PE X pa (tE X.K X.mg W (evE cl a))) (hb : PE X pb (tE X.K X.mg W (evE cl b))) : PE X (.IfExp pc pa pb pos) (tE X.K X.mg W (evE cl (.ite c a b))) := by
  refine PE.imp (pe_ifExp hc ha hb) fun σ H Q q => ?_
  obtain ⟨w, e, h, R, p⟩ := q
  simp only [evE] at p
  refine tT_then R p fun r e1 h1 w1 H1 E1 R1 p1 => ?_
  split at p1
  · rename_i k
    refine ⟨true, k, ?_⟩
    rw [if_pos rfl]
    exact ⟨w1, e1, h1, R1, kE_back E1 p1⟩
  · rename_i k
    refine ⟨false, k, ?_⟩
    rw [if_neg Bool.false_ne_true]
    exact ⟨w1, e1, h1, R1, kE_back E1 p1⟩
  · exact p1.elim
theorem pt_iteM (hc : PT X pc (tT X.K X.mg W (evE cl c))) (ha : PT X pa (tT X.K X.mg W (evE cl a))) (hb : PT X pb (tT X.K X.mg W (evE cl b))) : PT X (.IfExp pc pa pb pos) (tT X.K X.mg W (evE cl (.ite c a b))) := by
  refine ⟨fun pins s σ H Q I q => ?_⟩
  show wpAny _ _ (do
    if ← isTrue pc X.env (eval pc X.env) then isTrue pa X.env (eval pa X.env) else isTrue pb X.env (eval pb X.env)) _ _ _
  obtain ⟨w, e, h, R, p⟩ := q
  simp only [evE] at p
  refine wpAny_bind (thn (hc.run pins s σ H (fun k H1 => if k = true then tT X.K X.mg W (evE cl a) σ H1 Q else tT X.K X.mg W (evE cl b) σ H1 Q) I (tT_then R p fun r e1 h1 w1 H1 E1 R1 p1 => ?_)) fun k s1 ⟨H1, I1, q1⟩ => ?_)
  · split at p1
    · rename_i k
      refine ⟨true, k, ?_⟩
      rw [if_pos rfl]
      exact ⟨w1, e1, h1, R1, p1⟩
    · rename_i k
      refine ⟨false, k, ?_⟩
      rw [if_neg Bool.false_ne_true]
      exact ⟨w1, e1, h1, R1, p1⟩
    · exact p1.elim
  · cases k with
    | true => exact ha.run pins s1 σ H1 Q I1 q1
    | false => exact hb.run pins s1 σ H1 Q I1 q1

/-! ### chains -/
theorem tE_chain {o o' : Cm} {σ : L2.St} {H : Hp} {Q : VK} (q : tE X.K X.mg W (evE cl (.chain o o' a b c)) σ H Q) : tChain (rCmp X.K o) (rCmp X.K o') (tE X.K X.mg W (evE cl a)) (tE X.K X.mg W (evE cl b)) (tE X.K X.mg W (evE cl c)) σ H Q := by
  obtain ⟨w, e, h, R, p⟩ := q
  simp only [evE] at p
  refine ⟨w, e, h, R, p.bd.mono fun r e1 h1 w1 H1 E1 R1 p1 x rx nx => ?_⟩
  refine ⟨w1, e1, h1, R1, p1.bd.mono fun r' e2 h2 w2 H2 E2 R2 p2 y ry ny => ?_⟩
  split at p2
  · rename_i d1 d2 k1 k2
    split at p2
    · rename_i k3
      refine ⟨w2, d1, d2, true, R2.wok, rd_cn R2 (rx.mono E2) k1, rd_cn R2 ry k2, k3, true, rfl, ?_⟩
      rw [if_pos rfl]
      refine ⟨w2, e2, h2, R2, p2.bd.mono fun r3 e3 h3 w3 H3 E3 R3 p3 z rz nz => ?_⟩
      split at p3
      · rename_i d2' d3 k4 k5
        cases k6 : cmpD o' d2' d3 with
        | none => rw [k6] at p3; exact p3.elim
        | some k =>
          rw [k6] at p3
          exact ⟨w3, d2', d3, k, R3.wok, rd_cn R3 (ry.mono E3) k4, rd_cn R3 rz k5, k6, p3.ok (.refl _ _) R3 _ (by show RV _ _ _ _ _; unfold RV; rfl) trivial⟩
      · exact p3.elim
    · rename_i k3
      refine ⟨w2, d1, d2, false, R2.wok, rd_cn R2 (rx.mono E2) k1, rd_cn R2 ry k2, k3, false, rfl, ?_⟩
      rw [if_neg Bool.false_ne_true]
      exact p2.ok (.refl _ _) R2 _ (by show RV _ _ _ _ _; unfold RV; rfl) trivial
    · exact p2.elim
  · exact p2.elim
theorem pe_chainM (C : Cz cl kn X N sc fnp W) (o o' : Cm) (ha : PE X pa (tE X.K X.mg W (evE cl a))) (hb : PE X pb (tE X.K X.mg W (evE cl b))) (hc : PE X pc (tE X.K X.mg W (evE cl c))) (hm : behindInMarks (cmOf o') pc = false) :
    PE X (.Compare pa [cmOf o, cmOf o'] [pb, pc] pos) (tE X.K X.mg W (evE cl (.chain o o' a b c))) :=
  PE.imp (pe_chain (cmp_ok C.room o) (cmp_ok C.room o') ha hb hc hm) fun σ H Q q => tE_chain q
theorem bd_some {α β : Type} {m : Option (O α)} {f : α → Ev → AH → Option (O β)} {b : β} {e : Ev} {h : AH} (q : Mp.bd m f = some (.ok b e h)) : ∃ a e1 h1, m = some (.ok a e1 h1) ∧ f a e1 h1 = some (.ok b e h) := by
  cases m with
  | none => cases q
  | some o =>
    cases o with
    | ok a e1 h1 => exact ⟨a, e1, h1, rfl, q⟩
    | ex c p e1 h1 => cases q
/-- a comparison's answer is a bool -/
theorem evE_chain_bl {o o' : Cm} {e e' : Ev} {h h' : AH} {r : Rv} (q : evE cl (.chain o o' a b c) e h = some (.ok r e' h')) : ∃ k, r = .v (.bl k) := by
  simp only [evE] at q
  obtain ⟨x, e1, h1, _, q⟩ := bd_some q
  obtain ⟨y, e2, h2, _, q⟩ := bd_some q
  split at q
  · split at q
    · obtain ⟨z, e3, h3, _, q⟩ := bd_some q
      split at q
      · unfold lift at q
        simp only [Option.map_map, Option.map_eq_some_iff, Function.comp] at q
        obtain ⟨k, _, q⟩ := q
        cases q
        exact ⟨k, rfl⟩
      · cases q
    · cases q; exact ⟨false, rfl⟩
    · cases q
  · cases q
theorem pt_chainM (C : Cz cl kn X N sc fnp W) (o o' : Cm) (ha : PE X pa (tE X.K X.mg W (evE cl a))) (hb : PE X pb (tE X.K X.mg W (evE cl b))) (hc : PE X pc (tE X.K X.mg W (evE cl c))) (hm : behindInMarks (cmOf o') pc = false) :
    PT X (.Compare pa [cmOf o, cmOf o'] [pb, pc] pos) (tT X.K X.mg W (evE cl (.chain o o' a b c))) := by
  refine PT.imp (pt_chain (cmp_ok C.room o) (cmp_ok C.room o') ha hb hc hm) fun σ H Q q => ?_
  show tChain _ _ _ _ _ σ H _
  refine tE_chain ?_
  obtain ⟨w, e, h, R, p⟩ := q
  refine ⟨w, e, h, R, ?_⟩
  unfold PO at p ⊢
  split
  · rename_i r e' h' e1
    rw [e1] at p
    obtain ⟨k, rfl⟩ := evE_chain_bl e1
    intro w' H' x1 r1 y ry _
    obtain ⟨b, hb, hQ⟩ := p w' H' x1 r1
    have ry' : RV X.K w' H' (.bl k) y := ry
    unfold RV at ry'
    cases hb
    exact ⟨k, ry', hQ⟩
  · rename_i e1
    rw [e1] at p
    exact p
  · rename_i e1
    rw [e1] at p
    exact p

/-! ### items -/
def notSlice : Expr → Bool
  | .Slice .. => false
  | _ => true
theorem plainIx_of {pb : Expr} (h : notSlice pb = true) : PlainIx pb := by
  cases pb <;> first | (intro _ _; rfl) | cases h
theorem pe_ixM (C : Cz cl kn X N sc fnp W) (ha : PE X pa (tE X.K X.mg W (evE cl a))) (hb : PE X pb (tE X.K X.mg W (evE cl b))) (hs : notSlice pb = true) : PE X (.Subscript pa pb pos) (tE X.K X.mg W (evE cl (.ix a b))) := by
  refine PE.imp (pe_ix (ix_ok C.room) ha hb (plainIx_of hs)) fun σ H Q q => ?_
  refine tE_bin (q := by simpa only [evE] using q) fun w0 H0 r r' e h w H x y E0 R rx ry p => ?_
  split at p
  · rename_i d1 d2 e1 e2
    cases q2 : ixD d1 d2 with
    | none => rw [q2] at p; exact p.elim
    | some z =>
      rw [q2] at p
      exact ⟨w, d1, d2, z, rd_cn R rx e1, rd_cn R ry e2, q2, fun y' ry' => p.ok (.refl _ _) R _ ry' trivial⟩
  · exact p.elim
end
end Mp

/-! arguments, displays, built-in functions, isinstance -/
namespace Mp
open PySem L2 PyProof.Rows

def noStar : Expr → Bool
  | .Starred .. => false
  | _ => true
theorem starEach_cons {e : Expr} {es : List Expr} {env : Env} (h : noStar e = true) : starEach (e :: es) env = (false, eval e env) :: starEach es env := by
  cases e <;> first | rfl | cases h
theorem starEach_plain {env : Env} {pos : Pos} : ∀ {es : List Expr}, es.all noStar = true → (backTo pos (starEach es env)).any (·.1) = false
  | [], _ => rfl
  | e :: es, h => by
    simp only [List.all_cons, Bool.and_eq_true] at h
    rw [starEach_cons h.1]
    have ih := starEach_plain (env := env) (pos := pos) h.2
    unfold backTo at ih ⊢
    rw [List.map_cons, List.any_cons, ih]
    rfl
/-- the new things among the answers -/
def frV : List Rv → List V → List V
  | .fr _ :: rs, x :: xs => x :: frV rs xs
  | _ :: rs, _ :: xs => frV rs xs
  | _, _ => []
/-- several answers -/
def Rrs (K : PySem.W.Frag) (w : Wd) (σ : L2.St) (H : Hp) : List Rv → List V → Prop
  | [], xs => xs = []
  | r :: rs, xs => ∃ x ys, xs = x :: ys ∧ RR K w σ H r x ∧ Rrs K w σ H rs ys
theorem Rrs.mono {K : PySem.W.Frag} {w w' : Wd} {σ : L2.St} {H H' : Hp} (q : Ext w H w' H') : ∀ {rs : List Rv} {xs : List V}, Rrs K w σ H rs xs → Rrs K w' σ H' rs xs
  | [], _, h => h
  | r :: rs, _, ⟨x, ys, e, h1, h2⟩ => ⟨x, ys, e, h1.mono q, Rrs.mono q h2⟩
theorem Rrs.length {K : PySem.W.Frag} {w : Wd} {σ : L2.St} {H : Hp} : ∀ {rs : List Rv} {xs : List V}, Rrs K w σ H rs xs → xs.length = rs.length
  | [], _, h => by cases (show _ = [] from h); rfl
  | r :: rs, _, ⟨x, ys, e, h1, h2⟩ => by subst e; simp [Rrs.length h2]
/-- arguments' end -/
abbrev kR (K : PySem.W.Frag) (σ : L2.St) (w0 : Wd) (Q : List V → Hp → Prop) : List Rv → Ev → AH → Wd → Hp → Prop := fun rs _ _ w' H' => ∀ xs, Rrs K w' σ H' rs xs → (frV rs xs).Nodup → (∀ a, V.ref a ∈ frV rs xs → ¬ w0.τ a) → Q xs H'
def tR (K : PySem.W.Frag) (mg : Str → Option Value) (W : WX) (m : Ev → AH → Option (O (List Rv))) : TA := fun σ H Q => ∃ w e h, Rel K w e h σ H ∧ PO K mg W σ w H (m e h) (kR K σ w Q)
theorem frV_ref {K : PySem.W.Frag} {w : Wd} {σ : L2.St} {H : Hp} : ∀ {rs : List Rv} {xs : List V} {x : V}, Rrs K w σ H rs xs → x ∈ frV rs xs → ∃ a, x = .ref a ∧ w.τ a
  | [], _, x, h, hx => by cases (show _ = [] from h); simp [frV] at hx
  | r :: rs, _, x, ⟨y, ys, e, h1, h2⟩, hx => by
    subst e
    cases r with
    | fr o =>
      rcases List.mem_cons.mp (show x ∈ y :: frV rs ys from hx) with rfl | hx
      · obtain ⟨a, e, t, _⟩ := h1; exact ⟨a, e, t⟩
      · exact frV_ref h2 hx
    | v d => exact frV_ref h2 hx
    | bor i => exact frV_ref h2 hx
section
variable {cl : Cl} {kn : List Str} {X : Cx} {N : List Str} {sc : Scope} {fnp : Str → Bool} {W : WX} {a b c : E} {es : Es} {pa pb pc : Expr} {pes rest : List Expr} {pos : Pos}
theorem pa_nilM : PA X [] (tR X.K X.mg W (evR cl .nil)) := by
  refine PA.imp pa_nil fun σ H Q q => ?_
  obtain ⟨w, e, h, R, p⟩ := q
  simp only [evR] at p
  exact p.ok (.refl _ _) R [] rfl List.nodup_nil (fun a z => by simp [frV] at z)
theorem pa_consM (ha : PE X pa (tE X.K X.mg W (evE cl a))) (hr : PA X pes (tR X.K X.mg W (evR cl es))) (hs : noStar pa = true) : PA X (pa :: pes) (tR X.K X.mg W (evR cl (.cons false a es))) := by
  refine PA.imp (pa_cons ha hr (starEach_cons hs)) fun σ H Q q => ?_
  obtain ⟨w, e, h, R, p⟩ := q
  simp only [evR] at p
  refine ⟨w, e, h, R, p.bd.mono fun r e1 h1 w1 H1 E1 R1 p1 x rx nx => ?_⟩
  refine ⟨w1, e1, h1, R1, p1.bd.mono fun rs e2 h2 w2 H2 E2 R2 p2 xs rrs nd nw => ?_⟩
  refine p2.ok (.refl _ _) R2 (x :: xs) ⟨x, xs, rfl, rx.mono E2, rrs⟩ ?_ ?_
  · cases r with
    | fr o =>
      refine List.nodup_cons.mpr ⟨fun hx => ?_, nd⟩
      obtain ⟨a, e, t, _⟩ := rx
      subst e
      exact nw a hx t
    | v d => exact nd
    | bor i => exact nd
  · intro a ha
    cases r with
    | fr o =>
      rcases List.mem_cons.mp (show V.ref a ∈ x :: frV rs xs from ha) with z | z
      · exact nx a z.symm
      · exact fun t => nw a z (E1.tmp a t)
    | v d => exact fun t => nw a ha (E1.tmp a t)
    | bor i => exact fun t => nw a ha (E1.tmp a t)
/-- reading them all -/
theorem rds_cn {w : Wd} {e : Ev} {h : AH} {σ : L2.St} {H : Hp} (R : Rel X.K w e h σ H) : ∀ {rs : List Rv} {xs : List V} {ds : List D}, Rrs X.K w σ H rs xs → rs.mapM (rd e h) = some ds → Cns X.K w H ds xs
  | [], _, ds, k, q => by
    cases (show _ = [] from k)
    simp at q
    subst q
    rfl
  | r :: rs, _, ds, ⟨x, ys, e1, h1, h2⟩, q => by
    subst e1
    rw [List.mapM_cons] at q
    cases q1 : rd e h r with
    | none => rw [q1] at q; cases q
    | some d =>
      rw [q1] at q
      cases q2 : rs.mapM (rd e h) with
      | none => rw [q2] at q; cases q
      | some es =>
        rw [q2] at q
        cases q
        exact ⟨x, ys, rfl, rd_cn R h1 q1, rds_cn R h2 q2⟩

/-! ### built-in functions -/
def biTy : Bi → Bool
  | .tuple | .list | .int | .dict => true
  | _ => false
theorem pe_biM (C : Cz cl kn X N sc fnp W) (b : Bi) {x : Str} {p : Pos} (hx : x = PySem.Str.ofString (biName b)) (hg : sc.names.lookup x = some .globalImplicit) (ha : PA X (pa :: pes) (tR X.K X.mg W (evR cl es))) (hs : (pa :: pes).all noStar = true) :
    PE X (.Call (.Name x p) (pa :: pes) [] pos) (tE X.K X.mg W (evE cl (.bi b es))) := by
  have hs' : noStar pa = true ∧ pes.all noStar = true := by simpa using hs
  have gl : Gl X x := by
    show X.env.scope.names.lookup x = _
    rw [C.eS]; exact hg
  have q0 : ∀ σ H Q, tE X.K X.mg W (evE cl (.bi b es)) σ H Q → tCB (rBi X.K b) (tR X.K X.mg W (evR cl es)) σ H Q := by
    rintro σ H Q ⟨w, e, h, R, p⟩
    simp only [evE] at p
    refine ⟨w, e, h, R, p.bd.mono fun rs e1 h1 w1 H1 E1 R1 p1 xs rrs nd nw => ?_⟩
    split at p1
    · rename_i ds hd
      cases q2 : bfn b ds with
      | none => rw [q2] at p1; exact p1.elim
      | some r =>
        rw [q2] at p1
        exact ⟨w1, ds, r, R1.wok, rds_cn R1 rrs hd, q2, Pst.of E1 R1 p1 (bfn_nb q2)⟩
    · exact p1.elim
  have hm : X.mg x = none := C.bn x (by subst hx; cases b <;> decide +kernel)
  have hn : x ≠ "__name__" ∧ (x == ("__debug__" : Str)) = false := by subst hx; cases b <;> decide +kernel
  by_cases ty : biTy b = true
  · obtain ⟨T, hT, hv⟩ : ∃ T, biVal b = .type T ∧ bootBuiltins x = some (.type T) := by
      subst hx
      cases b <;> first | (exact ⟨_, rfl, by decide +kernel⟩) | (exact absurd ty (by decide))
    exact PE.imp (pe_callTy (by rw [← hT]; exact bi_ok C.calm C.room C.gd b) gl hm hv ha hn.1 hn.2 (starEach_cons hs'.1) (starEach_plain hs'.2)) q0
  · obtain ⟨T, hT, hv⟩ : ∃ T, biVal b = .builtin T ∧ bootBuiltins x = some (.builtin T) := by
      subst hx
      cases b <;> first | (exact ⟨_, rfl, by decide +kernel⟩) | (exact absurd rfl ty)
    exact PE.imp (pe_callB (by rw [← hT]; exact bi_ok C.calm C.room C.gd b) gl hm hv ha hn.1 hn.2 (starEach_cons hs'.1) (starEach_plain hs'.2)) q0

/-! ### displays -/
theorem pa_nilD : PA X [] (tD X.K X.mg W (evD cl .nil)) := by
  refine PA.imp pa_nil fun σ H Q q => ?_
  obtain ⟨w, e, h, R, p⟩ := q
  simp only [evD] at p
  exact p.ok (.refl _ _) R [] RVs.nil
theorem pa_consD (ha : PE X pa (tE X.K X.mg W (evE cl a))) (hr : PA X pes (tD X.K X.mg W (evD cl es))) (hs : noStar pa = true) : PA X (pa :: pes) (tD X.K X.mg W (evD cl (.cons false a es))) := by
  refine PA.imp (pa_cons ha hr (starEach_cons hs)) fun σ H Q q => ?_
  obtain ⟨w, e, h, R, p⟩ := q
  simp only [evD] at p
  refine ⟨w, e, h, R, (PO.bd0 p).mono fun r e1 h1 w1 H1 E1 R1 p1 x rx nx => ?_⟩
  split at p1
  · rename_i d e1' k
    obtain ⟨w1', E1', R1', rv⟩ := frz_ok E1 R1 rx nx k
    refine ⟨w1', e1', h1, R1', (PO.bd (PO.fwd E1' p1)).mono fun ds e2 h2 w2 H2 E2 R2 p2 xs rvs => ?_⟩
    exact p2.ok (.refl _ _) R2 (x :: xs) (RVs.cons (RV.mono E2 d x rv) rvs)
  · exact p1.elim
theorem pe_tupM {k : Nat} (h : PA X pes (tD X.K X.mg W (evD cl es))) : PE X (.Tuple pes k pos) (tE X.K X.mg W (evE cl (.tup es))) := by
  refine PE.imp (pe_tup h) fun σ H Q q => ?_
  obtain ⟨w, e, h, R, p⟩ := q
  simp only [evE] at p
  refine ⟨w, e, h, R, p.bd.mono fun ds e1 h1 w1 H1 E1 R1 p1 xs rvs => ?_⟩
  split at p1
  · rename_i c
    simp only [decide_eq_true_eq] at c
    refine ⟨by rw [sizeLine_max, rvs.length]; exact c, ?_⟩
    exact Pst.tup (Pst.of E1 R1 p1 fun i z => nomatch z) rvs
  · exact p1.elim
theorem pe_lstM (h : PA X pes (tD X.K X.mg W (evD cl es))) : PE X (.List pes pos) (tE X.K X.mg W (evE cl (.lst es))) := by
  refine PE.imp (pe_lst h) fun σ H Q q => ?_
  obtain ⟨w, e, h, R, p⟩ := q
  simp only [evE] at p
  refine ⟨w, e, h, R, p.bd.mono fun ds e1 h1 w1 H1 E1 R1 p1 xs rvs => ?_⟩
  split at p1
  · rename_i c
    simp only [decide_eq_true_eq] at c
    refine ⟨by rw [sizeLine_max, rvs.length]; exact c, ?_⟩
    exact Pst.lst R1.wok (Pst.of E1 R1 p1 fun i z => nomatch z) rvs
  · exact p1.elim
end
end Mp

/-! isinstance, methods, what is shared -/
namespace Mp
open PySem L2 PyProof.Rows

/-! ### isinstance -/
def tyD : D → String
  | .non => "NoneType" | .bl _ => "bool" | .int _ => "int" | .str _ => "str" | .tup _ => "tuple" | .lst _ => "list" | .dct _ _ => "dict" | .ref _ => "list" | .scr _ => "list" | .rp _ => "str"
def tyN : Ty → String
  | .int => "int" | .bool => "bool" | .str => "str" | .tuple => "tuple" | .list => "list" | .dict => "dict"
theorem tyx_of {K : PySem.W.Frag} {w : Wd} {H : Hp} {d : D} {x : V} (h : Cn K w H d x) : TyX K H x (.type (tyD d)) := by
  cases d
  case non => cases h.non; exact .base .non
  case bl => cases h.bl; exact .base (.bl _)
  case int => cases h.int; exact .base (.int _)
  case str => cases h.str; exact .base (.str _)
  case tup => obtain ⟨a, vs, rfl, q, _⟩ := h.tup; exact .base (.tup q)
  case lst => obtain ⟨a, vs, rfl, q, _⟩ := h.lst; exact .base (.lst q)
  case dct =>
    obtain ⟨a, vs, rfl, q, _⟩ := h
    unfold DcR at q
    split at q
    · obtain ⟨kvs, q, _⟩ := q; exact .base (.dK q)
    · obtain ⟨kvs, q, _⟩ := q; exact .base (.dT q)
  case ref => exact h.elim
  case rp => cases h.rp; exact .base (.str _)
  case scr =>
    unfold Cn RV at h
    obtain ⟨a, h⟩ := h
    rcases h with ⟨rfl, _, o, h⟩ | ⟨o, its, n, rfl, h1, h2, _⟩
    · exact .base (.frz h)
    · exact .kList h1 h2
theorem kit_D (d : D) (t : Ty) (h : ∀ k, d ≠ .ref k) : kitB (tyD d) (tyN t) = some (isTy d t) := by
  cases d <;> cases t <;> first | (exact absurd rfl (h _)) | (show kitB _ _ = some _; simp only [tyD, tyN, isTy]; decide +kernel)
section
variable {cl : Cl} {kn : List Str} {X : Cx} {N : List Str} {sc : Scope} {fnp : Str → Bool} {W : WX} {a b c o : E} {es : Es} {pa pb pc po : Expr} {pes rest : List Expr} {pos : Pos}
theorem pe_isiM (C : Cz cl kn X N sc fnp W) (t : Ty) {y : Str} {p1 p2 : Pos} (hy : y = PySem.Str.ofString (tyN t)) (g1 : sc.names.lookup (PySem.Str.ofString "isinstance") = some .globalImplicit) (g2 : sc.names.lookup y = some .globalImplicit)
    (ha : PE X pa (tE X.K X.mg W (evE cl a))) (hs : noStar pa = true) : PE X (.Call (.Name (PySem.Str.ofString "isinstance") p1) [pa, .Name y p2] [] pos) (tE X.K X.mg W (evE cl (.isi a t))) := by
  have gl1 : Gl X (PySem.Str.ofString "isinstance") := by
    show X.env.scope.names.lookup _ = _
    rw [C.eS]; exact g1
  have gl2 : Gl X y := by
    show X.env.scope.names.lookup _ = _
    rw [C.eS]; exact g2
  have m1 : X.mg (PySem.Str.ofString "isinstance") = none := C.bn _ (by decide +kernel)
  have m2 : X.mg y = none := C.bn y (by subst hy; cases t <;> decide +kernel)
  have v2 : bootBuiltins y = some (.type (tyN t)) := by subst hy; cases t <;> decide +kernel
  have n2 : y ≠ "__name__" ∧ (y == ("__debug__" : Str)) = false := by subst hy; cases t <;> decide +kernel
  have h2 : PE X (.Name y p2) (tC (.ty (tyN t))) := pe_bltn gl2 m2 v2 (by rfl) n2.1 n2.2
  refine PE.imp (pe_callB call_isi gl1 m1 (by decide +kernel) (pa_cons ha (pa_cons h2 pa_nil) (starEach_cons hs)) (by decide) (by decide) (starEach_cons hs)) ?_
  rintro σ H Q ⟨w, e, h, R, p⟩
  simp only [evE] at p
  refine ⟨w, e, h, R, p.bd.mono fun r e1 h1 w1 H1 E1 R1 p1 x rx nx => ?_⟩
  split at p1
  · rename_i d hd
    have cn := rd_cn R1 rx hd
    refine ⟨x, .ty (tyN t), _, _, isTy d t, rfl, .ty _, tyx_of cn, kit_ty (kit_D d t ?_), p1.ok (.refl _ _) R1 _ (by show RV _ _ _ _ _; unfold RV; rfl) trivial⟩
    rintro k rfl
    exact cn
  · exact p1.elim

/-! ### methods -/
def meId : Me → String
  | .lappend => "list.append" | .lpop => "list.pop" | .lextend => "list.extend" | .lcount => "list.count" | .lindex => "list.index"
def meName : Me → String
  | .lappend => "append" | .lpop => "pop" | .lextend => "extend" | .lcount => "count" | .lindex => "index"
/-- what is wanted behind a change of the thing at a -/
def Wst (K : PySem.W.Frag) (w : Wd) (H : Hp) (a : Addr) (o' : Ob) (d : D) (Q : VK) : Prop := ∀ u z, ObR K w (upd H a u) o' a → RV K w (upd H a u) d z → Q z (upd H a u)
def rMew (K : PySem.W.Frag) (m : Me) : V → List V → Hp → VK → Prop := fun x xs H Q => ∃ w a ob ds ob' d, x = .ref a ∧ w.M a ∧ ¬ w.T a ∧ WOk w H ∧ ObR K w H ob a ∧ (if m.stores then RVs K w H ds xs else Cns K w H ds xs) ∧ mew m ob ds = some (ob', d) ∧ Wst K w H a ob' d Q
theorem MtM.r {id : String} {r : V → List V → Hp → VK → Prop} (h : MtM X id r) : MtR X id r := h
theorem mew_ok (m : Me) (hw : m.writes = true) : MtR X (meId m) (rMew X.K m) := by
  intro pins s σ H x xs v us Q I rx rs h
  obtain ⟨w, a, ob, ds, ob', d, rfl, hm, ht, ok, obr, args, e, q⟩ := h
  have X1 : ∀ u, Ext w H w (upd H a u) := fun u => Ext.own hm ht (ok a hm).2
  unfold mew at e
  split at e
  · rename_i ys d1
    split at e
    · rename_i c
      cases e
      simp only [decide_eq_true_eq] at c
      obtain ⟨vs, ho, r⟩ := obr
      have args' : RVs X.K w H [d1] xs := by simpa [Me.stores] using args
      unfold RVs at args'
      obtain ⟨y, t, rfl, r1, r2⟩ := args'
      unfold RVs at r2
      subst r2
      refine (MtM.r mt_append) pins s σ H _ _ v us Q I rx rs ⟨a, vs, y, rfl, rfl, ho, by rw [sizeLine_max, r.length]; exact c, q _ _ ?_ (by unfold RV; rfl)⟩
      exact ⟨_, upd_same, (r.append (RVs.cons r1 RVs.nil)).mono (X1 _)⟩
    · cases e
  · rename_i ys
    split at e
    · rename_i y hy
      cases e
      obtain ⟨vs, ho, r⟩ := obr
      have args' : Cns X.K w H [] xs := by simpa [Me.stores] using args
      cases (show xs = [] from args')
      obtain ⟨z, hz, rz⟩ := r.get hy
      rw [← r.length] at hz
      refine (MtM.r mt_pop) pins s σ H _ _ v us Q I rx rs ⟨a, vs, z, rfl, rfl, ho, hz, q _ _ ?_ (RV.mono (X1 _) _ _ rz)⟩
      exact ⟨_, upd_same, r.dropLast.mono (X1 _)⟩
    · cases e
  · rename_i ys k
    split at e
    · rename_i c
      simp only [Bool.and_eq_true, decide_eq_true_eq] at c
      split at e
      · rename_i j hj
        simp only [Option.map_eq_some_iff] at e
        obtain ⟨y, hy, e⟩ := e
        cases e
        obtain ⟨vs, ho, r⟩ := obr
        have args' : Cns X.K w H [.int k] xs := by simpa [Me.stores] using args
        obtain ⟨t, rfl, c1⟩ := args'.one
        cases c1.int
        obtain ⟨z, hz, rz⟩ := r.get hy
        have hj' : L2.ixN ys.length k = some j := hj
        rw [← r.length] at hj'
        refine (MtM.r mt_popAt) pins s σ H _ _ v us Q I rx rs ⟨a, vs, k, j, z, rfl, rfl, ho, c.1, c.2, (ixN_seq hj').1, hz, q _ _ ?_ (RV.mono (X1 _) _ _ rz)⟩
        exact ⟨_, upd_same, (r.eraseIdx j).mono (X1 _)⟩
      · cases e
    · cases e
  · rename_i ys zs
    split at e
    · rename_i c
      cases e
      simp only [decide_eq_true_eq] at c
      obtain ⟨vs, ho, r⟩ := obr
      have args' : Cns X.K w H [.lst zs] xs := by simpa [Me.stores] using args
      obtain ⟨t, rfl, c1⟩ := args'.one
      obtain ⟨b, us2, rfl, hb, r2⟩ := c1.lst
      refine (MtM.r mt_extend) pins s σ H _ _ v us Q I rx rs ⟨a, b, vs, us2, rfl, rfl, ho, hb, by rw [sizeLine_max, r.length, r2.length]; exact c, q _ _ ?_ (by unfold RV; rfl)⟩
      exact ⟨_, upd_same, (r.append r2).mono (X1 _)⟩
    · cases e
  · cases e
def rMer (K : PySem.W.Frag) (m : Me) : V → List V → Hp → VK → Prop := fun x xs H Q => ∃ w d ds r, WOk w H ∧ Cn K w H d x ∧ Cns K w H ds xs ∧ mer m d ds = some r ∧ Pst K w H r Q
theorem mer_ok (m : Me) (hw : m.writes = false) : MtR X (meId m) (rMer X.K m) := by
  intro pins s σ H x xs v us Q I rx rs h
  obtain ⟨w, d, ds, r, ok, cn, args, e, q⟩ := h
  unfold mer at e
  split at e
  · rename_i ys k
    simp only [Option.map_eq_some_iff] at e
    obtain ⟨l, hl, rfl⟩ := e
    obtain ⟨a, vs, rfl, ho, r⟩ := cn.lst
    rw [intsOf_map hl] at r
    rw [r.ints] at ho
    obtain ⟨t, rfl, c1⟩ := args.one
    cases c1.int
    exact mt_lcount pins s σ H _ _ v us Q I rx rs ⟨a, l, k, rfl, rfl, SqL.of ho, q.int⟩
  · cases e
theorem me_slot (m : Me) : PlainAttrs "list" ∧ Slot "list" (PySem.Str.ofString (meName m)) (meId m) ∧ typeOf (.builtin (meId m)) = pure (.type "method_descriptor") := by
  cases m
  · exact ⟨PySem.F.plainAttrs_list, PySem.F.slot_list_append, PySem.F.type_list_append⟩
  · exact ⟨PySem.F.plainAttrs_list, PySem.F.slot_list_pop, PySem.F.type_list_pop⟩
  · exact ⟨PySem.F.plainAttrs_list, PySem.F.slot_list_extend, PySem.F.type_list_extend⟩
  · exact ⟨PySem.F.plainAttrs_list, PySem.F.slot_list_count, PySem.F.type_list_count⟩
  · exact ⟨PySem.F.plainAttrs_list, PySem.F.slot_list_index, PySem.F.type_list_index⟩
theorem of_list {m : Me} {d : D} {K : PySem.W.Frag} {w : Wd} {H : Hp} {x : V} (h : m.of d = true) (cn : Cn K w H d x) : tyV K "list" x H := by
  cases d <;> first | (simp [Me.of] at h; done) | skip
  obtain ⟨a, vs, rfl, q, _⟩ := cn.lst
  exact .inl ⟨rfl, vs, SqL.of q⟩
/-- the world's own thing that an answer means -/
theorem place_of {w : Wd} {e : Ev} {h : AH} {σ : L2.St} {H : Hp} {ro : Rv} {x : V} (R : Rel X.K w e h σ H) (rx : RR X.K w σ H ro x) : (∀ i ob, ro = .bor i → e[i]? = some (.ow ob) → ∃ a, x = .ref a ∧ w.ω i = some a ∧ σ[i]? = some (some (.ref a)) ∧ ObR X.K w H ob a) ∧
    (∀ n ob, ro = .v (.ref n) → h[n]? = some ob → ∃ a, x = .ref a ∧ w.ρ[n]? = some a ∧ ObR X.K w H ob a) := by
  refine ⟨fun i ob e1 e2 => ?_, fun n ob e1 e2 => ?_⟩
  · subst e1
    obtain ⟨a, h1, h2, h3⟩ := R.slot i _ e2
    have rx' : σ[i]? = some (some x) := rx
    rw [rx'] at h2
    cases h2
    exact ⟨a, rfl, h1, rx', h3⟩
  · subst e1
    have rx' : RV X.K w H (.ref n) x := rx
    unfold RV at rx'
    obtain ⟨a, rfl, hr⟩ := rx'
    exact ⟨a, rfl, hr, R.obs n ob a e2 hr⟩
/-- a method's end -/
theorem method_ok {m : Me} {w0 w w1 : Wd} {H0 H1 H : Hp} {e : Ev} {h : AH} {σ : L2.St} {ro : Rv} {x : V} {rs : List Rv} {xs : List V} {Q : VK} (E0 : Ext w0 H0 w1 H1) (E1 : Ext w1 H1 w H) (R : Rel X.K w e h σ H) (rx : RR X.K w1 σ H1 ro x) (rrs : Rrs X.K w σ H rs xs)
    (nw : ∀ a, V.ref a ∈ frV rs xs → ¬ w1.τ a) (p : PO X.K X.mg W σ w0 H0 (method m ro rs e h) (kE X.K σ w0 Q)) : (m.writes = true → rMew X.K m x xs H Q) ∧ (m.writes = false → rMer X.K m x xs H Q) := by
  unfold method at p
  refine ⟨fun hw => ?_, fun hw => ?_⟩
  · rw [if_pos hw] at p
    split at p
    · rename_i ds e' hmg
      -- the arguments placed
      have ma : ∃ w', Ext w1 H1 w' H ∧ Rel X.K w' e' h σ H ∧ (if m.stores then RVs X.K w' H ds xs else Cns X.K w' H ds xs) := by
        unfold margs at hmg
        split at hmg
        · rename_i hst
          split at hmg
          · rename_i r
            simp only [Option.map_eq_some_iff] at hmg
            obtain ⟨⟨d, e2⟩, hf, hh⟩ := hmg
            cases hh
            obtain ⟨y, ys, rfl, r1, r2⟩ := rrs
            cases (show ys = [] from r2)
            have ny : New w1 r y := by
              cases r with
              | fr o => exact fun a ea => nw a (by subst ea; exact List.mem_cons_self)
              | v d => trivial
              | bor i => trivial
            obtain ⟨w', k1, k2, k3⟩ := frz_ok E1 R r1 ny hf
            exact ⟨w', k1, k2, by rw [if_pos hst]; exact RVs.cons k3 RVs.nil⟩
          · cases hmg
        · rename_i hst
          simp only [Option.map_eq_some_iff] at hmg
          obtain ⟨ds2, hd, hh⟩ := hmg
          cases hh
          exact ⟨w, E1, R, by rw [if_neg hst]; exact rds_cn R rrs hd⟩
      obtain ⟨w', E1', R', args⟩ := ma
      have rx' := rx.mono E1'
      obtain ⟨pl1, pl2⟩ := place_of R' rx'
      split at p
      · rename_i i
        split at p
        · rename_i ob hob
          obtain ⟨a, rfl, ha, hσ, obr⟩ := pl1 i ob rfl hob
          cases hmw : mew m ob ds with
          | none => rw [hmw] at p; exact p.elim
          | some od =>
            obtain ⟨ob', d⟩ := od
            rw [hmw] at p
            have hM : w'.M a := .inr (.inl ⟨i, ha⟩)
            refine ⟨w', a, ob, ds, ob', d, rfl, hM, fun t => (R'.ndT a t).2.1 i ha, R'.wok, obr, args, hmw, fun u z ob2 rz => ?_⟩
            obtain ⟨k1, k2⟩ := R'.own hob ha hσ ob2
            exact p.ok ((E0.trans E1').trans k1) k2 z rz trivial
        · exact p.elim
      · rename_i n
        split at p
        · rename_i ob hob
          obtain ⟨a, rfl, ha, obr⟩ := pl2 n ob rfl hob
          cases hmw : mew m ob ds with
          | none => rw [hmw] at p; exact p.elim
          | some od =>
            obtain ⟨ob', d⟩ := od
            rw [hmw] at p
            have hM : w'.M a := .inl (List.mem_of_getElem? ha)
            refine ⟨w', a, ob, ds, ob', d, rfl, hM, fun t => (R'.ndT a t).1 (List.mem_of_getElem? ha), R'.wok, obr, args, hmw, fun u z ob2 rz => ?_⟩
            obtain ⟨k1, k2⟩ := R'.shared ha ob2
            exact p.ok ((E0.trans E1').trans k1) k2 z rz trivial
        · exact p.elim
      · exact p.elim
    · exact p.elim
  · rw [if_neg (by rw [hw]; exact Bool.false_ne_true)] at p
    split at p
    · rename_i d ds hd hds
      cases hr : mer m d ds with
      | none => rw [hr] at p; exact p.elim
      | some r =>
        rw [hr] at p
        refine ⟨w, d, ds, r, R.wok, rd_cn R (rx.mono E1) hd, rds_cn R rrs hds, hr, Pst.of (E0.trans E1) R (PO.fwd (E0.trans E1) p) ?_⟩
        intro i z
        subst z
        unfold mer at hr
        split at hr
        · simp only [Option.map_eq_some_iff] at hr
          obtain ⟨_, _, hr⟩ := hr
          cases hr
        · cases hr
    · exact p.elim
def notCall0 : Expr → Bool
  | .Call _ [] [] _ => false
  | _ => true
theorem attrBase_of {name : Str} {env : Env} {e : Expr} {s : Sem Value} (h : notCall0 e = true) : attributeBase e name env s = s := by
  cases e <;> first | rfl | skip
  rename_i f as ks p
  cases as with
  | nil =>
    cases ks with
    | nil => cases h
    | cons _ _ => cases f <;> rfl
  | cons _ _ => cases f <;> rfl
theorem few_of {env : Env} {pos : Pos} {es : List Expr} (h : es.all noStar = true) (hl : es.length < 30) : ((backTo pos (starEach es env)).all (fun x => !x.1) && (backToKw pos (keywordEach [] env)).all (fun x => x.1.isSome)
      && decide (es.length + ([] : List Keyword).length + (if ([] : List Keyword).isEmpty then 0 else 1) < 30)) = true := by
  have q := starEach_plain (env := env) (pos := pos) h
  have q2 : (backTo pos (starEach es env)).all (fun x => !x.1) = true := by
    rw [List.all_eq_not_any_not]
    simp only [Bool.not_not]
    rw [q]
    rfl
  rw [q2]
  simp only [Bool.true_and, Bool.and_eq_true, decide_eq_true_eq]
  exact ⟨rfl, by simpa using hl⟩
/-- what a method's expression reads, to its values -/
theorem tE_me {m : Me} {σ : L2.St} {H : Hp} {Q : VK} (q : tE X.K X.mg W (evE cl (.me m o es)) σ H Q) : tE X.K X.mg W (evE cl o) σ H fun x H1 => tyV X.K "list" x H1 ∧ tR X.K X.mg W (evR cl es) σ H1 fun xs H2 => (m.writes = true → rMew X.K m x xs H2 Q) ∧ (m.writes = false → rMer X.K m x xs H2 Q) := by
  obtain ⟨w, e, h, R, p⟩ := q
  simp only [evE] at p
  refine ⟨w, e, h, R, (PO.bd0 p).mono fun ro e1 h1 w1 H1 E1 R1 p1 x rx nx => ?_⟩
  split at p1
  · rename_i d0 hd0
    split at p1
    · rename_i hof
      refine ⟨of_list hof (rd_cn R1 rx hd0), w1, e1, h1, R1, ?_⟩
      refine ((PO.bd0 p1).fwd E1).mono fun rs e2 h2 w2 H2 E2 R2 p2 xs rrs nd nw => ?_
      exact method_ok E1 E2 R2 rx rrs nw p2
    · exact p1.elim
  · exact p1.elim
theorem pe_meM (m : Me) {name : Str} {apos : Pos} (hn : name = PySem.Str.ofString (meName m)) (ho : PE X po (tE X.K X.mg W (evE cl o))) (ha : PA X (pa :: pes) (tR X.K X.mg W (evR cl es))) (h0 : notCall0 po = true) (hs : (pa :: pes).all noStar = true) (hl : (pa :: pes).length < 30)
    (hline : (apos.endLine == pos.line) = true) : PE X (.Call (.Attribute po name apos) (pa :: pes) [] pos) (tE X.K X.mg W (evE cl (.me m o es))) := by
  obtain ⟨s1, s2, s3⟩ := me_slot m
  subst hn
  have hs' : noStar pa = true ∧ pes.all noStar = true := by simpa using hs
  cases hw : m.writes with
  | true =>
    refine PE.imp (pe_bm s1 s2 s3 (mew_ok m hw) ho ha (attrBase_of h0) (few_of hs hl) hline (starEach_cons hs'.1) (starEach_plain hs'.2)) fun σ H Q q => ?_
    obtain ⟨w, e, h, R, p⟩ := tE_me q
    exact ⟨w, e, h, R, p.mono fun r e1 h1 w1 H1 _ _ k x rx nx => let ⟨k1, w2, e2, h2, R2, k2⟩ := k x rx nx; ⟨k1, w2, e2, h2, R2, k2.mono fun rs e3 h3 w3 H3 _ _ k3 xs a b c => (k3 xs a b c).1 hw⟩⟩
  | false =>
    refine PE.imp (pe_bm s1 s2 s3 (mer_ok m hw) ho ha (attrBase_of h0) (few_of hs hl) hline (starEach_cons hs'.1) (starEach_plain hs'.2)) fun σ H Q q => ?_
    obtain ⟨w, e, h, R, p⟩ := tE_me q
    exact ⟨w, e, h, R, p.mono fun r e1 h1 w1 H1 _ _ k x rx nx => let ⟨k1, w2, e2, h2, R2, k2⟩ := k x rx nx; ⟨k1, w2, e2, h2, R2, k2.mono fun rs e3 h3 w3 H3 _ _ k3 xs a b c => (k3 xs a b c).2 hw⟩⟩
theorem pe_me0M (m : Me) {name : Str} {apos : Pos} (hn : name = PySem.Str.ofString (meName m)) (ho : PE X po (tE X.K X.mg W (evE cl o))) (h0 : notCall0 po = true)
    (hline : (apos.endLine == pos.line) = true) : PE X (.Call (.Attribute po name apos) [] [] pos) (tE X.K X.mg W (evE cl (.me m o .nil))) := by
  obtain ⟨s1, s2, s3⟩ := me_slot m
  subst hn
  have nil : ∀ {σ : L2.St} {H : Hp} {Q : List V → Hp → Prop}, tR X.K X.mg W (evR cl .nil) σ H Q → Q [] H := fun ⟨w, e, h, R, p⟩ => by
    simp only [evR] at p
    exact p.ok (.refl _ _) R [] rfl List.nodup_nil (fun a z => by simp [frV] at z)
  cases hw : m.writes with
  | true =>
    refine PE.imp (pe_bm0 s1 s2 s3 (mew_ok m hw) ho (attrBase_of h0) hline) fun σ H Q q => ?_
    obtain ⟨w, e, h, R, p⟩ := tE_me q
    exact ⟨w, e, h, R, p.mono fun r e1 h1 w1 H1 _ _ k x rx nx => let ⟨k1, k2⟩ := k x rx nx; ⟨k1, (nil k2).1 hw⟩⟩
  | false =>
    refine PE.imp (pe_bm0 s1 s2 s3 (mer_ok m hw) ho (attrBase_of h0) hline) fun σ H Q q => ?_
    obtain ⟨w, e, h, R, p⟩ := tE_me q
    exact ⟨w, e, h, R, p.mono fun r e1 h1 w1 H1 _ _ k x rx nx => let ⟨k1, k2⟩ := k x rx nx; ⟨k1, (nil k2).2 hw⟩⟩

/-! ### what is shared -/
/-- a thing comes among the shared ones -/
def _root_.Mp.Wd.more (w : Wd) (a : Addr) : Wd := { w with ρ := w.ρ ++ [a] }
theorem _root_.Mp.Wd.more_M {w : Wd} {a b : Addr} : (w.more a).M b ↔ w.M b ∨ b = a := by
  unfold Wd.M Wd.more
  simp only [List.mem_append, List.mem_singleton]
  constructor
  · rintro ((z | z) | z)
    · exact .inl (.inl z)
    · exact .inr z
    · exact .inl (.inr z)
  · rintro ((z | z) | z)
    · exact .inl (.inl z)
    · exact .inr z
    · exact .inl (.inr z)
theorem Rel.share {w : Wd} {e : Ev} {h : AH} {σ : L2.St} {H : Hp} (R : Rel X.K w e h σ H) {o : Ob} {a : Addr} (t : w.τ a) (ob : ObR X.K w H o a) : Rel X.K ((w.take a).more a) e (h ++ [o]) σ H := by
  have MM : ∀ b, ((w.take a).more a).M b → w.M b := fun b m => by
    rcases Wd.more_M.mp m with m | rfl
    · exact Wd.take_M m
    · exact .inr (.inr (.inl t))
  have XV : ExtV w H ((w.take a).more a) H := ⟨fun _ _ q _ => q, fun _ _ q => q, fun b m => .inl (MM b m), fun n c q => by
    show (w.ρ ++ [a])[n]? = some c
    rw [List.getElem?_append_left (List.getElem?_eq_some_iff.mp q).1]; exact q⟩
  obtain ⟨t1, t2, t3⟩ := R.ndT a (.inl t)
  refine ⟨R.len, fun i s q => (R.slot i s q).at XV rfl rfl fun a u _ hu => hu, R.beyond, ?_, fun n o2 b h1 h2 => ?_, ?_, R.ndω, fun i b q => ?_, fun b tb => ?_, fun b i tb => R.ndτ b i tb.1, R.ndl⟩
  · show (w.ρ ++ [a]).length = _
    simp [R.lenρ]
  · have h2' : (w.ρ ++ [a])[n]? = some b := h2
    by_cases hn : n < h.length
    · rw [List.getElem?_append_left hn] at h1
      rw [List.getElem?_append_left (by rw [R.lenρ]; exact hn)] at h2'
      exact (R.obs n o2 b h1 h2').at XV fun u hu => hu
    · rw [List.getElem?_append_right (by omega)] at h1
      rw [List.getElem?_append_right (by rw [R.lenρ]; omega)] at h2'
      rw [R.lenρ] at h2'
      have e0 : n - h.length = 0 := by
        have := (List.getElem?_eq_some_iff.mp h1).1
        simp at this
        omega
      rw [e0] at h1 h2'
      cases h1
      cases h2'
      exact ob.at XV fun u hu => hu
  · show (w.ρ ++ [a]).Nodup
    refine List.nodup_append.mpr ⟨R.ndρ, by simp, fun b hb c hc z => ?_⟩
    have : c = a := by simpa using hc
    subst this
    subst z
    exact t1 hb
  · show b ∉ w.ρ ++ [a]
    intro hb
    rcases List.mem_append.mp hb with hb | hb
    · exact R.ndx i b q hb
    · have : b = a := by simpa using hb
      subst this
      exact t2 i q
  · have tb' : w.T b ∧ b ≠ a := by
      rcases tb with tb | ⟨i, tb⟩
      · exact ⟨.inl tb.1, tb.2⟩
      · exact ⟨.inr ⟨i, tb⟩, fun z => R.ndτ a i t (by rw [← z]; exact tb)⟩
    obtain ⟨q1, q2, q3⟩ := R.ndT b tb'.1
    refine ⟨fun hb => ?_, q2, q3⟩
    rcases List.mem_append.mp (show b ∈ w.ρ ++ [a] from hb) with hb | hb
    · exact q1 hb
    · exact tb'.2 (by simpa using hb)
theorem Ext.share {w0 w : Wd} {H0 H : Hp} (E0 : Ext w0 H0 w H) {a : Addr} (n : ¬ w0.τ a) (m : w.M a) : Ext w0 H0 ((w.take a).more a) H :=
  .mk' E0.keep E0.tup (fun b mb => by
    rcases Wd.more_M.mp mb with mb | rfl
    · exact E0.new b (Wd.take_M mb)
    · exact E0.new _ m) (fun k c q => by
    show (w.ρ ++ [a])[k]? = some c
    have q' := E0.rho k c q
    rw [List.getElem?_append_left (List.getElem?_eq_some_iff.mp q').1]; exact q') (fun b t => ⟨E0.tmp b t, fun z => n (by rw [← z]; exact t)⟩) E0.lam
theorem pe_shrM (ha : PE X pa (tE X.K X.mg W (evE cl a))) : PE X pa (tE X.K X.mg W (evE cl (.shr a))) := by
  refine PE.imp ha fun σ H Q q => ?_
  obtain ⟨w, e, h, R, p⟩ := q
  simp only [evE] at p
  refine ⟨w, e, h, R, (PO.bd0 p).mono fun r e1 h1 w1 H1 E1 R1 p1 x rx nx => ?_⟩
  split at p1
  · exact p1.ok E1 R1 x rx trivial
  · rename_i o
    obtain ⟨a, rfl, t, ob⟩ := rx
    refine p1.ok (E1.share (nx a rfl) (.inr (.inr (.inl t)))) (R1.share t ob) _ ?_ trivial
    show RV X.K _ H1 (.ref _) _
    unfold RV
    refine ⟨a, rfl, ?_⟩
    show (w1.ρ ++ [a])[h1.length]? = _
    rw [← R1.lenρ]
    simp
  · exact p1.elim
end
end Mp

/-! targets, what is walked, locks -/
namespace Mp
open PySem L2 PyProof.Rows

/-! ### targets -/
def Gs.len : Gs → Nat
  | .nil => 0
  | .cons _ r => r.len + 1
mutual
def gG (K : PySem.W.Frag) : G → TG
  | .nm i => gName i
  | .tp gs => fun v σ H Q => gTup K gs.len (gGs K gs) v σ H Q ∨ gUnl K gs.len (gGs K gs) v σ H Q
def gGs (K : PySem.W.Frag) : Gs → TGs
  | .nil => gNil
  | .cons g r => gCons (gG K g) (gGs K r)
end
mutual
def G.ts : G → List Nat
  | .nm i => [i]
  | .tp gs => gs.ts
def Gs.ts : Gs → List Nat
  | .nil => []
  | .cons g r => g.ts ++ r.ts
end
def locB (sc : Scope) (fnp : Str → Bool) (x : Str) : Bool := match sc.names.lookup x with
  | some .local => true
  | some .cell => fnp x
  | _ => false
def chkN (N : List Str) (sc : Scope) (fnp : Str → Bool) (i : Nat) (pe : Expr) : Bool := match pe with
  | .Name x _ => N[i]? == some x && locB sc fnp x
  | _ => false
mutual
def chkG (N : List Str) (sc : Scope) (fnp : Str → Bool) : G → Expr → Bool
  | .nm i, pe => chkN N sc fnp i pe
  | .tp gs, pe => match pe with
    | .Tuple es _ _ => chkGs N sc fnp gs es && decide (es.length = gs.len)
    | _ => false
def chkGs (N : List Str) (sc : Scope) (fnp : Str → Bool) : Gs → List Expr → Bool
  | .nil, es => match es with
    | [] => true
    | _ :: _ => false
  | .cons g r, es => match es with
    | e :: t => noStar e && chkG N sc fnp g e && chkGs N sc fnp r t
    | [] => false
end
theorem assignEach_cons {e : Expr} {es : List Expr} {env : Env} (h : noStar e = true) : assignEach (e :: es) env = (false, assign e env) :: assignEach es env := by
  cases e <;> first | rfl | cases h
section
variable {cl : Cl} {kn : List Str} {X : Cx} {N : List Str} {sc : Scope} {fnp : Str → Bool} {W : WX}
theorem loc_of (C : Cz cl kn X N sc fnp W) {x : Str} (h : locB sc fnp x = true) : L2.Loc X.env.scope x ∧ (X.fn x = true ∨ X.env.scope.names.lookup x = some .local) := by
  rw [C.eS]
  unfold locB at h
  unfold L2.Loc
  split at h
  · exact ⟨.inl (by assumption), .inr (by assumption)⟩
  · exact ⟨.inr (by assumption), .inl (C.fn x h)⟩
  · cases h
theorem pg_nameM (C : Cz cl kn X N sc fnp W) {i : Nat} {pe : Expr} (h : chkN N sc fnp i pe = true) : PG X pe (gName i) := by
  cases pe with
  | Name x pos =>
    simp only [chkN, Bool.and_eq_true, beq_iff_eq] at h
    obtain ⟨h1, h2⟩ := loc_of C h.2
    exact pg_name (by rw [C.eN]; exact C.nd) (by rw [C.eN]; exact h.1) h1 h2
  | _ => cases h
theorem chkGs_each {env : Env} : ∀ {gs : Gs} {es : List Expr}, chkGs N sc fnp gs es = true → (assignEach es env).length = es.length ∧ (assignEach es env).findIdx? (·.1) = none
  | .nil, [], _ => ⟨rfl, rfl⟩
  | .nil, _ :: _, h => by simp [chkGs] at h
  | .cons g r, [], h => by simp [chkGs] at h
  | .cons g r, e :: t, h => by
    simp only [chkGs, Bool.and_eq_true] at h
    rw [assignEach_cons h.1.1]
    obtain ⟨h1, h2⟩ := chkGs_each (env := env) h.2
    refine ⟨by simp [h1], ?_⟩
    rw [List.findIdx?_cons]
    simp [h2]
mutual
theorem pg_ok (C : Cz cl kn X N sc fnp W) : ∀ (g : G) (pe : Expr), chkG N sc fnp g pe = true → PG X pe (gG X.K g)
  | .nm i, pe, h => pg_nameM C (by simpa only [chkG] using h)
  | .tp gs, pe, h => by
    simp only [chkG] at h
    cases pe with
    | Tuple es k pos =>
      simp only [Bool.and_eq_true, decide_eq_true_eq] at h
      obtain ⟨h1, h2⟩ := chkGs_each (env := X.env) h.1
      have g1 := pg_tup (k := k) (pos := pos) C.calm (pgs_ok C gs es h.1) (by rw [h1, h.2]) h2
      have g2 := pg_unl (k := k) (pos := pos) C.calm (pgs_ok C gs es h.1) (by rw [h1, h.2]) h2
      exact ⟨fun pins s σ H v u Q I r q => q.elim (fun q => g1.run pins s σ H v u Q I r q) fun q => g2.run pins s σ H v u Q I r q⟩
    | _ => cases h
theorem pgs_ok (C : Cz cl kn X N sc fnp W) : ∀ (gs : Gs) (es : List Expr), chkGs N sc fnp gs es = true → PGs X es (gGs X.K gs)
  | .nil, [], _ => pgs_nil
  | .nil, _ :: _, h => by simp [chkGs] at h
  | .cons g r, [], h => by simp [chkGs] at h
  | .cons g r, e :: t, h => by
    simp only [chkGs, Bool.and_eq_true] at h
    exact pgs_cons (pg_ok C g e h.1.2) (pgs_ok C r t h.2) (by rw [assignEach_cons h.1.1]; rfl)
end
end
section
variable {K : PySem.W.Frag} {w : Wd} {H : Hp} {e : Ev} {h : AH} {σ : L2.St}
mutual
theorem bindG_ok : ∀ (g : G) (d : D) (x : V) (w : Wd) (e e' : Ev) (σ : L2.St), Rel K w e h σ H → RV K w H d x → bindG g d e = some e' →
    ∃ w' σ', Ext w H w' H ∧ Rel K w' e' h σ' H ∧ (∀ j, j ∉ g.ts → σ'[j]? = σ[j]?) ∧ σ'.length = σ.length ∧ ∀ Q : L2.St → Hp → Prop, Q σ' H → gG K g x σ H Q
  | .nm i, d, x, w, e, e', σ, R, r, k => by
    simp only [bindG] at k
    split at k
    rotate_left
    · cases k
    rename_i hl
    cases k
    have hl2 : i < σ.length := by rw [← R.len]; exact hl
    refine ⟨w.drop i, σ.set i (some x), Ext.drop i, R.setv hl (by simp) (fun j hj => List.getElem?_set_ne (Ne.symm hj)) (by simp [hl2]) (RV.mono (Ext.drop i) d x r), fun j hj => List.getElem?_set_ne (fun z => hj (by simp [G.ts, z])), by simp, fun Q q => q⟩
  | .tp gs, d, x, w, e, e', σ, R, r, k => by
    cases d with
    | tup ds =>
      have k' : bindG.bindGs gs ds e = some e' := by simpa only [bindG] using k
      unfold RV at r
      obtain ⟨a, vs, rfl, q, rs⟩ := r
      obtain ⟨w', σ', E', R', hj, hl, hQ⟩ := bindGs_ok gs ds vs w e e' σ R rs k'
      refine ⟨w', σ', E', R', by simpa only [G.ts] using hj, hl, fun Q q2 => ?_⟩
      simp only [gG]
      refine .inl ⟨a, vs, rfl, SqT.of q, ?_, hQ Q q2⟩
      rw [rs.length]
      exact bindGs_len gs ds e e' k'
    | lst ds =>
      have k' : bindG.bindGs gs ds e = some e' := by simpa only [bindG] using k
      unfold RV at r
      obtain ⟨a, vs, rfl, _, q, rs⟩ := r
      obtain ⟨w', σ', E', R', hj, hl, hQ⟩ := bindGs_ok gs ds vs w e e' σ R rs k'
      refine ⟨w', σ', E', R', by simpa only [G.ts] using hj, hl, fun Q q2 => ?_⟩
      simp only [gG]
      refine .inr ⟨a, vs, rfl, SqL.of q, ?_, hQ Q q2⟩
      rw [rs.length]
      exact bindGs_len gs ds e e' k'
    | _ => simp [bindG] at k
theorem bindGs_len : ∀ (gs : Gs) (ds : List D) (e e' : Ev), bindG.bindGs gs ds e = some e' → ds.length = gs.len
  | .nil, [], e, e', k => rfl
  | .nil, _ :: _, e, e', k => by simp [bindG.bindGs] at k
  | .cons g r, [], e, e', k => by simp [bindG.bindGs] at k
  | .cons g r, d :: ds, e, e', k => by
    simp only [bindG.bindGs, Option.bind_eq_some_iff] at k
    obtain ⟨e1, _, k2⟩ := k
    simp [Gs.len, bindGs_len r ds e1 e' k2]
theorem bindGs_ok : ∀ (gs : Gs) (ds : List D) (vs : List V) (w : Wd) (e e' : Ev) (σ : L2.St), Rel K w e h σ H → RVs K w H ds vs → bindG.bindGs gs ds e = some e' →
    ∃ w' σ', Ext w H w' H ∧ Rel K w' e' h σ' H ∧ (∀ j, j ∉ gs.ts → σ'[j]? = σ[j]?) ∧ σ'.length = σ.length ∧ ∀ Q : L2.St → Hp → Prop, Q σ' H → gGs K gs vs σ H Q
  | .nil, [], vs, w, e, e', σ, R, r, k => by
    simp only [bindG.bindGs] at k
    cases k
    unfold RVs at r
    subst r
    exact ⟨w, σ, .refl _ _, R, fun _ _ => rfl, rfl, fun Q q => ⟨rfl, q⟩⟩
  | .nil, _ :: _, vs, w, e, e', σ, R, r, k => by simp [bindG.bindGs] at k
  | .cons g r, [], vs, w, e, e', σ, R, rv, k => by simp [bindG.bindGs] at k
  | .cons g r, d :: ds, vs, w, e, e', σ, R, rv, k => by
    simp only [bindG.bindGs, Option.bind_eq_some_iff] at k
    obtain ⟨e1, k1, k2⟩ := k
    unfold RVs at rv
    obtain ⟨v, t, rfl, r1, r2⟩ := rv
    obtain ⟨w1, σ1, E1, R1, j1, l1, Q1⟩ := bindG_ok g d v w e e1 σ R r1 k1
    have el : e1.length = e.length := by rw [R1.len, l1, R.len]
    obtain ⟨w2, σ2, E2, R2, j2, l2, Q2⟩ := bindGs_ok r ds t w1 e1 e' σ1 R1 (r2.mono E1) k2
    refine ⟨w2, σ2, E1.trans E2, R2, fun j hj => ?_, l2.trans l1, fun Q q => ?_⟩
    · have hj' : j ∉ g.ts ∧ j ∉ r.ts := by simpa [Gs.ts] using hj
      rw [j2 j hj'.2, j1 j hj'.1]
    · simp only [gGs]
      exact ⟨v, t, rfl, Q1 _ (Q2 Q q)⟩
end
mutual
theorem bindG_len : ∀ (g : G) (d : D) (e e' : Ev), bindG g d e = some e' → e'.length = e.length
  | .nm i, d, e, e', k => by
    simp only [bindG] at k
    split at k
    · cases k; simp
    · cases k
  | .tp gs, d, e, e', k => by
    cases d with
    | tup ds => exact bindGs_length gs ds e e' (by simpa only [bindG] using k)
    | lst ds => exact bindGs_length gs ds e e' (by simpa only [bindG] using k)
    | _ => simp [bindG] at k
theorem bindGs_length : ∀ (gs : Gs) (ds : List D) (e e' : Ev), bindG.bindGs gs ds e = some e' → e'.length = e.length
  | .nil, ds, e, e', k => by cases ds <;> simp [bindG.bindGs] at k; exact congrArg _ k.symm
  | .cons g r, [], e, e', k => by simp [bindG.bindGs] at k
  | .cons g r, d :: ds, e, e', k => by
    simp only [bindG.bindGs, Option.bind_eq_some_iff] at k
    obtain ⟨e1, k1, k2⟩ := k
    rw [bindGs_length r ds e1 e' k2, bindG_len g d e e1 k1]
end
end

/-! ### locks -/
/-- the slots lk are walked from here on -/
def Wd.lock (w : Wd) (lk : List Nat) : Wd where
  ρ := w.ρ
  ω := fun j => if j ∈ lk then none else w.ω j
  τ := fun a => w.τ a ∨ ∃ j ∈ lk, w.lam j = some a
  lam := fun j => if j ∈ lk then w.ω j else w.lam j
theorem lock1_idem (s : Sl) : lock1 (lock1 s) = lock1 s := by
  cases s with
  | ow o => cases o <;> rfl
  | _ => rfl
theorem free1_idem (s : Sl) : free1 (free1 s) = free1 s := by cases s <;> rfl
theorem lockS_get : ∀ {lk : List Nat} {e : Ev} {j : Nat}, (lockS lk e)[j]? = if j ∈ lk then e[j]?.map lock1 else e[j]?
  | [], e, j => by simp [lockS]
  | i :: r, e, j => by
    unfold lockS
    rw [lockS_get, List.getElem?_modify]
    by_cases hj : j = i
    · subst hj
      simp only [if_pos, List.mem_cons, true_or]
      cases e[j]? with
      | none => simp
      | some s => simp [lock1_idem]
    · simp [hj, Ne.symm hj]
theorem freeS_get : ∀ {lk : List Nat} {e : Ev} {j : Nat}, (freeS lk e)[j]? = if j ∈ lk then e[j]?.map free1 else e[j]?
  | [], e, j => by simp [freeS]
  | i :: r, e, j => by
    unfold freeS
    rw [freeS_get, List.getElem?_modify]
    by_cases hj : j = i
    · subst hj
      simp only [if_pos, List.mem_cons, true_or]
      cases e[j]? with
      | none => simp
      | some s => simp [free1_idem]
    · simp [hj, Ne.symm hj]
theorem lockS_len : ∀ {lk : List Nat} {e : Ev}, (lockS lk e).length = e.length
  | [], e => rfl
  | i :: r, e => by
    unfold lockS
    rw [lockS_len]
    simp
theorem freeS_len : ∀ {lk : List Nat} {e : Ev}, (freeS lk e).length = e.length
  | [], e => rfl
  | i :: r, e => by
    unfold freeS
    rw [freeS_len]
    simp
section
variable {K : PySem.W.Frag} {w w2 : Wd} {H H2 : Hp} {e e2 : Ev} {h h2 : AH} {σ σ2 : L2.St} {lk : List Nat}
theorem Wd.lock_M (hL : ∀ i ∈ lk, ∃ a, w.ω i = some a) {a : Addr} : (w.lock lk).M a ↔ w.M a := by
  constructor
  · rintro (m | ⟨i, m⟩ | (m | ⟨i, _, m⟩) | ⟨i, m⟩)
    · exact .inl m
    · have m' : (if i ∈ lk then none else w.ω i) = some a := m
      split at m'
      · cases m'
      · exact .inr (.inl ⟨i, m'⟩)
    · exact .inr (.inr (.inl m))
    · exact .inr (.inr (.inr ⟨i, m⟩))
    · have m' : (if i ∈ lk then w.ω i else w.lam i) = some a := m
      split at m'
      · exact .inr (.inl ⟨i, m'⟩)
      · exact .inr (.inr (.inr ⟨i, m'⟩))
  · rintro (m | ⟨i, m⟩ | m | ⟨i, m⟩)
    · exact .inl m
    · by_cases hi : i ∈ lk
      · exact .inr (.inr (.inr ⟨i, by simp [Wd.lock, hi, m]⟩))
      · exact .inr (.inl ⟨i, by simp [Wd.lock, hi, m]⟩)
    · exact .inr (.inr (.inl (.inl m)))
    · by_cases hi : i ∈ lk
      · exact .inr (.inr (.inl (.inr ⟨i, hi, m⟩)))
      · exact .inr (.inr (.inr ⟨i, by simp [Wd.lock, hi, m]⟩))
theorem lock_V (hL : ∀ i ∈ lk, ∃ a, w.ω i = some a) : ExtV w H (w.lock lk) H := ExtV.less rfl fun b m => (Wd.lock_M hL).mp m
theorem Rel.lock (R : Rel K w e h σ H) (hL : ∀ i ∈ lk, ∃ a xs, w.ω i = some a ∧ e[i]? = some (.ow (.lst xs))) : Rel K (w.lock lk) (lockS lk e) h σ H := by
  have hL' : ∀ i ∈ lk, ∃ a, w.ω i = some a := fun i hi => let ⟨a, _, q, _⟩ := hL i hi; ⟨a, q⟩
  have XV := lock_V (H := H) hL'
  have om : ∀ {i a}, (w.lock lk).ω i = some a → w.ω i = some a ∧ i ∉ lk := fun {i a} q => by
    have q' : (if i ∈ lk then none else w.ω i) = some a := q
    split at q'
    · cases q'
    · exact ⟨q', by assumption⟩
  have lm : ∀ {i a}, (w.lock lk).lam i = some a → (i ∈ lk ∧ w.ω i = some a) ∨ (i ∉ lk ∧ w.lam i = some a) := fun {i a} q => by
    have q' : (if i ∈ lk then w.ω i else w.lam i) = some a := q
    split at q'
    · exact .inl ⟨by assumption, q'⟩
    · exact .inr ⟨by assumption, q'⟩
  refine ⟨by rw [lockS_len]; exact R.len, fun j s q => ?_, fun j hj => ?_, R.lenρ, fun n o a h1 h2 => (R.obs n o a h1 h2).at XV fun u hu => hu, R.ndρ, fun i j a h1 h2 => R.ndω i j a (om h1).1 (om h2).1, fun i a h1 => R.ndx i a (om h1).1, fun a t => ?_, fun a i t z => ?_, fun i j a h1 h2 => ?_⟩
  · rw [lockS_get] at q
    by_cases hj : j ∈ lk
    · rw [if_pos hj] at q
      obtain ⟨a, xs, q1, q2⟩ := hL j hj
      rw [q2] at q
      cases q
      obtain ⟨b, z1, z2, z3⟩ := R.slot j _ q2
      exact ⟨by simp [Wd.lock, hj], b, by simp [Wd.lock, hj, z1], z2, z3.at XV fun u hu => hu⟩
    · rw [if_neg hj] at q
      exact (R.slot j s q).at XV (by simp [Wd.lock, hj]) (by simp [Wd.lock, hj]) fun a u _ hu => hu
  · rw [lockS_len] at hj
    show (if j ∈ lk then none else w.ω j) = none
    split
    · rfl
    · exact R.beyond j hj
  · have all : (w.T a ∨ ∃ i ∈ lk, w.ω i = some a) := by
      rcases t with (t | ⟨i, _, t⟩) | ⟨i, t⟩
      · exact .inl (.inl t)
      · exact .inl (.inr ⟨i, t⟩)
      · rcases lm t with ⟨z1, z2⟩ | ⟨z1, z2⟩
        · exact .inr ⟨i, z1, z2⟩
        · exact .inl (.inr ⟨i, z2⟩)
    rcases all with t | ⟨i, hi, t⟩
    · obtain ⟨q1, q2, q3⟩ := R.ndT a t
      exact ⟨q1, fun i z => q2 i (om z).1, q3⟩
    · refine ⟨R.ndx i a t, fun k z => ?_, R.there (.inr (.inl ⟨i, t⟩))⟩
      obtain ⟨z1, z2⟩ := om z
      exact z2 (by rw [R.ndω k i a z1 t]; exact hi)
  · rcases lm z with ⟨z1, z2⟩ | ⟨z1, z2⟩
    · have ta : w.T a := by
        rcases t with t | ⟨k, _, t⟩
        · exact .inl t
        · exact .inr ⟨k, t⟩
      exact (R.ndT a ta).2.1 i z2
    · rcases t with t | ⟨k, hk, t⟩
      · exact R.ndτ a i t z2
      · exact z1 (by rw [R.ndl i k a z2 t]; exact hk)
  · rcases lm h1 with ⟨y1, y2⟩ | ⟨y1, y2⟩
    · rcases lm h2 with ⟨z1, z2⟩ | ⟨z1, z2⟩
      · exact R.ndω i j a y2 z2
      · exact absurd y2 ((R.ndT a (.inr ⟨j, z2⟩)).2.1 i)
    · rcases lm h2 with ⟨z1, z2⟩ | ⟨z1, z2⟩
      · exact absurd z2 ((R.ndT a (.inr ⟨i, y2⟩)).2.1 j)
      · exact R.ndl i j a y2 z2
def isLk : Sl → Bool
  | .lk _ => true
  | _ => false
/-- the walk is over -/
def Wd.free (w w2 : Wd) (e2 : Ev) (lk : List Nat) : Wd where
  ρ := w2.ρ
  ω := fun j => if j ∈ lk ∧ (e2[j]?.any isLk) = true then w2.lam j else w2.ω j
  τ := fun a => w2.τ a ∧ ∀ i, w.lam i ≠ some a
  lam := w.lam
theorem Rel.free (R : Rel K w e h σ H) (hL : ∀ i ∈ lk, ∃ a xs, w.ω i = some a ∧ e[i]? = some (.ow (.lst xs))) (E : Ext (w.lock lk) H w2 H2) (R2 : Rel K w2 e2 h2 σ2 H2) :
    Rel K (w.free w2 e2 lk) (freeS lk e2) h2 σ2 H2 ∧ Ext w H (w.free w2 e2 lk) H2 ∧ ExtV w2 H2 (w.free w2 e2 lk) H2 := by
  have hL' : ∀ i ∈ lk, ∃ a, w.ω i = some a := fun i hi => let ⟨a, _, q, _⟩ := hL i hi; ⟨a, q⟩
  have la : ∀ {i}, i ∉ lk → w2.lam i = w.lam i := fun {i} hi => by
    rw [E.lam]; simp [Wd.lock, hi]
  have om : ∀ {i a}, (w.free w2 e2 lk).ω i = some a → (i ∈ lk ∧ w2.lam i = some a) ∨ w2.ω i = some a := fun {i a} q => by
    have q' : (if i ∈ lk ∧ (e2[i]?.any isLk) = true then w2.lam i else w2.ω i) = some a := q
    split at q'
    · rename_i c
      exact .inl ⟨c.1, q'⟩
    · exact .inr q'
  have lam2 : ∀ {i a}, w.lam i = some a → w2.T a := fun {i a} q => by
    by_cases hi : i ∈ lk
    · exact .inl (E.tmp a (.inr ⟨i, hi, q⟩))
    · exact .inr ⟨i, by rw [la hi]; exact q⟩
  have MM : ∀ b, (w.free w2 e2 lk).M b → w2.M b := fun b m => by
    rcases m with m | ⟨i, m⟩ | m | ⟨i, m⟩
    · exact .inl m
    · rcases om m with ⟨_, m⟩ | m
      · exact .inr (.inr (.inr ⟨i, m⟩))
      · exact .inr (.inl ⟨i, m⟩)
    · exact .inr (.inr (.inl m.1))
    · exact Wd.T_M (lam2 m)
  have XV : ExtV w2 H2 (w.free w2 e2 lk) H2 := ExtV.less rfl MM
  refine ⟨⟨by rw [freeS_len]; exact R2.len, fun j s q => ?_, fun j hj => ?_, R2.lenρ, fun n o a h1 h2 => (R2.obs n o a h1 h2).at XV fun u hu => hu, R2.ndρ, fun i j a h1 h2 => ?_, fun i a h1 => ?_, fun a t => ?_, fun a i t => t.2 i, R.ndl⟩, .mk' (fun b o q n => ?_) (fun b xs q => E.tup b xs q) (fun b m => ?_) (fun n c q => E.rho n c q) (fun b t => ⟨E.tmp b (.inl t), fun i z => R.ndτ b i t z⟩), XV⟩
  · rw [freeS_get] at q
    by_cases hj : j ∈ lk
    · rw [if_pos hj] at q
      cases s2 : e2[j]? with
      | none => rw [s2] at q; cases q
      | some sl =>
        rw [s2] at q
        have z := R2.slot j sl s2
        cases sl with
        | lk xs =>
          cases q
          obtain ⟨z0, a, z1, z2, z3⟩ := z
          exact ⟨a, by simp [Wd.free, hj, s2, isLk, z1], z2, z3.at XV fun u hu => hu⟩
        | un => cases q; show (w.free w2 e2 lk).ω j = none; simp [Wd.free, s2, isLk]; exact z
        | v d =>
          cases q
          obtain ⟨z0, v, z1, z2⟩ := z
          exact ⟨by simp [Wd.free, s2, isLk]; exact z0, v, z1, RV.monoV XV d v z2⟩
        | ow o =>
          cases q
          obtain ⟨a, z0, z1, z2⟩ := z
          exact ⟨a, by simp [Wd.free, s2, isLk]; exact z0, z1, z2.at XV fun u hu => hu⟩
    · rw [if_neg hj] at q
      exact (R2.slot j s q).at XV (by simp [Wd.free, hj]) (by show w.lam j = w2.lam j; rw [la hj]) fun a u _ hu => hu
  · rw [freeS_len] at hj
    show (if j ∈ lk ∧ (e2[j]?.any isLk) = true then w2.lam j else w2.ω j) = none
    rw [List.getElem?_eq_none hj]
    simpa using R2.beyond j hj
  · rcases om h1 with ⟨y1, y2⟩ | y2
    · rcases om h2 with ⟨z1, z2⟩ | z2
      · exact R2.ndl i j a y2 z2
      · exact absurd z2 ((R2.ndT a (.inr ⟨i, y2⟩)).2.1 j)
    · rcases om h2 with ⟨z1, z2⟩ | z2
      · exact absurd y2 ((R2.ndT a (.inr ⟨j, z2⟩)).2.1 i)
      · exact R2.ndω i j a y2 z2
  · rcases om h1 with ⟨y1, y2⟩ | y2
    · exact (R2.ndT a (.inr ⟨i, y2⟩)).1
    · exact R2.ndx i a y2
  · have t2 : w2.T a := by
      rcases t with t | ⟨i, t⟩
      · exact .inl t.1
      · exact lam2 t
    obtain ⟨q1, q2, q3⟩ := R2.ndT a t2
    refine ⟨q1, fun j z => ?_, q3⟩
    rcases om z with ⟨z1, z2⟩ | z2
    · rcases t with t | ⟨i, t⟩
      · exact R2.ndτ a j t.1 z2
      · by_cases hi : i ∈ lk
        · exact R2.ndτ a j (E.tmp a (.inr ⟨i, hi, t⟩)) z2
        · have e1 := R2.ndl i j a (by rw [la hi]; exact t) z2
          rw [e1] at hi
          exact hi z1
    · exact q2 j z2
  · refine E.keep b o q ?_
    rcases n with n | n
    · exact .inl fun m => n ((Wd.lock_M hL').mp m)
    · rcases n with n | ⟨i, n⟩
      · exact .inr (.inl (.inl n))
      · by_cases hi : i ∈ lk
        · exact .inr (.inl (.inr ⟨i, hi, n⟩))
        · exact .inr (.inr ⟨i, by simp [Wd.lock, hi, n]⟩)
  · rcases E.new b (MM b m) with z | z
    · exact .inl ((Wd.lock_M hL').mp z)
    · exact .inr z
end
end Mp

/-! what is walked; list comprehensions -/
namespace Mp
open PySem L2 PyProof.Rows

/-- an iterator over the items xs, from w, H on -/
def WkOk (K : PySem.W.Frag) (w : Wd) (H : Hp) (xs : List D) (J : L2.It) : Prop := ∃ (G : Hp → Prop) (Y : Nat → Hp → V → Hp → Prop), L2.Walk J xs.length G Y ∧ (∀ w' H', Ext w H w' H' → G H') ∧
  ∀ i H1 x H2 w1, i < xs.length → Ext w H w1 H1 → Y i H1 x H2 → (∀ b o, H1 b = some o → H2 b = some o) ∧ ∃ d, xs[i]? = some d ∧ RV K w1 H2 d x
theorem wk_list {K : PySem.W.Frag} {w : Wd} {H : Hp} {xs : List D} {a : Addr} {vs : List V} (ha : H a = some (.lst vs)) (hn : ¬ w.M a ∨ w.T a) (r : RVs K w H xs vs) : WkOk K w H xs (Itl K a) := by
  refine ⟨_, _, by rw [← r.length]; exact walk_list (xs := vs), fun w' H' E => SqL.of (E.keep a _ ha hn), fun i H1 x H2 w1 hi E y => ?_⟩
  obtain ⟨e, y⟩ := y
  subst e
  exact ⟨fun _ _ q => q, (r.mono E).geti y⟩
theorem wk_tup {K : PySem.W.Frag} {w : Wd} {H : Hp} {xs : List D} {a : Addr} {vs : List V} (ha : H a = some (.tup vs)) (r : RVs K w H xs vs) : WkOk K w H xs (Itt K a) := by
  refine ⟨_, _, by rw [← r.length]; exact walk_tup (xs := vs), fun w' H' E => SqT.of (E.tup a _ ha), fun i H1 x H2 w1 hi E y => ?_⟩
  obtain ⟨e, y⟩ := y
  subst e
  exact ⟨fun _ _ q => q, (r.mono E).geti y⟩
theorem wk_scr {K : PySem.W.Frag} {w : Wd} {H : Hp} {ns : List Int} {x : V} (h : RV K w H (.scr ns) x) : ∃ a, x = .ref a ∧ SqL K H a (ns.map V.int) ∧ WkOk K w H (ns.map D.int) (Itl K a) := by
  have rv : ∀ w H, RVs K w H (ns.map D.int) (ns.map V.int) := fun w H => RVs.of_ints ns
  unfold RV at h
  obtain ⟨a, h⟩ := h
  rcases h with ⟨rfl, nm, o, h⟩ | ⟨o, its, n, rfl, h⟩
  · have st : ∀ w' H', Ext w H w' H' → SqL K H' a (ns.map V.int) := fun w' H' E => .inl (.inr ⟨o, E.keep a _ h (.inl nm)⟩)
    refine ⟨a, rfl, st w H (.refl _ _), _, _, by rw [← (rv w H).length]; exact walk_list (xs := ns.map V.int), st, fun i H1 x H2 w1 hi E y => ?_⟩
    obtain ⟨e, y⟩ := y
    subst e
    exact ⟨fun _ _ q => q, (rv _ _).geti y⟩
  · have st : ∀ w' H', Ext w H w' H' → SqL K H' a (ns.map V.int) := fun w' H' E => .inr ⟨o, its, n, h⟩
    refine ⟨a, rfl, st w H (.refl _ _), _, _, by rw [← (rv w H).length]; exact walk_list (xs := ns.map V.int), st, fun i H1 x H2 w1 hi E y => ?_⟩
    obtain ⟨e, y⟩ := y
    subst e
    exact ⟨fun _ _ q => q, (rv _ _).geti y⟩
theorem wk_rng {K : PySem.W.Frag} {w : Wd} {H : Hp} (lo : Int) (n : Nat) : WkOk K w H (rngL lo 1 n) (Itr lo n) := by
  refine ⟨_, _, by rw [show (rngL lo 1 n).length = n by simp [rngL]]; exact walk_range, fun _ _ _ => trivial, fun i H1 x H2 w1 hi E y => ?_⟩
  obtain ⟨e, y⟩ := y
  subst e y
  refine ⟨fun _ _ q => q, .int (lo + i), ?_, by unfold RV; rfl⟩
  have hi' : i < n := by simpa [rngL] using hi
  simp [rngL, hi']
theorem wk_rngC {K : PySem.W.Frag} {w : Wd} {H : Hp} (lo c : Int) (n : Nat) : WkOk K w H (rngL lo c n) (Itc lo c n) := by
  refine ⟨_, _, by rw [show (rngL lo c n).length = n by simp [rngL]]; exact walk_rangeC, fun _ _ _ => trivial, fun i H1 x H2 w1 hi E y => ?_⟩
  obtain ⟨e, y⟩ := y
  subst e y
  refine ⟨fun _ _ q => q, .int (lo + i * c), ?_, by unfold RV; rfl⟩
  have hi' : i < n := by simpa [rngL] using hi
  simp [rngL, hi']
/-- what is walked, read -/
def tI (K : PySem.W.Frag) (mg : Str → Option Value) (W : WX) (m : Ev → AH → Option (O (List D × List Nat))) : TI := fun σ H R => ∃ w e h, Rel K w e h σ H ∧
  PO K mg W σ w H (m e h) fun p e' _ w' H' => (∀ i ∈ p.2, ∃ a xs, w'.ω i = some a ∧ e'[i]? = some (.ow (.lst xs))) → ∀ J, WkOk K (w'.lock p.2) H' p.1 J → R J H'
section
variable {cl : Cl} {kn : List Str} {X : Cx} {N : List Str} {sc : Scope} {fnp : Str → Bool} {W : WX} {a b c : E} {pa pb pc tg : Expr} {pos : Pos}
theorem PI.imp {iter : Expr} {t t' : TI} (h : PI X tg iter t) (f : ∀ σ H R, t' σ H R → t σ H R) : PI X tg iter t' := ⟨fun pins s σ H R I q => h.run pins s σ H R I (f σ H R q)⟩
/-- a list or a tuple, walked -/
theorem pi_seq {tl : TE} (hl : PE X pa tl) : PI X tg pa (fun σ H R => tl σ H fun x H1 => ∃ a, x = .ref a ∧ (((∃ xs, SqL X.K H1 a xs) ∧ R (Itl X.K a) H1) ∨ ((∃ xs, SqT X.K H1 a xs) ∧ R (Itt X.K a) H1))) := by
  refine ⟨fun pins s σ H R I h => ?_⟩
  refine thn (hl.run pins s σ H _ I h) fun v s1 ⟨x, H1, I1, r1, a, e, q⟩ => ?_
  subst e
  cases r1
  have fr : ∀ b ∈ [s1.heap.objs.size], FpOk X pins H1 b := fun b hb => by
    have e : b = s1.heap.objs.size := by simpa using hb
    subst e
    exact I1.fpOk (Nat.le_refl _) (I1.hok.fresh (Nat.le_refl _))
  have up : ∀ o : Obj, L2.Inv X pins σ H1 { s1 with heap := s1.heap.push o } := fun o => I1.kept (t' := s1.toks) fun b u e => Heap.get?_push_of_some _ e
  rcases q with ⟨⟨xs, hq⟩, q⟩ | ⟨⟨xs, hq⟩, q⟩
  · obtain ⟨its, rv, p, hz⟩ := I1.list hq
    exact wpAny_pyIter_list p.isList ⟨_, [s1.heap.objs.size], _, _, H1, rfl, up _, turn_list a _, ⟨_, Heap.get?_push_size _ rfl, rfl, rfl⟩, fr, q⟩
  · obtain ⟨its, rv, p, hz⟩ := I1.tuple hq
    exact wpAny_pyIter_tuple (show s1.heap.IsTuple a its.toArray from p) ⟨_, [s1.heap.objs.size], _, _, H1, rfl, up _, turn_tuple a _, ⟨_, Heap.get?_push_size _ rfl, rfl, rfl⟩, fr, q⟩
theorem pi_eM (ha : PE X pa (tE X.K X.mg W (evE cl a))) : PI X tg pa (tI X.K X.mg W (evI cl (.e a))) := by
  refine PI.imp (pi_seq ha) fun σ H Rr q => ?_
  obtain ⟨w, e, h, R, p⟩ := q
  simp only [evI] at p
  refine ⟨w, e, h, R, (PO.bd0 p).mono fun r e1 h1 w1 H1 E1 R1 p1 x rx nx => ?_⟩
  have noL : ∀ i ∈ ([] : List Nat), ∃ a xs, w1.ω i = some a ∧ e1[i]? = some (.ow (.lst xs)) := fun i hi => by simp at hi
  have l0 : ∀ {b}, (w1.lock []).M b → w1.M b := fun {b} m => (Wd.lock_M (lk := []) (fun i hi => by simp at hi)).mp m
  have XV : ExtV w1 H1 (w1.lock []) H1 := lock_V (lk := []) (fun i hi => by simp at hi)
  split at p1
  · rename_i xs
    have rx' : RV X.K w1 H1 (.tup xs) x := rx
    unfold RV at rx'
    obtain ⟨a, vs, rfl, q1, rs⟩ := rx'
    exact ⟨a, rfl, .inr ⟨⟨vs, SqT.of q1⟩, p1.ok E1 R1 noL _ (wk_tup q1 (RVs.monoV XV _ _ rs))⟩⟩
  · rename_i xs
    have rx' : RV X.K w1 H1 (.lst xs) x := rx
    unfold RV at rx'
    obtain ⟨a, vs, rfl, nm, q1, rs⟩ := rx'
    exact ⟨a, rfl, .inl ⟨⟨vs, SqL.of q1⟩, p1.ok E1 R1 noL _ (wk_list q1 (.inl fun m => nm (l0 m)) (RVs.monoV XV _ _ rs))⟩⟩
  · rename_i ns
    have rx' : RV X.K w1 H1 (.scr ns) x := rx
    obtain ⟨a, e, q1, k⟩ := wk_scr (w := w1.lock []) (RV.monoV XV _ _ rx')
    exact ⟨a, e, .inl ⟨⟨_, q1⟩, p1.ok E1 R1 noL _ k⟩⟩
  · rename_i xs
    obtain ⟨a, rfl, t, vs, q1, rs⟩ := rx
    exact ⟨a, rfl, .inl ⟨⟨vs, SqL.of q1⟩, p1.ok E1 R1 noL _ (wk_list q1 (.inr (.inl (.inl t))) (RVs.monoV XV _ _ rs))⟩⟩
  · rename_i i
    have rx' : σ[i]? = some (some x) := rx
    split at p1
    · rename_i xs hx
      obtain ⟨a, z1, z2, vs, q1, rs⟩ := R1.slot i _ hx
      rw [rx'] at z2; cases z2
      have hL : ∀ j ∈ [i], ∃ a xs, w1.ω j = some a ∧ e1[j]? = some (.ow (.lst xs)) := fun j hj => by
        have : j = i := by simpa using hj
        subst this
        exact ⟨a, xs, z1, hx⟩
      refine ⟨a, rfl, .inl ⟨⟨vs, SqL.of q1⟩, p1.ok E1 R1 hL _ (wk_list q1 (.inr (.inr ⟨i, by simp [Wd.lock, z1]⟩)) (RVs.monoV (lock_V fun j hj => let ⟨a, _, q, _⟩ := hL j hj; ⟨a, q⟩) _ _ rs))⟩⟩
    · rename_i xs hx
      obtain ⟨_, a, z1, z2, vs, q1, rs⟩ := R1.slot i _ hx
      rw [rx'] at z2; cases z2
      exact ⟨a, rfl, .inl ⟨⟨vs, SqL.of q1⟩, p1.ok E1 R1 noL _ (wk_list q1 (.inr (.inr ⟨i, by simp [Wd.lock, z1]⟩)) (RVs.monoV XV _ _ rs))⟩⟩
    · exact p1.elim
  · exact p1.elim
theorem in62_of {i : Int} (h : in62 i = true) : -(2 ^ 62) ≤ i ∧ i < 2 ^ 62 := by
  simpa [in62] using h
theorem gl_of (C : Cz cl kn X N sc fnp W) {x : Str} (hg : sc.names.lookup x = some .globalImplicit) : Gl X x := by
  show X.env.scope.names.lookup x = _
  rw [C.eS]; exact hg
theorem pi_rng1M (C : Cz cl kn X N sc fnp W) {p : Pos} (hg : sc.names.lookup (PySem.Str.ofString "range") = some .globalImplicit) (ha : PE X pa (tE X.K X.mg W (evE cl a))) (hs : noStar pa = true) :
    PI X tg (.Call (.Name (PySem.Str.ofString "range") p) [pa] [] pos) (tI X.K X.mg W (evI cl (.rng1 a))) := by
  refine PI.imp (pi_range1 (gl_of C hg) (C.bn _ (by decide +kernel)) (pa_cons ha pa_nil (starEach_cons hs)) (starEach_cons hs)) fun σ H Rr q => ?_
  obtain ⟨w, e, h, R, p⟩ := q
  simp only [evI] at p
  refine ⟨w, e, h, R, (PO.bd0 p).mono fun r e1 h1 w1 H1 E1 R1 p1 x rx nx => ?_⟩
  split at p1
  · rename_i j hj
    cases (rd_cn R1 rx hj).int
    split at p1
    · rename_i c
      obtain ⟨c1, c2⟩ := in62_of c
      exact ⟨j, rfl, c1, c2, p1.ok E1 R1 (fun i hi => by simp at hi) _ (wk_rng 0 _)⟩
    · exact p1.elim
  · exact p1.elim
theorem pi_rng2M (C : Cz cl kn X N sc fnp W) {p : Pos} (hg : sc.names.lookup (PySem.Str.ofString "range") = some .globalImplicit) (ha : PE X pa (tE X.K X.mg W (evE cl a))) (hb : PE X pb (tE X.K X.mg W (evE cl b))) (hs : noStar pa = true) (hs2 : noStar pb = true) :
    PI X tg (.Call (.Name (PySem.Str.ofString "range") p) [pa, pb] [] pos) (tI X.K X.mg W (evI cl (.rng2 a b))) := by
  have st : starEach [pa, pb] X.env = [(false, eval pa X.env), (false, eval pb X.env)] := by rw [starEach_cons hs, starEach_cons hs2]; rfl
  refine PI.imp (pi_range2 (gl_of C hg) (C.bn _ (by decide +kernel)) (pa_cons ha (pa_cons hb pa_nil (starEach_cons hs2)) (starEach_cons hs)) st (starEach_cons hs2)) fun σ H Rr q => ?_
  obtain ⟨w, e, h, R, p⟩ := q
  simp only [evI] at p
  refine ⟨w, e, h, R, (PO.bd0 p).mono fun r e1 h1 w1 H1 E1 R1 p1 x rx nx => ?_⟩
  refine ⟨w1, e1, h1, R1, (PO.bd0 (p1.fwd E1)).mono fun r2 e2 h2 w2 H2 E2 R2 p2 y ry ny => ?_⟩
  split at p2
  · rename_i i j hi hj
    cases (rd_cn R2 (rx.mono E2) hi).int
    cases (rd_cn R2 ry hj).int
    split at p2
    · rename_i c
      simp only [Bool.and_eq_true] at c
      obtain ⟨c1, c2⟩ := in62_of c.1
      obtain ⟨c3, c4⟩ := in62_of c.2
      exact ⟨i, j, rfl, ⟨c1, c2, c3, c4⟩, p2.ok E2 R2 (fun i hi => by simp at hi) _ (wk_rng i _)⟩
    · exact p2.elim
  · exact p2.elim
theorem pi_rng3M (C : Cz cl kn X N sc fnp W) {p : Pos} (hg : sc.names.lookup (PySem.Str.ofString "range") = some .globalImplicit) (ha : PE X pa (tE X.K X.mg W (evE cl a))) (hb : PE X pb (tE X.K X.mg W (evE cl b))) (hc : PE X pc (tE X.K X.mg W (evE cl c)))
    (hs : noStar pa = true) (hs2 : noStar pb = true) (hs3 : noStar pc = true) : PI X tg (.Call (.Name (PySem.Str.ofString "range") p) [pa, pb, pc] [] pos) (tI X.K X.mg W (evI cl (.rng3 a b c))) := by
  refine PI.imp (pi_range3 (gl_of C hg) (C.bn _ (by decide +kernel)) (pa_cons ha (pa_cons hb (pa_cons hc pa_nil (starEach_cons hs3)) (starEach_cons hs2)) (starEach_cons hs)) (starEach_cons hs) (starEach_plain (by simp [hs2, hs3]))) fun σ H Rr q => ?_
  obtain ⟨w, e, h, R, p⟩ := q
  simp only [evI] at p
  refine ⟨w, e, h, R, (PO.bd0 p).mono fun r e1 h1 w1 H1 E1 R1 p1 x rx nx => ?_⟩
  refine ⟨w1, e1, h1, R1, (PO.bd0 (p1.fwd E1)).mono fun r2 e2 h2 w2 H2 E2 R2 p2 y ry ny => ?_⟩
  refine ⟨w2, e2, h2, R2, (PO.bd0 (p2.fwd E2)).mono fun r3 e3 h3 w3 H3 E3 R3 p3 z rz nz => ?_⟩
  split at p3
  · rename_i i j k hi hj hk
    cases (rd_cn R3 (rx.mono (E2.trans E3)) hi).int
    cases (rd_cn R3 (ry.mono E3) hj).int
    cases (rd_cn R3 rz hk).int
    split at p3
    · rename_i xs hxs
      unfold rng3 at hxs
      split at hxs
      · rename_i c
        cases hxs
        simp only [Bool.and_eq_true, decide_eq_true_eq, bne_iff_ne, ne_eq] at c
        exact ⟨i, j, k, _, rfl, ⟨c.1.1.1, c.1.1.2, c.1.2, (Int.toNat_of_nonneg c.2).symm⟩, p3.ok E3 R3 (fun i hi => by simp at hi) _ (wk_rngC i k _)⟩
      · cases hxs
    · exact p3.elim
  · exact p3.elim
end

section
variable {cl : Cl} {kn : List Str} {X : Cx} {N : List Str} {sc : Scope} {fnp : Str → Bool} {W : WX} {a b c : E} {pa pb pc tg : Expr} {pos : Pos}
theorem enumL_get : ∀ {xs : List D} {n i : Nat}, (enumL n xs)[i]? = xs[i]?.map fun d => D.tup [.int ((n + i : Nat) : Int), d]
  | [], n, i => by simp [enumL]
  | x :: xs, n, 0 => by simp [enumL]
  | x :: xs, n, i + 1 => by
    have := enumL_get (xs := xs) (n := n + 1) (i := i)
    simp only [enumL, List.getElem?_cons_succ, this]
    rw [show n + 1 + i = n + (i + 1) by omega]
theorem enumL_len : ∀ {xs : List D} {n : Nat}, (enumL n xs).length = xs.length
  | [], n => rfl
  | x :: xs, n => by simp [enumL, enumL_len (xs := xs)]
/-- a pair just made -/
theorem pair_rv {K : PySem.W.Frag} {w : Wd} {H : Hp} {p : Addr} {d e : D} {x y : V} (hp : H p = none) (h1 : RV K w H d x) (h2 : RV K w H e y) : RV K w (upd H p (.tup [x, y])) (.tup [d, e]) (.ref p) := by
  unfold RV
  exact ⟨p, [x, y], rfl, upd_same, RVs.cons (h1.up (keep_upd hp)) (RVs.cons (h2.up (keep_upd hp)) RVs.nil)⟩
theorem wk_enum {K : PySem.W.Frag} {w : Wd} {H : Hp} {xs : List D} {a : Addr} {vs : List V} {J : L2.It} {S : Hp → Prop} (hw : L2.Walk J vs.length S (YPair (fun i => some (.int (i : Nat))) (fun i => vs[i]?))) (hS : ∀ w' H', Ext w H w' H' → S H') (r : RVs K w H xs vs) : WkOk K w H (enumL 0 xs) J := by
  refine ⟨_, _, by rw [enumL_len, ← r.length]; exact hw, hS, fun i H1 x H2 w1 hi E y => ?_⟩
  obtain ⟨p, u, v, rfl, hp, rfl, h1, h2⟩ := y
  cases h1
  obtain ⟨d, hd, rd⟩ := (r.mono E).geti h2
  refine ⟨keep_upd hp, _, by rw [enumL_get, hd]; rfl, pair_rv hp (by unfold RV; simp) rd⟩
/-- what is walked stands -/
theorem wkd_ok {w : Wd} {e : Ev} {h : AH} {σ : L2.St} {H : Hp} {r : Rv} {x : V} {xs : List D} {lk : List Nat} (R : Rel X.K w e h σ H) (rx : RR X.K w σ H r x) (k : wkd e r = some (xs, lk)) :
    (∀ i ∈ lk, ∃ a ys, w.ω i = some a ∧ e[i]? = some (.ow (.lst ys))) ∧ ∃ a vs, x = .ref a ∧ RVs X.K w H xs vs ∧ ((H a = some (.tup vs)) ∨ (H a = some (.lst vs) ∧ (¬ w.M a ∨ w.τ a ∨ (∃ i ∈ lk, w.ω i = some a) ∨ ∃ i, w.lam i = some a ∧ w.ω i = none))) := by
  have noL : ∀ i ∈ ([] : List Nat), ∃ a ys, w.ω i = some a ∧ e[i]? = some (.ow (.lst ys)) := fun i hi => by simp at hi
  unfold wkd at k
  split at k
  · cases k
    have rx' : RV X.K w H (.tup xs) x := rx
    unfold RV at rx'
    obtain ⟨a, vs, rfl, q1, rs⟩ := rx'
    exact ⟨noL, a, vs, rfl, rs, .inl q1⟩
  · cases k
    have rx' : RV X.K w H (.lst xs) x := rx
    unfold RV at rx'
    obtain ⟨a, vs, rfl, nm, q1, rs⟩ := rx'
    exact ⟨noL, a, vs, rfl, rs, .inr ⟨q1, .inl nm⟩⟩
  · cases k
    obtain ⟨a, rfl, t, vs, q1, rs⟩ := rx
    exact ⟨noL, a, vs, rfl, rs, .inr ⟨q1, .inr (.inl t)⟩⟩
  · rename_i i
    have rx' : σ[i]? = some (some x) := rx
    split at k
    · rename_i ys hx
      cases k
      obtain ⟨a, z1, z2, vs, q1, rs⟩ := R.slot i _ hx
      rw [rx'] at z2; cases z2
      refine ⟨fun j hj => ?_, a, vs, rfl, rs, .inr ⟨q1, .inr (.inr (.inl ⟨i, by simp, z1⟩))⟩⟩
      have : j = i := by simpa using hj
      subst this
      exact ⟨a, _, z1, hx⟩
    · rename_i ys hx
      cases k
      obtain ⟨z0, a, z1, z2, vs, q1, rs⟩ := R.slot i _ hx
      rw [rx'] at z2; cases z2
      exact ⟨noL, a, vs, rfl, rs, .inr ⟨q1, .inr (.inr (.inr ⟨i, z1, z0⟩))⟩⟩
    · cases k
  · cases k
/-- .. under the lock -/
theorem wkd_lock {w : Wd} {a : Addr} {lk L : List Nat} (hL : ∀ i ∈ L, ∃ a, w.ω i = some a) (sub : ∀ i ∈ lk, i ∈ L) (h : ¬ w.M a ∨ w.τ a ∨ (∃ i ∈ lk, w.ω i = some a) ∨ ∃ i, w.lam i = some a ∧ w.ω i = none) : ¬ (w.lock L).M a ∨ (w.lock L).T a := by
  rcases h with h | h | ⟨i, hi, h⟩ | ⟨i, h, h0⟩
  · exact .inl fun m => h ((Wd.lock_M hL).mp m)
  · exact .inr (.inl (.inl h))
  · exact .inr (.inr ⟨i, by simp [Wd.lock, sub i hi, h]⟩)
  · by_cases hi : i ∈ L
    · obtain ⟨b, hb⟩ := hL i hi
      rw [h0] at hb; cases hb
    · exact .inr (.inr ⟨i, by simp [Wd.lock, hi, h]⟩)
theorem pi_enumM (C : Cz cl kn X N sc fnp W) {p tpos : Pos} {elts : List Expr} {kk : Nat} (hg : sc.names.lookup (PySem.Str.ofString "enumerate") = some .globalImplicit) (ha : PE X pa (tE X.K X.mg W (evE cl a))) (hs : noStar pa = true) :
    PI X (.Tuple elts kk tpos) (.Call (.Name (PySem.Str.ofString "enumerate") p) [pa] [] pos) (tI X.K X.mg W (evI cl (.enum a))) := by
  refine PI.imp (pi_enum2 (gl_of C hg) (C.bn _ (by decide +kernel)) (pa_cons ha pa_nil (starEach_cons hs)) (starEach_cons hs)) fun σ H Rr q => ?_
  obtain ⟨w, e, h, R, p⟩ := q
  simp only [evI] at p
  refine ⟨w, e, h, R, (PO.bd0 p).mono fun r e1 h1 w1 H1 E1 R1 p1 x rx nx => ?_⟩
  split at p1
  · rename_i xs lk hk
    obtain ⟨hL, a', vs, rfl, rs, hh⟩ := wkd_ok R1 rx hk
    have hL' : ∀ i ∈ lk, ∃ a, w1.ω i = some a := fun i hi => let ⟨a, _, q, _⟩ := hL i hi; ⟨a, q⟩
    have rl : RVs X.K (w1.lock lk) H1 xs vs := RVs.monoV (lock_V hL') _ _ rs
    refine ⟨a', vs, rfl, ?_⟩
    rcases hh with hh | ⟨hh, hn⟩
    · exact .inr ⟨SqT.of hh, p1.ok E1 R1 hL _ (wk_enum (a := a') walk_enumT (fun w' H' E => SqT.of (E.tup a' _ hh)) rl)⟩
    · exact .inl ⟨SqL.of hh, p1.ok E1 R1 hL _ (wk_enum (a := a') walk_enum (fun w' H' E => SqL.of (E.keep a' _ hh (wkd_lock hL' (fun i hi => hi) hn))) rl)⟩
  · exact p1.elim
end

/-! ### a comprehension's block -/
theorem wipeS_get : ∀ {own : List Nat} {e : Ev} {j : Nat}, (wipeS own e)[j]? = if j ∈ own then e[j]?.map fun _ => .un else e[j]?
  | [], e, j => by simp [wipeS]
  | i :: r, e, j => by
    unfold wipeS
    rw [wipeS_get, List.getElem?_set]
    by_cases hj : j = i
    · subst hj
      by_cases hl : j < e.length
      · simp [hl, List.getElem?_eq_getElem hl]
      · simp [hl, List.getElem?_eq_none (Nat.le_of_not_lt hl)]
    · simp [hj, Ne.symm hj]
theorem wipeS_len : ∀ {own : List Nat} {e : Ev}, (wipeS own e).length = e.length
  | [], e => rfl
  | i :: r, e => by unfold wipeS; rw [wipeS_len]; simp
theorem back1_len {e0 e : Ev} {i : Nat} : (back1 e0 e i).length = e.length := by
  unfold back1
  split <;> simp
theorem back1_get {e0 e : Ev} {i j : Nat} (hl : e0.length = e.length) : (back1 e0 e i)[j]? = if j = i then e0[j]? else e[j]? := by
  unfold back1
  by_cases hj : j = i
  · subst hj
    rw [if_pos rfl]
    split
    · rename_i s hs
      have : j < e.length := by rw [← hl]; exact (List.getElem?_eq_some_iff.mp hs).1
      rw [List.getElem?_set_self this, hs]
    · rename_i hs
      rw [hs, List.getElem?_eq_none]
      rw [← hl]
      exact List.getElem?_eq_none_iff.mp hs
  · rw [if_neg hj]
    split
    · rw [List.getElem?_set_ne (Ne.symm hj)]
    · rfl
theorem backS_len : ∀ {own : List Nat} {e0 e : Ev}, (backS own e0 e).length = e.length
  | [], e0, e => rfl
  | i :: r, e0, e => by
    unfold backS
    rw [backS_len, back1_len]
theorem backS_get : ∀ {own : List Nat} {e0 e : Ev} {j : Nat}, e0.length = e.length → (backS own e0 e)[j]? = if j ∈ own then e0[j]? else e[j]?
  | [], e0, e, j, _ => by simp [backS]
  | i :: r, e0, e, j, hl => by
    unfold backS
    rw [backS_get (by rw [back1_len]; exact hl), back1_get hl]
    by_cases hj : j = i
    · subst hj
      simp
    · simp [hj]
theorem wipe_get : ∀ {own : List Nat} {σ : L2.St} {j : Nat}, (wipe σ own)[j]? = if j ∈ own then σ[j]?.map fun _ => none else σ[j]?
  | [], σ, j => by simp [wipe]
  | i :: r, σ, j => by
    unfold wipe
    rw [List.getElem?_set, wipe_length, wipe_get]
    by_cases hj : j = i
    · subst hj
      by_cases hl : j < σ.length
      · simp [hl, List.getElem?_eq_getElem hl]
      · simp [hl, List.getElem?_eq_none (Nat.le_of_not_lt hl)]
    · simp [hj, Ne.symm hj]
section
variable {K : PySem.W.Frag} {w w2 : Wd} {H H2 : Hp} {e e1 e2 : Ev} {h h2 : AH} {σ σ2 : L2.St} {own : List Nat}
theorem noOwn_ω (R : Rel K w e h σ H) (n : noOwn own e = true) {i : Nat} (hi : i ∈ own) : w.ω i = none ∧ (e[i]? = some .un ∨ ∃ d, e[i]? = some (.v d)) := by
  have q := List.all_eq_true.mp n i hi
  split at q
  · rename_i s hs
    have z := R.slot i s hs
    cases s with
    | un => exact ⟨z, .inl hs⟩
    | v d => exact ⟨z.1, .inr ⟨d, hs⟩⟩
    | ow o => simp [isOwn] at q
    | lk o => simp [isOwn] at q
  · cases q
theorem Rel.wipe (R : Rel K w e h σ H) (n : noOwn own e = true) : Rel K w (wipeS own e) h (L2.wipe σ own) H := by
  refine ⟨by rw [wipeS_len, wipe_length]; exact R.len, fun j s q => ?_, fun j hj => R.beyond j (by rw [wipeS_len] at hj; exact hj), R.lenρ, R.obs, R.ndρ, R.ndω, R.ndx, R.ndT, R.ndτ, R.ndl⟩
  rw [wipeS_get] at q
  rw [wipe_get]
  by_cases hj : j ∈ own
  · rw [if_pos hj] at q
    cases s2 : e[j]? with
    | none => rw [s2] at q; cases q
    | some sl =>
      rw [s2] at q
      cases q
      exact (noOwn_ω R n hj).1
  · rw [if_neg hj] at q
    rw [if_neg hj]
    exact R.slot j s q
/-- behind the block: the own slots as they were -/
theorem Rel.back (R : Rel K w e h σ H) (n : noOwn own e = true) (X : ExtV w H w2 H2) (R2 : Rel K w2 e2 h2 σ2 H2) (n2 : noOwn own e2 = true) (hσ : L2.wipe σ2 own = L2.wipe σ own) : Rel K w2 (backS own e e2) h2 σ H2 := by
  have sl : σ2.length = σ.length := by
    have := congrArg List.length hσ
    simpa [wipe_length] using this
  have el : e.length = e2.length := by rw [R.len, R2.len, sl]
  refine ⟨by rw [backS_len, R2.len, sl], fun j s q => ?_, fun j hj => R2.beyond j (by rw [backS_len] at hj; exact hj), R2.lenρ, R2.obs, R2.ndρ, R2.ndω, R2.ndx, R2.ndT, R2.ndτ, R2.ndl⟩
  rw [backS_get el] at q
  by_cases hj : j ∈ own
  · rw [if_pos hj] at q
    have w2n := (noOwn_ω R2 n2 hj).1
    rcases (noOwn_ω R n hj).2 with z | ⟨d, z⟩
    · rw [z] at q; cases q; exact w2n
    · rw [z] at q
      cases q
      obtain ⟨_, v, z1, z2⟩ := R.slot j _ z
      exact ⟨w2n, v, z1, RV.monoV X d v z2⟩
  · rw [if_neg hj] at q
    have z := R2.slot j s q
    have e3 : σ2[j]? = σ[j]? := by
      have := congrArg (fun l => l[j]?) hσ
      simp only [wipe_get, if_neg hj] at this
      exact this
    rw [e3] at z
    exact z
/-- a thing not yet placed is changed -/
theorem Rel.atT (R : Rel K w e h σ H) {a : Addr} {u : HO} (t : w.τ a) (nt : ∀ xs, u ≠ .tup xs) : ExtV w H w (upd H a u) ∧ Rel K w e h σ (upd H a u) := by
  have nT : ∀ xs, H a ≠ some (.tup xs) := (R.wok a (.inr (.inr (.inl t)))).2
  have XV : ExtV w H w (upd H a u) := ⟨fun b o q n => by
    rw [upd_ne]
    · exact q
    · rintro rfl
      exact n (.inr (.inr (.inl t))), fun b xs q => by
    rw [upd_ne]
    · exact q
    · rintro rfl
      exact nT xs q, fun b m => .inl m, fun n c q => q⟩
  obtain ⟨t1, t2, t3⟩ := R.ndT a (.inl t)
  refine ⟨XV, R.len, fun j s q => (R.slot j s q).at XV rfl rfl fun b v hb hv => ?_, R.beyond, R.lenρ, fun n o b h1 h2 => (R.obs n o b h1 h2).at XV fun v hv => ?_, R.ndρ, R.ndω, R.ndx, fun b tb => ?_, R.ndτ, R.ndl⟩
  · rw [upd_ne]
    · exact hv
    · rintro rfl
      rcases hb with hb | hb
      · exact t2 j hb
      · exact R.ndτ _ j t hb
  · rw [upd_ne]
    · exact hv
    · rintro rfl
      exact t1 (List.mem_of_getElem? h2)
  · obtain ⟨q1, q2, v, q3, q4⟩ := R.ndT b tb
    by_cases hb : b = a
    · subst hb
      exact ⟨q1, q2, u, upd_same, nt⟩
    · exact ⟨q1, q2, v, by rw [upd_ne hb]; exact q3, q4⟩
/-- what stood stands where a thing that is newer is changed -/
theorem Ext.newer {w0 : Wd} {H0 : Hp} {a : Addr} {u : HO} (E : Ext w0 H0 w H) (hn : H0 a = none) (nt : ∀ xs, H a ≠ some (.tup xs)) : Ext w0 H0 w (upd H a u) := .mk'
  (fun b o q n => by rw [upd_ne (ne_of_none q hn)]; exact E.keep b o q n) (fun b xs q => by rw [upd_ne (ne_of_none q hn)]; exact E.tup b xs q) E.new E.rho E.tmp E.lam
end
end Mp

/-! zip; list(range(..)); what is not covered -/
namespace Mp
open PySem L2 PyProof.Rows
section
variable {cl : Cl} {kn : List Str} {X : Cx} {N : List Str} {sc : Scope} {fnp : Str → Bool} {W : WX} {a b c : E} {pa pb pc tg : Expr} {pos : Pos}
theorem zipL_get : ∀ {xs ys : List D} {i : Nat} {x y : D}, xs[i]? = some x → ys[i]? = some y → (zipL xs ys)[i]? = some (.tup [x, y])
  | [], _, _, _, _, h, _ => by simp at h
  | _ :: _, [], _, _, _, _, h => by simp at h
  | x :: xs, y :: ys, 0, _, _, h1, h2 => by simp at h1 h2; subst h1 h2; rfl
  | x :: xs, y :: ys, i + 1, _, _, h1, h2 => by
    simp only [zipL, List.getElem?_cons_succ]
    exact zipL_get (by simpa using h1) (by simpa using h2)
theorem zipL_len : ∀ {xs ys : List D}, (zipL xs ys).length = min xs.length ys.length
  | [], _ => by simp [zipL]
  | _ :: _, [] => by simp [zipL]
  | x :: xs, y :: ys => by simp only [zipL, List.length_cons, zipL_len (xs := xs) (ys := ys)]; omega
theorem wk_zip {K : PySem.W.Frag} {w : Wd} {H : Hp} {xs ys : List D} {a b : Addr} {k1 k2 sb : Bool} {vs us : List V} (hs : ∀ w' H', Ext w H w' H' → SqK k1 K H' a vs ∧ SqK k2 K H' b us) (r1 : RVs K w H xs vs) (r2 : RVs K w H ys us)
    (hl : sb = true → xs.length = ys.length) : WkOk K w H (zipL xs ys) (ItZ sb k1 k2 K a b) := by
  refine ⟨_, _, walk_zo (xs := vs) (ys := us) (by rw [zipL_len, r1.length, r2.length]) (fun z => by rw [r1.length, r2.length]; exact hl z), hs, fun i H1 x H2 w1 hi E y => ?_⟩
  obtain ⟨p, u, v, rfl, hp, rfl, h1, h2⟩ := y
  obtain ⟨d, hd, rd⟩ := (r1.mono E).geti h1
  obtain ⟨d', hd', rd'⟩ := (r2.mono E).geti h2
  exact ⟨keep_upd hp, _, zipL_get hd hd', pair_rv hp rd rd'⟩
theorem zip_come {sb : Bool} {σ : L2.St} {H : Hp} {Rr : L2.It → Hp → Prop} (q : tI X.K X.mg W (evI cl (.zip a b sb)) σ H Rr) : tCons (tE X.K X.mg W (evE cl a)) (tCons (tE X.K X.mg W (evE cl b)) tNil) σ H
    fun vs H1 => ∃ a b k1 k2 xs ys, vs = [.ref a, .ref b] ∧ SqK k1 X.K H1 a xs ∧ SqK k2 X.K H1 b ys ∧ Rr (ItZ sb k1 k2 X.K a b) H1 := by
  obtain ⟨w, e, h, R, p⟩ := q
  simp only [evI] at p
  refine ⟨w, e, h, R, (PO.bd0 p).mono fun r e1 h1 w1 H1 E1 R1 p1 x rx nx => ?_⟩
  refine ⟨w1, e1, h1, R1, (PO.bd0 (p1.fwd E1)).mono fun r2 e2 h2 w2 H2 E2 R2 p2 y ry ny => ?_⟩
  have rx := rx.mono E2
  split at p2
  · rename_i xs l1 ys l2 hk1 hk2
    split at p2
    · rename_i c
      obtain ⟨hL1, a1, vs, rfl, rs1, hh1⟩ := wkd_ok R2 rx hk1
      obtain ⟨hL2, a2, us, rfl, rs2, hh2⟩ := wkd_ok R2 ry hk2
      have hL : ∀ i ∈ l1 ++ l2, ∃ a ys, w2.ω i = some a ∧ e2[i]? = some (.ow (.lst ys)) := fun i hi => by
        rcases List.mem_append.mp hi with z | z
        · exact hL1 i z
        · exact hL2 i z
      have hL' : ∀ i ∈ l1 ++ l2, ∃ a, w2.ω i = some a := fun i hi => let ⟨a, _, q, _⟩ := hL i hi; ⟨a, q⟩
      have st : ∀ {aa : Addr} {zs : List V} {lk : List Nat}, (∀ i ∈ lk, i ∈ l1 ++ l2) → ((H2 aa = some (.tup zs)) ∨ (H2 aa = some (.lst zs) ∧ (¬ w2.M aa ∨ w2.τ aa ∨ (∃ i ∈ lk, w2.ω i = some aa) ∨ ∃ i, w2.lam i = some aa ∧ w2.ω i = none))) →
          ∃ k, SqK k X.K H2 aa zs ∧ ∀ w' H', Ext (w2.lock (l1 ++ l2)) H2 w' H' → SqK k X.K H' aa zs := fun {aa zs lk} sub hh => by
        rcases hh with hh | ⟨hh, hn⟩
        · exact ⟨true, SqT.of hh, fun w' H' E => SqT.of (E.tup aa _ hh)⟩
        · exact ⟨false, SqL.of hh, fun w' H' E => SqL.of (E.keep aa _ hh (wkd_lock hL' sub hn))⟩
      obtain ⟨k1, s1, g1⟩ := st (lk := l1) (fun i hi => List.mem_append_left _ hi) hh1
      obtain ⟨k2, s2, g2⟩ := st (lk := l2) (fun i hi => List.mem_append_right _ hi) hh2
      have rl1 : RVs X.K (w2.lock (l1 ++ l2)) H2 xs vs := RVs.monoV (lock_V hL') _ _ rs1
      have rl2 : RVs X.K (w2.lock (l1 ++ l2)) H2 ys us := RVs.monoV (lock_V hL') _ _ rs2
      refine ⟨a1, a2, k1, k2, vs, us, rfl, s1, s2, p2.ok E2 R2 hL _ (wk_zip (fun w' H' E => ⟨g1 w' H' E, g2 w' H' E⟩) rl1 rl2 fun z => ?_)⟩
      subst z
      simpa using c
    · exact p2.elim
  · exact p2.elim
theorem pi_zipM (C : Cz cl kn X N sc fnp W) {p tpos : Pos} {elts : List Expr} {kk : Nat} (hg : sc.names.lookup (PySem.Str.ofString "zip") = some .globalImplicit) (ha : PE X pa (tE X.K X.mg W (evE cl a))) (hb : PE X pb (tE X.K X.mg W (evE cl b))) (hs : noStar pa = true) (hs2 : noStar pb = true) :
    PI X (.Tuple elts kk tpos) (.Call (.Name (PySem.Str.ofString "zip") p) [pa, pb] [] pos) (tI X.K X.mg W (evI cl (.zip a b false))) := by
  have st2 : starEach [pb] X.env = [(false, eval pb X.env)] := by rw [starEach_cons hs2]; rfl
  have st : starEach [pa, pb] X.env = [(false, eval pa X.env), (false, eval pb X.env)] := by rw [starEach_cons hs, st2]
  exact PI.imp (pi_zo (gl_of C hg) (C.bn _ (by decide +kernel)) (pa_cons ha (pa_cons hb pa_nil (starEach_cons hs2)) (starEach_cons hs)) st st2) fun σ H Rr q => zip_come q
theorem pi_zipSM (C : Cz cl kn X N sc fnp W) {p tpos kp cp : Pos} {elts : List Expr} {kk j : Nat} (hg : sc.names.lookup (PySem.Str.ofString "zip") = some .globalImplicit) (ha : PE X pa (tE X.K X.mg W (evE cl a))) (hb : PE X pb (tE X.K X.mg W (evE cl b))) (hs : noStar pa = true) (hs2 : noStar pb = true) :
    PI X (.Tuple elts kk tpos) (.Call (.Name (PySem.Str.ofString "zip") p) [pa, pb] [⟨some (PySem.Str.ofString "strict"), .Constant (.bool true) j cp, kp⟩] pos) (tI X.K X.mg W (evI cl (.zip a b true))) := by
  have st2 : starEach [pb] X.env = [(false, eval pb X.env)] := by rw [starEach_cons hs2]; rfl
  have st : starEach [pa, pb] X.env = [(false, eval pa X.env), (false, eval pb X.env)] := by rw [starEach_cons hs, st2]
  exact PI.imp (pi_zoS (gl_of C hg) (C.bn _ (by decide +kernel)) (pa_cons ha (pa_cons hb pa_nil (starEach_cons hs2)) (starEach_cons hs)) st st2 pe_bl) fun σ H Rr q => zip_come q
/-- what is not covered has no answer -/
theorem pe_badM : PE X pa (tE X.K X.mg W (evE cl .bad)) := ⟨fun pins s σ H Q I q => by
  obtain ⟨w, e, h, R, p⟩ := q
  simp only [evE] at p
  exact p.elim⟩
theorem pt_badM : PT X pa (tT X.K X.mg W (evE cl .bad)) := ⟨fun pins s σ H Q I q => by
  obtain ⟨w, e, h, R, p⟩ := q
  simp only [evE] at p
  exact p.elim⟩
end
end Mp

/-! list comprehensions -/
namespace Mp
open PySem L2 PyProof.Rows

theorem ExtV.trans {w w1 w2 : Wd} {H H1 H2 : Hp} (a : ExtV w H w1 H1) (b : ExtV w1 H1 w2 H2) : ExtV w H w2 H2 where
  keepV := fun c o q n => b.keepV c o (a.keepV c o q n) (a.nM q n)
  tup := fun c xs q => b.tup c xs (a.tup c xs q)
  new := fun c m => by
    rcases b.new c m with z | z
    · exact a.new c z
    · by_cases hm : w.M c
      · exact .inl hm
      · refine .inr ?_
        cases q : H c with
        | none => rfl
        | some o => rw [a.keepV c o q hm] at z; cases z
  rho := fun n c q => b.rho n c (a.rho n c q)
theorem bd_bd {α β γ : Type} (m : Option (O α)) (f : α → Ev → AH → Option (O β)) (g : β → Ev → AH → Option (O γ)) : Mp.bd (Mp.bd m f) g = Mp.bd m fun a e h => Mp.bd (f a e h) g := by
  cases m with
  | none => rfl
  | some o => cases o <;> rfl
theorem noOwn_lock {own lk : List Nat} {e : Ev} (n : noOwn own e = true) : noOwn own (lockS lk e) = true := by
  refine List.all_eq_true.mpr fun i hi => ?_
  have q := List.all_eq_true.mp n i hi
  rw [lockS_get]
  split at q
  · rename_i s hs
    rw [hs]
    by_cases hl : i ∈ lk
    · rw [if_pos hl]
      cases s with
      | ow o => simp [isOwn] at q
      | lk o => simp [isOwn] at q
      | un => rfl
      | v d => rfl
    · rw [if_neg hl]
      exact q
  · cases q
section
variable {cl : Cl} {kn : List Str} {K : PySem.W.Frag} {mg : Str → Option Value} {W : WX} {σ : L2.St} {H : Hp} {Q : VK}
/-- no exception leaves a block -/
abbrev W0 : WX := fun _ _ _ _ => False
theorem tLc_of {elt c : E} {own : List Nat} {g : G} {it : It} {tt : TT} (htt : ∀ σ H Q, tT K mg W0 (evE cl c) σ H Q → tt σ H Q) (hts : ∀ i ∈ g.ts, i ∈ own)
    (q : tE K mg W (evE cl (.comp elt own g it c)) σ H Q) : tLc (tI K mg W (evI cl it)) (gG K g) tt (tE K mg W0 (evE cl elt)) own σ H Q := by
  obtain ⟨w, e, h, R, p⟩ := q
  simp only [evE] at p
  refine ⟨w, e, h, R, (PO.bd0 p).mono fun pr e1 h1 w1 H1 E1 R1 p1 hL J wk dd hD => ?_⟩
  obtain ⟨xs, lk⟩ := pr
  simp only at p1 hL wk
  split at p1
  · rename_i cnd
    simp only [Bool.and_eq_true, decide_eq_true_eq] at cnd
    obtain ⟨n1, hlen⟩ := cnd
    obtain ⟨G', Y, wlk, stay, yield⟩ := wk
    have Rl := R1.lock hL
    have hL' : ∀ i ∈ lk, ∃ a, w1.ω i = some a := fun i hi => let ⟨a, _, q, _⟩ := hL i hi; ⟨a, q⟩
    generalize hf : (fun (x : D) (e : Ev) (h : AH) => match bindG g x e with
          | some e => Mp.bd (noEx (evE cl c e h)) fun t e h => match (rd e h t).bind truth with
            | some true => Mp.bd (noEx (evE cl elt e h)) fun y e h => match frz e y with
              | some (d, e) => some (O.ok (some d) e h)
              | none => none
            | some false => some (O.ok (none : Option D) e h)
            | none => none
          | none => none) = f at p1
    generalize hk2 : (fun (ys : List D) (e' : Ev) (h : AH) => some (O.ok (Rv.fr (.lst ys)) (freeS lk (backS own e1 e')) h)) = k2 at p1
    refine lc_it wlk (fun i H2 => ∃ w2 e2 h2 σ2 acc vs, Ext (w1.lock lk) H1 w2 H2 ∧ Rel K w2 e2 h2 σ2 H2 ∧ L2.wipe σ2 own = L2.wipe σ own ∧ noOwn own e2 = true ∧ H2 dd = some (.lst vs) ∧ w2.τ dd ∧ RVs K w2 H2 acc vs ∧ acc.length ≤ i ∧
      PO K mg W σ w H (Mp.bd (forC own f (xs.drop i) acc e2 h2) k2) (kE K σ w Q)) ?_ ?_ ?_ ?_
    · exact ⟨(w1.lock lk).put dd, lockS lk e1, h1, σ, [], [], Ext.put hD, Rl.put hD (fun _ z => nomatch z), rfl, noOwn_lock n1, upd_same, .inr rfl, RVs.nil, Nat.le_refl _, p1⟩
    · rintro i H2 hi ⟨w2, e2, h2, σ2, acc, vs, E2, _⟩
      exact stay w2 H2 E2
    · rintro i x H2 H3 hi ⟨w2, e2, h2, σ2, acc, vs, E2, R2, hσ, n2, hDv, tD, rvs, hacc, p2⟩ y
      obtain ⟨up, d, hd, rv⟩ := yield i H2 x H3 w2 hi E2 y
      have hdrop : xs.drop i = d :: xs.drop (i + 1) := by
        obtain ⟨hlt, hg⟩ := List.getElem?_eq_some_iff.mp hd
        rw [← hg]
        exact List.drop_eq_getElem_cons hlt
      rw [hdrop] at p2
      simp only [forC] at p2
      rw [bd_bd, ← hf] at p2
      simp only at p2
      have R3 := R2.kept up
      have Rw := R3.wipe n2
      rw [hσ] at Rw
      cases hb : bindG g d (wipeS own e2) with
      | none => rw [hb] at p2; exact p2.elim
      | some e3 =>
        rw [hb] at p2
        simp only at p2
        obtain ⟨w3, σ3, E3, R3', hoth, hl3, hQ⟩ := bindG_ok g d x w2 _ e3 _ Rw rv hb
        refine hQ _ ⟨?_, ?_⟩
        · refine List.ext_getElem? fun j => ?_
          rw [wipe_get, wipe_get]
          by_cases hj : j ∈ own
          · rw [if_pos hj, if_pos hj]
            by_cases hlt : j < σ.length
            · have : j < σ3.length := by rw [hl3, wipe_length]; exact hlt
              simp [hlt, this]
            · have : ¬ j < σ3.length := by rw [hl3, wipe_length]; exact hlt
              simp [hlt, this]
          · rw [if_neg hj, if_neg hj, hoth j (fun z => hj (hts j z)), wipe_get, if_neg hj]
        · refine htt σ3 H3 _ ⟨w3, e3, h2, R3', ?_⟩
          have hw3 : L2.wipe σ3 own = L2.wipe σ own := by
            refine List.ext_getElem? fun j => ?_
            rw [wipe_get, wipe_get]
            by_cases hj : j ∈ own
            · rw [if_pos hj, if_pos hj]
              by_cases hlt : j < σ.length
              · have : j < σ3.length := by rw [hl3, wipe_length]; exact hlt
                simp [hlt, this]
              · have : ¬ j < σ3.length := by rw [hl3, wipe_length]; exact hlt
                simp [hlt, this]
            · rw [if_neg hj, if_neg hj, hoth j (fun z => hj (hts j z)), wipe_get, if_neg hj]
          have E23 : Ext w2 H2 w3 H3 := (Ext.kept up).trans E3
          cases hm : evE cl c e3 h2 with
          | none => rw [hm] at p2; exact p2.elim
          | some o =>
            cases o with
            | ex cc pp ee hh => rw [hm] at p2; exact p2.elim
            | ok t e4 h4 =>
              rw [hm] at p2
              simp only [noEx_ok, bd_ok] at p2
              intro w4 H4 E4 R4
              have E24 := E23.trans E4
              cases hb2 : (rd e4 h4 t).bind truth with
              | none => rw [hb2] at p2; exact p2.elim
              | some b =>
                rw [hb2] at p2
                refine ⟨b, rfl, ?_⟩
                cases b with
                | true =>
                  rw [if_pos rfl]
                  simp only at p2
                  refine ⟨w4, e4, h4, R4, ?_⟩
                  cases hm2 : evE cl elt e4 h4 with
                  | none => rw [hm2] at p2; exact p2.elim
                  | some o =>
                    cases o with
                    | ex cc pp ee hh => rw [hm2] at p2; exact p2.elim
                    | ok y2 e5 h5 =>
                      rw [hm2] at p2
                      simp only [noEx_ok, bd_ok] at p2
                      intro w5 H5 E5 R5 yv ry ny
                      cases hz : frz e5 y2 with
                      | none => rw [hz] at p2; exact p2.elim
                      | some de =>
                        obtain ⟨d', e6⟩ := de
                        rw [hz] at p2
                        simp only [bd_ok] at p2
                        obtain ⟨w6, E6, R6, rv6⟩ := frz_ok E5 R5 ry ny hz
                        have E26 := E24.trans E6
                        have hD5 : H5 dd = some (.lst vs) := E26.keep dd _ hDv (.inr (.inl tD))
                        have tD6 : w6.τ dd := E26.tmp dd tD
                        split at p2
                        · rename_i n6
                          obtain ⟨XV, R7⟩ := R6.atT (u := .lst (vs ++ [yv])) tD6 (fun _ z => nomatch z)
                          refine ⟨vs, hD5, ?_, w6, e6, h5, σ3, acc ++ [d'], vs ++ [yv], (E2.trans E26).newer hD (fun xs z => by rw [hD5] at z; cases z), R7, hw3, n6, upd_same, tD6, ?_, by simp; omega, by rw [← hf]; exact p2⟩
                          · rw [sizeLine_max, rvs.length]; omega
                          · exact RVs.monoV XV _ _ ((rvs.mono E26).append (RVs.cons rv6 RVs.nil))
                        · exact p2.elim
                | false =>
                  rw [if_neg Bool.false_ne_true]
                  simp only [bd_ok] at p2
                  split at p2
                  · rename_i n4
                    exact ⟨w4, e4, h4, σ3, acc, vs, E2.trans E24, R4, hw3, n4, E24.keep dd _ hDv (.inr (.inl tD)), E24.tmp dd tD, rvs.mono E24, by omega, by rw [← hf]; exact p2⟩
                  · exact p2.elim
    · rintro H2 ⟨w2, e2, h2, σ2, acc, vs, E2, R2, hσ, n2, hDv, tD, rvs, hacc, p2⟩
      have hdrop : xs.drop xs.length = [] := by simp
      rw [hdrop] at p2
      simp only [forC, bd_ok] at p2
      rw [← hk2] at p2
      simp only at p2
      have Rb := R1.back n1 ((lock_V hL').trans E2.toExtV) R2 n2 hσ
      obtain ⟨Rf, Ef, Xf⟩ := R1.free hL E2 Rb
      refine p2.ok (E1.trans Ef) Rf _ ⟨dd, rfl, ⟨tD, fun i z => R1.notNone (.inr (.inr (.inr ⟨i, z⟩))) hD⟩, vs, hDv, RVs.monoV Xf _ _ rvs⟩ fun b eb t => ?_
      cases eb
      exact R1.notNone (.inr (.inr (.inl (E1.tmp _ t)))) hD
  · exact p1.elim
end
end Mp

/-! statements -/
namespace Mp
open PySem L2 PyProof.Rows

section
variable {cl : Cl} {kn : List Str} {X : Cx} {N : List Str} {sc : Scope} {fnp : Str → Bool} {W : WX}
theorem Cz.blk (C : Cz cl kn X N sc fnp W) (s : Shared) (H : Hp) (scope : Scope) (cl' : List (Str × Addr)) (c : Addr) (fp : List Addr) :
    Cz cl kn (X.blk s H scope (compEnvC scope cl' c X.env) fp) N (relS scope sc) (fun x => scope.names.lookup x == some .cell) W0 :=
  ⟨C.eN, by show relS scope X.env.scope = _; rw [C.eS], fun _ h => h, C.nd, C.calm, C.room, C.gd, takes0, C.bn, C.fs⟩
/-- a comprehension -/
theorem pe_compM (C : Cz cl kn X N sc fnp W) {elt : E} {c : E} {own : List Nat} {g : G} {it : It} {pe tg iter : Expr} {ifs : List Expr} {scope : Scope} {ownp : List (Str × Nat)} {pos : Pos} {tt : TT} (hi : PI X tg iter (tI X.K X.mg W (evI cl it)))
    (hok : blkC N sc scope ownp = true) (hown : ownp.map (·.2) = own) (hg : chkG N (relS scope sc) (fun x => scope.names.lookup x == some .cell) g tg = true) (hts : ∀ i ∈ g.ts, i ∈ own)
    (ht : ∀ X', Cz cl kn X' N (relS scope sc) (fun x => scope.names.lookup x == some .cell) W0 → X'.K = X.K → X'.mg = X.mg → PTs X' ifs tt) (htt : ∀ σ H Q, tT X.K X.mg W0 (evE cl c) σ H Q → tt σ H Q)
    (he : ∀ X', Cz cl kn X' N (relS scope sc) (fun x => scope.names.lookup x == some .cell) W0 → X'.K = X.K → X'.mg = X.mg → PE X' pe (tE X'.K X'.mg W0 (evE cl elt))) (hs : ∀ x, foldedSetIterable iter X.env x = pure x) :
    PE X (.ListComp pe [⟨tg, iter, ifs, 0⟩] scope pos) (tE X.K X.mg W (evE cl (.comp elt own g it c))) := by
  subst hown
  refine PE.imp (pe_lc C.calm (by rw [C.eN]; exact C.nd) hi (by rw [C.eN, C.eS]; exact blkOk_by hok) (fun s H c' cl' fp => ?_) (fun s H c' cl' fp => ht _ (C.blk s H scope cl' c' fp) rfl rfl) (fun s H c' cl' fp => he _ (C.blk s H scope cl' c' fp) rfl rfl) hs) fun σ H Q q => tLc_of htt hts q
  exact pg_ok (C.blk s H scope cl' c' fp) g tg hg
end
/-- a statement's answer, as it may stand behind w, H -/
def PQ (K : PySem.W.Frag) (mg : Str → Option Value) (W : WX) {α : Type} (w : Wd) (H : Hp) (m : Option (O α)) (k : α → Ev → AH → Wd → L2.St → Hp → Prop) : Prop :=
  match m with
  | some (.ok a e h) => ∀ w' σ' H', Ext w H w' H' → Rel K w' e h σ' H' → k a e h w' σ' H'
  | some (.ex c p e h) => ∀ w' σ' H' C d, Ext w H w' H' → Rel K w' e h σ' H' → EXR K mg w' H' c p C d → W C d σ' H'
  | none => False
section
variable {K : PySem.W.Frag} {mg : Str → Option Value} {W : WX} {α β : Type} {σ : L2.St} {w w1 : Wd} {H H1 : Hp}
theorem PQ.mono {m : Option (O α)} {k k' : α → Ev → AH → Wd → L2.St → Hp → Prop} (p : PQ K mg W w H m k) (f : ∀ a e h w' σ' H', Ext w H w' H' → Rel K w' e h σ' H' → k a e h w' σ' H' → k' a e h w' σ' H') : PQ K mg W w H m k' := by
  unfold PQ at p ⊢
  split
  · exact fun w' σ' H' x r => f _ _ _ _ _ _ x r (p w' σ' H' x r)
  · exact p
  · exact p
theorem PQ.ok {a : α} {e : Ev} {h : AH} {k : α → Ev → AH → Wd → L2.St → Hp → Prop} (p : PQ K mg W w H (some (.ok a e h)) k) {w' : Wd} {σ' : L2.St} {H' : Hp} (x : Ext w H w' H') (r : Rel K w' e h σ' H') : k a e h w' σ' H' := p w' σ' H' x r
theorem PQ.fwd {m : Option (O α)} {k : α → Ev → AH → Wd → L2.St → Hp → Prop} (E1 : Ext w H w1 H1) (p : PQ K mg W w H m k) : PQ K mg W w1 H1 m k := by
  unfold PQ at p ⊢
  split
  · exact fun w' σ' H' x r => p w' σ' H' (E1.trans x) r
  · exact fun w' σ' H' C d x r => p w' σ' H' C d (E1.trans x) r
  · exact p
theorem PQ.bd {m : Option (O α)} {f : α → Ev → AH → Option (O β)} {k : β → Ev → AH → Wd → L2.St → Hp → Prop} (p : PQ K mg W w H (Mp.bd m f) k) :
    PQ K mg W w H m fun a e h _ _ _ => PQ K mg W w H (f a e h) k := by
  cases m with
  | none => exact p
  | some o =>
    cases o with
    | ok a e h => exact fun _ _ _ _ _ => p
    | ex c q e h => exact p
/-- an expression within a statement -/
theorem PQ.e {m : Option (O α)} {f : α → Ev → AH → Option (O β)} {k : β → Ev → AH → Wd → L2.St → Hp → Prop} (σ : L2.St) (p : PQ K mg W w H (Mp.bd m f) k) :
    PO K mg W σ w H m fun a e h _ _ => PQ K mg W w H (f a e h) k := by
  cases m with
  | none => exact p
  | some o =>
    cases o with
    | ok a e h => exact fun _ _ _ _ => p
    | ex c q e h => exact fun w' H' C d x r => p w' σ H' C d x r
end
/-- a statement's end -/
def kS (K : PySem.W.Frag) (D : Ends) (w0 : Wd) : Fl → Ev → AH → Wd → L2.St → Hp → Prop := fun fl _ _ w' σ' H' =>
  match fl with
  | .nx => D.nx σ' H'
  | .bk => D.bk σ' H'
  | .ct => D.ct σ' H'
  | .rt r => ∀ x, RR K w' [] H' r x → New w0 r x → D.rt x H'
def tS (K : PySem.W.Frag) (mg : Str → Option Value) (W : WX) (m : Ev → AH → Option (O Fl)) : TS := fun D σ H => ∃ w e h, Rel K w e h σ H ∧ PQ K mg W w H (m e h) (kS K D w)
theorem kS_back {K : PySem.W.Frag} {D : Ends} {w0 w : Wd} {H0 H : Hp} (E0 : Ext w0 H0 w H) {fl : Fl} {e : Ev} {h : AH} {w' : Wd} {σ' : L2.St} {H' : Hp} (k : kS K D w0 fl e h w' σ' H') : kS K D w fl e h w' σ' H' := by
  cases fl with
  | rt r => exact fun x rx nx => k x rx (nx.step E0)
  | nx => exact k
  | bk => exact k
  | ct => exact k
section
variable {cl : Cl} {kn : List Str} {F : Nat} {X : Cx} {N : List Str} {sc : Scope} {fnp : Str → Bool} {W : WX} {a b c o i : E} {pa pb pc po pi : Expr} {pos : Pos} {s : S} {ss : Ss} {st : Stmt} {sts rest : List Stmt}
theorem PS.imp {t t' : TS} (h : PS X st t) (f : ∀ D σ H, t' D σ H → t D σ H) : PS X st t' := ⟨fun pins s σ H D I q => h.run pins s σ H D I (f D σ H q)⟩
theorem PSs.imp {t t' : TS} (h : PSs X sts t) (f : ∀ D σ H, t' D σ H → t D σ H) : PSs X sts t' := ⟨fun pins s σ H D I q => h.run pins s σ H D I (f D σ H q)⟩
theorem pss_nilM : PSs X [] (tS X.K X.mg W (evSs cl F .nil)) := by
  refine PSs.imp pss_nil fun D σ H q => ?_
  obtain ⟨w, e, h, R, p⟩ := q
  simp only [evSs] at p
  exact p.ok (.refl _ _) R
theorem pss_consM (h1 : PS X st (tS X.K X.mg W (evS cl F s))) (h2 : PSs X rest (tS X.K X.mg W (evSs cl F ss))) : PSs X (st :: rest) (tS X.K X.mg W (evSs cl F (.cons s ss))) := by
  refine PSs.imp (pss_cons h1 h2) fun D σ H q => ?_
  obtain ⟨w, e, h, R, p⟩ := q
  simp only [evSs] at p
  refine ⟨w, e, h, R, p.bd.mono fun fl e1 h1 w1 σ1 H1 E1 R1 p1 => ?_⟩
  cases fl with
  | nx => exact ⟨w1, e1, h1, R1, (p1.fwd E1).mono fun fl e2 h2 w2 σ2 H2 E2 R2 k => kS_back E1 k⟩
  | bk => exact p1.ok E1 R1
  | ct => exact p1.ok E1 R1
  | rt r => exact p1.ok E1 R1
theorem ps_passM : PS X (.Pass pos) (tS X.K X.mg W (evS cl F .pass)) := by
  refine PS.imp ps_pass fun D σ H q => ?_
  obtain ⟨w, e, h, R, p⟩ := q
  simp only [evS] at p
  exact p.ok (.refl _ _) R
theorem ps_brkM : PS X (.Break pos) (tS X.K X.mg W (evS cl F .brk)) := by
  refine PS.imp ps_break fun D σ H q => ?_
  obtain ⟨w, e, h, R, p⟩ := q
  simp only [evS] at p
  exact p.ok (.refl _ _) R
theorem ps_cntM : PS X (.Continue pos) (tS X.K X.mg W (evS cl F .cnt)) := by
  refine PS.imp ps_continue fun D σ H q => ?_
  obtain ⟨w, e, h, R, p⟩ := q
  simp only [evS] at p
  exact p.ok (.refl _ _) R
theorem ps_retNM : PS X (.Return none pos) (tS X.K X.mg W (evS cl F .retN)) := by
  refine PS.imp ps_retN fun D σ H q => ?_
  obtain ⟨w, e, h, R, p⟩ := q
  simp only [evS] at p
  exact p.ok (.refl _ _) R _ (by show RV _ _ _ _ _; unfold RV; rfl) trivial
def notComp : Expr → Bool
  | .ListComp .. => false
  | .SetComp .. => false
  | .DictComp .. => false
  | _ => true
theorem swaps_no {e : Expr} {t : Option Expr} {l : Nat} {env : Env} (h : notComp e = true) : swapsWith e t l env = pure false := by
  cases e <;> first | rfl | cases h
theorem ps_exprM (ha : PE X pa (tE X.K X.mg W (evE cl a))) (hs : notComp pa = true) : PS X (.Expr pa pos) (tS X.K X.mg W (evS cl F (.expr a))) := by
  refine PS.imp (ps_expr ha (swaps_no hs)) fun D σ H q => ?_
  obtain ⟨w, e, h, R, p⟩ := q
  simp only [evS] at p
  exact ⟨w, e, h, R, (p.e σ).mono fun r e1 h1 w1 H1 E1 R1 p1 x rx nx => p1.ok E1 R1⟩
/-- a slot's own thing is given back among those not yet placed -/
def _root_.Mp.Wd.loose (w : Wd) (i : Nat) (a : Addr) : Wd := { w.drop i with τ := fun b => w.τ b ∨ b = a }
theorem ret_ok {K : PySem.W.Frag} {w0 w : Wd} {H0 H : Hp} {e e' : Ev} {h : AH} {σ : L2.St} {r r' : Rv} {x : V} (E0 : Ext w0 H0 w H) (R : Rel K w e h σ H) (rx : RR K w σ H r x) (nx : New w0 r x) (k : retR e r = some (r', e')) :
    ∃ w', Ext w0 H0 w' H ∧ Rel K w' e' h σ H ∧ RR K w' [] H r' x ∧ New w0 r' x := by
  cases r with
  | v d => cases k; exact ⟨w, E0, R, rx, trivial⟩
  | fr o => cases k; exact ⟨w, E0, R, rx, nx⟩
  | bor i =>
    unfold retR at k
    simp only at k
    split at k
    · rename_i o ho
      cases k
      obtain ⟨a, h1, h2, ob⟩ := R.slot i _ ho
      have rx' : σ[i]? = some (some x) := rx
      rw [rx'] at h2
      cases h2
      have hd : ∀ {j b}, (w.loose i a).ω j = some b → w.ω j = some b ∧ j ≠ i := fun {j b} q => Wd.drop_some q
      have MM : ∀ b, (w.loose i a).M b → w.M b := fun b m => by
        rcases m with m | ⟨j, m⟩ | (m | m) | m
        · exact .inl m
        · exact .inr (.inl ⟨j, (hd m).1⟩)
        · exact .inr (.inr (.inl m))
        · exact .inr (.inl ⟨i, by rw [m]; exact h1⟩)
        · exact .inr (.inr (.inr m))
      have X1 : Ext w H (w.loose i a) H := .mk' (fun _ _ q _ => q) (fun _ _ q => q) (fun b m => .inl (MM b m)) (fun _ _ q => q) (fun _ q => .inl q)
      refine ⟨w.loose i a, E0.trans X1, ⟨by rw [List.length_set]; exact R.len, fun j s q => ?_, fun j hj => ?_, R.lenρ, fun n o a h1 h2 => (R.obs n o a h1 h2).at X1.toExtV fun u hu => hu, R.ndρ, fun j k b h1 h2 => R.ndω j k b (hd h1).1 (hd h2).1, fun j b h1 => R.ndx j b (hd h1).1, fun b t => ?_, fun b j t z => ?_, R.ndl⟩, ⟨a, rfl, .inr rfl, ob.at X1.toExtV fun u hu => hu⟩, fun b eb t => ?_⟩
      · by_cases hj : j = i
        · subst hj
          rw [List.getElem?_set_self (List.getElem?_eq_some_iff.mp ho).1] at q
          cases q
          show (w.loose j a).ω j = none
          simp [Wd.loose, Wd.drop]
        · rw [List.getElem?_set_ne (Ne.symm hj)] at q
          exact (R.slot j s q).at X1.toExtV (Wd.drop_ne hj) rfl fun a u _ hu => hu
      · rw [List.length_set] at hj
        cases z : (w.loose i a).ω j with
        | none => rfl
        | some b =>
          have := (hd z).1
          rw [R.beyond j hj] at this
          cases this
      · have t' : w.T b ∨ b = a := by
          rcases t with (t | t) | t
          · exact .inl (.inl t)
          · exact .inr t
          · exact .inl (.inr t)
        rcases t' with t | rfl
        · obtain ⟨q1, q2, q3⟩ := R.ndT b t
          exact ⟨q1, fun j z => q2 j (hd z).1, q3⟩
        · exact ⟨R.ndx i _ h1, fun j z => (hd z).2 (R.ndω j i _ (hd z).1 h1), R.there (.inr (.inl ⟨i, h1⟩))⟩
      · rcases t with t | rfl
        · exact R.ndτ b j t z
        · exact (R.ndT b (.inr ⟨j, z⟩)).2.1 i h1
      · cases eb
        exact (R.ndT _ (.inl (E0.tmp _ t))).2.1 i h1
    · cases k
theorem ps_retM (ha : PE X pa (tE X.K X.mg W (evE cl a))) : PS X (.Return (some pa) pos) (tS X.K X.mg W (evS cl F (.ret a))) := by
  refine PS.imp (ps_ret ha) fun D σ H q => ?_
  obtain ⟨w, e, h, R, p⟩ := q
  simp only [evS] at p
  refine ⟨w, e, h, R, (p.e σ).mono fun r e1 h1 w1 H1 E1 R1 p1 x rx nx => ?_⟩
  split at p1
  · rename_i r' e' k
    obtain ⟨w2, E2, R2, rx2, nx2⟩ := ret_ok E1 R1 rx nx k
    exact p1.ok E2 R2 x rx2 nx2
  · exact p1.elim
theorem ps_ifM (hc : PT X pc (tT X.K X.mg W (evE cl c))) {s1 s2 : Ss} {st1 st2 : List Stmt} (h1 : PSs X st1 (tS X.K X.mg W (evSs cl F s1))) (h2 : PSs X st2 (tS X.K X.mg W (evSs cl F s2))) : PS X (.If pc st1 st2 pos) (tS X.K X.mg W (evS cl F (.ifs c s1 s2))) := by
  refine PS.imp (ps_if hc h1 h2) fun D σ H q => ?_
  obtain ⟨w, e, h, R, p⟩ := q
  simp only [evS] at p
  refine ⟨w, e, h, R, (p.e σ).mono fun r e1 h1 w1 H1 E1 R1 p1 => ?_⟩
  split at p1
  · rename_i k
    refine ⟨true, k, iteT ?_⟩
    exact ⟨w1, e1, h1, R1, (p1.fwd E1).mono fun fl e2 h2 w2 σ2 H2 E2 R2 k => kS_back E1 k⟩
  · rename_i k
    refine ⟨false, k, iteF ?_⟩
    exact ⟨w1, e1, h1, R1, (p1.fwd E1).mono fun fl e2 h2 w2 σ2 H2 E2 R2 k => kS_back E1 k⟩
  · exact p1.elim
theorem ps_whileM (hp : PassesOwn (model X.prog X.w) X.A X.env X.xe) (hc : PT X pc (tT X.K X.mg W (evE cl c))) (hb : PSs X sts (tS X.K X.mg W (evSs cl F ss))) : PS X (.While pc sts [] pos) (tS X.K X.mg W (evS cl F (.whl c ss))) := by
  refine PS.imp (ps_while hp hc hb) fun D σ H q => ?_
  obtain ⟨w, e, h, R, p⟩ := q
  simp only [evS] at p
  generalize hcn : (fun (e : Ev) (h : AH) => Mp.bd (evE cl c e h) fun x e h => match (rd e h x).bind truth with
      | some b => some (O.ok b e h)
      | none => none) = tc at p
  refine ⟨fun n σ1 H1 => ∃ w1 e1 h1, Rel X.K w1 e1 h1 σ1 H1 ∧ PQ X.K X.mg W w1 H1 (whlS tc (fun e h => evSs cl F ss e h) n e1 h1) (kS X.K D w1), ⟨F, w, e, h, R, p⟩, ?_⟩
  rintro n σ1 H1 ⟨w1, e1, h1, R1, p1⟩
  cases n with
  | zero => exact p1.elim
  | succ n =>
    simp only [whlS] at p1
    rw [← hcn] at p1
    rw [bd_bd] at p1
    refine ⟨w1, e1, h1, R1, (p1.e σ1).mono fun r e2 h2 w2 H2 E2 R2 p2 => ?_⟩
    split at p2
    · rename_i b hb2
      refine ⟨b, hb2, ?_⟩
      cases b with
      | false =>
        rw [if_neg Bool.false_ne_true]
        exact p2.ok E2 R2
      | true =>
        rw [if_pos rfl]
        refine ⟨fun σ3 H3 => ∃ w1 e1 h1, Rel X.K w1 e1 h1 σ3 H3 ∧ PQ X.K X.mg W w1 H3 (whlS tc (fun e h => evSs cl F ss e h) n e1 h1) (kS X.K D w1), fun σ' H' k => ⟨n, Nat.lt_succ_self n, k⟩, w2, e2, h2, R2, ?_⟩
        simp only [bd_ok] at p2
        have p3 := (PQ.bd (PQ.fwd E2 p2))
        refine p3.mono fun fl e4 h4 w4 σ4 H4 E4 R4 p4 => ?_
        have go : ∀ {m : Option (O Fl)}, PQ X.K X.mg W w2 H2 m (kS X.K D w1) → PQ X.K X.mg W w4 H4 m (kS X.K D w4) := fun {m} pp => (pp.fwd E4).mono fun fl e5 h5 w5 σ5 H5 E5 R5 k => kS_back (E2.trans E4) k
        cases fl with
        | nx => exact ⟨w4, e4, h4, R4, by rw [← hcn]; exact go p4⟩
        | ct => exact ⟨w4, e4, h4, R4, by rw [← hcn]; exact go p4⟩
        | bk => exact p4.ok E4 R4
        | rt r => exact kS_back E2 (p4.ok E4 R4)
    · exact p2.elim
end
end Mp

/-! statements: assignments -/
namespace Mp
open PySem L2 PyProof.Rows

section
variable {K : PySem.W.Frag} {mg : Str → Option Value} {W : WX} {w w0 : Wd} {H H0 : Hp} {e e' : Ev} {h : AH} {σ : L2.St} {cl : Cl} {kn : List Str} {F : Nat} {a : E}
/-- a thing just made is put into slot i -/
def Wd.seat (w : Wd) (i : Nat) (a : Addr) : Wd := { w with ω := fun j => if j = i then some a else w.ω j, τ := fun b => w.τ b ∧ b ≠ a }
theorem Wd.seat_M {i : Nat} {a b : Addr} (t : w.τ a) (m : (w.seat i a).M b) : w.M b := by
  rcases m with m | ⟨j, m⟩ | m | m
  · exact .inl m
  · by_cases hj : j = i
    · have : b = a := by simpa [Wd.seat, hj] using m.symm
      subst this
      exact .inr (.inr (.inl t))
    · exact .inr (.inl ⟨j, by simpa [Wd.seat, hj] using m⟩)
  · exact .inr (.inr (.inl m.1))
  · exact .inr (.inr (.inr m))
theorem Ext.seat (E0 : Ext w0 H0 w H) {i : Nat} {a : Addr} (t : w.τ a) (n : ¬ w0.τ a) : Ext w0 H0 (w.seat i a) H :=
  .mk' E0.keep E0.tup (fun b m => E0.new b (Wd.seat_M t m)) E0.rho (fun b q => ⟨E0.tmp b q, fun z => n (by rw [← z]; exact q)⟩) E0.lam
theorem Rel.seat (R : Rel K w e h σ H) {i : Nat} {a : Addr} {o : Ob} (hi : i < e.length) (t : w.τ a) (ob : ObR K w H o a) : Rel K (w.seat i a) (e.set i (.ow o)) h (σ.set i (some (.ref a))) H := by
  have X : ExtV w H (w.seat i a) H := ExtV.less rfl fun b m => Wd.seat_M t m
  obtain ⟨t1, t2, t3⟩ := R.ndT a (.inl t)
  have hne : ∀ {j}, j ≠ i → (w.seat i a).ω j = w.ω j := fun {j} hj => by simp [Wd.seat, hj]
  have heq : (w.seat i a).ω i = some a := by simp [Wd.seat]
  have hl : i < σ.length := by rw [← R.len]; exact hi
  refine ⟨by rw [List.length_set, List.length_set]; exact R.len, fun j s q => ?_, fun j hj => ?_, R.lenρ, fun n o a h1 h2 => (R.obs n o a h1 h2).at X fun u hu => hu, R.ndρ, fun j k b h1 h2 => ?_, fun j b h1 => ?_, fun b q => ?_, fun b j q => R.ndτ b j q.1, R.ndl⟩
  · by_cases hj : j = i
    · subst hj
      rw [List.getElem?_set_self hi] at q
      cases q
      exact ⟨a, heq, by rw [List.getElem?_set_self hl], ob.at X fun u hu => hu⟩
    · rw [List.getElem?_set_ne (Ne.symm hj)] at q
      rw [List.getElem?_set_ne (Ne.symm hj)]
      exact (R.slot j s q).at X (hne hj) rfl fun a u _ hu => hu
  · rw [List.length_set] at hj
    rw [hne (by omega)]
    exact R.beyond j hj
  · by_cases hj : j = i
    · by_cases hk : k = i
      · rw [hj, hk]
      · rw [hj, heq] at h1
        rw [hne hk] at h2
        cases h1
        exact absurd h2 (t2 k)
    · rw [hne hj] at h1
      by_cases hk : k = i
      · rw [hk, heq] at h2
        cases h2
        exact absurd h1 (t2 j)
      · rw [hne hk] at h2
        exact R.ndω j k b h1 h2
  · by_cases hj : j = i
    · rw [hj, heq] at h1
      cases h1
      exact t1
    · rw [hne hj] at h1
      exact R.ndx j b h1
  · have q' : w.T b ∧ b ≠ a := by
      rcases q with q | ⟨j, q⟩
      · exact ⟨.inl q.1, q.2⟩
      · exact ⟨.inr ⟨j, q⟩, fun z => R.ndτ a j t (by rw [← z]; exact q)⟩
    obtain ⟨q1, q2, q3⟩ := R.ndT b q'.1
    refine ⟨q1, fun j z => ?_, q3⟩
    by_cases hj : j = i
    · rw [hj, heq] at z
      cases z
      exact q'.2 rfl
    · rw [hne hj] at z
      exact q2 j z
/-- an answer is put into slot i -/
theorem bindN_ok {i : Nat} {r : Rv} {x : V} (E0 : Ext w0 H0 w H) (R : Rel K w e h σ H) (rx : RR K w σ H r x) (nx : New w0 r x) (k : bindR (.nm i) r e = some e') :
    ∃ w', Ext w0 H0 w' H ∧ Rel K w' e' h (σ.set i (some x)) H := by
  have go : ((frz e r).bind fun (p : D × Ev) => bindG (.nm i) p.1 p.2) = some e' → ∃ w', Ext w0 H0 w' H ∧ Rel K w' e' h (σ.set i (some x)) H := fun k => by
    simp only [Option.bind_eq_some_iff] at k
    obtain ⟨⟨d, e1⟩, k1, k2⟩ := k
    obtain ⟨w1, E1, R1, rv⟩ := frz_ok E0 R rx nx k1
    have k2 : (if i < e1.length then some (e1.set i (.v d)) else none) = some e' := k2
    split at k2
    · rename_i hl
      cases k2
      have hl2 : i < σ.length := by rw [← R1.len]; exact hl
      exact ⟨w1.drop i, E1.trans (Ext.drop i), R1.setv hl (by simp) (fun j hj => List.getElem?_set_ne (Ne.symm hj)) (by simp [hl2]) (RV.mono (Ext.drop i) d x rv)⟩
    · cases k2
  cases r with
  | fr o =>
    have k : (if i < e.length then some (e.set i (.ow o)) else none) = some e' := k
    split at k
    · rename_i hl
      cases k
      obtain ⟨a, rfl, t, ob⟩ := rx
      exact ⟨w.seat i a, E0.seat t (nx a rfl), R.seat hl t ob⟩
    · cases k
  | v d => exact go k
  | bor j => exact go k
theorem bindR_ok {g : G} {r : Rv} {x : V} (E0 : Ext w0 H0 w H) (R : Rel K w e h σ H) (rx : RR K w σ H r x) (nx : New w0 r x) (k : bindR g r e = some e') :
    ∃ w' σ', Ext w0 H0 w' H ∧ Rel K w' e' h σ' H ∧ ∀ Q : L2.St → Hp → Prop, Q σ' H → gG K g x σ H Q := by
  cases g with
  | nm i =>
    obtain ⟨w', E', R'⟩ := bindN_ok E0 R rx nx k
    exact ⟨w', _, E', R', fun Q q => q⟩
  | tp gs =>
    have k' : ((frz e r).bind fun (p : D × Ev) => bindG (.tp gs) p.1 p.2) = some e' := by
      cases r <;> exact k
    rw [Option.bind_eq_some_iff] at k'
    obtain ⟨⟨d, e1⟩, k1, k2⟩ := k'
    obtain ⟨w1, E1, R1, rv⟩ := frz_ok E0 R rx nx k1
    obtain ⟨w2, σ2, E2, R2, _, _, hQ⟩ := bindG_ok (.tp gs) d x w1 e1 e' σ R1 rv k2
    exact ⟨w2, σ2, E1.trans E2, R2, hQ⟩
theorem asg_of {g : G} {D : Ends} (q : tS K mg W (evS cl F (.asg g a)) D σ H) : tE K mg W (evE cl a) σ H fun x H1 => gG K g x σ H1 D.nx := by
  obtain ⟨w, e, h, R, p⟩ := q
  simp only [evS] at p
  refine ⟨w, e, h, R, (p.e σ).mono fun r e1 h1 w1 H1 E1 R1 p1 x rx nx => ?_⟩
  split at p1
  · rename_i e2 k
    obtain ⟨w2, σ2, E2, R2, hQ⟩ := bindR_ok E1 R1 rx nx k
    exact hQ _ (p1.ok E2 R2)
  · exact p1.elim
/-- several answers, each put into its slot -/
def setAll : List Nat → List V → L2.St → L2.St
  | i :: js, x :: xs, σ => setAll js xs (σ.set i (some x))
  | _, _, σ => σ
theorem frzs_ok : ∀ {rs rs' : List Rv} {xs : List V} {w : Wd} {e e' : Ev}, Ext w0 H0 w H → Rel K w e h σ H → Rrs K w σ H rs xs → frzs rs e = some (rs', e') →
    ∃ w', Ext w0 H0 w' H ∧ Ext w H w' H ∧ Rel K w' e' h σ H ∧ Rrs K w' σ H rs' xs ∧ frV rs' xs = frV rs xs ∧ rs'.all (fun r => !isBor r) = true
  | [], rs', xs, w, e, e', E0, R, rx, k => by
    cases k
    exact ⟨w, E0, .refl _ _, R, rx, rfl, rfl⟩
  | r :: rs, rs', xs, w, e, e', E0, R, ⟨x, ys, ex, h1, h2⟩, k => by
    subst ex
    have go : ∀ {r' : Rv}, ((frzs rs e).map fun p => (r' :: p.1, p.2)) = some (rs', e') → r' = r → isBor r = false → ∃ w', Ext w0 H0 w' H ∧ Ext w H w' H ∧ Rel K w' e' h σ H ∧ Rrs K w' σ H rs' (x :: ys) ∧ frV rs' (x :: ys) = frV (r :: rs) (x :: ys) ∧ rs'.all (fun r => !isBor r) = true 
        := fun {r'} k0 er nb => by
      subst er
      obtain ⟨⟨rs1, e1⟩, k1, k2⟩ := Option.map_eq_some_iff.mp k0
      cases k2
      obtain ⟨w1, E1, F1, R1, rr, fv, nb1⟩ := frzs_ok E0 R h2 k1
      refine ⟨w1, E1, F1, R1, ⟨x, ys, rfl, h1.mono F1, rr⟩, ?_, by simp [nb, nb1]⟩
      cases r' with
      | fr o => show x :: _ = x :: _; rw [fv]
      | v d => exact fv
      | bor i => exact fv
    cases r with
    | v d => exact go k rfl rfl
    | fr o => exact go k rfl rfl
    | bor i =>
      simp only [frzs, Option.bind_eq_some_iff, Option.map_eq_some_iff] at k
      obtain ⟨⟨d, e1⟩, k1, ⟨rs1, e2⟩, k2, k3⟩ := k
      cases k3
      obtain ⟨w1, E1, R1, rv⟩ := frz_ok (w0 := w) (H0 := H) (.refl _ _) R h1 trivial k1
      obtain ⟨w2, E2, F2, R2, rr, fv, nb⟩ := frzs_ok (E0.trans E1) R1 (h2.mono E1) k2
      exact ⟨w2, E2, E1.trans F2, R2, ⟨x, ys, rfl, RV.mono F2 _ _ rv, rr⟩, fv, by simpa [isBor] using nb⟩
theorem bindRs_ok : ∀ {js : List Nat} {rs : List Rv} {xs : List V} {w : Wd} {e e' : Ev} {σ : L2.St}, Ext w0 H0 w H → Rel K w e h σ H → Rrs K w σ H rs xs → (frV rs xs).Nodup → (∀ a, V.ref a ∈ frV rs xs → ¬ w0.τ a) → rs.all (fun r => !isBor r) = true → bindRs js rs e = some e' →
    ∃ w', Ext w0 H0 w' H ∧ Rel K w' e' h (setAll js xs σ) H ∧ js.length = xs.length
  | [], [], xs, w, e, e', σ, E0, R, rx, nd, nw, nb, k => by
    cases (show xs = [] from rx)
    cases k
    exact ⟨w, E0, R, rfl⟩
  | [], _ :: _, xs, w, e, e', σ, E0, R, rx, nd, nw, nb, k => by simp [bindRs] at k
  | _ :: _, [], xs, w, e, e', σ, E0, R, rx, nd, nw, nb, k => by simp [bindRs] at k
  | i :: js, r :: rs, xs, w, e, e', σ, E0, R, ⟨x, ys, ex, h1, h2⟩, nd, nw, nb, k => by
    subst ex
    simp only [bindRs, Option.bind_eq_some_iff] at k
    obtain ⟨e1, k1, k2⟩ := k
    simp only [List.all_cons, Bool.and_eq_true, Bool.not_eq_true'] at nb
    have nx : New w0 r x := by
      cases r with
      | fr o => exact fun a ea => nw a (by rw [ea]; exact List.mem_cons_self ..)
      | _ => trivial
    -- the others stay among the things not yet placed
    have step : ∃ w1, Ext w0 H0 w1 H ∧ Rel K w1 e1 h (σ.set i (some x)) H ∧ Rrs K w1 (σ.set i (some x)) H rs ys := by
      have carry : ∀ {w1 : Wd}, ExtV w H w1 H → (∀ a, V.ref a ∈ frV rs ys → w1.τ a) → Rrs K w1 (σ.set i (some x)) H rs ys := fun {w1} XV ht => by
        clear k1 k2 R E0 nd nw h1 nx
        have nb2 := nb.2
        clear nb
        revert h2 ht nb2
        induction rs generalizing ys with
        | nil => intro h2 _ _; exact h2
        | cons r2 rs ih =>
          rintro ⟨x2, ys2, ex2, g1, g2⟩ ht nb2
          subst ex2
          simp only [List.all_cons, Bool.and_eq_true, Bool.not_eq_true'] at nb2
          have ht2 : ∀ a, V.ref a ∈ frV rs ys2 → w1.τ a := fun a ha => ht a (by
            cases r2 with
            | fr o => exact List.mem_cons_of_mem _ ha
            | v d => exact ha
            | bor j => exact ha)
          refine ⟨x2, ys2, rfl, ?_, ih ys2 g2 ht2 nb2.2⟩
          cases r2 with
          | v d => exact RV.monoV XV _ _ g1
          | bor j => exact absurd nb2.1 (by simp [isBor])
          | fr o =>
            obtain ⟨a2, ea2, t2, ob2⟩ := g1
            exact ⟨a2, ea2, ht a2 (by rw [← ea2]; exact List.mem_cons_self ..), ob2.at XV fun u hu => hu⟩
      cases r with
      | fr o =>
        simp only [bindR] at k1
        split at k1
        · rename_i hl
          cases k1
          obtain ⟨a, rfl, t, ob⟩ := h1
          have nd' : V.ref a ∉ frV rs ys ∧ (frV rs ys).Nodup := List.nodup_cons.mp nd
          refine ⟨w.seat i a, E0.seat t (nx a rfl), R.seat hl t ob, carry (ExtV.less rfl fun b m => Wd.seat_M t m) fun b hb => ?_⟩
          obtain ⟨b', eb, tb⟩ := frV_ref h2 hb
          cases eb
          exact ⟨tb, fun z => nd'.1 (by rw [← z]; exact hb)⟩
        · cases k1
      | bor j => exact absurd nb.1 (by simp [isBor])
      | v d =>
        obtain ⟨w1, E1, R1⟩ := bindN_ok (w0 := w) (H0 := H) (.refl _ _) R h1 trivial k1
        refine ⟨w1, E0.trans E1, R1, carry E1.toExtV fun b hb => ?_⟩
        obtain ⟨b', eb, tb⟩ := frV_ref h2 hb
        cases eb
        exact E1.tmp _ tb
    obtain ⟨w1, E1, R1, rr⟩ := step
    have nd1 : (frV rs ys).Nodup := by
      cases r with
      | fr o => exact (List.nodup_cons.mp nd).2
      | v d => exact nd
      | bor j => exact nd
    have nw1 : ∀ a, V.ref a ∈ frV rs ys → ¬ w0.τ a := fun a ha => nw a (by
      cases r with
      | fr o => exact List.mem_cons_of_mem _ ha
      | v d => exact ha
      | bor j => exact ha)
    obtain ⟨w2, E2, R2, hl⟩ := bindRs_ok E1 R1 rr nd1 nw1 nb.2 k2
    exact ⟨w2, E2, R2, by simp [hl]⟩
end
section
variable {cl : Cl} {kn : List Str} {F : Nat} {X : Cx} {N : List Str} {sc : Scope} {fnp : Str → Bool} {W : WX} {a b c o i : E} {pa pb pc po pi : Expr} {pes : List Expr} {es : Es} {pos : Pos} {s : S} {ss : Ss} {st : Stmt} {sts rest : List Stmt}
/-- name = e, e no comprehension -/
theorem ps_setM (C : Cz cl kn X N sc fnp W) {i : Nat} {pt : Expr} (hg : chkN N sc fnp i pt = true) (ha : PE X pa (tE X.K X.mg W (evE cl a))) (hs : notComp pa = true) : PS X (.Assign [pt] pa pos) (tS X.K X.mg W (evS cl F (.asg (.nm i) a))) := by
  cases pt with
  | Name x p =>
    simp only [chkN, Bool.and_eq_true, beq_iff_eq] at hg
    obtain ⟨h1, h2⟩ := loc_of C hg.2
    exact PS.imp (ps_set (by rw [C.eN]; exact C.nd) (by rw [C.eN]; exact hg.1) h1 ha (swaps_no hs) h2) fun D σ H q => asg_of q
  | _ => cases hg
/-- whether a name takes a comprehension at once: 1 yes, 2 no -/
def swaps (sc : Scope) (pt pe : Expr) : Bool × Bool := match pt, pe with
  | .Name x p, .ListComp _ _ s pos =>
    let b := sc.names.lookup x == some .local && p.line == pos.line && !(s.names.any fun (n, k) => n == x && (k == .local || k == .cell))
    (sc.kind == .function && b, !b)
  | _, _ => (false, false)
theorem swaps_1 (C : Cz cl kn X N sc fnp W) {pt pe : Expr} {l : Nat} (h : (swaps sc pt pe).1 = true) : swapsWith pe (some pt) l X.env = pure true := by
  unfold swaps at h
  split at h
  · rename_i x p elt gs s pos
    simp only [Bool.and_eq_true] at h
    obtain ⟨h0, ⟨h1, h2⟩, h3⟩ := h
    refine sw_true (by rw [C.eS]; exact eq_of_beq h0) (by rw [C.eS]; exact eq_of_beq h1) h2 ?_
    simpa using h3
  · cases h
theorem swaps_2 (C : Cz cl kn X N sc fnp W) {pt pe : Expr} {l : Nat} (h : (swaps sc pt pe).2 = true) : swapsWith pe (some pt) l X.env = pure false := by
  unfold swaps at h
  split at h
  · rename_i x p elt gs s pos
    have h' : (sc.names.lookup x == some .local && p.line == pos.line && !(s.names.any fun (n, k) => n == x && (k == .local || k == .cell))) = false := by
      have h2 := h
      rw [Bool.not_eq_true'] at h2
      exact h2
    have ek : X.env.kindOf x = sc.names.lookup x := by show X.env.scope.names.lookup x = _; rw [C.eS]
    unfold swapsWith
    simp only [ek, Expr.pos]
    show (pure (X.env.blockKind == .function && (sc.names.lookup x == some .local) && p.line == pos.line && !(s.names.any fun (n, k) => n == x && (k == .local || k == .cell))) : Sem Bool) = pure false
    rw [Bool.and_assoc, Bool.and_assoc, ← Bool.and_assoc (sc.names.lookup x == some .local), h', Bool.and_false]
  · cases h
/-- name = [..] -/
theorem ps_setCM (C : Cz cl kn X N sc fnp W) {i : Nat} {pt : Expr} (hgt : chkN N sc fnp i pt = true) {elt : E} {c : E} {own : List Nat} {g : G} {it : It} {pe tg iter : Expr} {ifs : List Expr} {scope : Scope} {ownp : List (Str × Nat)} {pos spos : Pos} {tt : TT} (hi : PI X tg iter (tI X.K X.mg W (evI cl it)))
    (hok : blkC N sc scope ownp = true) (hown : ownp.map (·.2) = own) (hg : chkG N (relS scope sc) (fun x => scope.names.lookup x == some .cell) g tg = true) (hts : ∀ i ∈ g.ts, i ∈ own)
    (ht : ∀ X', Cz cl kn X' N (relS scope sc) (fun x => scope.names.lookup x == some .cell) W0 → X'.K = X.K → X'.mg = X.mg → PTs X' ifs tt) (htt : ∀ σ H Q, tT X.K X.mg W0 (evE cl c) σ H Q → tt σ H Q)
    (he : ∀ X', Cz cl kn X' N (relS scope sc) (fun x => scope.names.lookup x == some .cell) W0 → X'.K = X.K → X'.mg = X.mg → PE X' pe (tE X'.K X'.mg W0 (evE cl elt))) (hs : ∀ x, foldedSetIterable iter X.env x = pure x)
    (hw : (swaps sc pt (.ListComp pe [⟨tg, iter, ifs, 0⟩] scope pos)).1 = true) :
    PS X (.Assign [pt] (.ListComp pe [⟨tg, iter, ifs, 0⟩] scope pos) spos) (tS X.K X.mg W (evS cl F (.asg (.nm i) (.comp elt own g it c)))) := by
  have hw' := swaps_1 C (l := spos.line) hw
  cases pt with
  | Name x p =>
    have hl : X.env.scope.names.lookup x = some .local := by
      rw [C.eS]
      simp only [swaps, Bool.and_eq_true] at hw
      exact eq_of_beq hw.2.1.1
    simp only [chkN, Bool.and_eq_true, beq_iff_eq] at hgt
    subst hown
    refine PS.imp (ps_setLc C.calm (by rw [C.eN]; exact C.nd) (by rw [C.eN]; exact hgt.1) hl hw' hi (by rw [C.eN, C.eS]; exact blkOk_by hok) (fun s H c' cl' fp => ?_) (fun s H c' cl' fp => ht _ (C.blk s H scope cl' c' fp) rfl rfl) (fun s H c' cl' fp => he _ (C.blk s H scope cl' c' fp) rfl rfl) hs) fun D σ H q => tLc_of htt hts (asg_of q)
    exact pg_ok (C.blk s H scope cl' c' fp) g tg hg
  | _ => cases hgt
/-- name = [..] with no such haste -/
theorem ps_setC2M (C : Cz cl kn X N sc fnp W) {i : Nat} {pt : Expr} (hg : chkN N sc fnp i pt = true) (ha : PE X pa (tE X.K X.mg W (evE cl a))) (hs : (swaps sc pt pa).2 = true) : PS X (.Assign [pt] pa pos) (tS X.K X.mg W (evS cl F (.asg (.nm i) a))) := by
  have hs' := swaps_2 C (l := pos.line) hs
  cases pt with
  | Name x p =>
    simp only [chkN, Bool.and_eq_true, beq_iff_eq] at hg
    obtain ⟨h1, h2⟩ := loc_of C hg.2
    exact PS.imp (ps_set (by rw [C.eN]; exact C.nd) (by rw [C.eN]; exact hg.1) h1 ha hs' h2) fun D σ H q => asg_of q
  | _ => cases hg
/-- stores that are not swapped -/
def noSwap (sc : Scope) (ts : List Expr) (pe : Expr) : Bool := match pe with
  | .Tuple vs _ _ => vs.all (foldedForSure 8) || ts.any (fun t => match t with | .Name x _ => !(sc.names.lookup x == some .local) | _ => true)
  | _ => true
theorem noSwap_ok (C : Cz cl kn X N sc fnp W) {ts : List Expr} {k : Nat} {p : Pos} {pe : Expr} (h : noSwap sc ts pe = true) : swappedStores [.Tuple ts k p] pe X.env = pure none := by
  unfold noSwap at h
  split at h
  · rename_i vs k2 p2
    have ek : ∀ x, X.env.kindOf x = sc.names.lookup x := fun x => by show X.env.scope.names.lookup x = _; rw [C.eS]
    unfold swappedStores
    simp only [ek]
    split
    · rfl
    split
    · rfl
    split
    · rfl
    simp only [Bool.or_eq_true] at h
    rcases h with h | h
    · rw [if_pos h]
    · rename_i z
      exfalso
      apply z
      rw [Bool.or_eq_true]
      left
      rw [bne_iff_ne]
      refine Nat.ne_of_lt (List.length_filterMap_lt_length_iff_exists.mpr ?_)
      obtain ⟨t, h1, h2⟩ := List.any_eq_true.mp h
      refine ⟨t, h1, ?_⟩
      cases t with
      | Name y q =>
        have h3 : (sc.names.lookup y == some .local) = false := by simpa using h2
        simp [h3]
      | _ => rfl
  · unfold swappedStores
    split
    · rename_i h2; split at h2 <;> simp_all
    · rfl
theorem swapsSole_no {pt pe : Expr} {l : Nat} {env : Env} (h : notComp pe = true) : swapsWithSole [pt] pe l env = pure false := swaps_no h
/-- a, (b, c) = e -/
theorem ps_asgTM (C : Cz cl kn X N sc fnp W) {gs : Gs} {ts : List Expr} {k : Nat} {p : Pos} (hg : chkG N sc fnp (.tp gs) (.Tuple ts k p) = true) (ha : PE X pa (tE X.K X.mg W (evE cl a))) (hs : notComp pa = true) (hn : noSwap sc ts pa = true) :
    PS X (.Assign [.Tuple ts k p] pa pos) (tS X.K X.mg W (evS cl F (.asg (.tp gs) a))) :=
  PS.imp (ps_asg ha (pg_ok C _ _ hg) (swapsSole_no hs) (noSwap_ok C hn) rfl) fun D σ H q => asg_of q
/-- what is stored by the names -/
theorem par_of {js : List Nat} {D : Ends} {σ : L2.St} {H : Hp} (q : tS X.K X.mg W (evS cl F (.par js es)) D σ H) : tR X.K X.mg W (evR cl es) σ H fun vs H1 => js.length = vs.length ∧ D.nx (setAll js vs σ) H1 := by
  obtain ⟨w, e, h, R, p⟩ := q
  simp only [evS] at p
  refine ⟨w, e, h, R, (p.e σ).mono fun rs e1 h1 w1 H1 E1 R1 p1 xs rx nd nw => ?_⟩
  split at p1
  · rename_i e2 k
    obtain ⟨⟨rs', e3⟩, k1, k2⟩ := Option.bind_eq_some_iff.mp k
    obtain ⟨w2, E2, F2, R2, rr, fv, nb⟩ := frzs_ok E1 R1 rx k1
    obtain ⟨w3, E3, R3, hl⟩ := bindRs_ok E2 R2 rr (by rw [fv]; exact nd) (by rw [fv]; exact nw) nb k2
    exact ⟨hl, p1.ok E3 R3⟩
  · exact p1.elim
/-- stores that are swapped -/
def swNames (sc : Scope) (ts : List Expr) : List Str := ts.filterMap fun
    | .Name id pos => if sc.names.lookup id == some .local && pos.line == (ts.head?.map (·.pos.line)).getD 0 then some id else none
    | _ => none
def anyStar (vs : List Expr) : Bool := vs.any fun | .Starred .. => true | _ => false
structure DoSwap (sc : Scope) (ts vs : List Expr) (xs : List Str) : Prop where
  n : (ts.length == 2 || ts.length == 3) = true
  l : (vs.length == ts.length) = true
  k : (sc.kind == .function) = true
  s : anyStar vs = false
  e : swNames sc ts = xs
  el : (xs.length == ts.length) = true
  ed : (xs.eraseDups.length == xs.length) = true
  f : vs.all (foldedForSure 8) = false
  c : vs.all (constantsAlone 8) = false
def doSwap (sc : Scope) (ts vs : List Expr) (xs : List Str) : Bool :=
  (ts.length == 2 || ts.length == 3) && (vs.length == ts.length && (sc.kind == .function && (!anyStar vs && (swNames sc ts == xs && (xs.length == ts.length && (xs.eraseDups.length == xs.length
    && (!vs.all (foldedForSure 8) && !vs.all (constantsAlone 8))))))))
theorem doSwap_of {ts vs : List Expr} {xs : List Str} (h : doSwap sc ts vs xs = true) : DoSwap sc ts vs xs := by
  unfold doSwap at h
  rw [Bool.and_eq_true] at h
  obtain ⟨a1, h⟩ := h
  rw [Bool.and_eq_true] at h
  obtain ⟨a2, h⟩ := h
  rw [Bool.and_eq_true] at h
  obtain ⟨a3, h⟩ := h
  rw [Bool.and_eq_true, Bool.not_eq_true'] at h
  obtain ⟨a4, h⟩ := h
  rw [Bool.and_eq_true] at h
  obtain ⟨a5, h⟩ := h
  rw [Bool.and_eq_true] at h
  obtain ⟨a6, h⟩ := h
  rw [Bool.and_eq_true] at h
  obtain ⟨a7, h⟩ := h
  rw [Bool.and_eq_true, Bool.not_eq_true', Bool.not_eq_true'] at h
  exact ⟨a1, a2, a3, a4, eq_of_beq a5, a6, a7, h.1, h.2⟩
theorem doSwap_ok (C : Cz cl kn X N sc fnp W) {ts vs : List Expr} {k k2 : Nat} {p p2 : Pos} {xs : List Str} (h : DoSwap sc ts vs xs) : swappedStores [.Tuple ts k p] (.Tuple vs k2 p2) X.env = pure (some xs) := by
  have ek : ∀ x, X.env.kindOf x = sc.names.lookup x := fun x => by show X.env.scope.names.lookup x = _; rw [C.eS]
  have hb : X.env.blockKind = .function := by unfold Env.blockKind; rw [C.eS, eq_of_beq h.k]; rfl
  unfold swappedStores
  simp only [ek]
  have b1 : (!(ts.length == 2 || ts.length == 3) || vs.length != ts.length || X.env.blockKind != ScopeKind.function) = false := by
    rw [h.n, hb, eq_of_beq h.l]
    simp
  have b3 : ((swNames sc ts).length != ts.length || (swNames sc ts).eraseDups.length != (swNames sc ts).length) = false := by
    rw [h.e, bne, bne, h.el, h.ed]
    rfl
  split
  · rename_i z; cases z.symm.trans b1
  split
  · rename_i z; cases z.symm.trans h.s
  split
  · rename_i z; cases z.symm.trans b3
  split
  · rename_i z; cases z.symm.trans h.f
  split
  · rename_i z; cases z.symm.trans h.c
  · show (pure (some (swNames sc ts)) : Sem (Option (List Str))) = _
    rw [h.e]
theorem ps_par2M (C : Cz cl kn X N sc fnp W) {i j : Nat} {t1 t2 : Expr} {k k2 : Nat} {p p2 : Pos} {x y : Str} (h1 : chkN N sc fnp i t1 = true) (h2 : chkN N sc fnp j t2 = true) (hij : i ≠ j) (ha : PA X [pa, pb] (tR X.K X.mg W (evR cl es)))
    (hw : doSwap sc [t1, t2] [pa, pb] [x, y] = true) : PS X (.Assign [.Tuple [t1, t2] k p] (.Tuple [pa, pb] k2 p2) pos) (tS X.K X.mg W (evS cl F (.par [i, j] es))) := by
  have hw' := doSwap_ok C (k := k) (k2 := k2) (p := p) (p2 := p2) (doSwap_of hw)
  have a5 := (doSwap_of hw).e
  cases t1 with
  | Name x1 q1 =>
    cases t2 with
    | Name y1 q2 =>
      simp only [chkN, Bool.and_eq_true, beq_iff_eq] at h1 h2
      have hn : ∀ b1 b2 : Bool, ([(if b1 = true then some x1 else none), (if b2 = true then some y1 else none)].filterMap id = [x, y]) → b1 = true ∧ b2 = true ∧ x1 = x ∧ y1 = y := by
        intro b1 b2
        cases b1 <;> cases b2 <;> simp
      have hn' := hn _ _ a5
      obtain ⟨c1, c2, rfl, rfl⟩ := hn'
      simp only [Bool.and_eq_true] at c1 c2
      refine PS.imp (ps_par C.calm (by rw [C.eN]; exact C.nd) (by rw [C.eN]; exact h1.1) (by rw [C.eN]; exact h2.1) hij (by rw [C.eS]; exact eq_of_beq c1.1) (by rw [C.eS]; exact eq_of_beq c2.1) ha hw' rfl) fun D σ H q => ?_
      obtain ⟨w, e, h, R, p⟩ := par_of q
      refine ⟨w, e, h, R, p.mono fun rs e1 h1 w1 H1 E1 R1 k xs rx nd nw => ?_⟩
      obtain ⟨hl, hq⟩ := k xs rx nd nw
      match xs, hl, hq with
      | [u, v], _, hq => exact ⟨u, v, rfl, hq⟩
    | _ => cases h2
  | _ => cases h1
theorem ps_par3M (C : Cz cl kn X N sc fnp W) {i j l : Nat} {t1 t2 t3 : Expr} {k k2 : Nat} {p p2 : Pos} {x y z : Str} (h1 : chkN N sc fnp i t1 = true) (h2 : chkN N sc fnp j t2 = true) (h3 : chkN N sc fnp l t3 = true) (hij : i ≠ j) (hil : i ≠ l) (hjl : j ≠ l) (ha : PA X [pa, pb, pc] (tR X.K X.mg W (evR cl es)))
    (hw : doSwap sc [t1, t2, t3] [pa, pb, pc] [x, y, z] = true) : PS X (.Assign [.Tuple [t1, t2, t3] k p] (.Tuple [pa, pb, pc] k2 p2) pos) (tS X.K X.mg W (evS cl F (.par [i, j, l] es))) := by
  have hw' := doSwap_ok C (k := k) (k2 := k2) (p := p) (p2 := p2) (doSwap_of hw)
  have a5 := (doSwap_of hw).e
  cases t1 with
  | Name x1 q1 =>
    cases t2 with
    | Name y1 q2 =>
      cases t3 with
      | Name z1 q3 =>
        simp only [chkN, Bool.and_eq_true, beq_iff_eq] at h1 h2 h3
        have hn : ∀ b1 b2 b3 : Bool, ([(if b1 = true then some x1 else none), (if b2 = true then some y1 else none), (if b3 = true then some z1 else none)].filterMap id = [x, y, z]) → b1 = true ∧ b2 = true ∧ b3 = true ∧ x1 = x ∧ y1 = y ∧ z1 = z := by
          intro b1 b2 b3
          cases b1 <;> cases b2 <;> cases b3 <;> simp
        have hn' := hn _ _ _ a5
        obtain ⟨c1, c2, c3, rfl, rfl, rfl⟩ := hn'
        simp only [Bool.and_eq_true] at c1 c2 c3
        refine PS.imp (ps_par3 C.calm (by rw [C.eN]; exact C.nd) (by rw [C.eN]; exact h1.1) (by rw [C.eN]; exact h2.1) (by rw [C.eN]; exact h3.1) hij hil hjl (by rw [C.eS]; exact eq_of_beq c1.1) (by rw [C.eS]; exact eq_of_beq c2.1) (by rw [C.eS]; exact eq_of_beq c3.1) ha hw' rfl) fun D σ H q => ?_
        obtain ⟨w, e, h, R, p⟩ := par_of q
        refine ⟨w, e, h, R, p.mono fun rs e1 h1 w1 H1 E1 R1 k xs rx nd nw => ?_⟩
        obtain ⟨hl, hq⟩ := k xs rx nd nw
        match xs, hl, hq with
        | [u, v, t], _, hq => exact ⟨u, v, t, rfl, hq⟩
      | _ => cases h3
    | _ => cases h2
  | _ => cases h1
end
end Mp

/-! statements: item stores, for -/
namespace Mp
open PySem L2 PyProof.Rows

section
variable {cl : Cl} {kn : List Str} {F : Nat} {X : Cx} {N : List Str} {sc : Scope} {fnp : Str → Bool} {W : WX} {a b c o i : E} {pa pb pc po pi tg iter : Expr} {pes : List Expr} {es : Es} {pos p : Pos} {s : S} {ss : Ss} {st : Stmt} {sts rest : List Stmt}
def rSet2 : TSet := fun o i v H Q => rSetL o i v H Q ∨ ∃ a u, o = .ref a ∧ DPut H a i v (upd H a u) ∧ Q (upd H a u)
theorem set2_ok (hu : X.A.units + 65 < cLine) : PSet X rSet2 := by
  intro pins s σ H o i v ov iv u Q I ro ri rv h
  rcases h with h | ⟨a, u', eo, g, q⟩
  · exact set_list pins s σ H o i v ov iv u Q I ro ri rv h
  · subst eo
    cases (show ov = Value.ref a from ro)
    exact d_setItem (by omega) I g ri rv fun s' I' => ⟨_, I', q⟩
/-- o[i] = e -/
theorem ps_ssetM (C : Cz cl kn X N sc fnp W) (ha : PE X pa (tE X.K X.mg W (evE cl a))) (ho : PE X po (tE X.K X.mg W (evE cl o))) (hi : PE X pi (tE X.K X.mg W (evE cl i))) (hs : notComp pa = true) (hns : notSlice pi = true) :
    PS X (.Assign [.Subscript po pi p] pa pos) (tS X.K X.mg W (evS cl F (.sset o i a))) := by
  have hw : swappedStores [.Subscript po pi p] pa X.env = pure none := by
    unfold swappedStores
    rfl
  refine PS.imp (ps_asg ha (pg_sub ho hi (set2_ok C.room) fun v => by cases pi <;> first | rfl | cases hns) (swapsSole_no hs) hw rfl) fun D σ H q => ?_
  obtain ⟨w, e, h, R, p⟩ := q
  simp only [evS] at p
  refine ⟨w, e, h, R, (p.e σ).mono fun r e1 h1 w1 H1 E1 R1 p1 x rx nx => ?_⟩
  split at p1
  · rename_i d e2 k
    obtain ⟨w2, E2, R2, rv⟩ := frz_ok E1 R1 rx nx k
    refine ⟨w2, e2, h1, R2, (((PQ.e σ p1)).fwd E2).mono fun ro e3 h3 w3 H3 E3 R3 p3 y ry ny => ?_⟩
    refine ⟨w3, e3, h3, R3, (((PQ.e σ p3)).fwd (E2.trans E3)).mono fun ri e4 h4 w4 H4 E4 R4 p4 z rz nz => ?_⟩
    have E04 := E2.trans (E3.trans E4)
    have rv4 := RV.mono (E3.trans E4) d x rv
    have ry4 := ry.mono E4
    obtain ⟨pl1, pl2⟩ := place_of R4 ry4
    split at p4
    · rename_i k' hk
      have cz := rd_cn R4 rz hk
      -- the new content
      have go : ∀ (a : Addr) (ob ob' : Ob) (Q : Hp → Prop), y = .ref a → w4.M a → ¬ w4.T a → ObR X.K w4 H4 ob a → setOb ob k' d = some ob' → (∀ u, ObR X.K w4 (upd H4 a u) ob' a → Q (upd H4 a u)) → rSet2 y z x H4 Q := fun a ob ob' Q ey hm ht obr hset hQ => by
        cases ob with
        | dct ks vs =>
          simp only [setOb] at hset
          split at hset
          · rename_i hlen
            simp only [Option.map_eq_some_iff] at hset
            obtain ⟨⟨ks', vs'⟩, hput, rfl⟩ := hset
            obtain ⟨us, dr, rs⟩ := obr
            obtain ⟨u, us', dp, dr', rs'⟩ := dput_ok dr rs cz rv4 (by rw [rs.length, sizeLine_max]; exact hlen) hput
            have X1 : Ext w4 H4 w4 (upd H4 a u) := Ext.own hm ht (R4.wok a hm).2
            exact .inr ⟨a, u, ey, dp, hQ _ ⟨us', dr', rs'.mono X1⟩⟩
          · cases hset
        | lst xs =>
          cases k' with
          | int j0 =>
            simp only [setOb, Option.map_eq_some_iff] at hset
            obtain ⟨j, hj, rfl⟩ := hset
            obtain ⟨vs, hv, rs⟩ := obr
            have hj' : L2.ixN xs.length j0 = some j := hj
            rw [← rs.length] at hj'
            refine .inl ⟨a, vs, j0, j, ey, cz.int, hv, hj', hQ _ ⟨_, upd_same, ?_⟩⟩
            have X1 : Ext w4 H4 w4 (upd H4 a (.lst (vs.set j x))) := Ext.own hm ht (R4.wok a hm).2
            exact ((RVs.set rv4 j rs)).mono X1
          | _ => simp [setOb] at hset
      split at p4
      · rename_i s
        split at p4
        · rename_i ob hob
          obtain ⟨a, ey, h1', h2', obr⟩ := pl1 s ob rfl hob
          cases q5 : setOb ob k' d with
          | none => rw [q5] at p4; exact p4.elim
          | some ob' =>
            rw [q5] at p4
            refine go a ob ob' _ ey (.inr (.inl ⟨s, h1'⟩)) (fun t => (R4.ndT a t).2.1 s h1') obr q5 fun u hu => ?_
            obtain ⟨Eo, Ro⟩ := R4.own hob h1' h2' hu
            exact p4.ok (E04.trans Eo) Ro
        · exact p4.elim
      · rename_i n
        split at p4
        · rename_i ob hob
          obtain ⟨a, ey, h1', obr⟩ := pl2 n ob rfl hob
          cases q5 : setOb ob k' d with
          | none => rw [q5] at p4; exact p4.elim
          | some ob' =>
            rw [q5] at p4
            have hm := List.mem_of_getElem? h1'
            refine go a ob ob' _ ey (.inl hm) (fun t => (R4.ndT a t).1 hm) obr q5 fun u hu => ?_
            obtain ⟨Eo, Ro⟩ := R4.shared h1' hu
            exact p4.ok (E04.trans Eo) Ro
        · exact p4.elim
      · exact p4.elim
    · exact p4.elim
  · exact p1.elim
theorem EXR.monoV {K : PySem.W.Frag} {mg : Str → Option Value} {w w' : Wd} {H H' : Hp} {c : Str} {p : Option (Str × D)} {C : Value} {d : Option Addr} (XV : ExtV w H w' H') (hH : H' = H) (k : EXR K mg w H c p C d) : EXR K mg w' H' c p C d := by
  subst hH
  refine ⟨k.1, ?_⟩
  cases p with
  | none => exact k.2
  | some fy =>
    obtain ⟨b, x, h1, h2, h3⟩ := k.2
    exact ⟨b, x, h1, h2, RV.monoV XV _ _ h3⟩
/-- for -/
theorem ps_forM (hp : PassesOwn (model X.prog X.w) X.A X.env X.xe) (C : Cz cl kn X N sc fnp W) {g : G} {it : It} (hi : PI X tg iter (tI X.K X.mg W (evI cl it))) (hg : chkG N sc fnp g tg = true) (hb : PSs X sts (tS X.K X.mg W (evSs cl F ss))) (hs : ∀ x, foldedSetIterable iter X.env x = pure x) :
    PS X (.For tg iter sts [] pos) (tS X.K X.mg W (evS cl F (.fr g it ss))) := by
  refine PS.imp (ps_for hp C.calm hi (pg_ok C g tg hg) hb hs) fun D σ H q => ?_
  obtain ⟨w, e, h, R, p⟩ := q
  simp only [evS] at p
  refine ⟨w, e, h, R, (p.e σ).mono fun pr e1 h1 w1 H1 E1 R1 p1 hL J wk => ?_⟩
  obtain ⟨xs, lk⟩ := pr
  simp only at p1 hL wk
  obtain ⟨G', Y, wlk, stay, yield⟩ := wk
  have Rl := R1.lock hL
  generalize hf : (fun (x : Mp.D) (e : Ev) (h : AH) => match bindG g x e with
      | some e => evSs cl F ss e h
      | none => none) = f at p1
  refine for_it wlk (fun i σ2 H2 => ∃ w2 e2 h2, Ext (w1.lock lk) H1 w2 H2 ∧ Rel X.K w2 e2 h2 σ2 H2 ∧ PQ X.K X.mg W w H (letGo lk (forS f (xs.drop i) e2 h2)) (kS X.K D w)) ?_ ?_ ?_ ?_
  · exact ⟨w1.lock lk, lockS lk e1, h1, .refl _ _, Rl, p1⟩
  · rintro i σ2 H2 hi ⟨w2, e2, h2, E2, _⟩
    exact stay w2 H2 E2
  · rintro i x σ2 H2 H3 hi ⟨w2, e2, h2, E2, R2, p2⟩ y
    obtain ⟨up, d, hd, rv⟩ := yield i H2 x H3 w2 hi E2 y
    have hdrop : xs.drop i = d :: xs.drop (i + 1) := by
      obtain ⟨hlt, hg⟩ := List.getElem?_eq_some_iff.mp hd
      rw [← hg]
      exact List.drop_eq_getElem_cons hlt
    rw [hdrop] at p2
    simp only [forS] at p2
    rw [← hf] at p2
    simp only at p2
    have R3 := R2.kept up
    cases hbd : bindG g d e2 with
    | none => rw [hbd] at p2; exact p2.elim
    | some e3 =>
      rw [hbd] at p2
      simp only at p2
      obtain ⟨w3, σ3, E3, R3', hoth, hl3, hQ⟩ := bindG_ok g d x w2 _ e3 _ R3 rv hbd
      refine hQ _ ?_
      have E23 : Ext w2 H2 w3 H3 := (Ext.kept up).trans E3
      refine ⟨w3, e3, h2, R3', ?_⟩
      have E13 := E2.trans E23
      cases hm : evSs cl F ss e3 h2 with
      | none => rw [hm] at p2; exact p2.elim
      | some oo =>
        rw [hm] at p2
        cases oo with
        | ex c q e4 h4 =>
          intro w4 σ4 H4 C' d' E4 R4 k4
          obtain ⟨Rf, Ef, Xf⟩ := R1.free hL (E13.trans E4) R4
          exact p2 _ σ4 H4 C' d' (E1.trans Ef) Rf (k4.monoV Xf rfl)
        | ok fl e4 h4 =>
          intro w4 σ4 H4 E4 R4
          simp only [bd_ok] at p2
          cases fl with
          | nx => exact ⟨w4, e4, h4, E13.trans E4, R4, by rw [← hf]; exact p2⟩
          | ct => exact ⟨w4, e4, h4, E13.trans E4, R4, by rw [← hf]; exact p2⟩
          | bk =>
            obtain ⟨Rf, Ef, Xf⟩ := R1.free hL (E13.trans E4) R4
            exact p2 _ σ4 H4 (E1.trans Ef) Rf
          | rt r =>
            obtain ⟨Rf, Ef, Xf⟩ := R1.free hL (E13.trans E4) R4
            intro z rz nz
            refine p2 _ σ4 H4 (E1.trans Ef) Rf z ?_ ?_
            · cases r with
              | v d => exact RV.monoV Xf _ _ rz
              | bor j => exact rz
              | fr o =>
                obtain ⟨a, rfl, t, ob⟩ := rz
                refine ⟨a, rfl, ⟨t, fun i hl => ?_⟩, ob.at Xf fun u hu => hu⟩
                by_cases hi' : i ∈ lk
                · exact nz a rfl (E13.tmp a (.inr ⟨i, hi', hl⟩))
                · exact R4.ndτ a i t (by rw [(E13.trans E4).lam]; simp [Wd.lock, hi', hl])
            · cases r with
              | v d => trivial
              | bor j => trivial
              | fr o => exact fun a ea t => nz a ea (E13.tmp a (.inl (E1.tmp a t)))
  · rintro σ2 H2 ⟨w2, e2, h2, E2, R2, p2⟩
    have hdrop : xs.drop xs.length = [] := by simp
    rw [hdrop] at p2
    simp only [forS] at p2
    obtain ⟨Rf, Ef, Xf⟩ := R1.free hL E2 R2
    exact p2 _ σ2 H2 (E1.trans Ef) Rf
end
end Mp

/-! dict displays, slices, starred items -/
namespace Mp
open PySem L2 PyProof.Rows

theorem RVs.reverse {K : PySem.W.Frag} {w : Wd} {H : Hp} : ∀ {ds : List D} {vs : List V}, RVs K w H ds vs → RVs K w H ds.reverse vs.reverse
  | [], vs, h => by unfold RVs at h; subst h; exact RVs.nil
  | d :: ds, vs, h => by
    unfold RVs at h
    obtain ⟨x, t, rfl, h1, h2⟩ := h
    rw [List.reverse_cons, List.reverse_cons]
    exact (RVs.reverse h2).append (RVs.cons h1 RVs.nil)
theorem sx_eq (n d : Nat) (o : Option Int) : sx n d o = HT.sIx n d o := by cases o <;> rfl
theorem RVs.cut {K : PySem.W.Frag} {w : Wd} {H : Hp} {ds : List D} {vs : List V} (h : RVs K w H ds vs) (lo hi : Option Int) : RVs K w H (cutD ds lo hi) (cutV vs lo hi) := by
  unfold cutD cutV
  rw [sx_eq, sx_eq, h.length]
  exact (h.drop _).take _
def rSl2 (K : PySem.W.Frag) : V → Option Int → Option Int → Hp → VK → Prop := fun x lo hi H Q => rSlL K x lo hi H Q ∨ rSlA K x lo hi H Q
section
variable {cl : Cl} {kn : List Str} {F : Nat} {X : Cx} {N : List Str} {sc : Scope} {fnp : Str → Bool} {W : WX} {a b c o i : E} {pa pb pc po pi tg iter : Expr} {pes : List Expr} {es : Es} {pos p : Pos}
theorem sl2_ok : L2.SlR X (rSl2 X.K) := L2.SlR.or sl_list sl_tupA
/-- a slice, by content -/
theorem slD_ok {w : Wd} {H : Hp} {d : D} {x : V} {lo hi : Option Int} {r : Rv} {Q : VK} (ok : WOk w H) (cn : Cn X.K w H d x) (e : slD d lo hi = some r) (q : Pst X.K w H r Q) : rSl2 X.K x lo hi H Q := by
  unfold slD at e
  split at e
  · cases e
    obtain ⟨a, vs, rfl, q1, rs⟩ := cn.lst
    exact .inl ⟨a, vs, rfl, SqL.of q1, q.lst ok (rs.cut lo hi)⟩
  · rename_i xs
    cases e
    obtain ⟨a, vs, rfl, q1, rs⟩ := cn.tup
    refine .inr ⟨a, vs, rfl, SqT.of q1, fun hw => q H _ (fun _ _ z => z) ?_, fun _ => q.tup (rs.cut lo hi)⟩
    have e1 : cutV vs lo hi = vs := by
      unfold cutV
      rw [hw.1, hw.2]
      simp
    have := rs.cut lo hi
    rw [e1] at this
    unfold RV
    exact ⟨a, vs, rfl, q1, this⟩
  · cases e
theorem slD_nb {d : D} {lo hi : Option Int} {r : Rv} (e : slD d lo hi = some r) : ∀ i, r ≠ .bor i := by
  unfold slD at e
  intro i z
  split at e
  · cases e; cases z
  · cases e; cases z
  · cases e
def partT (cl : Cl) (K : PySem.W.Frag) (mg : Str → Option Value) (W : WX) : Es → TO
  | .cons _ a _ => tPart (tE K mg W (evE cl a))
  | .nil => tNoPart
theorem part_of {lo : Es} (hs : lo = .nil ∨ ∃ a, lo = .cons false a .nil) {σ : L2.St} {w : Wd} {e : Ev} {h : AH} {H : Hp} {k : List Rv → Ev → AH → Wd → Hp → Prop} {Q : Option Int → Hp → Prop} (R : Rel X.K w e h σ H) (p : PO X.K X.mg W σ w H (evR cl lo e h) k)
    (hk : ∀ rs e1 h1 w1 H1, Ext w H w1 H1 → Rel X.K w1 e1 h1 σ H1 → k rs e1 h1 w1 H1 → ∃ l, parts e1 h1 rs = some l ∧ Q l H1) : partT cl X.K X.mg W lo σ H Q := by
  rcases hs with rfl | ⟨a, rfl⟩
  · simp only [evR] at p
    obtain ⟨l, h1, h2⟩ := hk _ _ _ _ _ (.refl _ _) R (p.ok (.refl _ _) R)
    cases h1
    exact h2
  · simp only [evR] at p
    refine ⟨w, e, h, R, (PO.bd0 p).mono fun r e1 h1 w1 H1 E1 R1 p1 x rx nx => ?_⟩
    simp only [bd_ok] at p1
    obtain ⟨l, h3, h4⟩ := hk _ _ _ _ _ E1 R1 (p1.ok E1 R1)
    unfold parts at h3
    simp only at h3
    split at h3
    · rename_i i hi
      cases h3
      exact ⟨i, (rd_cn R1 rx hi).int, h4⟩
    · cases h3
/-- a[lo:hi] -/
theorem pe_slM {lo hi : Es} {plo phi : Option Expr} {p2 : Pos} (ha : PE X pa (tE X.K X.mg W (evE cl a))) (hl : L2.PO X plo (partT cl X.K X.mg W lo)) (hu : L2.PO X phi (partT cl X.K X.mg W hi)) (sl : lo = .nil ∨ ∃ a, lo = .cons false a .nil) (su : hi = .nil ∨ ∃ a, hi = .cons false a .nil) :
    PE X (.Subscript pa (.Slice plo phi none p2) pos) (tE X.K X.mg W (evE cl (.sl a lo hi))) := by
  refine PE.imp (pe_slice sl2_ok ha hl hu) fun σ H Q q => ?_
  obtain ⟨w, e, h, R, p⟩ := q
  simp only [evE] at p
  refine ⟨w, e, h, R, (PO.bd0 p).mono fun r e1 h1 w1 H1 E1 R1 p1 x rx nx => ?_⟩
  refine part_of sl R1 ((PO.bd0 p1).fwd E1) fun rl e2 h2 w2 H2 E2 R2 p2 => ?_
  split at p2
  · rename_i l hl
    refine ⟨l, hl, ?_⟩
    refine part_of su R2 ((PO.bd0 p2).fwd (E1.trans E2)) fun ru e3 h3 w3 H3 E3 R3 p3 => ?_
    split at p3
    · rename_i u d hu' hd
      refine ⟨u, hu', ?_⟩
      cases q2 : slD d l u with
      | none => rw [q2] at p3; exact p3.elim
      | some z =>
        rw [q2] at p3
        exact slD_ok R3.wok (rd_cn R3 (rx.mono (E2.trans E3)) hd) q2 (Pst.of (E1.trans (E2.trans E3)) R3 (PO.fwd (E1.trans (E2.trans E3)) p3) (slD_nb q2))
    · exact p3.elim
  · exact p2.elim
/-- a[::-1] -/
theorem pe_revM {k : Nat} {p1 p2 p3 : Pos} (ha : PE X pa (tE X.K X.mg W (evE cl a))) : PE X (.Subscript pa (.Slice none none (some (.UnaryOp .USub (.Constant (.int 1) k p1) p2)) p3) pos) (tE X.K X.mg W (evE cl (.rev a))) := by
  refine PE.imp (pe_revL ha) fun σ H Q q => ?_
  obtain ⟨w, e, h, R, p⟩ := q
  simp only [evE] at p
  refine ⟨w, e, h, R, (PO.bd p).mono fun r e1 h1 w1 H1 E1 R1 p1 x rx nx => ?_⟩
  split at p1
  · rename_i xs hx
    obtain ⟨a', vs, rfl, q1, rs⟩ := (rd_cn R1 rx hx).lst
    exact ⟨a', vs, rfl, SqL.of q1, (Pst.of E1 R1 p1 fun i z => nomatch z).lst R1.wok rs.reverse⟩
  · exact p1.elim

/-! ### starred items -/
theorem starEach_star {e : Expr} {es : List Expr} {env : Env} : starEach (.Starred e p :: es) env = (true, eval e env) :: starEach es env := rfl
theorem pa_starD (ha : PE X pa (tE X.K X.mg W (evE cl a))) (hr : PA X pes (tD X.K X.mg W (evD cl es))) : PA X (.Starred pa p :: pes) (tD X.K X.mg W (evD cl (.cons true a es))) := by
  refine PA.imp (StX.pa_star ha hr starEach_star) fun σ H Q q => ?_
  obtain ⟨w, e, h, R, p⟩ := q
  simp only [evD] at p
  refine ⟨w, e, h, R, (PO.bd0 p).mono fun r e1 h1 w1 H1 E1 R1 p1 x rx nx => ?_⟩
  split at p1
  · rename_i xs hx
    obtain ⟨d, h2, h3⟩ := Option.bind_eq_some_iff.mp hx
    have cn := rd_cn R1 rx h2
    have go : ∃ a' vs, x = .ref a' ∧ (SqT X.K H1 a' vs ∨ SqL X.K H1 a' vs) ∧ RVs X.K w1 H1 xs vs := by
      unfold seqOf at h3
      split at h3
      · cases h3
        obtain ⟨a', vs, rfl, q1, rs⟩ := cn.tup
        exact ⟨a', vs, rfl, .inl (SqT.of q1), rs⟩
      · cases h3
        obtain ⟨a', vs, rfl, q1, rs⟩ := cn.lst
        exact ⟨a', vs, rfl, .inr (SqL.of q1), rs⟩
      · cases h3
    obtain ⟨a', vs, rfl, sq, rs⟩ := go
    refine ⟨a', vs, rfl, sq, w1, e1, h1, R1, ((PO.bd0 p1).fwd E1).mono fun ds e2 h2 w2 H2 E2 R2 p2 ys rvs => ?_⟩
    exact p2.ok (E1.trans E2) R2 (vs ++ ys) ((rs.mono E2).append rvs)
  · exact p1.elim

/-! ### dict displays -/
def trsE (cl : Cl) (K : PySem.W.Frag) (mg : Str → Option Value) (W : WX) : Es → List (TE × TE)
  | .cons false k (.cons false v r) => (tE K mg W (evE cl k), tE K mg W (evE cl v)) :: trsE cl K mg W r
  | _ => []
def PRel (K : PySem.W.Frag) (w : Wd) (H : Hp) (ps : List (Kd × D)) (xs : List (V × V)) : Prop := ∃ kvs : List (Key × V), xs = kvs.map (fun kv => (kV kv.1, kv.2)) ∧ kvs.map (·.1) = ps.map (·.1) ∧ RVs K w H (ps.map (·.2)) (kvs.map (·.2))
theorem tPairs_of : ∀ (kvs : Es) {σ : L2.St} {H : Hp} {Q : List (V × V) → Hp → Prop} {w : Wd} {e : Ev} {h : AH}, Rel X.K w e h σ H → PO X.K X.mg W σ w H (evP cl kvs e h) (fun ps _ _ w' H' => ∀ xs, PRel X.K w' H' ps xs → Q xs H') → tPairs (trsE cl X.K X.mg W kvs) σ H Q
  | .nil, σ, H, Q, w, e, h, R, p => by
    simp only [evP] at p
    exact p.ok (.refl _ _) R [] ⟨[], rfl, rfl, RVs.nil⟩
  | .cons false k (.cons false v r), σ, H, Q, w, e, h, R, p => by
    simp only [evP] at p
    refine ⟨w, e, h, R, (PO.bd0 p).mono fun rk e1 h1 w1 H1 E1 R1 p1 x rx nx => ?_⟩
    split at p1
    · rename_i kd hk
      obtain ⟨dk, h2, h3⟩ := Option.bind_eq_some_iff.mp hk
      have ex := key_cn (rd_cn R1 rx h2) h3
      subst ex
      refine ⟨w1, e1, h1, R1, ((PO.bd0 p1).fwd E1).mono fun ry e2 h2 w2 H2 E2 R2 p2 y ryr ny => ?_⟩
      split at p2
      · rename_i d e3 hz
        obtain ⟨w3, E3, R3, rv⟩ := frz_ok E2 R2 ryr ny hz
        refine tPairs_of r R3 (((PO.bd0 p2).fwd (E1.trans E3)).mono fun ps e4 h4 w4 H4 E4 R4 p4 xs pr => ?_)
        obtain ⟨kvs, rfl, q2, q3⟩ := pr
        exact p4.ok (E1.trans (E3.trans E4)) R4 _ ⟨(kd, y) :: kvs, rfl, by simp [q2], RVs.cons (RV.mono E4 _ _ rv) q3⟩
      · exact p2.elim
    · exact p1.elim
  | .cons true _ _, σ, H, Q, w, e, h, R, p => by simp only [evP] at p; exact p.elim
  | .cons false _ .nil, σ, H, Q, w, e, h, R, p => by simp only [evP] at p; exact p.elim
  | .cons false _ (.cons true _ _), σ, H, Q, w, e, h, R, p => by simp only [evP] at p; exact p.elim
theorem hasK_mem {κ : Type} [DecidableEq κ] {ks : List κ} {k : κ} : hasK ks k = true ↔ k ∈ ks := by
  unfold hasK
  rw [List.any_eq_true]
  constructor
  · rintro ⟨x, h1, h2⟩
    rw [← of_decide_eq_true h2]; exact h1
  · exact fun h => ⟨k, h, decide_eq_true rfl⟩
theorem nodupB_ok : ∀ {ks : List Kd}, nodupB ks = true → ks.Nodup
  | [], _ => List.nodup_nil
  | k :: r, h => by
    simp only [nodupB, Bool.and_eq_true, Bool.not_eq_true'] at h
    refine List.nodup_cons.mpr ⟨fun m => ?_, nodupB_ok h.2⟩
    rw [hasK_mem.mpr m] at h
    cases h.1
theorem merge_nodup : ∀ (kvs acc : List (Key × V)), (kvs.map (·.1)).Nodup → (∀ p ∈ kvs, p.1 ∉ acc.map (·.1)) → mergeK acc kvs = acc ++ kvs
  | [], acc, _, _ => by simp [mergeK]
  | p :: r, acc, nd, hn => by
    have nd' := List.nodup_cons.mp nd
    have h0 : putK acc p.1 p.2 = acc ++ [p] := by
      unfold putK
      rw [if_neg]
      intro z
      obtain ⟨q, h1, h2⟩ := List.any_eq_true.mp z
      exact hn p (List.mem_cons_self ..) (List.mem_map.mpr ⟨q, h1, of_decide_eq_true h2⟩)
    show mergeK (putK acc p.1 p.2) r = _
    rw [h0, merge_nodup r (acc ++ [p]) nd'.2 fun q hq => ?_]
    · simp
    · rw [List.map_append]
      intro z
      rcases List.mem_append.mp z with z | z
      · exact hn q (List.mem_cons_of_mem _ hq) z
      · have : q.1 = p.1 := by simpa using z
        exact nd'.1 (List.mem_map.mpr ⟨q, hq, this⟩)
theorem pe_dct0M {tk : Bool} : PE X (.Dict [] [] pos) (tE X.K X.mg W (evE cl (.dct tk .nil))) := by
  cases tk with
  | false =>
    refine PE.imp pe_dnewK fun σ H Q q => ?_
    obtain ⟨w, e, h, R, p⟩ := q
    simp only [evE, evP, bd_ok] at p
    intro a ha
    exact (Pst.of (.refl _ _) R p fun i z => nomatch z) a _ ha (fun _ z => nomatch z) ⟨[], ⟨[], upd_same, rfl, rfl⟩, RVs.nil⟩
  | true =>
    refine PE.imp pe_dnewT fun σ H Q q => ?_
    obtain ⟨w, e, h, R, p⟩ := q
    simp only [evE, evP, bd_ok] at p
    intro a ha
    exact (Pst.of (.refl _ _) R p fun i z => nomatch z) a _ ha (fun _ z => nomatch z) ⟨[], ⟨[], upd_same, rfl, rfl⟩, RVs.nil⟩
theorem pe_dctM {kvs : Es} {keys : List (Option Expr)} {values : List Expr} (hp : PPs X pos keys values (trsE cl X.K X.mg W kvs)) (hall : keys.all (·.isSome) = true) (hl : keys.length = values.length) (h0 : keys ≠ []) (h15 : keys.length ≤ 15) :
    PE X (.Dict keys values pos) (tE X.K X.mg W (evE cl (.dct false kvs))) := by
  refine PE.imp (pe_disp hp hall hl h0 h15) fun σ H Q q => ?_
  obtain ⟨w, e, h, R, p⟩ := q
  simp only [evE] at p
  intro dd hD
  have E0 : Ext w H (w.put dd) (upd H dd (.dK [])) := Ext.put hD
  refine tPairs_of kvs (R.put hD fun _ z => nomatch z) (((PO.bd0 p).fwd E0).mono fun ps e1 h1 w1 H1 E1 R1 p1 xs pr => ?_)
  have tD : w1.τ dd := E1.tmp dd (.inr rfl)
  have hD1 : H1 dd = some (.dK []) := E1.keep dd _ upd_same (.inr (.inl (.inr rfl)))
  obtain ⟨kvs', rfl, q2, q3⟩ := pr
  refine ⟨hD1, kvs', rfl, ?_⟩
  simp only [Bool.false_eq_true, if_false] at p1
  split at p1
  · rename_i c
    simp only [Bool.and_eq_true, decide_eq_true_eq] at c
    have nd : (kvs'.map (·.1)).Nodup := by rw [q2]; exact nodupB_ok c.1
    have hlen : kvs'.length = ps.length := by
      have := congrArg List.length q2
      simpa using this
    refine ⟨by omega, ?_⟩
    rw [merge_nodup kvs' [] nd (fun _ _ => by simp), List.nil_append]
    obtain ⟨XV, R2⟩ := R1.atT (u := .dK kvs') tD (fun _ z => nomatch z)
    refine p1.ok ((E0.trans E1).newer hD fun xs z => by rw [hD1] at z; cases z) R2 _ ⟨dd, rfl, tD, kvs'.map (·.2), ⟨kvs', upd_same, q2.symm, rfl⟩, RVs.monoV XV _ _ q3⟩ fun b eb t => ?_
    cases eb
    exact R.notNone (.inr (.inr (.inl t))) hD
  · exact p1.elim
end
end Mp

/-! list(range(..)), tuple(range(..)) -/
namespace Mp
open PySem L2 PyProof.Rows
section
variable {cl : Cl} {kn : List Str} {X : Cx} {N : List Str} {sc : Scope} {fnp : Str → Bool} {W : WX} {a b c : E} {pa pb pc tg : Expr} {pos : Pos}
theorem rvs_rng {K : PySem.W.Frag} {w : Wd} {H : Hp} (i j : Int) : RVs K w H (rngL i 1 (j - i).toNat) (rgV i j) := by
  unfold rngL rgV
  generalize (j - i).toNat = n
  have : ∀ l : List Nat, RVs K w H (l.map fun (k : Nat) => D.int (i + (k : Int) * 1)) (l.map fun k => V.int (i + (k : Nat))) := by
    intro l
    induction l with
    | nil => exact RVs.nil
    | cons x l ih =>
      rw [List.map_cons, List.map_cons]
      refine RVs.cons ?_ ih
      unfold RV
      rw [Int.mul_one]
  exact this _
/-- what is made of a range -/
def tRgM (tp : Bool) (te : L2.St → Hp → (Int → Int → Hp → Prop) → Prop) : TE := if tp then tTupRg te else tLstRg te
def nmRg : Bool → Str
  | true => PySem.Str.ofString "tuple"
  | false => PySem.Str.ofString "list"
theorem pe_litRg (C : Cz cl kn X N sc fnp W) (tp : Bool) {p : Pos} {te : L2.St → Hp → (Int → Int → Hp → Prop) → Prop} (hg : sc.names.lookup (nmRg tp) = some .globalImplicit) (he : PRg X pa te) (hs : noStar pa = true) : PE X (.Call (.Name (nmRg tp) p) [pa] [] pos) (tRgM tp te) := by
  cases tp with
  | true => exact pe_tupRg C.calm (gl_of C hg) (C.bn _ (by decide +kernel)) he (starEach_cons hs)
  | false => exact pe_listRg C.calm (gl_of C hg) (C.bn _ (by decide +kernel)) he (starEach_cons hs)
theorem rg_end {tp : Bool} {w0 w : Wd} {e : Ev} {h : AH} {σ : L2.St} {H0 H : Hp} {Q : VK} {i j : Int} (E0 : Ext w0 H0 w H) (R : Rel X.K w e h σ H) (ci : in62 i = true) (cj : in62 j = true)
    (p : PO X.K X.mg W σ w H (if ([] : List Nat).isEmpty && decide ((rngL i 1 (j - i).toNat).length ≤ sizeMax) then some (.ok (if tp then .v (.tup (rngL i 1 (j - i).toNat)) else .fr (.lst (rngL i 1 (j - i).toNat))) e h) else none) (kE X.K σ w0 Q)) :
    RgOk i j ∧ ∀ q, H q = none → Q (.ref q) (upd H q (if tp then .tup (rgV i j) else .lst (rgV i j))) := by
  simp only [List.isEmpty_nil, Bool.true_and] at p
  obtain ⟨c1, c2⟩ := in62_of ci
  obtain ⟨c3, c4⟩ := in62_of cj
  split at p
  · rename_i c
    have hl : (j - i).toNat ≤ sizeMax := by
      have := of_decide_eq_true c
      simpa [rngL] using this
    refine ⟨⟨c1, c2, c3, c4, hl⟩, fun q hq => ?_⟩
    cases tp with
    | true => exact (Pst.of E0 R p fun i z => nomatch z).tup (rvs_rng i j) q hq
    | false => exact (Pst.of E0 R p fun i z => nomatch z).lst R.wok (rvs_rng i j) q hq
  · exact p.elim
theorem pe_lit1M (C : Cz cl kn X N sc fnp W) (tp : Bool) {p p2 pos2 : Pos} (hg : sc.names.lookup (nmRg tp) = some .globalImplicit) (hg2 : sc.names.lookup (PySem.Str.ofString "range") = some .globalImplicit) (ha : PE X pa (tE X.K X.mg W (evE cl a))) (hs : noStar pa = true) :
    PE X (.Call (.Name (nmRg tp) p) [.Call (.Name (PySem.Str.ofString "range") p2) [pa] [] pos2] [] pos) (tE X.K X.mg W (evE cl (.lit tp (.rng1 a)))) := by
  refine PE.imp (pe_litRg C tp hg (prg_1 (gl_of C hg2) (C.bn _ (by decide +kernel)) ha (starEach_cons hs)) rfl) fun σ H Q q => ?_
  obtain ⟨w, e, h, R, p⟩ := q
  simp only [evE, evI] at p
  have main : tE X.K X.mg W (evE cl a) σ H fun x H1 => ∃ n, x = .int n ∧ RgOk 0 n ∧ ∀ q, H1 q = none → Q (.ref q) (upd H1 q (if tp then .tup (rgV 0 n) else .lst (rgV 0 n))) := by
    refine ⟨w, e, h, R, (PO.bd0 (PO.bd0 p)).mono fun r e1 h1 w1 H1 E1 R1 p1 x rx nx => ?_⟩
    split at p1
    · rename_i j hj
      cases (rd_cn R1 rx hj).int
      split at p1
      · rename_i c
        have p2 := PO.fwd E1 (p1.ok E1 R1)
        have ej : j.toNat = (j - 0).toNat := by rw [Int.sub_zero]
        rw [ej] at p2
        exact ⟨j, rfl, rg_end E1 R1 (by decide) c p2⟩
      · exact p1.elim
    · exact p1.elim
  unfold tRgM
  cases tp with
  | true => exact main
  | false => exact main
theorem pe_lit2M (C : Cz cl kn X N sc fnp W) (tp : Bool) {p p2 pos2 : Pos} (hg : sc.names.lookup (nmRg tp) = some .globalImplicit) (hg2 : sc.names.lookup (PySem.Str.ofString "range") = some .globalImplicit) (ha : PE X pa (tE X.K X.mg W (evE cl a))) (hb : PE X pb (tE X.K X.mg W (evE cl b))) (hs : noStar pa = true) (hs2 : noStar pb = true) :
    PE X (.Call (.Name (nmRg tp) p) [.Call (.Name (PySem.Str.ofString "range") p2) [pa, pb] [] pos2] [] pos) (tE X.K X.mg W (evE cl (.lit tp (.rng2 a b)))) := by
  refine PE.imp (pe_litRg C tp hg (prg_2 (gl_of C hg2) (C.bn _ (by decide +kernel)) ha hb (starEach_cons hs) (starEach_cons hs2) (by rw [starEach_cons hs2]; rfl)) rfl) fun σ H Q q => ?_
  obtain ⟨w, e, h, R, p⟩ := q
  simp only [evE, evI] at p
  have main : tE X.K X.mg W (evE cl a) σ H fun x H1 => tE X.K X.mg W (evE cl b) σ H1 fun y H2 => ∃ i j, x = .int i ∧ y = .int j ∧ RgOk i j ∧ ∀ q, H2 q = none → Q (.ref q) (upd H2 q (if tp then .tup (rgV i j) else .lst (rgV i j))) := by
    refine ⟨w, e, h, R, (PO.bd0 (PO.bd0 p)).mono fun r e1 h1 w1 H1 E1 R1 p1 x rx nx => ?_⟩
    refine ⟨w1, e1, h1, R1, (PO.bd0 (PO.fwd E1 p1)).mono fun r2 e2 h2 w2 H2 E2 R2 p2 y ry ny => ?_⟩
    split at p2
    · rename_i i j hi hj
      cases (rd_cn R2 (rx.mono E2) hi).int
      cases (rd_cn R2 ry hj).int
      split at p2
      · rename_i c
        simp only [Bool.and_eq_true] at c
        exact ⟨i, j, rfl, rfl, rg_end (E1.trans E2) R2 c.1 c.2 (PO.fwd (E1.trans E2) (p2.ok E2 R2))⟩
      · exact p2.elim
    · exact p2.elim
  unfold tRgM
  cases tp with
  | true => exact main
  | false => exact main
end
end Mp

/-! calls -/
namespace Mp
open PySem L2 PyProof.Rows

/-- the thing just made that comes to stand in the callee's slot j -/
def mv : List Rv → List V → Nat → Option Addr
  | .fr _ :: _, .ref a :: _, 0 => some a
  | _ :: rs, _ :: xs, j + 1 => mv rs xs j
  | _, _, _ => none
/-- what is lent -/
def lent : List Rv → List V → Addr → Prop
  | .bor _ :: rs, x :: xs, a => x = .ref a ∨ lent rs xs a
  | _ :: rs, _ :: xs, a => lent rs xs a
  | _, _, _ => False
section
variable {K : PySem.W.Frag} {mg : Str → Option Value} {W : WX} {w w0 w1 w' : Wd} {H H0 H1 H' : Hp} {e e1 : Ev} {h h' : AH} {σ : L2.St} {rs : List Rv} {xs : List V}
theorem mv_τ : ∀ {rs : List Rv} {xs : List V} {j : Nat} {a : Addr}, Rrs K w σ H rs xs → mv rs xs j = some a → w.τ a ∧ V.ref a ∈ frV rs xs
  | [], xs, j, a, _, q => by simp [mv] at q
  | r :: rs, _, j, a, ⟨x, ys, ex, h1, h2⟩, q => by
    subst ex
    cases j with
    | zero =>
      cases r with
      | fr o =>
        obtain ⟨b, rfl, t, _⟩ := h1
        have q' : some b = some a := q
        cases q'
        exact ⟨t, List.mem_cons_self ..⟩
      | v d => simp [mv] at q
      | bor i => simp [mv] at q
    | succ j =>
      have q' : mv rs ys j = some a := by
        cases r with
        | fr o => cases x <;> simpa [mv] using q
        | v d => simpa [mv] using q
        | bor i => simpa [mv] using q
      obtain ⟨z1, z2⟩ := mv_τ h2 q'
      refine ⟨z1, ?_⟩
      cases r with
      | fr o => exact List.mem_cons_of_mem _ z2
      | v d => exact z2
      | bor i => exact z2
theorem mv_inj : ∀ {rs : List Rv} {xs : List V} {i j : Nat} {a : Addr}, Rrs K w σ H rs xs → (frV rs xs).Nodup → mv rs xs i = some a → mv rs xs j = some a → i = j
  | [], xs, i, j, a, _, _, q, _ => by simp [mv] at q
  | r :: rs, _, i, j, a, ⟨x, ys, ex, h1, h2⟩, nd, q1, q2 => by
    subst ex
    have dn : ∀ {j}, mv (r :: rs) (x :: ys) (j + 1) = some a → mv rs ys j = some a := fun {j} q => by
      cases r with
      | fr o => cases x <;> simpa [mv] using q
      | v d => simpa [mv] using q
      | bor i => simpa [mv] using q
    have nd' : (frV rs ys).Nodup := by
      cases r with
      | fr o => exact (List.nodup_cons.mp nd).2
      | v d => exact nd
      | bor i => exact nd
    have no : ∀ {j}, mv (r :: rs) (x :: ys) 0 = some a → mv (r :: rs) (x :: ys) (j + 1) = some a → False := fun {j} p q => by
      cases r with
      | fr o =>
        obtain ⟨b, rfl, t, _⟩ := h1
        have p' : some b = some a := p
        cases p'
        exact (List.nodup_cons.mp nd).1 (mv_τ h2 (dn q)).2
      | v d => simp [mv] at p
      | bor i => simp [mv] at p
    cases i with
    | zero =>
      cases j with
      | zero => rfl
      | succ j => exact (no q1 q2).elim
    | succ i =>
      cases j with
      | zero => exact (no q2 q1).elim
      | succ j => rw [mv_inj h2 nd' (dn q1) (dn q2)]
/-- what is lent is the caller's own, or walked -/
theorem lent_own (R : Rel K w e h σ H) : ∀ {rs : List Rv} {xs : List V} {ss : List Sl} {a : Addr}, Rrs K w σ H rs xs → rs.mapM (arg e) = some ss → lent rs xs a → (∃ i, w.ω i = some a) ∨ ∃ i, w.lam i = some a
  | [], xs, ss, a, _, _, q => by simp [lent] at q
  | r :: rs, _, ss, a, ⟨x, ys, ex, h1, h2⟩, m, q => by
    subst ex
    rw [List.mapM_cons] at m
    cases q1 : arg e r with
    | none => rw [q1] at m; cases m
    | some s =>
      rw [q1] at m
      cases q2 : rs.mapM (arg e) with
      | none => rw [q2] at m; cases m
      | some ss' =>
        cases r with
        | v d => exact lent_own R h2 q2 q
        | fr o => exact lent_own R h2 q2 q
        | bor i =>
          rcases q with q | q
          · subst q
            have rx : σ[i]? = some (some (.ref a)) := h1
            simp only [arg] at q1
            split at q1
            · rename_i o ho
              obtain ⟨b, z1, z2, z3⟩ := R.slot i _ ho
              rw [rx] at z2; cases z2
              exact .inl ⟨i, z1⟩
            · rename_i ys2 ho
              obtain ⟨_, b, z1, z2, z3⟩ := R.slot i _ ho
              rw [rx] at z2; cases z2
              exact .inr ⟨i, z1⟩
            · cases q1
          · exact lent_own R h2 q2 q
/-- the callee's world -/
def Wd.inn (w : Wd) (rs : List Rv) (xs : List V) : Wd where
  ρ := w.ρ
  ω := mv rs xs
  τ := fun a => w.M a ∧ a ∉ w.ρ ∧ (∀ j, mv rs xs j ≠ some a) ∧ ¬ lent rs xs a
  lam := fun _ => none
theorem Wd.inn_M (rr : Rrs K w σ H rs xs) {a : Addr} (m : (w.inn rs xs).M a) : w.M a := by
  rcases m with m | ⟨j, m⟩ | m | ⟨j, m⟩
  · exact .inl m
  · exact .inr (.inr (.inl (mv_τ rr m).1))
  · exact m.1
  · cases m
theorem Wd.inn_L (R : Rel K w e h σ H) (rr : Rrs K w σ H rs xs) {ss : List Sl} (m : rs.mapM (arg e) = some ss) {a : Addr} (l : lent rs xs a) : ¬ (w.inn rs xs).M a := fun z => by
  have o := lent_own R rr m l
  have ne : a ∉ w.ρ ∧ ¬ w.τ a := by
    rcases o with ⟨i, o⟩ | ⟨i, o⟩
    · exact ⟨R.ndx i a o, fun t => (R.ndT a (.inl t)).2.1 i o⟩
    · exact ⟨(R.ndT a (.inr ⟨i, o⟩)).1, fun t => R.ndτ a i t o⟩
  rcases z with z | ⟨j, z⟩ | z | ⟨j, z⟩
  · exact ne.1 z
  · exact ne.2 (mv_τ rr z).1
  · exact z.2.2.2 l
  · cases z
/-- the arguments stand in the callee's slots -/
theorem args_slots (R : Rel K w e h σ H) {w2 : Wd} (XV : ExtV w H w2 H) (hL : ∀ a, lent rs xs a → ¬ w2.M a) : ∀ {rs1 : List Rv} {xs1 : List V} {ss : List Sl} {n : Nat}, Rrs K w σ H rs1 xs1 → rs1.mapM (arg e) = some ss → (∀ a, lent rs1 xs1 a → lent rs xs a) → (∀ j, w2.ω (n + j) = mv rs1 xs1 j) →
    ss.length = xs1.length ∧ ∀ (j : Nat) (s : Sl), ss[j]? = some s → SlR K w2 H (n + j) s (xs1[j]?.map some)
  | [], xs1, ss, n, rr, m, hl, ho => by
    cases (show xs1 = [] from rr)
    simp at m
    subst m
    exact ⟨rfl, fun j s q => by simp at q⟩
  | r :: rs1, _, ss, n, ⟨x, ys, ex, h1, h2⟩, m, hl, ho => by
    subst ex
    rw [List.mapM_cons] at m
    cases q1 : arg e r with
    | none => rw [q1] at m; cases m
    | some s0 =>
      rw [q1] at m
      cases q2 : rs1.mapM (arg e) with
      | none => rw [q2] at m; cases m
      | some ss' =>
        rw [q2] at m
        cases m
        have hl' : ∀ a, lent rs1 ys a → lent rs xs a := fun a q => hl a (by
          cases r with
          | v d => exact q
          | fr o => exact q
          | bor i => exact .inr q)
        have ho' : ∀ j, w2.ω (n + 1 + j) = mv rs1 ys j := fun j => by
          have := ho (j + 1)
          rw [show n + 1 + j = n + (j + 1) by omega, this]
          cases r with
          | fr o => cases x <;> rfl
          | v d => rfl
          | bor i => rfl
        obtain ⟨l2, s2⟩ := args_slots R XV hL h2 q2 hl' ho'
        refine ⟨by simp [l2], fun j s q => ?_⟩
        cases j with
        | succ j =>
          have := s2 j s (by simpa using q)
          rw [show n + (j + 1) = n + 1 + j by omega]
          simpa using this
        | zero =>
          have q' : s0 = s := by simpa using q
          subst q'
          have o0 := ho 0
          show SlR K w2 H (n + 0) s0 (some (some x))
          cases r with
          | v d =>
            simp only [arg] at q1
            cases q1
            refine ⟨by rw [o0]; rfl, x, rfl, RV.monoV XV d x h1⟩
          | fr o =>
            simp only [arg] at q1
            cases q1
            obtain ⟨a, rfl, t, ob⟩ := h1
            exact ⟨a, by rw [o0]; rfl, rfl, ob.at XV fun u hu => hu⟩
          | bor i =>
            have rx : σ[i]? = some (some x) := h1
            have nm : ∀ a, x = .ref a → ¬ w2.M a := fun a ea => hL a (hl a (.inl ea))
            simp only [arg] at q1
            split at q1
            · rename_i o ho2
              cases q1
              obtain ⟨b, z1, z2, z3⟩ := R.slot i _ ho2
              rw [rx] at z2; cases z2
              exact ⟨by rw [o0]; rfl, _, rfl, RV.of_ob (z3.at XV fun u hu => hu) (nm b rfl)⟩
            · rename_i ys2 ho2
              cases q1
              obtain ⟨_, b, z1, z2, z3⟩ := R.slot i _ ho2
              rw [rx] at z2; cases z2
              exact ⟨by rw [o0]; rfl, _, rfl, RV.of_ob (o := .lst ys2) (z3.at XV fun u hu => hu) (nm b rfl)⟩
            · cases q1
theorem mv_beyond : ∀ {rs : List Rv} {xs : List V} {j : Nat}, xs.length ≤ j → mv rs xs j = none
  | [], xs, j, _ => by simp [mv]
  | _ :: _, [], j, _ => by simp [mv]
  | r :: rs, x :: xs, 0, hl => by simp at hl
  | r :: rs, x :: xs, j + 1, hl => by
    have := mv_beyond (rs := rs) (xs := xs) (j := j) (by simpa using hl)
    cases r with
    | fr o => cases x <;> simpa [mv] using this
    | v d => simpa [mv] using this
    | bor i => simpa [mv] using this
/-- at the callee's entry -/
theorem Rel.inn (R : Rel K w e h σ H) (rr : Rrs K w σ H rs xs) (nd : (frV rs xs).Nodup) {ss : List Sl} (m : rs.mapM (arg e) = some ss) : Rel K (w.inn rs xs) ss h (xs.map some) H := by
  have XV : ExtV w H (w.inn rs xs) H := ExtV.less rfl fun b q => Wd.inn_M rr q
  obtain ⟨l1, s1⟩ := args_slots (rs := rs) (xs := xs) R XV (fun a l => Wd.inn_L R rr m l) (n := 0) rr m (fun a l => l) (fun j => by rw [Nat.zero_add]; rfl)
  refine ⟨by rw [l1, List.length_map], fun j s q => ?_, fun j hj => mv_beyond (by rw [← l1]; exact hj), R.lenρ, fun n o a h1 h2 => (R.obs n o a h1 h2).at XV fun u hu => hu, R.ndρ, fun i j a h1 h2 => mv_inj rr nd h1 h2, fun i a h1 => (R.ndT a (.inl (mv_τ rr h1).1)).1, fun a t => ?_, fun a i t z => (by cases z), fun i j a z => (by cases z)⟩
  · have := s1 j s q
    rw [Nat.zero_add] at this
    rw [List.getElem?_map]
    exact this
  · rcases t with t | ⟨i, t⟩
    · exact ⟨t.2.1, fun i z => t.2.2.1 i z, R.there t.1⟩
    · cases t
/-- the caller's world behind the call; z: the thing that is handed back -/
def Wd.out (w w' : Wd) (rs : List Rv) (xs : List V) (z : Addr → Prop) : Wd where
  ρ := w'.ρ
  ω := w.ω
  τ := fun a => (w.τ a ∧ ∀ j, mv rs xs j ≠ some a) ∨ z a
  lam := w.lam
/-- content without lists is the same in another hand -/
theorem RV.nolV {w w2 : Wd} (hr : w2.ρ = w.ρ) (hm : ∀ a, w2.M a → w.M a ∨ ∀ o u, H a ≠ Option.some (HO.frz o u)) : ∀ (d : D) (x : V), d.nol = true → RV K w H d x → RV K w2 H d x := by
  intro d
  refine D.rec (motive_1 := fun d => ∀ x, d.nol = true → RV K w H d x → RV K w2 H d x) (motive_2 := fun ds => ∀ xs, D.nols ds = true → RVs K w H ds xs → RVs K w2 H ds xs) ?_ ?_ ?_ ?_ ?_ ?_ ?_ ?_ ?_ ?_ ?_ ?_ d
  · intro x _ r; unfold RV at r ⊢; exact r
  · intro b x _ r; unfold RV at r ⊢; exact r
  · intro b x _ r; unfold RV at r ⊢; exact r
  · intro b x _ r; unfold RV at r ⊢; exact r
  · intro ds ih x n r
    unfold RV at r ⊢
    obtain ⟨a, vs, e, t, r⟩ := r
    exact ⟨a, vs, e, t, ih vs (by simpa [D.nol] using n) r⟩
  · intro ds ih x n r; simp [D.nol] at n
  · intro ks ds ih x n r; simp [D.nol] at n
  · intro n x _ r
    unfold RV at r ⊢
    obtain ⟨a, e, r⟩ := r
    exact ⟨a, e, by rw [hr]; exact r⟩
  · intro ns x _ r
    unfold RV at r ⊢
    obtain ⟨a, r⟩ := r
    rcases r with ⟨e, n, o, r⟩ | r
    · refine ⟨a, .inl ⟨e, fun z => ?_, o, r⟩⟩
      rcases hm a z with z | z
      · exact n z
      · exact z _ _ r
    · exact ⟨a, .inr r⟩
  · intro d ih x _ r; unfold RV at r ⊢; exact r
  · intro xs _ r; unfold RVs at r ⊢; exact r
  · intro d ds ih1 ih2 xs n r
    unfold RVs at r ⊢
    obtain ⟨x, t, e, h1, h2⟩ := r
    have n' : d.nol = true ∧ D.nols ds = true := by simpa [D.nols] using n
    exact ⟨x, t, e, ih1 x n'.1 h1, ih2 t n'.2 h2⟩
theorem RVs.nolV {w w2 : Wd} (hr : w2.ρ = w.ρ) (hm : ∀ a, w2.M a → w.M a ∨ ∀ o u, H a ≠ Option.some (HO.frz o u)) : ∀ {ds : List D} {xs : List V}, D.nols ds = true → RVs K w H ds xs → RVs K w2 H ds xs
  | [], xs, _, r => by unfold RVs at r ⊢; exact r
  | d :: ds, xs, n, r => by
    unfold RVs at r ⊢
    obtain ⟨x, t, e, h1, h2⟩ := r
    have n' : d.nol = true ∧ D.nols ds = true := by simpa [D.nols] using n
    exact ⟨x, t, e, RV.nolV hr hm d x n'.1 h1, RVs.nolV hr hm n'.2 h2⟩
theorem ObR.nolV {w w2 : Wd} (hr : w2.ρ = w.ρ) (hm : ∀ a, w2.M a → w.M a ∨ ∀ o u, H a ≠ Option.some (HO.frz o u)) {o : Ob} {a : Addr} (n : o.nol = true) (r : ObR K w H o a) : ObR K w2 H o a := by
  cases o with
  | lst xs => obtain ⟨vs, e, r⟩ := r; exact ⟨vs, e, r.nolV hr hm n⟩
  | dct ks ds =>
    obtain ⟨vs, e, r⟩ := r
    exact ⟨vs, e, r.nolV hr hm (by simpa [Ob.nol] using n)⟩
theorem lent_none : ∀ {rs : List Rv} {xs : List V} {a : Addr}, rs.any isBor = false → ¬ lent rs xs a
  | [], _, _, _, q => by simp [lent] at q
  | r :: rs, [], a, _, q => by cases r <;> simp [lent] at q
  | r :: rs, x :: xs, a, n, q => by
    simp only [List.any_cons, Bool.or_eq_false_iff] at n
    cases r with
    | v d => exact lent_none n.2 q
    | fr o => exact lent_none n.2 q
    | bor i => exact absurd n.1 (by simp [isBor])
/-- behind a call -/
theorem Rel.out (E0 : Ext w0 H0 w H) (R : Rel K w e h σ H) (rr : Rrs K w σ H rs xs) (nd : (frV rs xs).Nodup) (nw : ∀ a, V.ref a ∈ frV rs xs → ¬ w0.τ a) {ss : List Sl} (m : rs.mapM (arg e) = some ss)
    (E' : Ext (w.inn rs xs) H w' H') (R' : Rel K w' [] h' [] H') {z : Addr → Prop} (hz : ∀ a, z a → w'.τ a ∧ ¬ (w.inn rs xs).τ a) (hn : rs.any isBor = false ∨ h'.all Ob.nol = true) :
    Ext w0 H0 (w.out w' rs xs z) H' ∧ Rel K (w.out w' rs xs z) e h' σ H' ∧ (∀ (d : D) (x : V), rs.any isBor = false ∨ d.nol = true → RV K w' H' d x → RV K (w.out w' rs xs z) H' d x) ∧
      (∀ (o : Ob) (a : Addr), rs.any isBor = false ∨ o.nol = true → ObR K w' H' o a → ObR K (w.out w' rs xs z) H' o a) := by
  have hM : ∀ {a}, (w.inn rs xs).M a → w.M a := fun {a} q => Wd.inn_M rr q
  have hMt : ∀ {a}, w.M a → a ∉ w.ρ → (∀ j, mv rs xs j ≠ some a) → ¬ lent rs xs a → w'.τ a := fun {a} m1 m2 m3 m4 => E'.tmp a ⟨m1, m2, m3, m4⟩
  -- what is lent stands, and is none of the callee's
  have hLn : ∀ {a}, lent rs xs a → ¬ w'.M a := fun {a} l q => by
    have n1 := Wd.inn_L R rr m l
    rcases E'.new a q with q | q
    · exact n1 q
    · obtain ⟨u, hu, _⟩ := R.there (a := a) (by
        rcases lent_own R rr m l with z | z
        · exact .inr (.inl z)
        · exact .inr (.inr (.inr z)))
      rw [hu] at q; cases q
  have stand : ∀ {a u}, H a = some u → (¬ w.M a ∨ (a ∉ w.ρ ∧ ∀ j, mv rs xs j ≠ some a)) → H' a = some u := fun {a u} hu q => by
    refine E'.keep a u hu ?_
    by_cases hm : w.M a
    · rcases q with q | q
      · exact absurd hm q
      · by_cases hl : lent rs xs a
        · exact .inl (Wd.inn_L R rr m hl)
        · exact .inr (.inl ⟨hm, q.1, q.2, hl⟩)
    · exact .inl fun z => hm (hM z)
  have nmv : ∀ {j a}, mv rs xs j = some a → w.τ a := fun {j a} q => (mv_τ rr q).1
  have ost0 : ∀ {i a u}, w.ω i = some a → H a = some u → H' a = some u := fun {i a u} q hu => stand hu (.inr ⟨R.ndx i a q, fun j z => (R.ndT a (.inl (nmv z))).2.1 i q⟩)
  have lst0 : ∀ {i a u}, w.lam i = some a → H a = some u → H' a = some u := fun {i a u} q hu => stand hu (.inr ⟨(R.ndT a (.inr ⟨i, q⟩)).1, fun j z => R.ndτ a i (nmv z) q⟩)
  -- into the callee's hand, but for what is lent
  have inH : ∀ {a}, (w.out w' rs xs z).M a → w'.M a ∨ lent rs xs a := fun {a} q => by
    rcases q with q | ⟨i, q⟩ | (q | q) | ⟨i, q⟩
    · exact .inl (.inl q)
    · by_cases hl : lent rs xs a
      · exact .inr hl
      · exact .inl (.inr (.inr (.inl (hMt (.inr (.inl ⟨i, q⟩)) (R.ndx i a q) (fun j z => (R.ndT a (.inl (nmv z))).2.1 i q) hl))))
    · by_cases hl : lent rs xs a
      · exact .inr hl
      · exact .inl (.inr (.inr (.inl (hMt (.inr (.inr (.inl q.1))) (R.ndT a (.inl q.1)).1 q.2 hl))))
    · exact .inl (.inr (.inr (.inl (hz a q).1)))
    · by_cases hl : lent rs xs a
      · exact .inr hl
      · exact .inl (.inr (.inr (.inl (hMt (.inr (.inr (.inr ⟨i, q⟩))) (R.ndT a (.inr ⟨i, q⟩)).1 (fun j z => R.ndτ a i (nmv z) q) hl))))
  have inW : ∀ {a}, (w.out w' rs xs z).M a → w.M a ∨ H a = none := fun {a} q => by
    rcases inH q with q | q
    · rcases E'.new a q with q | q
      · exact .inl (hM q)
      · exact .inr q
    · rcases lent_own R rr m q with z | z
      · exact .inl (.inr (.inl z))
      · exact .inl (.inr (.inr (.inr z)))
  -- a lent thing is no frozen one
  have lfr : ∀ a, (w.out w' rs xs z).M a → w'.M a ∨ ∀ o u, H' a ≠ Option.some (HO.frz o u) := fun a q => by
    rcases inH q with q | l
    · exact .inl q
    · refine .inr fun o u hu => ?_
      have obr : ∃ ob, ObR K w H ob a := by
        have : ∀ {rs1 : List Rv} {xs1 : List V} {ss1 : List Sl}, Rrs K w σ H rs1 xs1 → rs1.mapM (arg e) = some ss1 → lent rs1 xs1 a → ∃ ob, ObR K w H ob a := by
          intro rs1
          induction rs1 with
          | nil => intro xs1 ss1 _ _ l; simp [lent] at l
          | cons r rs1 ih =>
            rintro xs1 ss1 ⟨x, ys, ex, h1, h2⟩ m1 l
            subst ex
            rw [List.mapM_cons] at m1
            cases q1 : arg e r with
            | none => rw [q1] at m1; cases m1
            | some s =>
              rw [q1] at m1
              cases q2 : rs1.mapM (arg e) with
              | none => rw [q2] at m1; cases m1
              | some ss' =>
                cases r with
                | v d => exact ih h2 q2 l
                | fr o => exact ih h2 q2 l
                | bor i =>
                  rcases l with l | l
                  · subst l
                    have rx : σ[i]? = some (some (.ref a)) := h1
                    simp only [arg] at q1
                    split at q1
                    · rename_i o ho
                      obtain ⟨b, z1, z2, z3⟩ := R.slot i _ ho
                      rw [rx] at z2; cases z2
                      exact ⟨o, z3⟩
                    · rename_i ys2 ho
                      obtain ⟨_, b, z1, z2, z3⟩ := R.slot i _ ho
                      rw [rx] at z2; cases z2
                      exact ⟨_, z3⟩
                    · cases q1
                  · exact ih h2 q2 l
        exact this rr m l
      obtain ⟨ob, obr⟩ := obr
      have hst : ∀ {u'}, H a = some u' → H' a = some u' := fun {u'} hu' => by
        rcases lent_own R rr m l with ⟨i, q⟩ | ⟨i, q⟩
        · exact ost0 q hu'
        · exact lst0 q hu'
      cases ob with
      | lst ys =>
        obtain ⟨vs, q1, _⟩ := obr
        rw [hst q1] at hu; cases hu
      | dct ks ds =>
        obtain ⟨vs, q1, _⟩ := obr
        obtain ⟨u', hu', _, hf⟩ := q1.there
        rw [hst hu'] at hu
        cases hu
        exact hf _ _ rfl
  have less : rs.any isBor = false → ExtV w' H' (w.out w' rs xs z) H' := fun nb => ExtV.less rfl fun a q => by
    rcases inH q with q | q
    · exact q
    · exact absurd q (lent_none nb)
  have trV : ∀ (d : D) (x : V), rs.any isBor = false ∨ d.nol = true → RV K w' H' d x → RV K (w.out w' rs xs z) H' d x := fun d x q r => by
    rcases q with q | q
    · exact RV.monoV (less q) d x r
    · exact RV.nolV (w := w') (w2 := w.out w' rs xs z) rfl lfr d x q r
  have trO : ∀ (o : Ob) (a : Addr), rs.any isBor = false ∨ o.nol = true → ObR K w' H' o a → ObR K (w.out w' rs xs z) H' o a := fun o a q r => by
    rcases q with q | q
    · exact r.at (less q) fun u hu => hu
    · exact ObR.nolV (w := w') (w2 := w.out w' rs xs z) rfl lfr q r
  have XV : ExtV w H (w.out w' rs xs z) H' := ⟨fun b o q n => stand q (.inl n), fun b ys q => E'.tup b ys q, fun b q => inW q, fun n a q => E'.rho n a q⟩
  refine ⟨.mk' (fun b o q n => ?_) (fun b ys q => E'.tup b ys (E0.tup b ys q)) (fun b q => ?_) (fun n a q => E'.rho n a (E0.rho n a q)) (fun b t => .inl ⟨E0.tmp b t, fun j q => nw b (mv_τ rr q).2 t⟩) E0.lam, ⟨R.len, fun j s q => (R.slot j s q).at XV rfl rfl fun a u ha hu => ?_, R.beyond, R'.lenρ, fun n o a h1 h2 => trO o a ?_ (R'.obs n o a h1 h2), R'.ndρ, R.ndω, fun i a q => ?_, fun a t => ?_, fun a i t q => ?_, R.ndl⟩, trV, trO⟩
  · refine stand (E0.keep b o q n) ?_
    rcases n with n | n
    · exact .inl (E0.nM q n)
    · refine .inr ⟨(R.ndT b (E0.T n)).1, fun j z => ?_⟩
      rcases n with n | ⟨i, n⟩
      · exact nw b (mv_τ rr z).2 n
      · exact R.ndτ b i (nmv z) (by rw [E0.lam]; exact n)
  · rcases inW q with q | q
    · exact E0.new b q
    · by_cases hm : w0.M b
      · exact .inl hm
      · refine .inr ?_
        cases hb : H0 b with
        | none => rfl
        | some o => rw [E0.keep b o hb (.inl hm)] at q; cases q
  · rcases ha with ha | ha
    · exact ost0 ha hu
    · exact lst0 ha hu
  · rcases hn with hn | hn
    · exact .inl hn
    · exact .inr (List.all_eq_true.mp hn o (List.mem_of_getElem? h1))
  · intro hr
    by_cases hl : lent rs xs a
    · exact hLn hl (.inl hr)
    · have t := hMt (.inr (.inl ⟨i, q⟩)) (R.ndx i a q) (fun j z => (R.ndT a (.inl (nmv z))).2.1 i q) hl
      exact (R'.ndT a (.inl t)).1 hr
  · rcases t with (t | t) | ⟨i, t⟩
    · have nl : ¬ lent rs xs a := fun l => by
        rcases lent_own R rr m l with ⟨i, q⟩ | ⟨i, q⟩
        · exact (R.ndT a (.inl t.1)).2.1 i q
        · exact R.ndτ a i t.1 q
      have t' := hMt (.inr (.inr (.inl t.1))) (R.ndT a (.inl t.1)).1 t.2 nl
      exact ⟨(R'.ndT a (.inl t')).1, (R.ndT a (.inl t.1)).2.1, (R'.ndT a (.inl t')).2.2⟩
    · obtain ⟨t1, t2⟩ := hz a t
      refine ⟨(R'.ndT a (.inl t1)).1, fun i q => ?_, (R'.ndT a (.inl t1)).2.2⟩
      by_cases hl : lent rs xs a
      · exact hLn hl (.inr (.inr (.inl t1)))
      · exact t2 ⟨.inr (.inl ⟨i, q⟩), R.ndx i a q, fun j z => (R.ndT a (.inl (nmv z))).2.1 i q, hl⟩
    · obtain ⟨q1, q2, u, q3, q4⟩ := R.ndT a (.inr ⟨i, t⟩)
      refine ⟨fun hr => ?_, q2, u, lst0 t q3, q4⟩
      by_cases hl : lent rs xs a
      · exact hLn hl (.inl hr)
      · exact (R'.ndT a (.inl (hMt (.inr (.inr (.inr ⟨i, t⟩))) q1 (fun j z => R.ndτ a i (nmv z) t) hl))).1 hr
  · rcases t with t | t
    · exact R.ndτ a i t.1 q
    · obtain ⟨t1, t2⟩ := hz a t
      by_cases hl : lent rs xs a
      · exact hLn hl (.inr (.inr (.inl t1)))
      · exact t2 ⟨.inr (.inr (.inr ⟨i, q⟩)), (R.ndT a (.inr ⟨i, q⟩)).1, fun j z => R.ndτ a i (nmv z) q, hl⟩
end

/-! ### calls that see nothing shared -/
section
variable {K : PySem.W.Frag} {w w0 w2 w' : Wd} {H H0 H1 H' : Hp} {e e1 : Ev} {h h' : AH} {σ : L2.St} {rs : List Rv} {xs : List V}
/-- content without references is carried into any hand that holds no more (or, without lists, no frozen one more) -/
theorem RV.low0 {b : Bool} (hm : ∀ a, w2.M a → w.M a ∨ (b = true ∧ ∀ o u, H a ≠ Option.some (HO.frz o u))) : ∀ (d : D) (x : V), d.low 0 = true → (b = true → d.nol = true) → RV K w H d x → RV K w2 H d x := by
  intro d
  refine D.rec (motive_1 := fun d => ∀ x, d.low 0 = true → (b = true → d.nol = true) → RV K w H d x → RV K w2 H d x) (motive_2 := fun ds => ∀ xs, D.lows 0 ds = true → (b = true → D.nols ds = true) → RVs K w H ds xs → RVs K w2 H ds xs) ?_ ?_ ?_ ?_ ?_ ?_ ?_ ?_ ?_ ?_ ?_ ?_ d
  · intro x _ _ r; unfold RV at r ⊢; exact r
  · intro c x _ _ r; unfold RV at r ⊢; exact r
  · intro c x _ _ r; unfold RV at r ⊢; exact r
  · intro c x _ _ r; unfold RV at r ⊢; exact r
  · intro ds ih x l n r
    unfold RV at r ⊢
    obtain ⟨a, vs, e, t, r⟩ := r
    exact ⟨a, vs, e, t, ih vs (by simpa [D.low] using l) (fun z => by simpa [D.nol] using n z) r⟩
  · intro ds ih x l n r
    unfold RV at r ⊢
    obtain ⟨a, vs, e, m, t, r⟩ := r
    cases b with
    | true => simp [D.nol] at n
    | false =>
      exact ⟨a, vs, e, fun z => (hm a z).elim m (fun q => by cases q.1), t, ih vs (by simpa [D.low] using l) (fun z => by cases z) r⟩
  · intro ks ds ih x l n r
    unfold RV at r ⊢
    obtain ⟨a, vs, e, m, t, r⟩ := r
    cases b with
    | true => simp [D.nol] at n
    | false =>
      exact ⟨a, vs, e, fun z => (hm a z).elim m (fun q => by cases q.1), t, ih vs (by simpa [D.low] using l) (fun z => by cases z) r⟩
  · intro k x l _ r
    simp [D.low] at l
  · intro ns x _ _ r
    unfold RV at r ⊢
    obtain ⟨a, r⟩ := r
    rcases r with ⟨e, m, o, r⟩ | r
    · refine ⟨a, .inl ⟨e, fun z => ?_, o, r⟩⟩
      rcases hm a z with q | q
      · exact m q
      · exact q.2 _ _ r
    · exact ⟨a, .inr r⟩
  · intro d ih x _ _ r; unfold RV at r ⊢; exact r
  · intro xs _ _ r; unfold RVs at r ⊢; exact r
  · intro d ds ih1 ih2 xs l n r
    unfold RVs at r ⊢
    obtain ⟨x, t, e, h1, h2⟩ := r
    have l' : d.low 0 = true ∧ D.lows 0 ds = true := by simpa [D.lows] using l
    have n' : b = true → d.nol = true ∧ D.nols ds = true := fun z => by simpa [D.nols] using n z
    exact ⟨x, t, e, ih1 x l'.1 (fun z => (n' z).1) h1, ih2 t l'.2 (fun z => (n' z).2) h2⟩
theorem RVs.low0 {b : Bool} (hm : ∀ a, w2.M a → w.M a ∨ (b = true ∧ ∀ o u, H a ≠ Option.some (HO.frz o u))) : ∀ {ds : List D} {xs : List V}, D.lows 0 ds = true → (b = true → D.nols ds = true) → RVs K w H ds xs → RVs K w2 H ds xs
  | [], xs, _, _, r => by unfold RVs at r ⊢; exact r
  | d :: ds, xs, l, n, r => by
    unfold RVs at r ⊢
    obtain ⟨x, t, e, h1, h2⟩ := r
    have l' : d.low 0 = true ∧ D.lows 0 ds = true := by simpa [D.lows] using l
    have n' : b = true → d.nol = true ∧ D.nols ds = true := fun z => by simpa [D.nols] using n z
    exact ⟨x, t, e, RV.low0 hm d x l'.1 (fun z => (n' z).1) h1, RVs.low0 hm l'.2 (fun z => (n' z).2) h2⟩
theorem ObR.low0 {b : Bool} (hm : ∀ a, w2.M a → w.M a ∨ (b = true ∧ ∀ o u, H a ≠ Option.some (HO.frz o u))) {o : Ob} {a : Addr} (l : o.low 0 = true) (n : b = true → o.nol = true) (r : ObR K w H o a) : ObR K w2 H o a := by
  cases o with
  | lst xs => obtain ⟨vs, e, r⟩ := r; exact ⟨vs, e, r.low0 hm (by simpa [Ob.low] using l) (fun z => by simpa [Ob.nol] using n z)⟩
  | dct ks ds => obtain ⟨vs, e, r⟩ := r; exact ⟨vs, e, r.low0 hm (by simpa [Ob.low] using l) (fun z => by simpa [Ob.nol] using n z)⟩
/-- what is lent is a slot's thing, or walked -/
theorem lent_ob (R : Rel K w e h σ H) {a : Addr} : ∀ {rs1 : List Rv} {xs1 : List V} {ss1 : List Sl}, Rrs K w σ H rs1 xs1 → rs1.mapM (arg e) = some ss1 → lent rs1 xs1 a → ∃ ob, ObR K w H ob a := by
  intro rs1
  induction rs1 with
  | nil => intro xs1 ss1 _ _ l; simp [lent] at l
  | cons r rs1 ih =>
    rintro xs1 ss1 ⟨x, ys, ex, h1, h2⟩ m1 l
    subst ex
    rw [List.mapM_cons] at m1
    cases q1 : arg e r with
    | none => rw [q1] at m1; cases m1
    | some s =>
      rw [q1] at m1
      cases q2 : rs1.mapM (arg e) with
      | none => rw [q2] at m1; cases m1
      | some ss' =>
        cases r with
        | v d => exact ih h2 q2 l
        | fr o => exact ih h2 q2 l
        | bor i =>
          rcases l with l | l
          · subst l
            have rx : σ[i]? = some (some (.ref a)) := h1
            simp only [arg] at q1
            split at q1
            · rename_i o ho
              obtain ⟨b, z1, z2, z3⟩ := R.slot i _ ho
              rw [rx] at z2; cases z2
              exact ⟨o, z3⟩
            · rename_i ys2 ho
              obtain ⟨_, b, z1, z2, z3⟩ := R.slot i _ ho
              rw [rx] at z2; cases z2
              exact ⟨_, z3⟩
            · cases q1
          · exact ih h2 q2 l
/-- .. where nothing shared is seen -/
theorem args_slots0 (R : Rel K w e h σ H) {w2 : Wd} (hW : ∀ a, w2.M a → w.M a) (hL : ∀ a, lent rs xs a → ¬ w2.M a) : ∀ {rs1 : List Rv} {xs1 : List V} {ss : List Sl} {n : Nat}, Rrs K w σ H rs1 xs1 → rs1.mapM (arg e) = some ss → ss.all (Sl.low 0) = true → (∀ a, lent rs1 xs1 a → lent rs xs a) → (∀ j, w2.ω (n + j) = mv rs1 xs1 j) →
    ss.length = xs1.length ∧ ∀ (j : Nat) (s : Sl), ss[j]? = some s → SlR K w2 H (n + j) s (xs1[j]?.map some)
  | [], xs1, ss, n, rr, m, lw, hl, ho => by
    cases (show xs1 = [] from rr)
    simp at m
    subst m
    exact ⟨rfl, fun j s q => by simp at q⟩
  | r :: rs1, _, ss, n, ⟨x, ys, ex, h1, h2⟩, m, lw, hl, ho => by
    subst ex
    rw [List.mapM_cons] at m
    cases q1 : arg e r with
    | none => rw [q1] at m; cases m
    | some s0 =>
      rw [q1] at m
      cases q2 : rs1.mapM (arg e) with
      | none => rw [q2] at m; cases m
      | some ss' =>
        rw [q2] at m
        cases m
        have lw' : s0.low 0 = true ∧ ss'.all (Sl.low 0) = true := by simpa using lw
        have hm0 : ∀ a, w2.M a → w.M a ∨ (false = true ∧ ∀ o u, H a ≠ Option.some (HO.frz o u)) := fun a q => .inl (hW a q)
        have l0 := lw'.1
        have hl' : ∀ a, lent rs1 ys a → lent rs xs a := fun a q => hl a (by
          cases r with
          | v d => exact q
          | fr o => exact q
          | bor i => exact .inr q)
        have ho' : ∀ j, w2.ω (n + 1 + j) = mv rs1 ys j := fun j => by
          have := ho (j + 1)
          rw [show n + 1 + j = n + (j + 1) by omega, this]
          cases r with
          | fr o => cases x <;> rfl
          | v d => rfl
          | bor i => rfl
        obtain ⟨l2, s2⟩ := args_slots0 R hW hL h2 q2 lw'.2 hl' ho'
        refine ⟨by simp [l2], fun j s q => ?_⟩
        cases j with
        | succ j =>
          have := s2 j s (by simpa using q)
          rw [show n + (j + 1) = n + 1 + j by omega]
          simpa using this
        | zero =>
          have q' : s0 = s := by simpa using q
          subst q'
          have o0 := ho 0
          show SlR K w2 H (n + 0) s0 (some (some x))
          cases r with
          | v d =>
            simp only [arg] at q1
            cases q1
            refine ⟨by rw [o0]; rfl, x, rfl, RV.low0 hm0 d x l0 (fun z => nomatch z) h1⟩
          | fr o =>
            simp only [arg] at q1
            cases q1
            obtain ⟨a, rfl, t, ob⟩ := h1
            exact ⟨a, by rw [o0]; rfl, rfl, ob.low0 hm0 l0 (fun z => nomatch z)⟩
          | bor i =>
            have rx : σ[i]? = some (some x) := h1
            have nm : ∀ a, x = .ref a → ¬ w2.M a := fun a ea => hL a (hl a (.inl ea))
            simp only [arg] at q1
            split at q1
            · rename_i o ho2
              cases q1
              obtain ⟨b, z1, z2, z3⟩ := R.slot i _ ho2
              rw [rx] at z2; cases z2
              exact ⟨by rw [o0]; rfl, _, rfl, RV.of_ob (z3.low0 hm0 (by cases o <;> simpa [Sl.low, Ob.d, D.low, Ob.low] using l0) (fun z => nomatch z)) (nm b rfl)⟩
            · rename_i ys2 ho2
              cases q1
              obtain ⟨_, b, z1, z2, z3⟩ := R.slot i _ ho2
              rw [rx] at z2; cases z2
              exact ⟨by rw [o0]; rfl, _, rfl, RV.of_ob (o := .lst ys2) (z3.low0 hm0 (by simpa [Sl.low, D.low, Ob.low] using l0) (fun z => nomatch z)) (nm b rfl)⟩
            · cases q1

/-- the world of a callee that sees nothing shared -/
def Wd.pin (w : Wd) (rs : List Rv) (xs : List V) : Wd where
  ρ := []
  ω := mv rs xs
  τ := fun a => w.M a ∧ (∀ j, mv rs xs j ≠ some a) ∧ ¬ lent rs xs a
  lam := fun _ => none
theorem Wd.pin_M (rr : Rrs K w σ H rs xs) {a : Addr} (m : (w.pin rs xs).M a) : w.M a := by
  rcases m with m | ⟨j, m⟩ | m | ⟨j, m⟩
  · cases m
  · exact .inr (.inr (.inl (mv_τ rr m).1))
  · exact m.1
  · cases m
theorem Wd.pin_L (R : Rel K w e h σ H) (rr : Rrs K w σ H rs xs) {ss : List Sl} (m : rs.mapM (arg e) = some ss) {a : Addr} (l : lent rs xs a) : ¬ (w.pin rs xs).M a := fun z => by
  have o := lent_own R rr m l
  have ne : ¬ w.τ a := by
    rcases o with ⟨i, o⟩ | ⟨i, o⟩
    · exact fun t => (R.ndT a (.inl t)).2.1 i o
    · exact fun t => R.ndτ a i t o
  rcases z with z | ⟨j, z⟩ | z | ⟨j, z⟩
  · cases z
  · exact ne (mv_τ rr z).1
  · exact z.2.2 l
  · cases z
/-- at its entry -/
theorem Rel.inP (R : Rel K w e h σ H) (rr : Rrs K w σ H rs xs) (nd : (frV rs xs).Nodup) {ss : List Sl} (m : rs.mapM (arg e) = some ss) (lw : ss.all (Sl.low 0) = true) : Rel K (w.pin rs xs) ss [] (xs.map some) H := by
  obtain ⟨l1, s1⟩ := args_slots0 (rs := rs) (xs := xs) (w2 := w.pin rs xs) R (fun a q => Wd.pin_M rr q) (fun a l => Wd.pin_L R rr m l) (n := 0) rr m lw (fun a l => l) (fun j => by rw [Nat.zero_add]; rfl)
  refine ⟨by rw [l1, List.length_map], fun j s q => ?_, fun j hj => mv_beyond (by rw [← l1]; exact hj), rfl, fun n o a h1 h2 => by simp at h1, List.nodup_nil, fun i j a h1 h2 => mv_inj rr nd h1 h2, fun i a h1 => by simp [Wd.pin], fun a t => ?_, fun a i t z => (by cases z), fun i j a z => (by cases z)⟩
  · have := s1 j s q
    rw [Nat.zero_add] at this
    rw [List.getElem?_map]
    exact this
  · rcases t with t | ⟨i, t⟩
    · exact ⟨by simp [Wd.pin], fun i z => t.2.1 i z, R.there t.1⟩
    · cases t
/-- the caller's world behind it -/
def Wd.outP (w : Wd) (rs : List Rv) (xs : List V) (z : Addr → Prop) : Wd where
  ρ := w.ρ
  ω := w.ω
  τ := fun a => (w.τ a ∧ ∀ j, mv rs xs j ≠ some a) ∨ z a
  lam := w.lam
theorem Rel.outP (E0 : Ext w0 H0 w H) (R : Rel K w e h σ H) (rr : Rrs K w σ H rs xs) (nw : ∀ a, V.ref a ∈ frV rs xs → ¬ w0.τ a) {ss : List Sl} (m : rs.mapM (arg e) = some ss)
    (E' : Ext (w.pin rs xs) H w' H') {e' : Ev} (R' : Rel K w' e' [] [] H') {z : Addr → Prop} (hz : ∀ a, z a → w'.τ a ∧ ¬ (w.pin rs xs).τ a) :
    Ext w0 H0 (w.outP rs xs z) H' ∧ Rel K (w.outP rs xs z) e h σ H' ∧ (∀ (d : D) (x : V), d.low 0 = true → (rs.any isBor = true → d.nol = true) → RV K w' H' d x → RV K (w.outP rs xs z) H' d x) ∧
      (∀ (o : Ob) (a : Addr), o.low 0 = true → (rs.any isBor = true → o.nol = true) → ObR K w' H' o a → ObR K (w.outP rs xs z) H' o a) := by
  have nmv : ∀ {j a}, mv rs xs j = some a → w.τ a := fun {j a} q => (mv_τ rr q).1
  have stand : ∀ {a u}, H a = some u → (∀ j, mv rs xs j ≠ some a) → H' a = some u := fun {a u} hu q => by
    refine E'.keep a u hu ?_
    by_cases hm : w.M a
    · by_cases hl : lent rs xs a
      · exact .inl (Wd.pin_L R rr m hl)
      · exact .inr (.inl ⟨hm, q, hl⟩)
    · exact .inl fun z => hm (Wd.pin_M rr z)
  have noρ : ∀ {a}, a ∈ w.ρ → ∀ j, mv rs xs j ≠ some a := fun {a} q j z => (R.ndT a (.inl (nmv z))).1 q
  have noω : ∀ {i a}, w.ω i = some a → ∀ j, mv rs xs j ≠ some a := fun {i a} q j z => (R.ndT a (.inl (nmv z))).2.1 i q
  have nol : ∀ {i a}, w.lam i = some a → ∀ j, mv rs xs j ≠ some a := fun {i a} q j z => R.ndτ a i (nmv z) q
  have out : ∀ {a}, ¬ w.M a → ∀ j, mv rs xs j ≠ some a := fun {a} q j z => q (.inr (.inr (.inl (nmv z))))
  have hLn : ∀ {a}, lent rs xs a → ¬ w'.M a := fun {a} l q => by
    rcases E'.new a q with q | q
    · exact Wd.pin_L R rr m l q
    · obtain ⟨u, hu, _⟩ := R.there (a := a) (by
        rcases lent_own R rr m l with z | z
        · exact .inr (.inl z)
        · exact .inr (.inr (.inr z)))
      rw [hu] at q; cases q
  have inM : ∀ {a}, (w.outP rs xs z).M a → (w.M a ∧ ∀ j, mv rs xs j ≠ some a) ∨ z a := fun {a} q => by
    rcases q with q | ⟨i, q⟩ | (q | q) | ⟨i, q⟩
    · exact .inl ⟨.inl q, noρ q⟩
    · exact .inl ⟨.inr (.inl ⟨i, q⟩), noω q⟩
    · exact .inl ⟨.inr (.inr (.inl q.1)), q.2⟩
    · exact .inr q
    · exact .inl ⟨.inr (.inr (.inr ⟨i, q⟩)), nol q⟩
  have inH : ∀ {a}, (w.outP rs xs z).M a → w'.M a ∨ lent rs xs a := fun {a} q => by
    rcases inM q with q | q
    · by_cases hl : lent rs xs a
      · exact .inr hl
      · exact .inl (.inr (.inr (.inl (E'.tmp a ⟨q.1, q.2, hl⟩))))
    · exact .inl (.inr (.inr (.inl (hz a q).1)))
  have zn : ∀ {a}, z a → w.M a → (∀ j, mv rs xs j ≠ some a) → False := fun {a} q hm hv => by
    obtain ⟨t1, t2⟩ := hz a q
    by_cases hl : lent rs xs a
    · exact hLn hl (.inr (.inr (.inl t1)))
    · exact t2 ⟨hm, hv, hl⟩
  have inW : ∀ {a}, (w.outP rs xs z).M a → w.M a ∨ H a = none := fun {a} q => by
    rcases inM q with q | q
    · exact .inl q.1
    · rcases E'.new a (.inr (.inr (.inl (hz a q).1))) with q | q
      · exact .inl (Wd.pin_M rr q)
      · exact .inr q
  have hm0 : ∀ a, (w.outP rs xs z).M a → w'.M a ∨ (rs.any isBor = true ∧ ∀ o u, H' a ≠ Option.some (HO.frz o u)) := fun a q => by
    rcases inH q with q | l
    · exact .inl q
    · refine .inr ⟨?_, fun o u hu => ?_⟩
      · cases hb : rs.any isBor with
        | true => rfl
        | false => exact absurd l (lent_none hb)
      · obtain ⟨ob, obr⟩ := lent_ob R rr m l
        have hst : ∀ {u'}, H a = some u' → H' a = some u' := fun {u'} hu' => by
          rcases lent_own R rr m l with ⟨i, q⟩ | ⟨i, q⟩
          · exact stand hu' (noω q)
          · exact stand hu' (nol q)
        cases ob with
        | lst ys =>
          obtain ⟨vs, q1, _⟩ := obr
          rw [hst q1] at hu; cases hu
        | dct ks ds =>
          obtain ⟨vs, q1, _⟩ := obr
          obtain ⟨u', hu', _, hf⟩ := q1.there
          rw [hst hu'] at hu
          cases hu
          exact hf _ _ rfl
  have XV : ExtV w H (w.outP rs xs z) H' := ⟨fun b o q n => stand q (out n), fun b ys q => E'.tup b ys q, fun b q => inW q, fun n a q => q⟩
  refine ⟨.mk' (fun b o q n => ?_) (fun b ys q => E'.tup b ys (E0.tup b ys q)) (fun b q => ?_) (fun n a q => E0.rho n a q) (fun b t => .inl ⟨E0.tmp b t, fun j q => nw b (mv_τ rr q).2 t⟩) E0.lam, ⟨R.len, fun j s q => (R.slot j s q).at XV rfl rfl fun a u ha hu => ?_, R.beyond, R.lenρ, fun n o a h1 h2 => (R.obs n o a h1 h2).at XV fun u hu => stand hu (noρ (List.mem_of_getElem? h2)), R.ndρ, R.ndω, R.ndx, fun a t => ?_, fun a i t q => ?_, R.ndl⟩, fun d x q1 q2 r => RV.low0 hm0 d x q1 q2 r, fun o a q1 q2 r => ObR.low0 hm0 q1 q2 r⟩
  · refine stand (E0.keep b o q n) ?_
    rcases n with n | n
    · exact out (E0.nM q n)
    · rcases n with n | ⟨i, n⟩
      · exact fun j z => nw b (mv_τ rr z).2 n
      · exact nol (i := i) (by rw [E0.lam]; exact n)
  · rcases inW q with q | q
    · exact E0.new b q
    · by_cases hm : w0.M b
      · exact .inl hm
      · refine .inr ?_
        cases hb : H0 b with
        | none => rfl
        | some o => rw [E0.keep b o hb (.inl hm)] at q; cases q
  · rcases ha with ha | ha
    · exact stand hu (noω ha)
    · exact stand hu (nol ha)
  · rcases t with (t | t) | ⟨i, t⟩
    · obtain ⟨q1, q2, u, q3, q4⟩ := R.ndT a (.inl t.1)
      exact ⟨q1, q2, u, stand q3 t.2, q4⟩
    · refine ⟨fun hr => zn t (.inl hr) (noρ hr), fun i q => zn t (.inr (.inl ⟨i, q⟩)) (noω q), (R'.ndT a (.inl (hz a t).1)).2.2⟩
    · obtain ⟨q1, q2, u, q3, q4⟩ := R.ndT a (.inr ⟨i, t⟩)
      exact ⟨q1, q2, u, stand q3 (nol t), q4⟩
  · rcases t with t | t
    · exact R.ndτ a i t.1 q
    · exact zn t (.inr (.inr (.inr ⟨i, q⟩))) (nol q)
end
end Mp

/-! calls of defs; defs -/
namespace Mp
open PySem L2 PyProof.Rows

section
variable {cl : Cl} {kn : List Str} {X : Cx} {N : List Str} {sc : Scope} {fnp : Str → Bool} {W : WX} {es : Es} {pa : Expr} {pes : List Expr} {pos p : Pos}
theorem call_of (C : Cz cl kn X N sc fnp W) {f : Nat} {n : Nat} (hn : ∀ ss h, cl f ss h ≠ none → ss.length = n) {σ : L2.St} {H : Hp} {Q : VK} (q : tE X.K X.mg W (evE cl (.call f es)) σ H Q) : tCallS (spF X.K X.mg cl f n) (WE W) (tR X.K X.mg W (evR cl es)) σ H Q := by
  obtain ⟨w, e, h, R, p⟩ := q
  simp only [evE] at p
  refine ⟨w, e, h, R, (PO.bd0 p).mono fun rs e1 h1 w1 H1 E1 R1 p1 xs rr nd nw => ?_⟩
  unfold call at p1
  split at p1
  · rename_i ss m
    have Ri := R1.inn rr nd m
    have hl : xs.length = ss.length := by
      have := Ri.len
      simpa using this.symm
    split at p1
    · rename_i r pu
      have hpu : ss.all (Sl.low 0) = true ∧ ∃ e', cl f ss [] = some (.ok r e' []) ∧ r.low 0 = true ∧ (rs.any isBor = true → r.nol = true) := by
        split at pu
        · rename_i al
          refine ⟨al, ?_⟩
          unfold pureC at pu
          split at pu
          · rename_i r0 e' hc
            split at pu
            · rename_i c
              cases pu
              simp only [Bool.and_eq_true, Bool.or_eq_true, Bool.not_eq_true'] at c
              exact ⟨e', hc, c.1, fun z => by
                rcases c.2 with c | c
                · rw [z] at c; cases c
                · exact c⟩
            · cases pu
          · cases pu
        · cases pu
      obtain ⟨al, e', hc, lw, hnl⟩ := hpu
      have Ri := R1.inP rr nd m al
      refine ⟨by rw [hl]; exact hn ss [] (by rw [hc]; simp), w1.pin rs xs, ss, [], Ri, ?_⟩
      rw [hc]
      intro w' H' x E' R' rx' nx'
      have hz : ∀ a, (∃ o, r = .fr o ∧ x = .ref a) → w'.τ a ∧ ¬ (w1.pin rs xs).τ a := by
        rintro a ⟨o, rfl, rfl⟩
        obtain ⟨b, eb, t, _⟩ := rx'
        cases eb
        exact ⟨t, nx' _ rfl⟩
      obtain ⟨E2, R2, trV, trO⟩ := Rel.outP E1 R1 rr nw m E' R' hz
      refine p1.ok E2 R2 x ?_ ?_
      · cases r with
        | v d => exact trV d x lw hnl rx'
        | bor i => exact absurd (show ([] : L2.St)[i]? = some (some x) from rx') (by simp)
        | fr o =>
          obtain ⟨a, rfl, t, ob⟩ := rx'
          exact ⟨a, rfl, .inr ⟨o, rfl, rfl⟩, trO o a lw hnl ob⟩
      · cases r with
        | v d => trivial
        | bor i => trivial
        | fr o =>
          intro a ea t
          have t1 := E1.tmp a t
          refine nx' a ea ⟨.inr (.inr (.inl t1)), fun j z => nw a (mv_τ rr z).2 t, fun l => ?_⟩
          rcases lent_own R1 rr m l with ⟨i, q⟩ | ⟨i, q⟩
          · exact (R1.ndT a (.inl t1)).2.1 i q
          · exact R1.ndτ a i t1 q
    · cases hc : cl f ss h1 with
      | none => rw [hc] at p1; exact p1.elim
      | some oo =>
        refine ⟨by rw [hl]; exact hn ss h1 (by rw [hc]; simp), w1.inn rs xs, ss, h1, Ri, ?_⟩
        rw [hc] at p1 ⊢
        cases oo with
        | ok r e' h' =>
          have pn : (rs.any isBor = false ∨ (r.nol = true ∧ h'.all Ob.nol = true)) ∧ PO X.K X.mg W σ w H (some (.ok r e1 h')) (kE X.K σ w Q) := by
            simp only at p1
            split at p1
            · split at p1
              · rename_i c
                simp only [Bool.and_eq_true] at c
                exact ⟨.inr c, p1⟩
              · exact p1.elim
            · rename_i c
              exact ⟨.inl (by simpa using c), p1⟩
          obtain ⟨hnl, p1⟩ := pn
          intro w' H' x E' R' rx' nx'
          have hz : ∀ a, (∃ o, r = .fr o ∧ x = .ref a) → w'.τ a ∧ ¬ (w1.inn rs xs).τ a := by
            rintro a ⟨o, rfl, rfl⟩
            obtain ⟨b, eb, t, _⟩ := rx'
            cases eb
            exact ⟨t, nx' _ rfl⟩
          have hn2 : rs.any isBor = false ∨ h'.all Ob.nol = true := hnl.imp_right fun z => z.2
          obtain ⟨E2, R2, trV, trO⟩ := Rel.out E1 R1 rr nd nw m E' R' hz hn2
          refine p1.ok E2 R2 x ?_ ?_
          · cases r with
            | v d => exact trV d x (hnl.imp_right fun z => z.1) rx'
            | bor i => exact absurd (show ([] : L2.St)[i]? = some (some x) from rx') (by simp)
            | fr o =>
              obtain ⟨a, rfl, t, ob⟩ := rx'
              exact ⟨a, rfl, .inr ⟨o, rfl, rfl⟩, trO o a (hnl.imp_right fun z => z.1) ob⟩
          · cases r with
            | v d => trivial
            | bor i => trivial
            | fr o =>
              intro a ea t
              have t1 := E1.tmp a t
              refine nx' a ea ⟨.inr (.inr (.inl t1)), (R1.ndT a (.inl t1)).1, fun j z => nw a (mv_τ rr z).2 t, fun l => ?_⟩
              rcases lent_own R1 rr m l with ⟨i, q⟩ | ⟨i, q⟩
              · exact (R1.ndT a (.inl t1)).2.1 i q
              · exact R1.ndτ a i t1 q
        | ex c pp e' h' =>
          have pn : rs.any isBor = false ∧ PO X.K X.mg W σ w H (some (.ex c pp e1 h')) (kE X.K σ w Q) := by
            simp only at p1
            split at p1
            · exact p1.elim
            · rename_i c
              exact ⟨by simpa using c, p1⟩
          obtain ⟨nb, p1⟩ := pn
          intro w' H' C' d' E' R' k
          obtain ⟨E2, R2, trV, trO⟩ := Rel.out E1 R1 rr nd nw m E' R' (z := fun _ => False) (fun a z => z.elim) (.inl nb)
          refine p1 _ H' C' d' E2 R2 ⟨k.1, ?_⟩
          cases pp with
          | none => exact k.2
          | some fy =>
            obtain ⟨b, x, h1, h2, h3⟩ := k.2
            exact ⟨b, x, h1, h2, trV _ _ (.inl nb) h3⟩
  · exact p1.elim
/-- f(..), f a def -/
theorem pe_callM (C : Cz cl kn X N sc fnp W) {f : Nat} {g : Str} (hf : kn[f]? = some g) (hg : sc.names.lookup g = some .globalImplicit) (ho : okN g = true) (ha : PA X (pa :: pes) (tR X.K X.mg W (evR cl es))) (hs : (pa :: pes).all noStar = true) :
    PE X (.Call (.Name g p) (pa :: pes) [] pos) (tE X.K X.mg W (evE cl (.call f es))) := by
  have hs' : noStar pa = true ∧ pes.all noStar = true := by simpa using hs
  have hd : (g == ("__debug__" : Str)) = false := by
    simp only [okN, Bool.and_eq_true, Bool.not_eq_true'] at ho
    exact ho.1.1
  obtain ⟨k, hr, ⟨n, a, fd, ps, F, hm, hk, hb, hn⟩⟩ := C.fs f g hf
  exact PE.imp (F.pe hr C.gd (gl_of C hg) hm hk hb (fun σ => passAt C.tk σ) ha hd (starEach_cons hs'.1) (starEach_plain hs'.2)) fun σ H Q q => call_of C hn q
theorem pe_call0M (C : Cz cl kn X N sc fnp W) {f : Nat} {g : Str} (hf : kn[f]? = some g) (hg : sc.names.lookup g = some .globalImplicit) (ho : okN g = true) : PE X (.Call (.Name g p) [] [] pos) (tE X.K X.mg W (evE cl (.call f .nil))) := by
  have hd : (g == ("__debug__" : Str)) = false := by
    simp only [okN, Bool.and_eq_true, Bool.not_eq_true'] at ho
    exact ho.1.1
  obtain ⟨k, hr, ⟨n, a, fd, ps, F, hm, hk, hb, hn⟩⟩ := C.fs f g hf
  refine PE.imp (F.pe0 hr C.gd (gl_of C hg) hm hk hb (fun σ => passAt C.tk σ) hd) fun σ H Q q => ?_
  obtain ⟨w, e, h, R, p⟩ := call_of C hn q
  simp only [evR] at p
  exact p.ok (.refl _ _) R [] rfl List.nodup_nil fun a z => by simp [frV] at z
end

/-! ### defs -/
section
variable {K : PySem.W.Frag} {mg : Str → Option Value} {w w0 w1 w' : Wd} {H H0 H1 H' : Hp} {e e1 : Ev} {h h' : AH} {σ : L2.St}
/-- the slots are gone, and what is made and not seen -/
def Wd.shut (w : Wd) (n : Nat) : Wd := { w with ρ := w.ρ.take n, ω := fun _ => none }
theorem Wd.shut_M {n : Nat} {a : Addr} (m : (w.shut n).M a) : w.M a := by
  rcases m with m | ⟨j, m⟩ | m
  · exact .inl (List.mem_of_mem_take m)
  · cases m
  · exact .inr (.inr m)
theorem RV.lowV {n : Nat} : ∀ (d : D) (x : V), d.low n = true → RV K w H d x → RV K (w.shut n) H d x := by
  intro d
  refine D.rec (motive_1 := fun d => ∀ x, d.low n = true → RV K w H d x → RV K (w.shut n) H d x) (motive_2 := fun ds => ∀ xs, D.lows n ds = true → RVs K w H ds xs → RVs K (w.shut n) H ds xs) ?_ ?_ ?_ ?_ ?_ ?_ ?_ ?_ ?_ ?_ ?_ ?_ d
  · intro x _ r; unfold RV at r ⊢; exact r
  · intro b x _ r; unfold RV at r ⊢; exact r
  · intro b x _ r; unfold RV at r ⊢; exact r
  · intro b x _ r; unfold RV at r ⊢; exact r
  · intro ds ih x l r
    unfold RV at r ⊢
    obtain ⟨a, vs, e, t, r⟩ := r
    exact ⟨a, vs, e, t, ih vs (by simpa [D.low] using l) r⟩
  · intro ds ih x l r
    unfold RV at r ⊢
    obtain ⟨a, vs, e, m, t, r⟩ := r
    exact ⟨a, vs, e, fun z => m (Wd.shut_M z), t, ih vs (by simpa [D.low] using l) r⟩
  · intro ks ds ih x l r
    have l' : D.lows n ds = true := by simpa [D.low] using l
    unfold RV at r ⊢
    obtain ⟨a, vs, e, m, t, r⟩ := r
    exact ⟨a, vs, e, fun z => m (Wd.shut_M z), t, ih vs l' r⟩
  · intro k x l r
    unfold RV at r ⊢
    obtain ⟨a, e, r⟩ := r
    have l' : k < n := by simpa [D.low] using l
    exact ⟨a, e, by show (w.ρ.take n)[k]? = _; rw [List.getElem?_take_of_lt l']; exact r⟩
  · intro ns x _ r
    unfold RV at r ⊢
    obtain ⟨a, r⟩ := r
    rcases r with ⟨e, m, o, r⟩ | r
    · exact ⟨a, .inl ⟨e, fun z => m (Wd.shut_M z), o, r⟩⟩
    · exact ⟨a, .inr r⟩
  · intro d ih x _ r; unfold RV at r ⊢; exact r
  · intro xs _ r; unfold RVs at r ⊢; exact r
  · intro d ds ih1 ih2 xs l r
    unfold RVs at r ⊢
    obtain ⟨x, t, e, h1, h2⟩ := r
    have l' : d.low n = true ∧ D.lows n ds = true := by simpa [D.lows] using l
    exact ⟨x, t, e, ih1 x l'.1 h1, ih2 t l'.2 h2⟩
theorem RVs.lowV {n : Nat} : ∀ {ds : List D} {xs : List V}, D.lows n ds = true → RVs K w H ds xs → RVs K (w.shut n) H ds xs
  | [], xs, _, r => by unfold RVs at r ⊢; exact r
  | d :: ds, xs, l, r => by
    unfold RVs at r ⊢
    obtain ⟨x, t, e, h1, h2⟩ := r
    have l' : d.low n = true ∧ D.lows n ds = true := by simpa [D.lows] using l
    exact ⟨x, t, e, RV.lowV d x l'.1 h1, RVs.lowV l'.2 h2⟩
theorem ObR.lowV {n : Nat} {o : Ob} {a : Addr} (l : o.low n = true) (r : ObR K w H o a) : ObR K (w.shut n) H o a := by
  cases o with
  | lst xs => obtain ⟨vs, e, r⟩ := r; exact ⟨vs, e, r.lowV l⟩
  | dct ks ds =>
    obtain ⟨vs, e, r⟩ := r
    exact ⟨vs, e, r.lowV (by simpa [Ob.low] using l)⟩
/-- the end of a def's body -/
theorem Rel.shut (E0 : Ext w0 H0 w H) {n : Nat} (hn : w0.ρ.length ≤ n) (R : Rel K w e h σ H) (hl : h.length = n ∨ (h.take n).all (Ob.low n) = true) : Ext w0 H0 (w.shut n) H ∧ Rel K (w.shut n) [] (h.take n) [] H := by
  have same : h.length = n → (w.shut n).ρ = w.ρ := fun q => by
    show w.ρ.take n = w.ρ
    rw [← q, ← R.lenρ, List.take_length]
  refine ⟨.mk' E0.keep E0.tup (fun b m => E0.new b (Wd.shut_M m)) (fun k a q => ?_) E0.tmp E0.lam, ⟨rfl, fun i s q => by simp at q, fun i _ => rfl, ?_, fun k o a q1 q2 => ?_, R.ndρ.sublist (List.take_sublist _ _), fun i j a q => (by cases q), fun i a q => (by cases q), fun a t => ?_, R.ndτ, R.ndl⟩⟩
  · have hk : k < n := Nat.lt_of_lt_of_le (List.getElem?_eq_some_iff.mp q).1 hn
    show (w.ρ.take n)[k]? = _
    rw [List.getElem?_take_of_lt hk]
    exact E0.rho k a q
  · show (w.ρ.take n).length = _
    rw [List.length_take, List.length_take, R.lenρ]
  · have hk : k < n := by
      have := (List.getElem?_eq_some_iff.mp q1).1
      rw [List.length_take] at this
      omega
    have q1' := q1
    rw [List.getElem?_take_of_lt hk] at q1
    have q2' : w.ρ[k]? = some a := by
      have q2' : (w.ρ.take n)[k]? = some a := q2
      rw [List.getElem?_take_of_lt hk] at q2'
      exact q2'
    rcases hl with hl | hl
    · exact (R.obs k o a q1 q2').at (ExtV.less (same hl) fun b m => Wd.shut_M m) fun u hu => hu
    · exact (R.obs k o a q1 q2').lowV (List.all_eq_true.mp hl o (List.mem_of_getElem? q1'))
  · obtain ⟨t1, t2, t3⟩ := R.ndT a t
    exact ⟨fun m => t1 (List.mem_of_mem_take m), fun i z => (by cases z), t3⟩
/-- .. and what it hands back -/
theorem RR.shut {n : Nat} {r : Rv} {x : V} (R : Rel K w e h σ H) (hl : h.length = n ∨ r.low n = true) (k : RR K w [] H r x) : RR K (w.shut n) [] H r x := by
  have same : h.length = n → (w.shut n).ρ = w.ρ := fun q => by
    show w.ρ.take n = w.ρ
    rw [← q, ← R.lenρ, List.take_length]
  cases r with
  | v d =>
    rcases hl with hl | hl
    · exact RV.monoV (ExtV.less (same hl) fun b m => Wd.shut_M m) d x k
    · exact RV.lowV d x hl k
  | bor i => exact k
  | fr o =>
    obtain ⟨a, rfl, t, ob⟩ := k
    refine ⟨a, rfl, t, ?_⟩
    rcases hl with hl | hl
    · exact ob.at (ExtV.less (same hl) fun b m => Wd.shut_M m) fun u hu => hu
    · exact ob.lowV hl
/-- both, trimmed -/
theorem trim_ok {r : Rv} (E0 : Ext w0 H0 w H) {n : Nat} (hn : w0.ρ.length = n) (R : Rel K w e h σ H) : ∃ w2, Ext w0 H0 w2 H ∧ Rel K w2 [] (trim n r h) [] H ∧ ∀ x, RR K w [] H r x → RR K w2 [] H r x := by
  unfold trim
  split
  · rename_i q
    obtain ⟨E2, R2⟩ := Rel.shut E0 (n := n) (by omega) R (.inl q)
    refine ⟨_, E2, ?_, fun x k => k.shut R (.inl q)⟩
    rw [← q, List.take_length] at R2
    rw [← q]
    exact R2
  · split
    · rename_i q
      simp only [Bool.and_eq_true] at q
      obtain ⟨E2, R2⟩ := Rel.shut E0 (n := n) (by omega) R (.inr q.2)
      exact ⟨_, E2, R2, fun x k => k.shut R (.inr q.1)⟩
    · have hle : w.ρ.length = h.length := R.lenρ
      have hge : n ≤ h.length := by
        rw [← hle, ← hn]
        by_cases hz : w0.ρ.length ≤ w.ρ.length
        · exact hz
        · exfalso
          have hlt : w.ρ.length < w0.ρ.length := by omega
          have := E0.rho w.ρ.length _ (List.getElem?_eq_getElem hlt)
          rw [List.getElem?_eq_none (Nat.le_refl _)] at this
          cases this
      obtain ⟨E2, R2⟩ := Rel.shut E0 (n := h.length) (by omega) R (.inl rfl)
      refine ⟨_, E2, ?_, fun x k => k.shut R (.inl rfl)⟩
      rw [List.take_length] at R2
      exact R2
end
end Mp

/-! defs -/
namespace Mp
open PySem L2 PyProof.Rows

section
variable {P : Program} {wd : World} {K : PySem.W.Frag} {mg : Str → Option Value} {base : Heap}
/-- a body, checked: its reading is the interpreter's -/
def BodyOk (P : Program) (wd : World) (K : PySem.W.Frag) (mg : Str → Option Value) (base : Heap) (cl : Cl) (kn : List Str) (N : List Str) (sc : Scope) (body : List Stmt) (F : Nat) (ss : Ss) : Prop :=
  ∀ (X : Cx) (W : WX), X.prog = P → X.w = wd → X.K = K → X.mg = mg → X.base = base → Cz cl kn X N sc (fun _ => true) W → PassesOwn (model X.prog X.w) X.A X.env X.xe → PSs X body (tS X.K X.mg W (evSs cl F ss))
/-- more slots, unset -/
theorem Rel.pad {w : Wd} {e : Ev} {h : AH} {vs : List V} {H : Hp} (R : Rel K w e h (vs.map some) H) (n : Nat) : Rel K w (e ++ List.replicate n .un) h (vs.map some ++ List.replicate n none) H := by
  have hl : e.length = vs.length := by simpa using R.len
  refine ⟨by simp [hl], fun j s q => ?_, fun j hj => R.beyond j (by simp at hj; omega), R.lenρ, R.obs, R.ndρ, R.ndω, R.ndx, R.ndT, R.ndτ, R.ndl⟩
  by_cases hj : j < e.length
  · rw [List.getElem?_append_left hj] at q
    rw [List.getElem?_append_left (by simpa [hl] using hj)]
    exact R.slot j s q
  · rw [List.getElem?_append_right (by omega), List.getElem?_replicate] at q
    split at q
    · cases q
      exact R.beyond j (by omega)
    · cases q
theorem fn_step {i : Nat} {f qual : Str} {st : Stmt} {a : Addr} {fd : FuncData} {N ps : List Str} {k F : Nat} {T : Nat → Option Fn} {Fn' : Fn} {kn : List Str} (Fu : Fun K f qual st a fd) (S : FnScope N ps (defScope st)) (hT : T i = some Fn') (hp : Fn'.np = ps.length) (hs : Fn'.ns = N.length)
    (bn : ∀ x ∈ bnames, mg x = none) (hfs : ∀ g x, kn[g]? = some x → Callee (callN T F k) P wd K mg base k g x) (hb : BodyOk P wd K mg base (callN T F k) kn N (defScope st) (defBody st) F Fn'.body) :
    FnG P wd K mg base (L2.CX P wd) (k + 1) a fd ps (spF K mg (callN T F (k + 1)) i ps.length) := by
  refine fn_ofG Fu S (fun vs H Q E h => h.1) fun cdv A outer s H vs Q E hr hgd hsp => ?_
  obtain ⟨hl, w, ss, h, R, p⟩ := hsp
  refine ⟨_, hb (cxOf (L2.CX P wd) P wd K mg base N qual (defScope st) a cdv A outer s H E) (fun cls d _ H => E cls d H) rfl rfl rfl rfl rfl
    ⟨rfl, rfl, fun _ _ => rfl, S.nd, rfl, ?_, hgd, takes_of rfl rfl rfl rfl, bn, fun g x hg => ⟨k, hr, hfs g x hg⟩⟩ (passes_of rfl), ?_⟩
  · have := hr.un
    show (A.deeper (envOfC qual (defScope st) s.heap.objs.size a cdv)).units + 65 < cLine
    omega
  · have lss : ss.length = vs.length := by
      have := R.len
      simpa using this
    have p1 : PC K mg w H (runF (callN T F k) F Fn' ss h) Q E := by
      have e1 : callN T F (k + 1) i ss h = runF (callN T F k) F Fn' ss h := by
        show (match T i with
          | some F' => runF (callN T F k) F F' ss h
          | none => none) = _
        rw [hT]
      rw [← e1]; exact p
    unfold runF at p1
    rw [if_pos (by rw [lss, hl, hp])] at p1
    have e2 : L2.start N vs = vs.map some ++ List.replicate (Fn'.ns - Fn'.np) none := by
      unfold L2.start
      rw [hs, hp, hl]
    refine ⟨w, ss ++ List.replicate (Fn'.ns - Fn'.np) .un, h, by rw [e2]; exact R.pad _, ?_⟩
    generalize evSs (callN T F k) F Fn'.body (ss ++ List.replicate (Fn'.ns - Fn'.np) .un) h = m at p1 ⊢
    cases m with
    | none => exact p1.elim
    | some oo =>
      cases oo with
      | ex c pp e' h' =>
        intro w' σ' H' C' d' E' R' kx
        refine p1 (w'.shut h'.length) H' C' d' ?_ ?_ ?_
        · exact (Rel.shut E' (n := h'.length) (by
            have := E'.rho
            rw [← R'.lenρ]
            by_cases hz : w.ρ.length ≤ w'.ρ.length
            · exact hz
            · exfalso
              have hlt : w'.ρ.length < w.ρ.length := by omega
              have := E'.rho w'.ρ.length _ (List.getElem?_eq_getElem hlt)
              rw [List.getElem?_eq_none (Nat.le_refl _)] at this
              cases this) R' (.inl rfl)).1
        · have := (Rel.shut (.refl w' H') (n := h'.length) (by rw [R'.lenρ]; exact Nat.le_refl _) R' (.inl rfl)).2
          rw [List.take_length] at this
          exact this
        · refine kx.monoV (ExtV.less ?_ fun b m => Wd.shut_M m) rfl
          show w'.ρ.take h'.length = w'.ρ
          rw [← R'.lenρ, List.take_length]
      | ok fl e' h' =>
        intro w' σ' H' E' R'
        cases fl with
        | bk => exact p1.elim
        | ct => exact p1.elim
        | nx =>
          obtain ⟨w2, E2, R2, k2⟩ := trim_ok (r := .v .non) E' R.lenρ R'
          exact p1 w2 H' .non E2 R2 (by show RV _ _ _ _ _; unfold RV; rfl) trivial
        | rt r =>
          intro x rx nx
          obtain ⟨w2, E2, R2, k2⟩ := trim_ok (r := r) E' R.lenρ R'
          exact p1 w2 H' x E2 R2 (k2 x rx) nx
/-- what is known of a def of the table -/
structure DefOk (P : Program) (wd : World) (K : PySem.W.Frag) (mg : Str → Option Value) (base : Heap) (T : Nat → Option Fn) (F : Nat) (kn : List Str) (i : Nat) (f : Str) : Prop where
  ex : ∃ (Fn' : Fn) (qual : Str) (st : Stmt) (a : Addr) (fd : FuncData) (N ps : List Str), T i = some Fn' ∧ Fn'.np = ps.length ∧ Fn'.ns = N.length ∧ Fun K f qual st a fd ∧ FnScope N ps (defScope st) ∧ mg f = some (.ref a) ∧ Binds K fd ps [] ∧
    ∀ k, BodyOk P wd K mg base (callN T F k) kn N (defScope st) (defBody st) F Fn'.body
theorem callee_of {T : Nat → Option Fn} {F : Nat} {kn : List Str} (bn : ∀ x ∈ bnames, mg x = none) (hd : ∀ i f, kn[i]? = some f → DefOk P wd K mg base T F kn i f) : ∀ k, ∀ i f, kn[i]? = some f → Callee (callN T F k) P wd K mg base k i f
  | 0 => fun i f hf => by
    obtain ⟨Fn', qual, st, a, fd, N, ps, hT, hp, hs, Fu, S, hm, hb, hbody⟩ := (hd i f hf).ex
    refine ⟨ps.length, a, fd, ps, ⟨fun vs H Q E h => h.1, fun A outer s H args us vs Q E hr hgd he hbi hv hsp => ?_⟩, hm, Fu.kp, hb, fun ss h hn => absurd rfl hn⟩
    obtain ⟨_, w, ss, h, R, p⟩ := hsp
    exact p.elim
  | k + 1 => fun i f hf => by
    have ih := callee_of bn hd k
    obtain ⟨Fn', qual, st, a, fd, N, ps, hT, hp, hs, Fu, S, hm, hb, hbody⟩ := (hd i f hf).ex
    refine ⟨ps.length, a, fd, ps, fn_step Fu S hT hp hs bn ih (hbody k), hm, Fu.kp, hb, fun ss h hn => ?_⟩
    have e1 : callN T F (k + 1) i ss h = runF (callN T F k) F Fn' ss h := by
      show (match T i with
        | some F' => runF (callN T F k) F F' ss h
        | none => none) = _
      rw [hT]
    rw [e1] at hn
    unfold runF at hn
    split at hn
    · rename_i q; rw [q, hp]
    · exact absurd rfl hn
end
end Mp

/-! the text and the interpreter's syntax, checked against each other: expressions -/
namespace Mp
open PySem L2 PyProof.Rows

def ownP (N : List Str) (own : List Nat) : List (Str × Nat) := own.map fun i => (N.getD i (PySem.Str.ofString ""), i)
theorem ownP_snd (N : List Str) (own : List Nat) : (ownP N own).map (·.2) = own := by
  unfold ownP
  rw [List.map_map]
  exact (List.map_congr_left fun i _ => rfl).trans (List.map_id own)
def celF (scope : Scope) : Str → Bool := fun x => scope.names.lookup x == some .cell
def isYes : E → Bool
  | .bl true => true
  | _ => false
def notSet : Expr → Bool
  | .Set .. => false
  | _ => true
theorem fold_no {e : Expr} {env : Env} (h : notSet e = true) (x : Value) : foldedSetIterable e env x = pure x := by
  cases e <;> first | rfl | cases h
def plainT : Expr → Bool
  | .UnaryOp .Not .. => false
  | .BoolOp .. => false
  | .IfExp .. => false
  | .Compare .. => false
  | _ => true
theorem isTrue_plain {e : Expr} {env : Env} (h : plainT e = true) (whole : Sem Value) : isTrue e env whole = (do let v ← whole; standAt e.pos; holding [v] (truthy v)) := by
  cases e with
  | UnaryOp o x p => cases o <;> first | rfl | cases h
  | _ => first | rfl | cases h
/-- a name of the built-in ones -/
def glB (sc : Scope) (x : Str) : Bool := sc.names.lookup x == some .globalImplicit
theorem gl_b {sc : Scope} {x : Str} (h : glB sc x = true) : sc.names.lookup x = some .globalImplicit := eq_of_beq h
def isNilE : Es → Bool
  | .nil => true
  | _ => false
theorem nil_t {es : Es} (h : isNilE es = true) : es = .nil := by cases es <;> first | rfl | cases h
mutual
def chkE (N kn : List Str) : E → Scope → (Str → Bool) → Expr → Bool
  | .var i, sc, fnp, pe => chkV N sc i pe
  | .non, sc, fnp, pe => match pe with
    | .Constant .none _ _ => true
    | _ => false
  | .bl b, sc, fnp, pe => match pe with
    | .Constant (.bool c) _ _ => b == c
    | _ => false
  | .int i, sc, fnp, pe => match pe with
    | .Constant (.int j) _ _ => i == j
    | _ => false
  | .str s, sc, fnp, pe => match pe with
    | .Constant (.str t) _ _ => s == t
    | _ => false
  | .neg a, sc, fnp, pe => match pe with
    | .UnaryOp .USub pa _ => chkE N kn a sc fnp pa
    | _ => false
  | .not a, sc, fnp, pe => match pe with
    | .UnaryOp .Not pa _ => chkE N kn a sc fnp pa
    | _ => false
  | .bin o a b, sc, fnp, pe => match pe with
    | .BinOp pa op pb _ => decide (op = opOf o) && (chkE N kn a sc fnp pa && chkE N kn b sc fnp pb)
    | _ => false
  | .cmp o a b, sc, fnp, pe => match pe with
    | .Compare pa ops pbs _ => match ops, pbs with
      | [op], [pb] => decide (op = cmOf o) && (!behindInMarks (cmOf o) pb && (chkE N kn a sc fnp pa && chkE N kn b sc fnp pb))
      | _, _ => false
    | _ => false
  | .chain o o' a b c, sc, fnp, pe => match pe with
    | .Compare pa ops pbs _ => match ops, pbs with
      | [op, op'], [pb, pc] => decide (op = cmOf o) && (decide (op' = cmOf o') && (!behindInMarks (cmOf o') pc && (chkE N kn a sc fnp pa && (chkE N kn b sc fnp pb && chkE N kn c sc fnp pc))))
      | _, _ => false
    | _ => false
  | .and a b, sc, fnp, pe => match pe with
    | .BoolOp .And vs pos => match vs with
      | [pa, pb] => chkE N kn a sc fnp pa && chkE N kn b sc fnp pb
      | pa :: pb :: pc :: rest => chkE N kn a sc fnp pa && chkE N kn b sc fnp (.BoolOp .And (pb :: pc :: rest) pos)
      | _ => false
    | _ => false
  | .or a b, sc, fnp, pe => match pe with
    | .BoolOp .Or vs pos => match vs with
      | [pa, pb] => chkE N kn a sc fnp pa && chkE N kn b sc fnp pb
      | pa :: pb :: pc :: rest => chkE N kn a sc fnp pa && chkE N kn b sc fnp (.BoolOp .Or (pb :: pc :: rest) pos)
      | _ => false
    | _ => false
  | .ite c a b, sc, fnp, pe => match pe with
    | .IfExp pc pa pb _ => chkE N kn c sc fnp pc && (chkE N kn a sc fnp pa && chkE N kn b sc fnp pb)
    | _ => false
  | .tup es, sc, fnp, pe => match pe with
    | .Tuple pes _ _ => chkD N kn es sc fnp pes
    | _ => false
  | .lst es, sc, fnp, pe => match pe with
    | .List pes _ => chkD N kn es sc fnp pes
    | _ => false
  | .ix a i, sc, fnp, pe => match pe with
    | .Subscript pa pi _ => notSlice pi && (chkE N kn a sc fnp pa && chkE N kn i sc fnp pi)
    | _ => false
  | .call f es, sc, fnp, pe => match pe with
    | .Call pf pes ks _ => match pf, ks with
      | .Name g _, [] => kn[f]? == some g && (glB sc g && (okN g && chkR N kn es sc fnp pes))
      | _, _ => false
    | _ => false
  | .bi b es, sc, fnp, pe => match pe with
    | .Call pf pes ks _ => match pf, ks with
      | .Name g _, [] => g == PySem.Str.ofString (biName b) && (glB sc g && (!pes.isEmpty && chkR N kn es sc fnp pes))
      | _, _ => false
    | _ => false
  | .me m o es, sc, fnp, pe => match pe with
    | .Call pf pes ks pos => match pf, ks with
      | .Attribute po name apos, [] => name == PySem.Str.ofString (meName m) && (notCall0 po && (decide (pes.length < 30) && (apos.endLine == pos.line && (chkE N kn o sc fnp po && chkR N kn es sc fnp pes))))
      | _, _ => false
    | _ => false
  | .isi a t, sc, fnp, pe => match pe with
    | .Call pf pes ks _ => match pf, pes, ks with
      | .Name g _, [pa, .Name y _], [] => g == PySem.Str.ofString "isinstance" && (y == PySem.Str.ofString (tyN t) && (glB sc g && (glB sc y && (noStar pa && chkE N kn a sc fnp pa))))
      | _, _, _ => false
    | _ => false
  | .comp elt own g it c, sc, fnp, pe => match pe with
    | .ListComp pe gs scope _ => match gs with
      | [⟨tg, iter, ifs, asy⟩] => asy == 0 && (chkI N kn it sc fnp tg iter && (blkC N sc scope (ownP N own) && (chkG N (relS scope sc) (celF scope) g tg && (g.ts.all (own.contains ·) && ((match ifs with
        | [] => isYes c
        | [pc] => chkE N kn c (relS scope sc) (celF scope) pc
        | _ => false) && (chkE N kn elt (relS scope sc) (celF scope) pe && notSet iter))))))
      | _ => false
    | _ => false
  | .shr a, sc, fnp, pe => plainT pe && chkE N kn a sc fnp pe
  | .dct tk kvs, sc, fnp, pe => match pe with
    | .Dict keys vals _ => match keys with
      | [] => vals.isEmpty && isNilE kvs
      | k :: ks => !tk && (keys.all (·.isSome) && (decide (keys.length = vals.length) && (decide (keys.length ≤ 15) && chkP N kn kvs sc fnp keys vals)))
    | _ => false
  | .rev a, sc, fnp, pe => match pe with
    | .Subscript pa ps _ => match ps with
      | .Slice none none (some (.UnaryOp .USub (.Constant (.int 1) _ _) _)) _ => chkE N kn a sc fnp pa
      | _ => false
    | _ => false
  | .sl a lo hi, sc, fnp, pe => match pe with
    | .Subscript pa ps _ => match ps with
      | .Slice plo phi none _ => chkE N kn a sc fnp pa && (chkO N kn lo sc fnp plo && chkO N kn hi sc fnp phi)
      | _ => false
    | _ => false
  | .bad, _, _, _ => true
  | .lit tp (.rng1 a), sc, fnp, pe => match pe with
    | .Call pf pes ks _ => match pf, pes, ks with
      | .Name g _, [.Call pf2 pes2 ks2 _], [] => (match pf2, pes2, ks2 with
        | .Name g2 _, [pa], [] => g == nmRg tp && (g2 == PySem.Str.ofString "range" && (glB sc g && (glB sc g2 && (noStar pa && chkE N kn a sc fnp pa))))
        | _, _, _ => false)
      | _, _, _ => false
    | _ => false
  | .lit tp (.rng2 a b), sc, fnp, pe => match pe with
    | .Call pf pes ks _ => match pf, pes, ks with
      | .Name g _, [.Call pf2 pes2 ks2 _], [] => (match pf2, pes2, ks2 with
        | .Name g2 _, [pa, pb], [] => g == nmRg tp && (g2 == PySem.Str.ofString "range" && (glB sc g && (glB sc g2 && (noStar pa && (noStar pb && (chkE N kn a sc fnp pa && chkE N kn b sc fnp pb))))))
        | _, _, _ => false)
      | _, _, _ => false
    | _ => false
  | .lit _ _, _, _, _ => false
def chkR (N kn : List Str) : Es → Scope → (Str → Bool) → List Expr → Bool
  | .nil, sc, fnp, pes => pes.isEmpty
  | .cons star a r, sc, fnp, pes => match pes with
    | pa :: pes => !star && (noStar pa && (chkE N kn a sc fnp pa && chkR N kn r sc fnp pes))
    | [] => false
def chkD (N kn : List Str) : Es → Scope → (Str → Bool) → List Expr → Bool
  | .nil, sc, fnp, pes => pes.isEmpty
  | .cons star a r, sc, fnp, pes => match pes with
    | pa :: pes => (match star, pa with
      | true, .Starred px _ => chkE N kn a sc fnp px
      | false, pa => noStar pa && chkE N kn a sc fnp pa
      | _, _ => false) && chkD N kn r sc fnp pes
    | [] => false
/-- a slice's part -/
def chkO (N kn : List Str) : Es → Scope → (Str → Bool) → Option Expr → Bool
  | .nil, sc, fnp, pe => pe.isNone
  | .cons star a r, sc, fnp, pe => match pe with
    | some pa => !star && (isNilE r && chkE N kn a sc fnp pa)
    | none => false
/-- a dict display's pairs -/
def chkP (N kn : List Str) : Es → Scope → (Str → Bool) → List (Option Expr) → List Expr → Bool
  | .nil, sc, fnp, keys, vals => keys.isEmpty && vals.isEmpty
  | .cons false k (.cons false v r), sc, fnp, keys, vals => match keys, vals with
    | some pk :: keys, pv :: vals => chkE N kn k sc fnp pk && (chkE N kn v sc fnp pv && chkP N kn r sc fnp keys vals)
    | _, _ => false
  | _, _, _, _, _ => false
def chkI (N kn : List Str) : It → Scope → (Str → Bool) → Expr → Expr → Bool
  | .e a, sc, fnp, tg, pe => chkE N kn a sc fnp pe
  | .rng1 a, sc, fnp, tg, pe => match pe with
    | .Call pf pes ks _ => match pf, pes, ks with
      | .Name g _, [pa], [] => g == PySem.Str.ofString "range" && (glB sc g && (noStar pa && chkE N kn a sc fnp pa))
      | _, _, _ => false
    | _ => false
  | .rng2 a b, sc, fnp, tg, pe => match pe with
    | .Call pf pes ks _ => match pf, pes, ks with
      | .Name g _, [pa, pb], [] => g == PySem.Str.ofString "range" && (glB sc g && (noStar pa && (noStar pb && (chkE N kn a sc fnp pa && chkE N kn b sc fnp pb))))
      | _, _, _ => false
    | _ => false
  | .rng3 a b c, sc, fnp, tg, pe => match pe with
    | .Call pf pes ks _ => match pf, pes, ks with
      | .Name g _, [pa, pb, pc], [] => g == PySem.Str.ofString "range" && (glB sc g && (noStar pa && (noStar pb && (noStar pc && (chkE N kn a sc fnp pa && (chkE N kn b sc fnp pb && chkE N kn c sc fnp pc))))))
      | _, _, _ => false
    | _ => false
  | .enum a, sc, fnp, tg, pe => match tg with
    | .Tuple _ _ _ => match pe with
      | .Call pf pes ks _ => match pf, pes, ks with
        | .Name g _, [pa], [] => g == PySem.Str.ofString "enumerate" && (glB sc g && (noStar pa && chkE N kn a sc fnp pa))
        | _, _, _ => false
      | _ => false
    | _ => false
  | .zip a b st, sc, fnp, tg, pe => match tg with
    | .Tuple _ _ _ => match pe with
      | .Call pf pes ks _ => match pf, pes with
        | .Name g _, [pa, pb] => g == PySem.Str.ofString "zip" && (glB sc g && (noStar pa && (noStar pb && (chkE N kn a sc fnp pa && (chkE N kn b sc fnp pb && (match ks with
          | [] => !st
          | [⟨some x, .Constant (.bool true) _ _, _⟩] => st && x == PySem.Str.ofString "strict"
          | _ => false))))))
        | _, _ => false
      | _ => false
    | _ => false
  | _, _, _, _, _ => false
end
theorem and_t {a b : Bool} (h : (a && b) = true) : a = true ∧ b = true := by simpa using h
theorem not_t {a : Bool} (h : (!a) = true) : a = false := by simpa using h
theorem chkR_star {N kn : List Str} : ∀ {es : Es} {sc : Scope} {fnp : Str → Bool} {pes : List Expr}, chkR N kn es sc fnp pes = true → pes.all noStar = true
  | .nil, sc, fnp, [], h => rfl
  | .nil, sc, fnp, _ :: _, h => by simp [chkR] at h
  | .cons st a r, sc, fnp, [], h => by simp [chkR] at h
  | .cons st a r, sc, fnp, pa :: pes, h => by
    simp only [chkR] at h
    obtain ⟨h1, h⟩ := and_t h
    obtain ⟨h2, h⟩ := and_t h
    obtain ⟨h3, h⟩ := and_t h
    rw [List.all_cons, h2, chkR_star h]
    rfl
section
variable {cl : Cl} {kn N : List Str}
theorem both {X : Cx} {pe : Expr} {W : WX} {m : Ev → AH → Option (O Rv)} (h : PE X pe (tE X.K X.mg W m)) (hp : plainT pe = true) : PE X pe (tE X.K X.mg W m) ∧ PT X pe (tT X.K X.mg W m) := ⟨h, pt_plainM h (isTrue_plain hp)⟩
theorem pe_constM {X : Cx} {W : WX} {c : Const} {j : Nat} {pos : Pos} {d : D} {x : V} {m : Ev → AH → Option (O Rv)} (hm : ∀ e h, m e h = some (.ok (.v d) e h)) (hr : ∀ K w H, RV K w H d x) (h : PE X (.Constant c j pos) (tC x)) : PE X (.Constant c j pos) (tE X.K X.mg W m) :=
  PE.imp h fun σ H Q q => tE_const hm hr q
mutual
theorem okE : ∀ (e : E) (pe : Expr) {sc : Scope} {fnp : Str → Bool} {X : Cx} {W : WX}, Cz cl kn X N sc fnp W → chkE N kn e sc fnp pe = true → PE X pe (tE X.K X.mg W (evE cl e)) ∧ PT X pe (tT X.K X.mg W (evE cl e))
  | .var i, pe, sc, fnp, X, W, C, h => by
    simp only [chkE] at h
    refine both (pe_varM C h) ?_
    cases pe <;> first | rfl | cases h
  | .non, pe, sc, fnp, X, W, C, h => by
    simp only [chkE] at h
    split at h
    · exact both (pe_constM (fun _ _ => rfl) (fun _ _ _ => by unfold RV; rfl) pe_non) rfl
    · cases h
  | .bl b, pe, sc, fnp, X, W, C, h => by
    simp only [chkE] at h
    split at h
    · rename_i c j p
      cases eq_of_beq h
      exact both (pe_constM (fun _ _ => rfl) (fun _ _ _ => by unfold RV; rfl) pe_bl) rfl
    · cases h
  | .int i, pe, sc, fnp, X, W, C, h => by
    simp only [chkE] at h
    split at h
    · rename_i c j p
      cases eq_of_beq h
      exact both (pe_constM (fun _ _ => rfl) (fun _ _ _ => by unfold RV; rfl) pe_int) rfl
    · cases h
  | .str s, pe, sc, fnp, X, W, C, h => by
    simp only [chkE] at h
    split at h
    · rename_i c j p
      cases eq_of_beq h
      exact both (pe_constM (fun _ _ => rfl) (fun _ _ _ => by unfold RV; rfl) pe_str) rfl
    · cases h
  | .neg a, pe, sc, fnp, X, W, C, h => by
    simp only [chkE] at h
    split at h
    · exact both (pe_negM (okE a _ C h).1) rfl
    · cases h
  | .not a, pe, sc, fnp, X, W, C, h => by
    simp only [chkE] at h
    split at h
    · exact ⟨pe_notM (okE a _ C h).1, pt_notM (okE a _ C h).2⟩
    · cases h
  | .bin o a b, pe, sc, fnp, X, W, C, h => by
    simp only [chkE] at h
    split at h
    · obtain ⟨h1, h⟩ := and_t h
      obtain ⟨h2, h3⟩ := and_t h
      cases of_decide_eq_true h1
      exact both (pe_binM o (okE a _ C h2).1 (okE b _ C h3).1) rfl
    · cases h
  | .cmp o a b, pe, sc, fnp, X, W, C, h => by
    simp only [chkE] at h
    split at h
    · split at h
      · obtain ⟨h1, h⟩ := and_t h
        obtain ⟨h2, h⟩ := and_t h
        obtain ⟨h3, h4⟩ := and_t h
        cases of_decide_eq_true h1
        exact ⟨pe_cmpM C o (okE a _ C h3).1 (okE b _ C h4).1 (not_t h2), pt_cmpM C o (okE a _ C h3).1 (okE b _ C h4).1 (not_t h2)⟩
      · cases h
    · cases h
  | .chain o o' a b c, pe, sc, fnp, X, W, C, h => by
    simp only [chkE] at h
    split at h
    · split at h
      · obtain ⟨h1, h⟩ := and_t h
        obtain ⟨h1', h⟩ := and_t h
        obtain ⟨h2, h⟩ := and_t h
        obtain ⟨h3, h⟩ := and_t h
        obtain ⟨h4, h5⟩ := and_t h
        cases of_decide_eq_true h1
        cases of_decide_eq_true h1'
        exact ⟨pe_chainM C o o' (okE a _ C h3).1 (okE b _ C h4).1 (okE c _ C h5).1 (not_t h2), pt_chainM C o o' (okE a _ C h3).1 (okE b _ C h4).1 (okE c _ C h5).1 (not_t h2)⟩
      · cases h
    · cases h
  | .and a b, pe, sc, fnp, X, W, C, h => by
    simp only [chkE] at h
    split at h
    · split at h
      · obtain ⟨h1, h2⟩ := and_t h
        exact ⟨pe_andM (okE a _ C h1).1 (pe_one (okE b _ C h2).1), pt_andM (okE a _ C h1).2 (pw_and1 (okE b _ C h2).2)⟩
      · obtain ⟨h1, h2⟩ := and_t h
        exact ⟨pe_andM (okE a _ C h1).1 (okE b _ C h2).1, pt_andM (okE a _ C h1).2 (PW.of_bool (okE b _ C h2).2)⟩
      · cases h
    · cases h
  | .or a b, pe, sc, fnp, X, W, C, h => by
    simp only [chkE] at h
    split at h
    · split at h
      · obtain ⟨h1, h2⟩ := and_t h
        exact ⟨pe_orM (okE a _ C h1).1 (pe_one (okE b _ C h2).1), pt_orM (okE a _ C h1).2 (pw_or1 (okE b _ C h2).2)⟩
      · obtain ⟨h1, h2⟩ := and_t h
        exact ⟨pe_orM (okE a _ C h1).1 (okE b _ C h2).1, pt_orM (okE a _ C h1).2 (PW.of_bool (okE b _ C h2).2)⟩
      · cases h
    · cases h
  | .ite c a b, pe, sc, fnp, X, W, C, h => by
    simp only [chkE] at h
    split at h
    · obtain ⟨h1, h⟩ := and_t h
      obtain ⟨h2, h3⟩ := and_t h
      exact ⟨pe_iteM (okE c _ C h1).2 (okE a _ C h2).1 (okE b _ C h3).1, pt_iteM (okE c _ C h1).2 (okE a _ C h2).2 (okE b _ C h3).2⟩
    · cases h
  | .tup es, pe, sc, fnp, X, W, C, h => by
    simp only [chkE] at h
    split at h
    · exact both (pe_tupM (okD es _ C h)) rfl
    · cases h
  | .lst es, pe, sc, fnp, X, W, C, h => by
    simp only [chkE] at h
    split at h
    · exact both (pe_lstM (okD es _ C h)) rfl
    · cases h
  | .ix a i, pe, sc, fnp, X, W, C, h => by
    simp only [chkE] at h
    split at h
    · obtain ⟨h1, h⟩ := and_t h
      obtain ⟨h2, h3⟩ := and_t h
      exact both (pe_ixM C (okE a _ C h2).1 (okE i _ C h3).1 h1) rfl
    · cases h
  | .call f es, pe, sc, fnp, X, W, C, h => by
    simp only [chkE] at h
    split at h
    · split at h
      · rename_i pes pos _ _ g p1
        obtain ⟨h1, h⟩ := and_t h
        obtain ⟨h3, h⟩ := and_t h
        obtain ⟨h4, h5⟩ := and_t h
        have hk : kn[f]? = some g := eq_of_beq h1
        cases pes with
        | nil =>
          cases es with
          | nil => exact both (pe_call0M C hk (gl_b h3) h4) rfl
          | cons st a r => simp [chkR] at h5
        | cons pa pes => exact both (pe_callM C hk (gl_b h3) h4 (okR es _ C h5) (chkR_star h5)) rfl
      · cases h
    · cases h
  | .bi b es, pe, sc, fnp, X, W, C, h => by
    simp only [chkE] at h
    split at h
    · split at h
      · rename_i pes pos _ _ g p1
        obtain ⟨h1, h⟩ := and_t h
        obtain ⟨h2, h⟩ := and_t h
        obtain ⟨h3, h4⟩ := and_t h
        cases pes with
        | nil => cases h3
        | cons pa pes => exact both (pe_biM C b (eq_of_beq h1) (gl_b h2) (okR es _ C h4) (chkR_star h4)) rfl
      · cases h
    · cases h
  | .me m o es, pe, sc, fnp, X, W, C, h => by
    simp only [chkE] at h
    split at h
    · split at h
      · rename_i pes pos _ _ po name apos
        obtain ⟨h1, h⟩ := and_t h
        obtain ⟨h2, h⟩ := and_t h
        obtain ⟨h3, h⟩ := and_t h
        obtain ⟨h4, h⟩ := and_t h
        obtain ⟨h5, h6⟩ := and_t h
        cases pes with
        | nil =>
          cases es with
          | nil => exact both (pe_me0M m (eq_of_beq h1) (okE o _ C h5).1 h2 h4) rfl
          | cons st a r => simp [chkR] at h6
        | cons pa pes => exact both (pe_meM m (eq_of_beq h1) (okE o _ C h5).1 (okR es _ C h6) h2 (chkR_star h6) (of_decide_eq_true h3) h4) rfl
      · cases h
    · cases h
  | .isi a t, pe, sc, fnp, X, W, C, h => by
    simp only [chkE] at h
    split at h
    · split at h
      · obtain ⟨h1, h⟩ := and_t h
        obtain ⟨h2, h⟩ := and_t h
        obtain ⟨h3, h⟩ := and_t h
        obtain ⟨h4, h⟩ := and_t h
        obtain ⟨h5, h6⟩ := and_t h
        cases eq_of_beq h1
        exact both (pe_isiM C t (eq_of_beq h2) (gl_b h3) (gl_b h4) (okE a _ C h6).1 h5) rfl
      · cases h
    · cases h
  | .comp elt own g it c, pe, sc, fnp, X, W, C, h => by
    simp only [chkE] at h
    split at h
    · split at h
      · rename_i pe scope pos gs tg iter ifs asy
        obtain ⟨h1, h⟩ := and_t h
        obtain ⟨h2, h⟩ := and_t h
        obtain ⟨h3, h⟩ := and_t h
        obtain ⟨h4, h⟩ := and_t h
        obtain ⟨h5, h⟩ := and_t h
        obtain ⟨h6, h⟩ := and_t h
        obtain ⟨h7, h8⟩ := and_t h
        cases eq_of_beq h1
        have hts : ∀ i ∈ g.ts, i ∈ own := fun i hi => List.contains_iff_mem.mp (List.all_eq_true.mp h5 i hi)
        have he : ∀ X', Cz cl kn X' N (relS scope sc) (fun x => scope.names.lookup x == some .cell) W0 → X'.K = X.K → X'.mg = X.mg → PE X' pe (tE X'.K X'.mg W0 (evE cl elt)) := fun X' C' _ _ => (okE elt pe C' h7).1
        split at h6
        · have hy : c = .bl true := by
            unfold isYes at h6
            split at h6
            · rfl
            · cases h6
          subst hy
          refine both (pe_compM C (okI it iter tg C h2) h3 (ownP_snd N own) h4 hts (fun X' _ _ _ => pts_nil) (fun σ H Q q => ?_) he (fold_no h8)) rfl
          obtain ⟨w, e, hh, R, p⟩ := q
          simp only [evE] at p
          obtain ⟨b, hb, hQ⟩ := p.ok (.refl _ _) R
          cases hb
          exact hQ
        · refine both (pe_compM C (okI it iter tg C h2) h3 (ownP_snd N own) h4 hts (tt := tT X.K X.mg W0 (evE cl c)) (fun X' C' ek em => ?_) (fun σ H Q q => q) he (fold_no h8)) rfl
          rw [← ek, ← em]
          exact pts_one (okE c _ C' h6).2
        · cases h6
      · cases h
    · cases h
  | .shr a, pe, sc, fnp, X, W, C, h => by
    simp only [chkE] at h
    obtain ⟨h1, h2⟩ := and_t h
    exact both (pe_shrM (okE a pe C h2).1) h1
  | .dct tk kvs, pe, sc, fnp, X, W, C, h => by
    simp only [chkE] at h
    split at h
    · split at h
      · rename_i vals _ _
        obtain ⟨h1, h2⟩ := and_t h
        cases nil_t h2
        cases vals with
        | cons _ _ => cases h1
        | nil => exact both pe_dct0M rfl
      · obtain ⟨h1, h⟩ := and_t h
        obtain ⟨h2, h⟩ := and_t h
        obtain ⟨h3, h⟩ := and_t h
        obtain ⟨h4, h5⟩ := and_t h
        cases not_t h1
        exact both (pe_dctM (okP kvs _ _ C h5) h2 (of_decide_eq_true h3) (by simp) (of_decide_eq_true h4)) rfl
    · cases h
  | .rev a, pe, sc, fnp, X, W, C, h => by
    simp only [chkE] at h
    split at h
    · split at h
      · exact both (pe_revM (okE a _ C h).1) rfl
      · cases h
    · cases h
  | .sl a lo hi, pe, sc, fnp, X, W, C, h => by
    simp only [chkE] at h
    split at h
    · split at h
      · obtain ⟨h1, h⟩ := and_t h
        obtain ⟨h2, h3⟩ := and_t h
        exact both (pe_slM (okE a _ C h1).1 (okO lo _ C h2).1 (okO hi _ C h3).1 (okO lo _ C h2).2 (okO hi _ C h3).2) rfl
      · cases h
    · cases h
  | .bad, pe, sc, fnp, X, W, C, h => ⟨pe_badM, pt_badM⟩
  | .lit tp (.rng1 a), pe, sc, fnp, X, W, C, h => by
    simp only [chkE] at h
    split at h
    · split at h
      · split at h
        · obtain ⟨h1, h⟩ := and_t h
          obtain ⟨h2, h⟩ := and_t h
          obtain ⟨h3, h⟩ := and_t h
          obtain ⟨h4, h⟩ := and_t h
          obtain ⟨h5, h6⟩ := and_t h
          cases eq_of_beq h1
          cases eq_of_beq h2
          exact both (pe_lit1M C tp (gl_b h3) (gl_b h4) (okE a _ C h6).1 h5) rfl
        · cases h
      · cases h
    · cases h
  | .lit tp (.rng2 a b), pe, sc, fnp, X, W, C, h => by
    simp only [chkE] at h
    split at h
    · split at h
      · split at h
        · obtain ⟨h1, h⟩ := and_t h
          obtain ⟨h2, h⟩ := and_t h
          obtain ⟨h3, h⟩ := and_t h
          obtain ⟨h4, h⟩ := and_t h
          obtain ⟨h5, h⟩ := and_t h
          obtain ⟨h6, h⟩ := and_t h
          obtain ⟨h7, h8⟩ := and_t h
          cases eq_of_beq h1
          cases eq_of_beq h2
          exact both (pe_lit2M C tp (gl_b h3) (gl_b h4) (okE a _ C h7).1 (okE b _ C h8).1 h5 h6) rfl
        · cases h
      · cases h
    · cases h
  | .lit _ (.e _), pe, sc, fnp, X, W, C, h => by simp [chkE] at h
  | .lit _ (.rng3 _ _ _), pe, sc, fnp, X, W, C, h => by simp [chkE] at h
  | .lit _ (.enum _), pe, sc, fnp, X, W, C, h => by simp [chkE] at h
  | .lit _ (.zip _ _ _), pe, sc, fnp, X, W, C, h => by simp [chkE] at h
  | .lit _ (.items _), pe, sc, fnp, X, W, C, h => by simp [chkE] at h
  | .lit _ (.values _), pe, sc, fnp, X, W, C, h => by simp [chkE] at h
theorem okR : ∀ (es : Es) (pes : List Expr) {sc : Scope} {fnp : Str → Bool} {X : Cx} {W : WX}, Cz cl kn X N sc fnp W → chkR N kn es sc fnp pes = true → PA X pes (tR X.K X.mg W (evR cl es))
  | .nil, pes, sc, fnp, X, W, C, h => by
    simp only [chkR] at h
    cases pes with
    | nil => exact pa_nilM
    | cons _ _ => cases h
  | .cons st a r, pes, sc, fnp, X, W, C, h => by
    simp only [chkR] at h
    cases pes with
    | nil => cases h
    | cons pa pes =>
      obtain ⟨h1, h⟩ := and_t h
      obtain ⟨h2, h⟩ := and_t h
      obtain ⟨h3, h4⟩ := and_t h
      cases not_t h1
      exact pa_consM (okE a pa C h3).1 (okR r pes C h4) h2
theorem okD : ∀ (es : Es) (pes : List Expr) {sc : Scope} {fnp : Str → Bool} {X : Cx} {W : WX}, Cz cl kn X N sc fnp W → chkD N kn es sc fnp pes = true → PA X pes (tD X.K X.mg W (evD cl es))
  | .nil, pes, sc, fnp, X, W, C, h => by
    simp only [chkD] at h
    cases pes with
    | nil => exact pa_nilD
    | cons _ _ => cases h
  | .cons st a r, pes, sc, fnp, X, W, C, h => by
    simp only [chkD] at h
    cases pes with
    | nil => cases h
    | cons pa pes =>
      obtain ⟨h1, h4⟩ := and_t h
      split at h1
      · exact pa_starD (okE a _ C h1).1 (okD r pes C h4)
      · obtain ⟨h2, h3⟩ := and_t h1
        exact pa_consD (okE a pa C h3).1 (okD r pes C h4) h2
      · cases h1
theorem okO : ∀ (es : Es) (pe : Option Expr) {sc : Scope} {fnp : Str → Bool} {X : Cx} {W : WX}, Cz cl kn X N sc fnp W → chkO N kn es sc fnp pe = true → L2.PO X pe (partT cl X.K X.mg W es) ∧ (es = .nil ∨ ∃ a, es = .cons false a .nil)
  | .nil, pe, sc, fnp, X, W, C, h => by
    simp only [chkO] at h
    cases pe with
    | none => exact ⟨po_none, .inl rfl⟩
    | some _ => cases h
  | .cons st a r, pe, sc, fnp, X, W, C, h => by
    simp only [chkO] at h
    cases pe with
    | none => cases h
    | some pa =>
      obtain ⟨h1, h⟩ := and_t h
      obtain ⟨h2, h3⟩ := and_t h
      cases not_t h1
      cases nil_t h2
      exact ⟨po_some (okE a pa C h3).1, .inr ⟨a, rfl⟩⟩
theorem okP : ∀ (es : Es) (keys : List (Option Expr)) (vals : List Expr) {pos : Pos} {sc : Scope} {fnp : Str → Bool} {X : Cx} {W : WX}, Cz cl kn X N sc fnp W → chkP N kn es sc fnp keys vals = true → PPs X pos keys vals (trsE cl X.K X.mg W es)
  | .nil, keys, vals, pos, sc, fnp, X, W, C, h => by
    simp only [chkP] at h
    obtain ⟨h1, h2⟩ := and_t h
    cases keys with
    | cons _ _ => cases h1
    | nil =>
      cases vals with
      | cons _ _ => cases h2
      | nil => exact pps_nil
  | .cons false k (.cons false v r), keys, vals, pos, sc, fnp, X, W, C, h => by
    simp only [chkP] at h
    split at h
    · obtain ⟨h1, h⟩ := and_t h
      obtain ⟨h2, h3⟩ := and_t h
      exact pps_cons (okE k _ C h1).1 (okE v _ C h2).1 (okP r _ _ C h3)
    · cases h
  | .cons true _ _, keys, vals, pos, sc, fnp, X, W, C, h => by simp [chkP] at h
  | .cons false _ .nil, keys, vals, pos, sc, fnp, X, W, C, h => by simp [chkP] at h
  | .cons false _ (.cons true _ _), keys, vals, pos, sc, fnp, X, W, C, h => by simp [chkP] at h
theorem okI : ∀ (it : It) (pe tg : Expr) {sc : Scope} {fnp : Str → Bool} {X : Cx} {W : WX}, Cz cl kn X N sc fnp W → chkI N kn it sc fnp tg pe = true → PI X tg pe (tI X.K X.mg W (evI cl it))
  | .e a, pe, tg, sc, fnp, X, W, C, h => by
    simp only [chkI] at h
    exact pi_eM (okE a pe C h).1
  | .rng1 a, pe, tg, sc, fnp, X, W, C, h => by
    simp only [chkI] at h
    split at h
    · split at h
      · obtain ⟨h1, h⟩ := and_t h
        obtain ⟨h2, h⟩ := and_t h
        obtain ⟨h3, h4⟩ := and_t h
        cases eq_of_beq h1
        exact pi_rng1M C (gl_b h2) (okE a _ C h4).1 h3
      · cases h
    · cases h
  | .rng2 a b, pe, tg, sc, fnp, X, W, C, h => by
    simp only [chkI] at h
    split at h
    · split at h
      · obtain ⟨h1, h⟩ := and_t h
        obtain ⟨h2, h⟩ := and_t h
        obtain ⟨h3, h⟩ := and_t h
        obtain ⟨h4, h⟩ := and_t h
        obtain ⟨h5, h6⟩ := and_t h
        cases eq_of_beq h1
        exact pi_rng2M C (gl_b h2) (okE a _ C h5).1 (okE b _ C h6).1 h3 h4
      · cases h
    · cases h
  | .rng3 a b c, pe, tg, sc, fnp, X, W, C, h => by
    simp only [chkI] at h
    split at h
    · split at h
      · obtain ⟨h1, h⟩ := and_t h
        obtain ⟨h2, h⟩ := and_t h
        obtain ⟨h3, h⟩ := and_t h
        obtain ⟨h4, h⟩ := and_t h
        obtain ⟨h5, h⟩ := and_t h
        obtain ⟨h6, h⟩ := and_t h
        obtain ⟨h7, h8⟩ := and_t h
        cases eq_of_beq h1
        exact pi_rng3M C (gl_b h2) (okE a _ C h6).1 (okE b _ C h7).1 (okE c _ C h8).1 h3 h4 h5
      · cases h
    · cases h
  | .enum a, pe, tg, sc, fnp, X, W, C, h => by
    simp only [chkI] at h
    split at h
    · split at h
      · split at h
        · obtain ⟨h1, h⟩ := and_t h
          obtain ⟨h2, h⟩ := and_t h
          obtain ⟨h3, h4⟩ := and_t h
          cases eq_of_beq h1
          exact pi_enumM C (gl_b h2) (okE a _ C h4).1 h3
        · cases h
      · cases h
    · cases h
  | .zip a b st, pe, tg, sc, fnp, X, W, C, h => by
    simp only [chkI] at h
    split at h
    · split at h
      · split at h
        · obtain ⟨h1, h⟩ := and_t h
          obtain ⟨h2, h⟩ := and_t h
          obtain ⟨h3, h⟩ := and_t h
          obtain ⟨h4, h⟩ := and_t h
          obtain ⟨h5, h⟩ := and_t h
          obtain ⟨h6, h7⟩ := and_t h
          cases eq_of_beq h1
          split at h7
          · cases not_t h7
            exact pi_zipM C (gl_b h2) (okE a _ C h5).1 (okE b _ C h6).1 h3 h4
          · obtain ⟨h8, h9⟩ := and_t h7
            cases h8
            cases eq_of_beq h9
            exact pi_zipSM C (gl_b h2) (okE a _ C h5).1 (okE b _ C h6).1 h3 h4
          · cases h7
        · cases h
      · cases h
    · cases h
  | .items _, pe, tg, sc, fnp, X, W, C, h => by simp [chkI] at h
  | .values _, pe, tg, sc, fnp, X, W, C, h => by simp [chkI] at h
end
end
end Mp

/-! the text and the interpreter's syntax, checked against each other: statements -/
namespace Mp
open PySem L2 PyProof.Rows

def nmOf : Expr → Str
  | .Name x _ => x
  | _ => PySem.Str.ofString ""
def isCompE : E → Bool
  | .comp .. => true
  | _ => false
mutual
def chkS (N kn : List Str) (sc : Scope) (fnp : Str → Bool) : S → Stmt → Bool
  | .expr e, st => match st with
    | .Expr pe _ => notComp pe && chkE N kn e sc fnp pe
    | _ => false
  | .asg g e, st => match st with
    | .Assign ts pe _ => match ts with
      | [pt] => match g with
        | .nm i => chkN N sc fnp i pt && (chkE N kn e sc fnp pe && (notComp pe || ((swaps sc pt pe).2 || (isCompE e && (swaps sc pt pe).1))))
        | .tp gs => match pt with
          | .Tuple us k p => chkG N sc fnp (.tp gs) (.Tuple us k p) && (chkE N kn e sc fnp pe && (notComp pe && noSwap sc us pe))
          | _ => false
      | _ => false
    | _ => false
  | .par js es, st => match st with
    | .Assign ts pe _ => match ts, pe with
      | [.Tuple us _ _], .Tuple vs _ _ => match js, us, vs with
        | [i, j], [t1, t2], [pa, pb] => chkN N sc fnp i t1 && (chkN N sc fnp j t2 && (decide (i ≠ j) && (chkR N kn es sc fnp [pa, pb] && doSwap sc [t1, t2] [pa, pb] [nmOf t1, nmOf t2])))
        | [i, j, l], [t1, t2, t3], [pa, pb, pc] => chkN N sc fnp i t1 && (chkN N sc fnp j t2 && (chkN N sc fnp l t3 && (decide (i ≠ j ∧ i ≠ l ∧ j ≠ l) && (chkR N kn es sc fnp [pa, pb, pc] && doSwap sc [t1, t2, t3] [pa, pb, pc] [nmOf t1, nmOf t2, nmOf t3]))))
        | _, _, _ => false
      | _, _ => false
    | _ => false
  | .sset o i e, st => match st with
    | .Assign ts pe _ => match ts with
      | [.Subscript po pi _] => notComp pe && (notSlice pi && (chkE N kn e sc fnp pe && (chkE N kn o sc fnp po && chkE N kn i sc fnp pi)))
      | _ => false
    | _ => false
  | .ifs c a b, st => match st with
    | .If pc sa sb _ => chkE N kn c sc fnp pc && (chkSs N kn sc fnp a sa && chkSs N kn sc fnp b sb)
    | _ => false
  | .whl c b, st => match st with
    | .While pc sb [] _ => chkE N kn c sc fnp pc && chkSs N kn sc fnp b sb
    | _ => false
  | .fr g it b, st => match st with
    | .For tg iter sb [] _ => chkI N kn it sc fnp tg iter && (chkG N sc fnp g tg && (chkSs N kn sc fnp b sb && notSet iter))
    | _ => false
  | .ret e, st => match st with
    | .Return (some pe) _ => chkE N kn e sc fnp pe
    | _ => false
  | .retN, st => match st with
    | .Return none _ => true
    | _ => false
  | .pass, st => match st with
    | .Pass _ => true
    | .Expr (.Constant (.str _) _ _) _ => true
    | _ => false
  | .brk, st => match st with
    | .Break _ => true
    | _ => false
  | .cnt, st => match st with
    | .Continue _ => true
    | _ => false
  | .bad, _ => true
def chkSs (N kn : List Str) (sc : Scope) (fnp : Str → Bool) : Ss → List Stmt → Bool
  | .nil, sts => sts.isEmpty
  | .cons s r, sts => match sts with
    | st :: sts => chkS N kn sc fnp s st && chkSs N kn sc fnp r sts
    | [] => false
end
theorem or_t {a b : Bool} (h : (a || b) = true) : a = true ∨ b = true := by simpa using h
section
variable {cl : Cl} {kn N : List Str} {sc : Scope} {fnp : Str → Bool} {X : Cx} {W : WX} {F : Nat}
/-- name = [..] at once -/
theorem okAsgC (C : Cz cl kn X N sc fnp W) {i : Nat} {e : E} {pt pe : Expr} {pos : Pos} (hg : chkN N sc fnp i pt = true) (h : chkE N kn e sc fnp pe = true) (hce : isCompE e = true) (hw : (swaps sc pt pe).1 = true) : PS X (.Assign [pt] pe pos) (tS X.K X.mg W (evS cl F (.asg (.nm i) e))) := by
  cases pe with
  | ListComp pelt gs scope pos2 =>
    cases e with
    | comp elt own g it c =>
      simp only [chkE] at h
      split at h
      · rename_i tg iter ifs asy
        obtain ⟨h1, h⟩ := and_t h
        obtain ⟨h2, h⟩ := and_t h
        obtain ⟨h3, h⟩ := and_t h
        obtain ⟨h4, h⟩ := and_t h
        obtain ⟨h5, h⟩ := and_t h
        obtain ⟨h6, h⟩ := and_t h
        obtain ⟨h7, h8⟩ := and_t h
        cases eq_of_beq h1
        have hts : ∀ i ∈ g.ts, i ∈ own := fun i hi => List.contains_iff_mem.mp (List.all_eq_true.mp h5 i hi)
        have he : ∀ X', Cz cl kn X' N (relS scope sc) (fun x => scope.names.lookup x == some .cell) W0 → X'.K = X.K → X'.mg = X.mg → PE X' pelt (tE X'.K X'.mg W0 (evE cl elt)) := fun X' C' _ _ => (okE elt pelt C' h7).1
        split at h6
        · have hy : c = .bl true := by
            unfold isYes at h6
            split at h6
            · rfl
            · cases h6
          subst hy
          refine ps_setCM C hg (okI it iter tg C h2) h3 (ownP_snd N own) h4 hts (fun X' _ _ _ => pts_nil) (fun σ H Q q => ?_) he (fold_no h8) hw
          obtain ⟨w, e, hh, R, p⟩ := q
          simp only [evE] at p
          obtain ⟨b, hb, hQ⟩ := p.ok (.refl _ _) R
          cases hb
          exact hQ
        · refine ps_setCM C hg (okI it iter tg C h2) h3 (ownP_snd N own) h4 hts (tt := tT X.K X.mg W0 (evE cl c)) (fun X' C' ek em => ?_) (fun σ H Q q => q) he (fold_no h8) hw
          rw [← ek, ← em]
          exact pts_one (okE c _ C' h6).2
        · cases h6
      · cases h
    | _ => cases hce
  | _ => 
    simp only [swaps] at hw
    cases pt <;> cases hw
mutual
theorem okS (C : Cz cl kn X N sc fnp W) (hp : PassesOwn (model X.prog X.w) X.A X.env X.xe) : ∀ (s : S) (st : Stmt), chkS N kn sc fnp s st = true → PS X st (tS X.K X.mg W (evS cl F s))
  | .expr e, st, h => by
    simp only [chkS] at h
    split at h
    · obtain ⟨h1, h2⟩ := and_t h
      exact ps_exprM (okE e _ C h2).1 h1
    · cases h
  | .asg g e, st, h => by
    simp only [chkS] at h
    split at h
    · split at h
      · split at h
        · obtain ⟨h1, h⟩ := and_t h
          obtain ⟨h2, h⟩ := and_t h
          rcases or_t h with h | h
          · exact ps_setM C h1 (okE e _ C h2).1 h
          · rcases or_t h with h | h
            · exact ps_setC2M C h1 (okE e _ C h2).1 h
            · obtain ⟨h3, h4⟩ := and_t h
              exact okAsgC C h1 h2 h3 h4
        · split at h
          · obtain ⟨h1, h⟩ := and_t h
            obtain ⟨h2, h⟩ := and_t h
            obtain ⟨h3, h4⟩ := and_t h
            exact ps_asgTM C h1 (okE e _ C h2).1 h3 h4
          · cases h
      · cases h
    · cases h
  | .par js es, st, h => by
    simp only [chkS] at h
    split at h
    · split at h
      · split at h
        · obtain ⟨h1, h⟩ := and_t h
          obtain ⟨h2, h⟩ := and_t h
          obtain ⟨h3, h⟩ := and_t h
          obtain ⟨h4, h5⟩ := and_t h
          exact ps_par2M C h1 h2 (of_decide_eq_true h3) (okR es _ C h4) h5
        · obtain ⟨h1, h⟩ := and_t h
          obtain ⟨h2, h⟩ := and_t h
          obtain ⟨h2', h⟩ := and_t h
          obtain ⟨h3, h⟩ := and_t h
          obtain ⟨h4, h5⟩ := and_t h
          have hd := of_decide_eq_true h3
          exact ps_par3M C h1 h2 h2' hd.1 hd.2.1 hd.2.2 (okR es _ C h4) h5
        · cases h
      · cases h
    · cases h
  | .sset o i e, st, h => by
    simp only [chkS] at h
    split at h
    · split at h
      · obtain ⟨h1, h⟩ := and_t h
        obtain ⟨h2, h⟩ := and_t h
        obtain ⟨h3, h⟩ := and_t h
        obtain ⟨h4, h5⟩ := and_t h
        exact ps_ssetM C (okE e _ C h3).1 (okE o _ C h4).1 (okE i _ C h5).1 h1 h2
      · cases h
    · cases h
  | .ifs c a b, st, h => by
    simp only [chkS] at h
    split at h
    · obtain ⟨h1, h⟩ := and_t h
      obtain ⟨h2, h3⟩ := and_t h
      exact ps_ifM (okE c _ C h1).2 (okSs C hp a _ h2) (okSs C hp b _ h3)
    · cases h
  | .whl c b, st, h => by
    simp only [chkS] at h
    split at h
    · obtain ⟨h1, h2⟩ := and_t h
      exact ps_whileM hp (okE c _ C h1).2 (okSs C hp b _ h2)
    · cases h
  | .fr g it b, st, h => by
    simp only [chkS] at h
    split at h
    · obtain ⟨h1, h⟩ := and_t h
      obtain ⟨h2, h⟩ := and_t h
      obtain ⟨h3, h4⟩ := and_t h
      exact ps_forM hp C (okI it _ _ C h1) h2 (okSs C hp b _ h3) (fold_no h4)
    · cases h
  | .ret e, st, h => by
    simp only [chkS] at h
    split at h
    · exact ps_retM (okE e _ C h).1
    · cases h
  | .retN, st, h => by
    simp only [chkS] at h
    split at h
    · exact ps_retNM
    · cases h
  | .pass, st, h => by
    simp only [chkS] at h
    split at h
    · exact ps_passM
    · refine PS.imp ps_doc fun D σ H q => ?_
      obtain ⟨w, e, h, R, p⟩ := q
      simp only [evS] at p
      exact p.ok (.refl _ _) R
    · cases h
  | .brk, st, h => by
    simp only [chkS] at h
    split at h
    · exact ps_brkM
    · cases h
  | .cnt, st, h => by
    simp only [chkS] at h
    split at h
    · exact ps_cntM
    · cases h
  | .bad, st, h => ⟨fun pins s σ H D I q => by
    obtain ⟨w, e, h, R, p⟩ := q
    simp only [evS] at p
    exact p.elim⟩
theorem okSs (C : Cz cl kn X N sc fnp W) (hp : PassesOwn (model X.prog X.w) X.A X.env X.xe) : ∀ (ss : Ss) (sts : List Stmt), chkSs N kn sc fnp ss sts = true → PSs X sts (tS X.K X.mg W (evSs cl F ss))
  | .nil, sts, h => by
    simp only [chkSs] at h
    cases sts with
    | nil => exact pss_nilM
    | cons _ _ => cases h
  | .cons s r, sts, h => by
    simp only [chkSs] at h
    cases sts with
    | nil => cases h
    | cons st sts =>
      obtain ⟨h1, h2⟩ := and_t h
      exact pss_consM (okS C hp s st h1) (okSs C hp r sts h2)
end
end
theorem body_ok {P : Program} {wd : World} {K : PySem.W.Frag} {mg : Str → Option Value} {base : Heap} {cl : Cl} {kn N : List Str} {sc : Scope} {body : List Stmt} {F : Nat} {ss : Ss} (h : chkSs N kn sc (fun _ => true) ss body = true) : BodyOk P wd K mg base cl kn N sc body F ss :=
  fun X W _ _ _ _ _ C hp => okSs C hp ss body h
end Mp

/-! the law's own end -/
namespace Mp
open PySem L2 PyProof.Rows

/-- the law's call at the heap behind the top -/
theorem law_end {P : Program} {w : World} {K : PySem.W.Frag} {mg mb : Str → Option Value} {k : Nat} {fa a : Addr} {fd : FuncData} {x : Str} {sp : Sp} {t : Shared} {vs : List Value} {ns : List Int}
    (KX : K.In t.heap) (hns : t.heap.Ns mainGlobals mg) (hb : t.heap.Ns builtinsNs mb) (hbb : ∀ x : Str, x ≠ "__name__" → mb x = bootBuiltins x) (hlim : t.heap.NoLimit) (hg : t.gens = #[])
    (ha : t.heap.get? a = some { cls := .type "list", data := .seq vs.toArray }) (hi : IntsAre vs ns) (hl : ns.length ≤ sizeLine) (hr : Room k callerA)
    (F : ∀ base : Heap, K.In base → base.Ns mainGlobals mg → FnG P w K mg base (L2.CX P w) k fa fd [x] sp) (bind : ∀ (t : Shared) (u : Value), BindsTo t fd ⟨[u], []⟩ [(x, u)])
    (hsp : ∀ H : Hp, Only H → SqL K H a (ns.map V.int) → sp [.ref a] H (fun v _ => v = .bl true) fun _ _ _ => False) :
    codeAny (model P w) callerA (.call (.ref fa) ⟨[.ref a], []⟩) (fun r s' => r = .ok (.ret (.bool true)) ∧ PySem.OldK t.heap s'.heap ∧ s'.os = t.os ∧ AllBare s'.gens) t := by
  have rv := vals_ints hi
  have lv := hi.length
  suffices core : ∀ H : Hp, Only H → SqL K H a (ns.map V.int) → HOk P w H t.heap → (∀ b, H b ≠ none → b = a) → (H a ≠ none → K.lookup a = none) →
      codeAny (model P w) callerA (.call (.ref fa) ⟨[.ref a], []⟩) (fun r s' => r = .ok (.ret (.bool true)) ∧ PySem.OldK t.heap s'.heap ∧ s'.os = t.os ∧ AllBare s'.gens) t by
    cases hk : K.lookup a with
    | some o =>
      have e := KX a o hk
      rw [ha] at e
      cases e
      refine core (fun _ => none) (fun _ => Or.inl rfl) (Or.inr ⟨_, vs.toArray, _, hk, rfl, rfl, rfl, ?_, ?_⟩) (fun b u z => by cases (show (none : Option HO) = some u from z)) (fun b z => absurd rfl z) (fun z => absurd rfl z)
      · rw [List.size_toArray, lv]; exact hl
      · simpa using rv
    | none =>
      refine core (fun b => if b = a then some (.frz { cls := .type "list", data := .seq vs.toArray } (.lst (ns.map V.int))) else none) ?_ (Or.inl (Or.inr ⟨{ cls := .type "list", data := .seq vs.toArray }, if_pos rfl⟩)) ?_ ?_ fun _ => hk
      · intro b
        by_cases q : b = a
        · exact Or.inr ⟨_, _, if_pos q⟩
        · exact Or.inl (if_neg q)
      · intro b u z
        by_cases q : b = a
        · have z' := (if_pos q).symm.trans z
          cases z'
          subst q
          exact ⟨ha, by rw [List.length_map]; exact hl, vs, _, rv, ha⟩
        · cases (if_neg q).symm.trans z
      · intro b z
        by_cases q : b = a
        · exact q
        · exact absurd (if_neg q) z
  intro H hO hS hok hA hK
  have kept : ∀ {b : Addr} {o : Obj}, t.heap.get? b = some o → H b = none → (hidT t.heap H).get? b = some o := fun z n => hidT_get z n
  have free : ∀ {b : Addr} {o : Obj} {es : Array DictEntry} {ep : Nat}, t.heap.get? b = some o → o.data = .dict es ep → H b = none := by
    intro b o es ep z d
    cases q : H b with
    | none => rfl
    | some u =>
      have q' : b = a := hA b (by rw [q]; simp)
      subst q'
      rw [ha] at z
      cases z
      cases (show Data.seq vs.toArray _ = Data.dict es ep from d)
  have nsAt : ∀ {b : Addr} {m : Str → Option Value}, t.heap.Ns b m → (hidT t.heap H).Ns b m := by
    rintro b m ⟨o, es, ep, z, d, r⟩
    exact ⟨o, es, ep, kept z (free z d), d, r⟩
  have KB : K.In (hidT t.heap H) := by
    intro b o z
    refine kept (KX b o z) ?_
    cases q : H b with
    | none => rfl
    | some u =>
      have q' : b = a := hA b (by rw [q]; simp)
      subst q'
      rw [hK (by rw [q]; simp)] at z
      cases z
  obtain ⟨mc, c1, c2⟩ := hlim
  have M : Mod K mg (hidT t.heap H) := ⟨KB, nsAt hns, ⟨mb, nsAt hb, hbb⟩, ⟨mc, nsAt c1, c2⟩⟩
  have e0 : Env0 P w K mg (hidT t.heap H) callerA [] t H := ⟨rfl, M, fun b o z => of_hidT z, Nat.le_of_eq (hidT_size _ _), trivial, fun b z => absurd (show b ∈ ([] : List Addr) from z) (by simp), hok, .of_eq hg⟩
  refine codeAny_mono ((F _ KB (nsAt hns)).go callerA [] t H ⟨[.ref a], []⟩ [.ref a] [.ref a] _ _ hr rfl e0 (bind t (.ref a)) (.cons rfl .nil) (hsp H hO hS)) ?_
  intro r s' z
  match r, z with
  | .error e, z =>
    obtain ⟨_, _, _, _, _, _, _, _, _, _, _, _, q⟩ := z
    exact q.elim
  | .ok .next, z => exact z.elim
  | .ok .brk, z => exact z.elim
  | .ok .cont, z => exact z.elim
  | .ok (.ret u), z =>
    obtain ⟨v, H', os, bare, un, hok', r', q⟩ := z
    have q' : v = .bl true := q
    subst q'
    cases (show u = Value.bool true from r')
    refine ⟨rfl, PySem.OldK.of_keep ?_, os, bare⟩
    intro b o e
    cases q : H b with
    | none => exact un.keep b o e q (fun z => absurd (show b ∈ ([] : List Addr) from z) (by simp)) (by simp)
    | some u =>
      rcases hO b with z | ⟨ob, xs, z⟩
      · rw [q] at z; cases z
      · obtain ⟨e1, _⟩ := hok b _ z
        obtain ⟨e2, _⟩ := hok' b _ (un.frzs b ob _ z)
        rw [e] at e1
        cases e1
        exact e2
/-- what the head leaves, from the interpreter's answer -/
theorem walk_mp {l : PySem.W.OpenLaw} {n k : Nat} {q : Program} {loose : List Str} {XP : (Str → Option Value) → Heap → Prop} {YP : World → Heap → Prop} {d : PySem.DefRec} {K : Params → PySem.W.Frag} {x : Str} {T : Nat → Option Fn} {F i : Nat} {kn : List Str}
    (hn : l.most = some n) (hn2 : n ≤ sizeLine) (hdf : d.params.defaults = []) (hr : Room k callerA)
    (hY : ∀ (w : World) (h : Heap), YP w h → (K w.params).In h) (hi : kn[i]? = some d.name)
    (hF : ∀ (w : World) (mg : Str → Option Value) (h : Heap), (K w.params).In h → h.Ns mainGlobals mg →
      (∀ x ∈ bnames, mg x = none) ∧ (∃ (fa : Addr) (fd : FuncData), mg d.name = some (.ref fa) ∧ (∀ (t : Shared) (u : Value), BindsTo t fd ⟨[u], []⟩ [(x, u)]) ∧
        ∀ base : Heap, (K w.params).In base → base.Ns mainGlobals mg → FnG l.prog w (K w.params) mg base (L2.CX l.prog w) k fa fd [x] (spF (K w.params) mg (callN T F k) i 1)))
    (law : ∀ ns : List Int, ns.length ≤ n → ∃ e h, callN T F k i [.v (.scr ns)] [] = some (.ok (.v (.bl true)) e h)) :
    PySem.W.WalkO q loose XP YP l.row.toRowW d [] (fun f vs => PySem.call f vs) := by
  refine Att.attach_call hn hdf fun w s₀ s₁ mg mb fa o pm cd doc a vs ns G Y ho hd hcd hmg hobj hints hlen hg => ?_
  have KX := hY w _ Y
  obtain ⟨hbn, fa', fd, hm, hb, hFG⟩ := hF w mg _ KX G.T.g
  rw [hmg] at hm
  cases hm
  refine law_end KX G.T.g G.T.b G.T.builtins G.T.nolimit hg hobj hints (Nat.le_trans hlen hn2) hr hFG hb fun H hO hS => ?_
  refine ⟨rfl, ?_⟩
  obtain ⟨e, h, hc⟩ := law ns hlen
  let w0 : Wd := ⟨[], fun _ => none, fun _ => False, fun _ => none⟩
  have nM : ∀ b, ¬ w0.M b := fun b m => by
    rcases m with m | ⟨_, m⟩ | m | ⟨_, m⟩
    · exact absurd (show b ∈ ([] : List Addr) from m) (by simp)
    · cases m
    · exact m
    · cases m
  refine ⟨w0, [.v (.scr ns)], [], ⟨rfl, fun j s q => ?_, fun _ _ => rfl, rfl, fun n o a q => (by simp at q), List.nodup_nil, fun _ _ _ q => (by cases q), fun _ _ q => (by cases q), fun b t => ?_, fun _ _ t => t.elim, fun _ _ _ q => (by cases q)⟩, ?_⟩
  · cases j with
    | zero =>
      cases (show some (Sl.v (.scr ns)) = some s from q)
      refine ⟨rfl, .ref a, rfl, ?_⟩
      unfold RV
      rcases hS with (hS | ⟨o, hS⟩) | hS
      · exfalso
        rcases hO a with z | ⟨ob, xs, z⟩
        · rw [z] at hS; cases hS
        · rw [z] at hS; cases hS
      · exact ⟨a, Or.inl ⟨rfl, nM a, o, hS⟩⟩
      · obtain ⟨o, its, m, z⟩ := hS
        exact ⟨a, Or.inr ⟨o, its, m, rfl, z⟩⟩
    | succ j => simp at q
  · rcases t with t | ⟨_, t⟩
    · exact t.elim
    · cases t
  · rw [hc]
    intro w' H' x E R rx nx
    have rx' : RV (K w.params) w' H' (.bl true) x := rx
    unfold RV at rx'
    exact rx'
end Mp

/-! the defs of a text as they stand behind the top -/
namespace Mp
open PySem L2 PyProof.Rows

/-- how a def's arguments bind -/
def BindOk (x : Str) (st : Stmt) (ps : List Str) : Prop := ∀ (kV doc pm : Value) (an : Option Addr) (cdv ct : Value) (us : List Value), us.length = ps.length → bindArgs (PySem.W.fnOf x x (defArgs st) (defBody st) (defScope st) .none kV doc pm an cdv ct) ⟨us, []⟩ = pure (ps.zip us)
/-- what is known of a def's text -/
structure TextOk (T : Nat → Option Fn) (kn : List Str) (i : Nat) (x : Str) (st : Stmt) : Prop where
  ex : ∃ (N ps : List Str) (b : Ss), T i = some ⟨ps.length, N.length, b⟩ ∧ FnScope N ps (defScope st) ∧ BindOk x st ps ∧ chkSs N kn (defScope st) (fun _ => true) b (defBody st) = true
/-- .. and of its object -/
structure ObjIn (K : PySem.W.Frag) (x : Str) (st : Stmt) : Prop where
  ex : ∃ (f : Addr) (oc : Value) (od an : Option Addr) (osl : Array (Option Value)) (kV doc pm cdv ct : Value), PySem.W.nsIn K mainGlobals x = some (some (.ref f)) ∧
    K.lookup f = some ⟨oc, od, .func (PySem.W.fnOf x x (defArgs st) (defBody st) (defScope st) .none kV doc pm an cdv ct), osl⟩ ∧ PySem.W.codeIn K cdv x = true ∧ PySem.W.keepIn K (.ref f) = true
theorem obj_mk {K : PySem.W.Frag} {x : Str} {st : Stmt} {f : Addr} {oc : Value} {od an : Option Addr} {osl : Array (Option Value)} {kV doc pm cdv ct : Value} (a : PySem.W.nsIn K mainGlobals x = some (some (.ref f)))
    (l : K.lookup f = some ⟨oc, od, .func (PySem.W.fnOf x x (defArgs st) (defBody st) (defScope st) .none kV doc pm an cdv ct), osl⟩) (c : PySem.W.codeIn K cdv x = true) (k : PySem.W.keepIn K (.ref f) = true) : ObjIn K x st := ⟨f, oc, od, an, osl, kV, doc, pm, cdv, ct, a, l, c, k⟩
section
variable {P : Program} {wd : World} {K : PySem.W.Frag} {mg : Str → Option Value} {base h : Heap} {T : Nat → Option Fn} {F : Nat} {kn : List Str}
theorem def_of (X : K.In h) (G : h.Ns mainGlobals mg) {i : Nat} {x : Str} {st : Stmt} (t : TextOk T kn i x st) (o : ObjIn K x st) : DefOk P wd K mg base T F kn i x := by
  obtain ⟨N, ps, b, hT, S, hb, hc⟩ := t.ex
  obtain ⟨f, oc, od, an, osl, kV, doc, pm, cdv, ct, a, l, c, k⟩ := o.ex
  have Fu := fun_mk (st := st) l c k
  exact ⟨_, x, st, f, _, N, ps, hT, rfl, rfl, Fu, S, PySem.W.mg_of X G a, Fu.binds hb, fun k => body_ok hc⟩
/-- all of them, and the law's -/
theorem end_of (X : K.In h) (G : h.Ns mainGlobals mg) {sts : List Stmt} (hl : kn.length = sts.length) (ht : ∀ (i : Nat) (x : Str) (st : Stmt), kn[i]? = some x → sts[i]? = some st → TextOk T kn i x st) (ho : ∀ (i : Nat) (x : Str) (st : Stmt), kn[i]? = some x → sts[i]? = some st → ObjIn K x st)
    (bn : ∀ x ∈ bnames, PySem.W.nsIn K mainGlobals x = some none) {i k : Nat} {x y : Str} {st : Stmt} {N : List Str} {b : Ss} (hi : kn[i]? = some x) (hst : sts[i]? = some st) (hT : T i = some ⟨1, N.length, b⟩) (S : FnScope N [y] (defScope st)) (hbi : BindOk x st [y])
    (hc : chkSs N kn (defScope st) (fun _ => true) b (defBody st) = true) :
    (∀ x ∈ bnames, mg x = none) ∧ (∃ (fa : Addr) (fd : FuncData), mg x = some (.ref fa) ∧ (∀ (t : Shared) (u : Value), BindsTo t fd ⟨[u], []⟩ [(y, u)]) ∧
      ∀ base : Heap, K.In base → base.Ns mainGlobals mg → FnG P wd K mg base (L2.CX P wd) (k + 1) fa fd [y] (spF K mg (callN T F (k + 1)) i 1)) := by
  have hb : ∀ x ∈ bnames, mg x = none := fun x hx => PySem.W.mg_none_of X G (bn x hx)
  refine ⟨hb, ?_⟩
  obtain ⟨f, oc, od, an, osl, kV, doc, pm, cdv, ct, a, l, c, kp⟩ := (ho i x st hi hst).ex
  have Fu := fun_mk (st := st) l c kp
  refine ⟨f, _, PySem.W.mg_of X G a, fun t u => .of_eq (hbi kV doc pm an cdv ct [u] rfl), fun base KB GB => ?_⟩
  have hd : ∀ (i : Nat) (f : Str), kn[i]? = some f → DefOk P wd K mg base T F kn i f := fun j z hj => by
    obtain ⟨st', hst'⟩ : ∃ st, sts[j]? = some st := ⟨_, List.getElem?_eq_getElem (by rw [← hl]; exact (List.getElem?_eq_some_iff.mp hj).1)⟩
    exact def_of X G (ht j z st' hj hst') (ho j z st' hj hst')
  exact fn_step (ps := [y]) Fu S hT rfl rfl hb (callee_of hb hd k) (body_ok hc)
end
end Mp

/-! the laws' own source of drawn numbers -/
namespace Mp
abbrev sk (s : String) : PySem.Str := PySem.Str.ofString s
def pickA : Ss :=
  (.cons (.ifs (.cmp .lt (.var 1) (.int 2)) (.cons (.ret (.int 0))
    .nil) .nil)
    (.cons (.asg (.nm 2) (.ix (.var 0) (.str (PySem.Str.ofString "cells"))))
    (.cons (.whl (.and (.cmp .lt (.ix (.var 0) (.str (PySem.Str.ofString "left"))) (.int 2)) (.cmp .gt (.bi .len (.cons false (.var 2) .nil)) (.int 0))) (.cons (.sset (.var 0) (.str (PySem.Str.ofString "left")) (.me .lpop (.var 2) .nil))
    .nil))
    (.cons (.asg (.nm 3) (.ix (.var 0) (.str (PySem.Str.ofString "left"))))
    (.cons (.ifs (.cmp .gt (.var 3) (.int 1)) (.cons (.sset (.var 0) (.str (PySem.Str.ofString "left")) (.bin .fdiv (.var 3) (.var 1)))
    (.cons (.ret (.bin .mod (.bi .int (.cons false (.var 3) .nil)) (.var 1)))
    .nil)) .nil)
    (.cons (.sset (.var 0) (.str (PySem.Str.ofString "turn")) (.bin .add (.ix (.var 0) (.str (PySem.Str.ofString "turn"))) (.int 1)))
    (.cons (.asg (.nm 4) (.ix (.var 0) (.str (PySem.Str.ofString "turn"))))
    (.cons (.asg (.nm 5) (.bin .mod (.bi .int (.cons false (.bin .add (.ix (.var 0) (.str (PySem.Str.ofString "mixed"))) (.bin .mul (.var 4) (.int 104729))) .nil)) (.int 998244353)))
    (.cons (.asg (.nm 5) (.bin .mod (.bi .int (.cons false (.bin .add (.bin .mul (.var 5) (.var 5)) (.bin .mul (.var 4) (.int 17))) .nil)) (.int 2147483647)))
    (.cons (.ret (.bin .mod (.bi .int (.cons false (.bin .fdiv (.var 5) (.int 16)) .nil)) (.var 1)))
    .nil))))))))))
def keys4 : Ks := .k [.inr (sk "cells"), .inr (sk "left"), .inr (sk "mixed"), .inr (sk "turn")]
def hp (cs : List Int) (l m t : Int) : AH := [.lst (cs.map D.int), .dct keys4 [.ref 0, .int l, .int m, .int t]]
theorem get_cells (a b c d : D) : dgetD keys4 [a, b, c, d] (.str (sk "cells")) = some (some a) := rfl
theorem get_left (a b c d : D) : dgetD keys4 [a, b, c, d] (.str (sk "left")) = some (some b) := by with_unfolding_all rfl
theorem get_mixed (a b c d : D) : dgetD keys4 [a, b, c, d] (.str (sk "mixed")) = some (some c) := by with_unfolding_all rfl
theorem get_turn (a b c d : D) : dgetD keys4 [a, b, c, d] (.str (sk "turn")) = some (some d) := by with_unfolding_all rfl
theorem put_left (a b c d x : D) : dputD keys4 [a, b, c, d] (.str (sk "left")) x = some (keys4, [a, x, c, d]) := by with_unfolding_all rfl
theorem put_turn (a b c d x : D) : dputD keys4 [a, b, c, d] (.str (sk "turn")) x = some (keys4, [a, b, c, x]) := by with_unfolding_all rfl
end Mp

namespace Mp
variable {cl : Cl} {W : Nat}
theorem pick_cond (cs : List Int) (l m mm t : Int) (s3 s4 s5 : Sl) : evE cl (.and (.cmp .lt (.ix (.var 0) (.str (PySem.Str.ofString "left"))) (.int 2)) (.cmp .gt (.bi .len (.cons false (.var 2) .nil)) (.int 0))) [.v (.ref 1), .v (.int m), .v (.ref 0), s3, s4, s5] (hp cs l mm t) =
    some (.ok (.v (.bl (decide (l < 2) && decide (0 < (cs.length : Int))))) [.v (.ref 1), .v (.int m), .v (.ref 0), s3, s4, s5] (hp cs l mm t)) := by
  simp [evE, evR, bd, rd, hp, Ob.d, ixD, get_left, cmpD, ltI, lift, truth, bfn, scalB, Option.bind]
  by_cases h : l < 2 <;> simp [h]
theorem pop_last (cs : List Int) (x : Int) : mew .lpop (.lst (cs.map D.int ++ [.int x])) [] = some (.lst (cs.map D.int), .int x) := by
  simp [mew]
theorem pick_body (cs : List Int) (x l m mm t : Int) (s3 s4 s5 : Sl) : evS cl W (.sset (.var 0) (.str (PySem.Str.ofString "left")) (.me .lpop (.var 2) .nil)) [.v (.ref 1), .v (.int m), .v (.ref 0), s3, s4, s5] (hp (cs ++ [x]) l mm t) =
    some (.ok .nx [.v (.ref 1), .v (.int m), .v (.ref 0), s3, s4, s5] (hp cs x mm t)) := by
  have h1 : evE cl (.me .lpop (.var 2) .nil) [.v (.ref 1), .v (.int m), .v (.ref 0), s3, s4, s5] (hp (cs ++ [x]) l mm t) = some (.ok (.v (.int x)) [.v (.ref 1), .v (.int m), .v (.ref 0), s3, s4, s5] (hp cs l mm t)) := by
    simp only [evE, evR, bd_ok, List.getElem?_cons_zero, List.getElem?_cons_succ, rd, hp, Option.map, Ob.d, Me.of, method, Me.writes, margs, Me.stores, List.mapM_nil, if_true, List.set]
    simp [pop_last]
  simp only [evS, h1, bd_ok, frz]
  simp [evE, bd, rd, hp, setOb, put_left, sizeMax, sk]
theorem pick_loop (m mm t : Int) (s3 s4 s5 : Sl) : ∀ (n : Nat) (cs : List Int) (l : Int), cs.length < n → ∃ cs' l', whlS (fun e h => bd (evE cl (.and (.cmp .lt (.ix (.var 0) (.str (PySem.Str.ofString "left"))) (.int 2)) (.cmp .gt (.bi .len (.cons false (.var 2) .nil)) (.int 0))) e h) fun x e h => match (rd e h x).bind truth with
      | some b => some (.ok b e h)
      | none => none) (fun e h => evSs cl W (.cons (.sset (.var 0) (.str (PySem.Str.ofString "left")) (.me .lpop (.var 2) .nil)) .nil) e h) n [.v (.ref 1), .v (.int m), .v (.ref 0), s3, s4, s5] (hp cs l mm t) = some (.ok .nx [.v (.ref 1), .v (.int m), .v (.ref 0), s3, s4, s5] (hp cs' l' mm t)) ∧ cs' <+: cs
  | 0, cs, l, h => by omega
  | n + 1, cs, l, h => by
    rw [whlS, pick_cond]
    simp only [bd_ok, rd, Option.bind, truth]
    by_cases c : (decide (l < 2) && decide (0 < (cs.length : Int))) = true
    · rw [c]
      simp only [bd_ok]
      have hne : cs ≠ [] := by
        intro z; subst z; simp at c
      obtain ⟨xs, x, rfl⟩ : ∃ xs x, cs = xs ++ [x] := ⟨cs.dropLast, cs.getLast hne, (List.dropLast_concat_getLast hne).symm⟩
      simp only [evSs, pick_body, bd_ok]
      obtain ⟨cs', l', h1, h2⟩ := pick_loop m mm t s3 s4 s5 n xs x (by simp at h; omega)
      exact ⟨cs', l', h1, h2.trans (List.prefix_append _ _)⟩
    · have c' : (decide (l < 2) && decide (0 < (cs.length : Int))) = false := by simpa using c
      rw [c']
      exact ⟨cs, l, rfl, List.prefix_refl _⟩
theorem fmod_bd {a m : Int} (h : 0 < m) : 0 ≤ a.fmod m ∧ a.fmod m < m := ⟨Int.fmod_nonneg_of_pos a h, Int.fmod_lt_of_pos a h⟩
/-- statements one by one -/
theorem ss_nx {s : S} {r : Ss} {e e' : Ev} {h h' : AH} {m : Option (O Fl)} (h1 : evS cl W s e h = some (.ok .nx e' h')) (h2 : evSs cl W r e' h' = m) : evSs cl W (.cons s r) e h = m := by
  simp only [evSs, h1, bd_ok, h2]
theorem ss_rt {s : S} {r : Ss} {e e' : Ev} {h h' : AH} {x : Rv} (h1 : evS cl W s e h = some (.ok (.rt x) e' h')) : evSs cl W (.cons s r) e h = some (.ok (.rt x) e' h') := by
  simp only [evSs, h1, bd_ok]
theorem pickA_ok (cs : List Int) (l m mm t : Int) (hW : cs.length < W) (hm : m < 1073741824) : ∃ r cs' l' t', runF cl W ⟨2, 6, pickA⟩ [.v (.ref 1), .v (.int m)] (hp cs l mm t) = some (.ok (.v (.int r)) [] (hp cs' l' mm t')) ∧ (2 ≤ m → 0 ≤ r ∧ r < m) ∧ (m < 2 → r = 0) ∧ cs' <+: cs := by
  suffices hmain : ∃ r cs' l' t' e', evSs cl W pickA [.v (.ref 1), .v (.int m), .un, .un, .un, .un] (hp cs l mm t) = some (.ok (.rt (.v (.int r))) e' (hp cs' l' mm t')) ∧ (2 ≤ m → 0 ≤ r ∧ r < m) ∧ (m < 2 → r = 0) ∧ cs' <+: cs by
    obtain ⟨r, cs', l', t', e', h1, h2⟩ := hmain
    refine ⟨r, cs', l', t', ?_, h2⟩
    have tr : trim (hp cs l mm t).length (.v (.int r)) (hp cs' l' mm t') = hp cs' l' mm t' := by simp [trim, hp]
    show (match evSs cl W pickA [.v (.ref 1), .v (.int m), .un, .un, .un, .un] (hp cs l mm t) with
      | some (.ok (.rt r) _ h') => some (O.ok r [] (trim (hp cs l mm t).length r h'))
      | some (.ok .nx _ h') => some (.ok (.v .non) [] (trim (hp cs l mm t).length (.v .non) h'))
      | some (.ok _ _ _) => none
      | some (.ex c p _ h') => some (.ex c p [] h')
      | none => none) = _
    rw [h1]
    simp only [tr]
  by_cases h2 : m < 2
  · refine ⟨0, cs, l, t, [.v (.ref 1), .v (.int m), .un, .un, .un, .un], ?_, fun h => by omega, fun _ => rfl, List.prefix_refl _⟩
    unfold pickA
    refine ss_rt ?_
    simp [evS, evSs, evE, bd, rd, cmpD, ltI, lift, truth, h2, retR, Option.bind]
  · obtain ⟨cs', l', hl, hsub⟩ := pick_loop (cl := cl) (W := W) m mm t .un .un .un W cs l hW
    have hge : 2 ≤ m := by omega
    have hm0 : m ≠ 0 := by omega
    have hma : m.natAbs < 1073741824 := by omega
    have h1 : evS cl W (.ifs (.cmp .lt (.var 1) (.int 2)) (.cons (.ret (.int 0)) .nil) .nil) [.v (.ref 1), .v (.int m), .un, .un, .un, .un] (hp cs l mm t) = some (.ok .nx [.v (.ref 1), .v (.int m), .un, .un, .un, .un] (hp cs l mm t)) := by
      simp [evS, evSs, evE, bd, rd, cmpD, ltI, lift, truth, h2, Option.bind]
    have h2' : evS cl W (.asg (.nm 2) (.ix (.var 0) (.str (PySem.Str.ofString "cells")))) [.v (.ref 1), .v (.int m), .un, .un, .un, .un] (hp cs l mm t) = some (.ok .nx [.v (.ref 1), .v (.int m), .v (.ref 0), .un, .un, .un] (hp cs l mm t)) := by
      simp [evS, evE, bd, rd, hp, Ob.d, ixD, get_cells, lift, bindR, frz, bindG, Option.bind]
    have h3 : evS cl W (.asg (.nm 3) (.ix (.var 0) (.str (PySem.Str.ofString "left")))) [.v (.ref 1), .v (.int m), .v (.ref 0), .un, .un, .un] (hp cs' l' mm t) = some (.ok .nx [.v (.ref 1), .v (.int m), .v (.ref 0), .v (.int l'), .un, .un] (hp cs' l' mm t)) := by
      simp [evS, evE, bd, rd, hp, Ob.d, ixD, get_left, lift, bindR, frz, bindG, Option.bind]
    by_cases hl1 : 1 < l'
    · refine ⟨l'.fmod m, cs', l'.fdiv m, t, [.v (.ref 1), .v (.int m), .v (.ref 0), .v (.int l'), .un, .un], ?_, fun _ => fmod_bd (by omega), fun h => absurd h h2, hsub⟩
      unfold pickA
      refine ss_nx h1 (ss_nx h2' (ss_nx (by simp only [evS]; exact hl) (ss_nx h3 (ss_rt ?_))))
      simp [evS, evSs, evE, evR, bd, rd, hp, Ob.d, cmpD, ltI, lift, truth, hl1, Option.bind, op2, hm0, hma, frz, setOb, put_left, sizeMax, bfn, retR]
    · have h4 : evS cl W (.ifs (.cmp .gt (.var 3) (.int 1)) (.cons (.sset (.var 0) (.str (PySem.Str.ofString "left")) (.bin .fdiv (.var 3) (.var 1))) (.cons (.ret (.bin .mod (.bi .int (.cons false (.var 3) .nil)) (.var 1))) .nil)) .nil) [.v (.ref 1), .v (.int m), .v (.ref 0), .v (.int l'), .un, .un] (hp cs' l' mm t) =
          some (.ok .nx [.v (.ref 1), .v (.int m), .v (.ref 0), .v (.int l'), .un, .un] (hp cs' l' mm t)) := by
        simp [evS, evSs, evE, bd, rd, cmpD, ltI, lift, truth, hl1, Option.bind]
      have h5 : evS cl W (.sset (.var 0) (.str (PySem.Str.ofString "turn")) (.bin .add (.ix (.var 0) (.str (PySem.Str.ofString "turn"))) (.int 1))) [.v (.ref 1), .v (.int m), .v (.ref 0), .v (.int l'), .un, .un] (hp cs' l' mm t) =
          some (.ok .nx [.v (.ref 1), .v (.int m), .v (.ref 0), .v (.int l'), .un, .un] (hp cs' l' mm (t + 1))) := by
        simp [evS, evE, bd, rd, hp, Ob.d, ixD, get_turn, lift, op2, frz, setOb, put_turn, sizeMax, Option.bind]
      have h6 : evS cl W (.asg (.nm 4) (.ix (.var 0) (.str (PySem.Str.ofString "turn")))) [.v (.ref 1), .v (.int m), .v (.ref 0), .v (.int l'), .un, .un] (hp cs' l' mm (t + 1)) =
          some (.ok .nx [.v (.ref 1), .v (.int m), .v (.ref 0), .v (.int l'), .v (.int (t + 1)), .un] (hp cs' l' mm (t + 1))) := by
        simp [evS, evE, bd, rd, hp, Ob.d, ixD, get_turn, lift, bindR, frz, bindG, Option.bind]
      have h7 : evS cl W (.asg (.nm 5) (.bin .mod (.bi .int (.cons false (.bin .add (.ix (.var 0) (.str (PySem.Str.ofString "mixed"))) (.bin .mul (.var 4) (.int 104729))) .nil)) (.int 998244353))) [.v (.ref 1), .v (.int m), .v (.ref 0), .v (.int l'), .v (.int (t + 1)), .un] (hp cs' l' mm (t + 1)) =
          some (.ok .nx [.v (.ref 1), .v (.int m), .v (.ref 0), .v (.int l'), .v (.int (t + 1)), .v (.int ((mm + (t + 1) * 104729).fmod 998244353))] (hp cs' l' mm (t + 1))) := by
        simp [evS, evE, evR, bd, rd, hp, Ob.d, ixD, get_mixed, lift, op2, small64, bfn, bindR, frz, bindG, Option.bind]
      generalize hs : (mm + (t + 1) * 104729).fmod 998244353 = s at h7
      have hsb : 0 ≤ s ∧ s < 998244353 := by rw [← hs]; exact fmod_bd (by omega)
      have hss : small64 s = true := by simp [small64]; omega
      have h8 : evS cl W (.asg (.nm 5) (.bin .mod (.bi .int (.cons false (.bin .add (.bin .mul (.var 5) (.var 5)) (.bin .mul (.var 4) (.int 17))) .nil)) (.int 2147483647))) [.v (.ref 1), .v (.int m), .v (.ref 0), .v (.int l'), .v (.int (t + 1)), .v (.int s)] (hp cs' l' mm (t + 1)) =
          some (.ok .nx [.v (.ref 1), .v (.int m), .v (.ref 0), .v (.int l'), .v (.int (t + 1)), .v (.int ((s * s + (t + 1) * 17).fmod 2147483647))] (hp cs' l' mm (t + 1))) := by
        have h17 : small64 17 = true := by decide
        simp [evS, evE, evR, bd, rd, lift, op2, hss, h17, bfn, bindR, frz, bindG, Option.bind]
      refine ⟨((s * s + (t + 1) * 17).fmod 2147483647).fdiv 16 |>.fmod m, cs', l', t + 1, [.v (.ref 1), .v (.int m), .v (.ref 0), .v (.int l'), .v (.int (t + 1)), .v (.int ((s * s + (t + 1) * 17).fmod 2147483647))], ?_, fun _ => fmod_bd (by omega), fun h => absurd h h2, hsub⟩
      unfold pickA
      refine ss_nx h1 (ss_nx h2' (ss_nx (by simp only [evS]; exact hl) (ss_nx h3 (ss_nx h4 (ss_nx h5 (ss_nx h6 (ss_nx h7 (ss_nx h8 (ss_rt ?_)))))))))
      simp [evS, evE, evR, bd, rd, lift, op2, bfn, hm0, Option.bind, retR]
/-! ### the source made of the script -/
def openB : Ss :=
  (.cons (.asg (.nm 1) (.int 11))
    (.cons (.fr (.nm 2) (.e (.var 0)) (.cons (.asg (.nm 1) (.bin .mod (.bi .int (.cons false (.bin .add (.bin .add (.bin .mul (.var 1) (.int 69069)) (.bin .mul (.var 2) (.int 31))) (.int 5)) .nil)) (.int 2147483629)))
    .nil))
    (.cons (.asg (.nm 3) (.comp (.bi .abs (.cons false (.var 2) .nil)) [2] (.nm 2) (.e (.var 0)) (.bl true)))
    (.cons (.ret (.shr (.dct false (.cons false (.str (PySem.Str.ofString "cells")) (.cons false (.shr (.rev (.var 3))) (.cons false (.str (PySem.Str.ofString "left")) (.cons false (.int 1) (.cons false (.str (PySem.Str.ofString "mixed")) (.cons false (.var 1) (.cons false (.str (PySem.Str.ofString "turn")) (.cons false (.int 0) .nil)))))))))))
    .nil))))
def absI (i : Int) : Int := if i < 0 then -i else i
theorem open_loop (sc : Sl) (h : AH) : ∀ (ns : List Int) (s : Int) (s2 : Sl), isOwn s2 = false → ∃ s' s2', isOwn s2' = false ∧ forS (fun x e h => match bindG (.nm 2) x e with
      | some e => evSs cl W (.cons (.asg (.nm 1) (.bin .mod (.bi .int (.cons false (.bin .add (.bin .add (.bin .mul (.var 1) (.int 69069)) (.bin .mul (.var 2) (.int 31))) (.int 5)) .nil)) (.int 2147483629))) .nil) e h
      | none => none) (ns.map D.int) [sc, .v (.int s), s2, .un] h = some (.ok .nx [sc, .v (.int s'), s2', .un] h)
  | [], s, s2, h2 => ⟨s, s2, h2, rfl⟩
  | n :: ns, s, s2, h2 => by
    obtain ⟨s', s2', h3, h4⟩ := open_loop sc h ns ((s * 69069 + n * 31 + 5).fmod 2147483629) (.v (.int n)) rfl
    refine ⟨s', s2', h3, ?_⟩
    have k1 : small64 69069 = true := by decide
    have k2 : small64 31 = true := by decide
    rw [List.map_cons]
    have h5 : evSs cl W (.cons (.asg (.nm 1) (.bin .mod (.bi .int (.cons false (.bin .add (.bin .add (.bin .mul (.var 1) (.int 69069)) (.bin .mul (.var 2) (.int 31))) (.int 5)) .nil)) (.int 2147483629))) .nil) [sc, .v (.int s), .v (.int n), .un] h =
        some (.ok .nx [sc, .v (.int ((s * 69069 + n * 31 + 5).fmod 2147483629)), .v (.int n), .un] h) := by
      simp [evSs, evS, evE, evR, bd, rd, lift, op2, k1, k2, bfn, bindR, frz, bindG, Option.bind]
    generalize hf : (fun (x : D) (e : Ev) (h : AH) => match bindG (.nm 2) x e with
      | some e => evSs cl W (.cons (.asg (.nm 1) (.bin .mod (.bi .int (.cons false (.bin .add (.bin .add (.bin .mul (.var 1) (.int 69069)) (.bin .mul (.var 2) (.int 31))) (.int 5)) .nil)) (.int 2147483629))) .nil) e h
      | none => none) = f at h4 ⊢
    have h6 : f (.int n) [sc, .v (.int s), s2, .un] h = some (.ok .nx [sc, .v (.int ((s * 69069 + n * 31 + 5).fmod 2147483629)), .v (.int n), .un] h) := by
      rw [← hf]
      exact h5
    simp only [forS, h6, bd_ok, h4]
theorem open_comp (sc : Sl) (s : Sl) (h : AH) : ∀ (ns : List Int) (acc : List D) (s2 : Sl), isOwn s2 = false → ∃ s2', isOwn s2' = false ∧ forC [2] (fun x e h => match bindG (.nm 2) x e with
          | some e => bd (noEx (evE cl (.bl true) e h)) fun t e h => match (rd e h t).bind truth with
            | some true => bd (noEx (evE cl (.bi .abs (.cons false (.var 2) .nil)) e h)) fun y e h => match frz e y with
              | some (d, e) => some (.ok (some d) e h)
              | none => none
            | some false => some (.ok none e h)
            | none => none
          | none => none) (ns.map D.int) acc [sc, s, s2, .un] h = some (.ok (acc ++ (ns.map absI).map D.int) [sc, s, s2', .un] h)
  | [], acc, s2, h2 => ⟨s2, h2, by simp [forC]⟩
  | n :: ns, acc, s2, h2 => by
    obtain ⟨s2', h3, h4⟩ := open_comp sc s h ns (acc ++ [.int (absI n)]) (.v (.int n)) rfl
    refine ⟨s2', h3, ?_⟩
    rw [List.map_cons]
    generalize hf : (fun (x : D) (e : Ev) (h : AH) => match bindG (.nm 2) x e with
          | some e => bd (noEx (evE cl (.bl true) e h)) fun t e h => match (rd e h t).bind truth with
            | some true => bd (noEx (evE cl (.bi .abs (.cons false (.var 2) .nil)) e h)) fun y e h => match frz e y with
              | some (d, e) => some (.ok (some d) e h)
              | none => none
            | some false => some (.ok none e h)
            | none => none
          | none => none) = f at h4 ⊢
    have h6 : f (.int n) [sc, s, .un, .un] h = some (.ok (some (.int (absI n))) [sc, s, .v (.int n), .un] h) := by
      rw [← hf]
      simp [bindG, evE, evR, bd, rd, truth, noEx, bfn, lift, frz, absI]
    simp only [forC, wipeS, List.set, h6, bd_ok]
    simp [noOwn, isOwn]
    simpa using h4
theorem open_ok (ns : List Int) (hl : ns.length ≤ 63) : ∃ mm, runF cl W ⟨1, 4, openB⟩ [.v (.scr ns)] [] = some (.ok (.v (.ref 1)) [] (hp (ns.map absI).reverse 1 mm 0)) := by
  obtain ⟨s', s2', o1, h1⟩ := open_loop (cl := cl) (W := W) (.v (.scr ns)) [] ns 11 .un rfl
  obtain ⟨s3', o2, h2⟩ := open_comp (cl := cl) (.v (.scr ns)) (.v (.int s')) [] ns [] s2' o1
  refine ⟨s', ?_⟩
  have a1 : evS cl W (.asg (.nm 1) (.int 11)) [.v (.scr ns), .un, .un, .un] [] = some (.ok .nx [.v (.scr ns), .v (.int 11), .un, .un] []) := by
    simp [evS, evE, bd, bindR, frz, bindG]
  have a2 : evS cl W (.fr (.nm 2) (.e (.var 0)) (.cons (.asg (.nm 1) (.bin .mod (.bi .int (.cons false (.bin .add (.bin .add (.bin .mul (.var 1) (.int 69069)) (.bin .mul (.var 2) (.int 31))) (.int 5)) .nil)) (.int 2147483629))) .nil)) [.v (.scr ns), .v (.int 11), .un, .un] [] =
      some (.ok .nx [.v (.scr ns), .v (.int s'), s2', .un] []) := by
    simp only [evS, evI, evE, List.getElem?_cons_zero, bd_ok, lockS]
    exact congrArg (letGo []) h1
  have a3 : evS cl W (.asg (.nm 3) (.comp (.bi .abs (.cons false (.var 2) .nil)) [2] (.nm 2) (.e (.var 0)) (.bl true))) [.v (.scr ns), .v (.int s'), s2', .un] [] =
      some (.ok .nx [.v (.scr ns), .v (.int s'), s2', .ow (.lst ((ns.map absI).map D.int))] []) := by
    have c1 : (noOwn [2] [Sl.v (.scr ns), .v (.int s'), s2', .un] && decide ((ns.map D.int).length ≤ sizeMax)) = true := by
      simp [noOwn, o1, sizeMax]; omega
    have e1 : evE cl (.comp (.bi .abs (.cons false (.var 2) .nil)) [2] (.nm 2) (.e (.var 0)) (.bl true)) [.v (.scr ns), .v (.int s'), s2', .un] [] = some (.ok (.fr (.lst ((ns.map absI).map D.int))) [.v (.scr ns), .v (.int s'), s2', .un] []) := by
      rw [evE]
      have e2 : evI cl (.e (.var 0)) [.v (.scr ns), .v (.int s'), s2', .un] [] = some (.ok (ns.map D.int, []) [.v (.scr ns), .v (.int s'), s2', .un] []) := by
        simp [evI, evE]
      rw [e2]
      simp only [bd_ok, c1, if_true, lockS]
      refine Eq.trans (congrArg (fun m => bd m (fun ys e' h => some (O.ok (Rv.fr (.lst ys)) (freeS [] (backS [2] [Sl.v (.scr ns), .v (.int s'), s2', .un] e')) h))) h2) ?_
      simp [backS, back1, freeS]
    rw [evS, e1]
    simp [bindR]
  have a4 : ∃ e', evS cl W (.ret (.shr (.dct false (.cons false (.str (PySem.Str.ofString "cells")) (.cons false (.shr (.rev (.var 3))) (.cons false (.str (PySem.Str.ofString "left")) (.cons false (.int 1) (.cons false (.str (PySem.Str.ofString "mixed")) (.cons false (.var 1) (.cons false (.str (PySem.Str.ofString "turn")) (.cons false (.int 0) .nil)))))))))))
      [.v (.scr ns), .v (.int s'), s2', .ow (.lst ((ns.map absI).map D.int))] [] = some (.ok (.rt (.v (.ref 1))) e' (hp (ns.map absI).reverse 1 s' 0)) := by
    have nd : nodupB [.inr (PySem.Str.ofString "cells"), .inr (PySem.Str.ofString "left"), .inr (PySem.Str.ofString "mixed"), .inr (PySem.Str.ofString "turn")] = true := by decide +kernel
    refine ⟨[.v (.scr ns), .v (.int s'), s2', .ow (.lst ((ns.map absI).map D.int))], ?_⟩
    simp [evS, evE, evP, bd, rd, Ob.d, keyK, frz, nd, retR, hp, keys4, sk, Option.bind, List.map_reverse]
  obtain ⟨e', a4⟩ := a4
  have b : evSs cl W openB [.v (.scr ns), .un, .un, .un] [] = some (.ok (.rt (.v (.ref 1))) e' (hp (ns.map absI).reverse 1 s' 0)) := by
    unfold openB
    exact ss_nx a1 (ss_nx a2 (ss_nx a3 (ss_rt a4)))
  show (match evSs cl W openB [.v (.scr ns), .un, .un, .un] [] with
      | some (.ok (.rt r) _ h') => some (O.ok r [] (trim 0 r h'))
      | some (.ok .nx _ h') => some (.ok (.v .non) [] (trim 0 (.v .non) h'))
      | some (.ok _ _ _) => none
      | some (.ex c p _ h') => some (.ex c p [] h')
      | none => none) = _
  rw [b]
  simp [trim, hp, Rv.low, D.low]
end Mp

/-! bodies in parts; drawn numbers within a law -/
namespace Mp
variable {cl cl' : Cl} {W : Nat}
def Ss.take : Nat → Ss → Ss
  | 0, _ => .nil
  | _ + 1, .nil => .nil
  | n + 1, .cons s r => .cons s (r.take n)
def Ss.drop : Nat → Ss → Ss
  | 0, s => s
  | _ + 1, .nil => .nil
  | n + 1, .cons _ r => r.drop n
theorem ss_split : ∀ (n : Nat) {s : Ss} {e e' : Ev} {h h' : AH}, evSs cl W (s.take n) e h = some (.ok .nx e' h') → evSs cl W s e h = evSs cl W (s.drop n) e' h'
  | 0, s, e, e', h, h', q => by
    simp only [Ss.take, evSs, Option.some.injEq, O.ok.injEq, true_and] at q
    obtain ⟨rfl, rfl⟩ := q
    rfl
  | n + 1, .nil, e, e', h, h', q => by
    simp only [Ss.take, evSs, Option.some.injEq, O.ok.injEq, true_and] at q
    obtain ⟨rfl, rfl⟩ := q
    rfl
  | n + 1, .cons s r, e, e', h, h', q => by
    simp only [Ss.take, Ss.drop, evSs] at q ⊢
    cases hs : evS cl W s e h with
    | none => rw [hs] at q; cases q
    | some o =>
      rw [hs] at q
      cases o with
      | ex c p e1 h1 => cases q
      | ok fl e1 h1 =>
        simp only [bd_ok] at q ⊢
        cases fl with
        | nx => exact ss_split n q
        | rt r => cases q
        | bk => cases q
        | ct => cases q
def isNx (P : Ev → Bool) : Option (O Fl) → Bool
  | some (.ok .nx e _) => P e
  | _ => false
def hpOf : Option (O Fl) → AH
  | some (.ok _ _ h) => h
  | _ => []
theorem of_isNx {P : Ev → Bool} {m : Option (O Fl)} {h : AH} (h1 : isNx P m = true) (h2 : hpOf m = h) : ∃ e, P e = true ∧ m = some (.ok .nx e h) := by
  unfold isNx at h1
  split at h1
  · subst h2
    exact ⟨_, h1, rfl⟩
  · cases h1
def isT : Option (O Fl) → Bool
  | some (.ok (.rt (.v (.bl true))) _ _) => true
  | _ => false
theorem of_isT {m : Option (O Fl)} (h1 : isT m = true) : ∃ e h, m = some (.ok (.rt (.v (.bl true))) e h) := by
  unfold isT at h1
  split at h1
  · exact ⟨_, _, rfl⟩
  · cases h1
theorem runF_rt {np ns : Nat} {b : Ss} {ss : List Sl} {h h' : AH} {e' : Ev} {r : Rv} (hl : ss.length = np) (hb : evSs cl W b (ss ++ List.replicate (ns - np) .un) h = some (.ok (.rt r) e' h')) :
    runF cl W ⟨np, ns, b⟩ ss h = some (.ok r [] (trim h.length r h')) := by
  unfold runF
  simp only [hl, if_true, hb]
theorem callN_at {T : Nat → Option Fn} {k f : Nat} {F : Fn} (hT : T f = some F) (ss : List Sl) (h : AH) : callN T W (k + 1) f ss h = runF (callN T W k) W F ss h := by
  rw [callN]
  simp only [hT]
/-- a call whose answer is known, without lends -/
theorem call_nb {f : Nat} {rs : List Rv} {ss : List Sl} {e : Ev} {h h' : AH} {r : Rv} (h1 : rs.mapM (arg e) = some ss) (h2 : rs.any isBor = false) (h3 : (if ss.all (Sl.low 0) then pureC (cl f ss []) false else none) = none) (h4 : cl f ss h = some (.ok r [] h')) :
    call cl f rs e h = some (.ok r e h') := by
  unfold call
  rw [h1]
  simp only [h2, h3, h4]
  simp
theorem pick_call {pk : Nat} (hpk : ∀ ss h, cl pk ss h = runF cl' W ⟨2, 6, pickA⟩ ss h) (cs : List Int) (l m mm t : Int) (hW : cs.length < W) (hm : m < 1073741824) (e : Ev) :
    ∃ r cs' l' t', call cl pk [.v (.ref 1), .v (.int m)] e (hp cs l mm t) = some (.ok (.v (.int r)) e (hp cs' l' mm t')) ∧ (2 ≤ m → 0 ≤ r ∧ r < m) ∧ (m < 2 → r = 0) ∧ cs' <+: cs := by
  obtain ⟨r, cs', l', t', h1, h2⟩ := pickA_ok (cl := cl') (W := W) cs l m mm t hW hm
  exact ⟨r, cs', l', t', call_nb (ss := [.v (.ref 1), .v (.int m)]) rfl rfl rfl (by rw [hpk]; exact h1), h2⟩
def ofB (pk : Nat) : Ss := .cons (.ret (.ix (.var 1) (.call pk (.cons false (.var 0) (.cons false (.bi .len (.cons false (.var 1) .nil)) .nil))))) .nil
theorem of_ok {pk : Nat} (hpk : ∀ ss h, cl pk ss h = runF cl' W ⟨2, 6, pickA⟩ ss h) (cs : List Int) (l mm t : Int) (hW : cs.length < W) (xs : List D) (h1 : 1 ≤ xs.length) (h2 : xs.length < 1073741824) :
    ∃ d ∈ xs, ∃ cs' l' t', cs' <+: cs ∧ runF cl W ⟨2, 2, ofB pk⟩ [.v (.ref 1), .ow (.lst xs)] (hp cs l mm t) = some (.ok (.v d) [] (hp cs' l' mm t')) := by
  obtain ⟨r, cs', l', t', q1, q2, q3, q4⟩ := pick_call (cl := cl) hpk cs l xs.length mm t hW (by omega) [.v (.ref 1), .ow (.lst xs)]
  have hr : 0 ≤ r ∧ r < xs.length := by
    by_cases hx : (2 : Int) ≤ xs.length
    · exact q2 hx
    · rw [q3 (by omega)]; omega
  obtain ⟨d, hd⟩ : ∃ d, xs[r.toNat]? = some d := ⟨_, List.getElem?_eq_getElem (by omega)⟩
  have e1 : evSs cl W (ofB pk) [.v (.ref 1), .ow (.lst xs)] (hp cs l mm t) = some (.ok (.rt (.v d)) [.v (.ref 1), .ow (.lst xs)] (hp cs' l' mm t')) := by
    unfold ofB
    refine ss_rt ?_
    have e2 : evR cl (.cons false (.var 0) (.cons false (.bi .len (.cons false (.var 1) .nil)) .nil)) [.v (.ref 1), .ow (.lst xs)] (hp cs l mm t) = some (.ok [.v (.ref 1), .v (.int xs.length)] [.v (.ref 1), .ow (.lst xs)] (hp cs l mm t)) := by
      simp [evR, evE, bd, rd, Ob.d, bfn, lift]
    have e3 : ixD (.lst xs) (.int r) = some d := by
      have hn : ixN xs.length r = some r.toNat := by
        unfold ixN
        split
        · split <;> first | rfl | omega
        · first | omega | (split <;> omega)
      simp [ixD, hn, hd]
    simp only [evS, evE, List.getElem?_cons_zero, List.getElem?_cons_succ, bd_ok, e2, q1, rd, Option.map, Ob.d, e3, lift, retR]
  refine ⟨d, List.mem_of_getElem? hd, cs', l', t', q4, ?_⟩
  rw [runF_rt (np := 2) (ns := 2) rfl e1]
  simp [trim, hp]
end Mp

/-! whole_root, two_squares, four_squares: what they answer -/
namespace Mp
variable {cl cl' : Cl} {W : Nat}
/-- a call that sees nothing shared -/
theorem call_pure {f : Nat} {rs : List Rv} {ss : List Sl} {e e' : Ev} {h : AH} {r : Rv} (h1 : rs.mapM (arg e) = some ss) (h2 : ss.all (Sl.low 0) = true) (h3 : cl f ss [] = some (.ok r e' [])) (h4 : r.low 0 = true) (h5 : (!rs.any isBor || r.nol) = true) :
    call cl f rs e h = some (.ok r e h) := by
  unfold call
  rw [h1]
  simp only [h2, if_true, h3, pureC, h4, h5, Bool.and_self]
/-- a for that looks for something to hand back -/
theorem forS_find {f : D → Ev → AH → Option (O Fl)} {h : AH} {I : Ev → Prop} {P : Rv → Prop} {Nx : D → Prop} : ∀ (xs : List D) (e : Ev), (∀ x ∈ xs, ∀ e, I e → (∃ r e', f x e h = some (.ok (.rt r) e' h) ∧ P r) ∨ (∃ e', f x e h = some (.ok .nx e' h) ∧ I e' ∧ Nx x)) → I e →
    (∃ r e', forS f xs e h = some (.ok (.rt r) e' h) ∧ P r) ∨ (∃ e', forS f xs e h = some (.ok .nx e' h) ∧ I e' ∧ ∀ x ∈ xs, Nx x)
  | [], e, hb, i => .inr ⟨e, rfl, i, fun x hx => by simp at hx⟩
  | x :: xs, e, hb, i => by
    rcases hb x (List.mem_cons_self ..) e i with ⟨r, e', q, p⟩ | ⟨e', q, i', nx⟩
    · exact .inl ⟨r, e', by simp only [forS, q, bd_ok], p⟩
    · rcases forS_find xs e' (fun y hy => hb y (List.mem_cons_of_mem _ hy)) i' with ⟨r, e2, q2, p⟩ | ⟨e2, q2, i2, n2⟩
      · exact .inl ⟨r, e2, by simp only [forS, q, bd_ok, q2], p⟩
      · refine .inr ⟨e2, by simp only [forS, q, bd_ok, q2], i2, fun y hy => ?_⟩
        rcases List.mem_cons.mp hy with rfl | hy
        · exact nx
        · exact n2 y hy
theorem small_of {i : Int} (h0 : 0 ≤ i) (h1 : i < 2 ^ 60) : small64 i = true := by
  simp [small64]; omega
def rootB : Ss :=
  (.cons (.par [1, 2] (.cons false (.int 0) (.cons false (.bin .add (.var 0) (.int 1)) .nil)))
    (.cons (.whl (.cmp .gt (.bin .sub (.var 2) (.var 1)) (.int 1)) (.cons (.asg (.nm 3) (.bin .fdiv (.bin .add (.var 1) (.var 2)) (.int 2)))
    (.cons (.asg (.tp (.cons (.nm 1) (.cons (.nm 2) .nil))) (.ite (.cmp .le (.bin .mul (.var 3) (.var 3)) (.var 0)) (.tup (.cons false (.var 3) (.cons false (.var 2) .nil))) (.tup (.cons false (.var 1) (.cons false (.var 3) .nil)))))
    .nil)))
    (.cons (.ret (.var 1))
    .nil)))
theorem root_loop (n : Int) (hs : n < 2 ^ 60) (h : AH) : ∀ (k : Nat) (low high : Int) (s3 : Sl), 0 ≤ low → low < high → high ≤ n + 1 → low * low ≤ n → n < high * high → (high - low).toNat ≤ k →
    ∃ r s3', 0 ≤ r ∧ r * r ≤ n ∧ n < (r + 1) * (r + 1) ∧ whlS (fun e h => bd (evE cl (.cmp .gt (.bin .sub (.var 2) (.var 1)) (.int 1)) e h) fun x e h => match (rd e h x).bind truth with
      | some b => some (.ok b e h)
      | none => none) (fun e h => evSs cl W (.cons (.asg (.nm 3) (.bin .fdiv (.bin .add (.var 1) (.var 2)) (.int 2)))
    (.cons (.asg (.tp (.cons (.nm 1) (.cons (.nm 2) .nil))) (.ite (.cmp .le (.bin .mul (.var 3) (.var 3)) (.var 0)) (.tup (.cons false (.var 3) (.cons false (.var 2) .nil))) (.tup (.cons false (.var 1) (.cons false (.var 3) .nil)))))
    .nil)) e h) k [.v (.int n), .v (.int low), .v (.int high), s3] h = some (.ok .nx [.v (.int n), .v (.int r), .v (.int (r + 1)), s3'] h)
  | 0, low, high, s3, h0, h1, h2, h3, h4, h5 => by omega
  | k + 1, low, high, s3, h0, h1, h2, h3, h4, h5 => by
    rw [whlS]
    have c : bd (evE cl (.cmp .gt (.bin .sub (.var 2) (.var 1)) (.int 1)) [.v (.int n), .v (.int low), .v (.int high), s3] h) (fun x e h => match (rd e h x).bind truth with
      | some b => some (O.ok b e h)
      | none => none) = some (.ok (decide (1 < high - low)) [.v (.int n), .v (.int low), .v (.int high), s3] h) := by
      simp [evE, bd, rd, op2, lift, cmpD, ltI, truth, Option.bind]
    rw [c]
    simp only [bd_ok]
    by_cases hc : 1 < high - low
    · rw [decide_eq_true hc]
      simp only []
      have hm : (low + high).fdiv 2 = (low + high) / 2 := by
        rw [Int.fdiv_eq_ediv_of_nonneg _ (by omega)]
      generalize hmid : (low + high) / 2 = m at hm
      have hm1 : low < m := by omega
      have hm2 : m < high := by omega
      have sm : small64 m = true := small_of (by omega) (by omega)
      by_cases hle : m * m ≤ n
      · obtain ⟨r, s3', r0, r1, r2, r3⟩ := root_loop n hs h k m high (.v (.int m)) (by omega) hm2 h2 hle h4 (by omega)
        refine ⟨r, s3', r0, r1, r2, ?_⟩
        have st : evSs cl W (.cons (.asg (.nm 3) (.bin .fdiv (.bin .add (.var 1) (.var 2)) (.int 2)))
          (.cons (.asg (.tp (.cons (.nm 1) (.cons (.nm 2) .nil))) (.ite (.cmp .le (.bin .mul (.var 3) (.var 3)) (.var 0)) (.tup (.cons false (.var 3) (.cons false (.var 2) .nil))) (.tup (.cons false (.var 1) (.cons false (.var 3) .nil)))))
          .nil)) [.v (.int n), .v (.int low), .v (.int high), s3] h = some (.ok .nx [.v (.int n), .v (.int m), .v (.int high), .v (.int m)] h) := by
          simp [evSs, evS, evE, evD, bd, rd, op2, lift, cmpD, ltI, truth, Option.bind, bindR, frz, bindG, bindG.bindGs, hm, sm, hle, sizeMax]
        rw [st]
        exact r3
      · obtain ⟨r, s3', r0, r1, r2, r3⟩ := root_loop n hs h k low m (.v (.int m)) h0 hm1 (by omega) h3 (by omega) (by omega)
        refine ⟨r, s3', r0, r1, r2, ?_⟩
        have st : evSs cl W (.cons (.asg (.nm 3) (.bin .fdiv (.bin .add (.var 1) (.var 2)) (.int 2)))
          (.cons (.asg (.tp (.cons (.nm 1) (.cons (.nm 2) .nil))) (.ite (.cmp .le (.bin .mul (.var 3) (.var 3)) (.var 0)) (.tup (.cons false (.var 3) (.cons false (.var 2) .nil))) (.tup (.cons false (.var 1) (.cons false (.var 3) .nil)))))
          .nil)) [.v (.int n), .v (.int low), .v (.int high), s3] h = some (.ok .nx [.v (.int n), .v (.int low), .v (.int m), .v (.int m)] h) := by
          simp [evSs, evS, evE, evD, bd, rd, op2, lift, cmpD, ltI, truth, Option.bind, bindR, frz, bindG, bindG.bindGs, hm, sm, hle, sizeMax]
        rw [st]
        exact r3
    · rw [decide_eq_false hc]
      have e : high = low + 1 := by omega
      subst e
      exact ⟨low, s3, h0, h3, h4, rfl⟩
theorem root_ok (n : Int) (hn : 0 ≤ n) (hW : n.toNat + 1 ≤ W) (hs : n < 2 ^ 60) (h : AH) : ∃ r : Int, 0 ≤ r ∧ r * r ≤ n ∧ n < (r + 1) * (r + 1) ∧ runF cl W ⟨1, 4, rootB⟩ [.v (.int n)] h = some (.ok (.v (.int r)) [] h) := by
  have big : n < (n + 1) * (n + 1) := by
    have := Int.mul_nonneg hn hn
    have e : (n + 1) * (n + 1) = n * n + 2 * n + 1 := by grind
    omega
  obtain ⟨r, s3', r0, r1, r2, r3⟩ := root_loop (cl := cl) (W := W) n hs h W 0 (n + 1) .un (Int.le_refl _) (by omega) (Int.le_refl _) (by simpa using hn) big (by omega)
  refine ⟨r, r0, r1, r2, ?_⟩
  have b : evSs cl W rootB [.v (.int n), .un, .un, .un] h = some (.ok (.rt (.v (.int r))) [.v (.int n), .v (.int r), .v (.int (r + 1)), s3'] h) := by
    unfold rootB
    refine ss_nx (e' := [.v (.int n), .v (.int 0), .v (.int (n + 1)), .un]) (h' := h) ?_ (ss_nx (by simp only [evS]; exact r3) (ss_rt ?_))
    · simp [evS, evR, evE, bd, rd, op2, lift, frzs, bindRs, bindR, frz, bindG, Option.bind]
    · simp [evS, evE, bd, retR]
  rw [runF_rt (by rfl) b]
  simp [trim]

theorem le_of_sq {x y : Int} (hy : 0 ≤ y) (h : x * x ≤ y * y) : x ≤ y := by
  apply Decidable.byContradiction
  intro hn
  have h1 : y + 1 ≤ x := by omega
  have h2 : (y + 1) * (y + 1) ≤ x * x := Int.mul_le_mul h1 h1 (by omega) (by omega)
  have e : (y + 1) * (y + 1) = y * y + 2 * y + 1 := by grind
  omega
theorem lt_of_sq {x y : Int} (hy : 0 ≤ y) (h : x * x < y * y) : x < y := by
  apply Decidable.byContradiction
  intro hn
  have h1 : y ≤ x := by omega
  have h2 : y * y ≤ x * x := Int.mul_le_mul h1 h1 hy (by omega)
  omega
theorem sq_nn (x : Int) : 0 ≤ x * x := by
  rcases Int.le_total 0 x with h | h
  · exact Int.mul_nonneg h h
  · have := Int.mul_nonneg (show 0 ≤ -x by omega) (show 0 ≤ -x by omega)
    have e : -x * -x = x * x := by grind
    omega
theorem sq_root {r b m : Int} (h0 : 0 ≤ r) (h1 : r * r ≤ m) (h2 : m < (r + 1) * (r + 1)) (h : b * b = m) : b * b = r * r := by
  have main : ∀ c : Int, 0 ≤ c → c * c = m → c = r := fun c hc e => by
    have a1 : r ≤ c := le_of_sq hc (by omega)
    have a2 : c < r + 1 := lt_of_sq (by omega) (by omega)
    omega
  rcases Int.le_total 0 b with hb | hb
  · rw [main b hb h]
  · have e : -b * -b = b * b := by grind
    have := main (-b) (by omega) (by omega)
    rw [← e, this]
def twoW : Ss := (.cons (.asg (.nm 2) (.call 0 (.cons false (.bin .sub (.var 0) (.bin .mul (.var 1) (.var 1))) .nil)))
    (.cons (.ifs (.cmp .eq (.bin .add (.bin .mul (.var 1) (.var 1)) (.bin .mul (.var 2) (.var 2))) (.var 0)) (.cons (.ret (.tup (.cons false (.var 1) (.cons false (.var 2) .nil))))
    .nil) .nil)
    (.cons (.asg (.nm 1) (.bin .add (.var 1) (.int 1)))
    .nil)))
def twoB : Ss :=
  (.cons (.asg (.nm 1) (.int 0))
    (.cons (.whl (.cmp .le (.bin .mul (.bin .mul (.int 2) (.var 1)) (.var 1)) (.var 0)) twoW)
    (.cons (.ret .non)
    .nil)))
/-- what is asked of whole_root -/
def RootOk (cl : Cl) (n : Int) : Prop := ∀ m : Int, 0 ≤ m → m ≤ n → ∃ r : Int, 0 ≤ r ∧ r * r ≤ m ∧ m < (r + 1) * (r + 1) ∧ cl 0 [.v (.int m)] [] = some (.ok (.v (.int r)) [] [])
theorem two_loop (n : Int) (hn : 0 ≤ n) (hs : n < 2 ^ 59) (hr : RootOk cl n) (h : AH) : ∀ (k : Nat) (a0 : Int) (s2 : Sl), 0 ≤ a0 → a0 ≤ n + 1 → (n + 1 - a0).toNat < k → (∀ a' b' : Int, 0 ≤ a' → a' < a0 → a' * a' + b' * b' ≠ n) →
    ∃ fl e', whlS (fun e h => bd (evE cl (.cmp .le (.bin .mul (.bin .mul (.int 2) (.var 1)) (.var 1)) (.var 0)) e h) fun x e h => match (rd e h x).bind truth with
      | some b => some (.ok b e h)
      | none => none) (fun e h => evSs cl W twoW e h) k [.v (.int n), .v (.int a0), s2] h = some (.ok fl e' h) ∧
      ((∃ a b : Int, fl = .rt (.v (.tup [.int a, .int b])) ∧ 0 ≤ a ∧ a ≤ b ∧ a * a + b * b = n) ∨ (fl = .nx ∧ ∃ a1 : Int, 0 ≤ a1 ∧ n < 2 * a1 * a1 ∧ ∀ a' b' : Int, 0 ≤ a' → a' < a1 → a' * a' + b' * b' ≠ n))
  | 0, a0, s2, h0, h1, h2, h3 => by omega
  | k + 1, a0, s2, h0, h1, h2, h3 => by
    rw [whlS]
    have sa : small64 a0 = true := by simp [small64]; omega
    have s2' : small64 2 = true := by decide
    have c : bd (evE cl (.cmp .le (.bin .mul (.bin .mul (.int 2) (.var 1)) (.var 1)) (.var 0)) [.v (.int n), .v (.int a0), s2] h) (fun x e h => match (rd e h x).bind truth with
      | some b => some (O.ok b e h)
      | none => none) = some (.ok (decide (2 * a0 * a0 ≤ n)) [.v (.int n), .v (.int a0), s2] h) := by
      simp [evE, bd, rd, op2, lift, cmpD, ltI, truth, Option.bind, sa, s2']
    rw [c]
    simp only [bd_ok]
    by_cases hc : 2 * a0 * a0 ≤ n
    · rw [decide_eq_true hc]
      simp only []
      have hq := sq_nn a0
      have e2 : 2 * a0 * a0 = a0 * a0 + a0 * a0 := by grind
      obtain ⟨r, r0, r1, r2, r3⟩ := hr (n - a0 * a0) (by omega) (by omega)
      have cc : call cl 0 [.v (.int (n - a0 * a0))] [.v (.int n), .v (.int a0), s2] h = some (.ok (.v (.int r)) [.v (.int n), .v (.int a0), s2] h) := call_pure (ss := [.v (.int (n - a0 * a0))]) rfl rfl r3 rfl rfl
      have rn : r ≤ n := by
        rcases Int.le_total r 0 with z | z
        · omega
        · by_cases z1 : r ≤ 1
          · have : r = 0 ∨ r = 1 := by omega
            rcases this with rfl | rfl
            · exact hn
            · omega
          · have := Int.mul_le_mul (show 1 ≤ r by omega) (Int.le_refl r) z z
            omega
      have sr : small64 r = true := by simp [small64]; omega
      have b1 : evS cl W (.asg (.nm 2) (.call 0 (.cons false (.bin .sub (.var 0) (.bin .mul (.var 1) (.var 1))) .nil))) [.v (.int n), .v (.int a0), s2] h = some (.ok .nx [.v (.int n), .v (.int a0), .v (.int r)] h) := by
        have : evR cl (.cons false (.bin .sub (.var 0) (.bin .mul (.var 1) (.var 1))) .nil) [.v (.int n), .v (.int a0), s2] h = some (.ok [.v (.int (n - a0 * a0))] [.v (.int n), .v (.int a0), s2] h) := by
          simp [evR, evE, bd, rd, op2, lift, sa]
        simp only [evS, evE, this, bd_ok, cc]
        simp [bindR, frz, bindG, Option.bind]
      by_cases he : a0 * a0 + r * r = n
      · refine ⟨_, [.v (.int n), .v (.int a0), .v (.int r)], ?_, .inl ⟨a0, r, rfl, h0, le_of_sq r0 (by omega), he⟩⟩
        have b2 : evSs cl W twoW [.v (.int n), .v (.int a0), s2] h = some (.ok (.rt (.v (.tup [.int a0, .int r]))) [.v (.int n), .v (.int a0), .v (.int r)] h) := by
          unfold twoW
          refine ss_nx b1 (ss_rt ?_)
          simp [evS, evSs, evE, evD, bd, rd, op2, lift, cmpD, scalB, eqB, truth, Option.bind, sa, sr, he, frz, sizeMax, retR]
        rw [b2]
        rfl
      · have b2 : evSs cl W twoW [.v (.int n), .v (.int a0), s2] h = some (.ok .nx [.v (.int n), .v (.int (a0 + 1)), .v (.int r)] h) := by
          unfold twoW
          refine ss_nx b1 (ss_nx (e' := [.v (.int n), .v (.int a0), .v (.int r)]) (h' := h) ?_ (ss_nx (e' := [.v (.int n), .v (.int (a0 + 1)), .v (.int r)]) (h' := h) ?_ rfl))
          · have hb : (a0 * a0 + r * r == n) = false := by simpa using he
            simp [evS, evSs, evE, bd, rd, op2, lift, cmpD, scalB, eqB, truth, Option.bind, sa, sr, hb]
          · simp [evS, evE, bd, rd, op2, lift, Option.bind, bindR, frz, bindG]
        have ha1 : a0 + 1 ≤ n + 1 := by
          rcases Int.le_total a0 1 with z | z
          · have : a0 = 0 ∨ a0 = 1 := by omega
            rcases this with rfl | rfl
            · omega
            · omega
          · have := Int.mul_le_mul z (Int.le_refl a0) (by omega) (by omega)
            omega
        obtain ⟨fl, e', q1, q2⟩ := two_loop n hn hs hr h k (a0 + 1) (.v (.int r)) (by omega) ha1 (by omega) (fun a' b' p1 p2 => by
          by_cases z : a' < a0
          · exact h3 a' b' p1 z
          · have : a' = a0 := by omega
            subst this
            intro w
            exact he (by rw [← sq_root r0 r1 r2 (b := b') (by omega)]; exact w))
        refine ⟨fl, e', ?_, q2⟩
        rw [b2]
        exact q1
    · rw [decide_eq_false hc]
      exact ⟨_, [.v (.int n), .v (.int a0), s2], rfl, .inr ⟨rfl, a0, h0, by omega, h3⟩⟩
/-- two_squares: what it hands back -/
def TwoOk (n : Int) (d : D) : Prop := (∃ a b : Int, d = .tup [.int a, .int b] ∧ 0 ≤ a ∧ a ≤ b ∧ a * a + b * b = n) ∨ (d = .non ∧ ∀ a b : Int, a * a + b * b ≠ n)
theorem two_ok (n : Int) (hn : 0 ≤ n) (hs : n < 2 ^ 59) (hW : n.toNat + 1 < W) (hr : RootOk cl n) (h : AH) : ∃ d, TwoOk n d ∧ runF cl W ⟨1, 3, twoB⟩ [.v (.int n)] h = some (.ok (.v d) [] h) := by
  obtain ⟨fl, e', q1, q2⟩ := two_loop (W := W) n hn hs hr h W 0 .un (Int.le_refl _) (by omega) (by omega) (fun a' b' p1 p2 => by omega)
  rcases q2 with ⟨a, b, rfl, p0, p1, p2⟩ | ⟨rfl, a1, z0, z1, z2⟩
  · refine ⟨_, .inl ⟨a, b, rfl, p0, p1, p2⟩, ?_⟩
    have bb : evSs cl W twoB [.v (.int n), .un, .un] h = some (.ok (.rt (.v (.tup [.int a, .int b]))) e' h) := by
      unfold twoB
      refine ss_nx (e' := [.v (.int n), .v (.int 0), .un]) (h' := h) ?_ (ss_rt (by simp only [evS]; exact q1))
      simp [evS, evE, bd, bindR, frz, bindG, Option.bind]
    rw [runF_rt (by rfl) bb]
    simp [trim]
  · refine ⟨.non, .inr ⟨rfl, fun x y e => ?_⟩, ?_⟩
    · -- the smaller of both is below a1
      have main : ∀ x y : Int, 0 ≤ x → x * x ≤ y * y → x * x + y * y ≠ n := fun x y hx hxy e => by
        by_cases hl : x < a1
        · exact z2 x y hx hl e
        · have := Int.mul_le_mul (show a1 ≤ x by omega) (show a1 ≤ x by omega) z0 hx
          have e2 : 2 * a1 * a1 = a1 * a1 + a1 * a1 := by grind
          omega
      have ab : ∀ x : Int, ∃ z, 0 ≤ z ∧ z * z = x * x := fun x => by
        rcases Int.le_total 0 x with p | p
        · exact ⟨x, p, rfl⟩
        · exact ⟨-x, by omega, by grind⟩
      obtain ⟨x', hx0, hx⟩ := ab x
      obtain ⟨y', hy0, hy⟩ := ab y
      rcases Int.le_total (x' * x') (y' * y') with p | p
      · exact main x' y' hx0 p (by omega)
      · exact main y' x' hy0 p (by omega)
    · have bb : evSs cl W twoB [.v (.int n), .un, .un] h = some (.ok (.rt (.v .non)) e' h) := by
        unfold twoB
        refine ss_nx (e' := [.v (.int n), .v (.int 0), .un]) (h' := h) ?_ (ss_nx (by simp only [evS]; exact q1) (ss_rt ?_))
        · simp [evS, evE, bd, bindR, frz, bindG, Option.bind]
        · simp [evS, evE, bd, retR]
      rw [runF_rt (by rfl) bb]
      simp [trim]
/-! four squares -/
theorem rng_down (r : Int) (h0 : 0 ≤ r) (h1 : r < 2 ^ 60) : ∃ xs, rng3 r (-1) (-1) = some xs ∧ (∀ x ∈ xs, ∃ i : Int, x = .int i ∧ 0 ≤ i ∧ i ≤ r) ∧ ∀ i : Int, 0 ≤ i → i ≤ r → D.int i ∈ xs := by
  have e : PySem.Builtin.Range.rangeSize r (-1) (-1) = r + 1 := by
    simp [PySem.Builtin.Range.rangeSize]
    omega
  refine ⟨rngL r (-1) (r + 1).toNat, ?_, fun x hx => ?_, fun i p0 p1 => ?_⟩
  · unfold rng3
    rw [e]
    have c1 : PySem.Builtin.Range.small r (-1) (-1) = true := by
      unfold PySem.Builtin.Range.small
      rw [e]
      simp [PySem.Builtin.Range.rangeFitsLong]
      omega
    rw [c1]
    simp
    omega
  · unfold rngL at hx
    simp only [List.mem_map, List.mem_range] at hx
    obtain ⟨k, hk, rfl⟩ := hx
    exact ⟨_, rfl, by omega, by omega⟩
  · unfold rngL
    simp only [List.mem_map, List.mem_range]
    exact ⟨(r - i).toNat, by omega, by congr 1; omega⟩
def fourI : Ss := (.cons (.asg (.nm 3) (.call 1 (.cons false (.bin .sub (.bin .sub (.var 0) (.bin .mul (.var 1) (.var 1))) (.bin .mul (.var 2) (.var 2))) .nil)))
    (.cons (.ifs (.cmp .isnt (.var 3) .non) (.cons (.ret (.tup (.cons false (.var 1) (.cons false (.var 2) (.cons false (.ix (.var 3) (.int 1)) (.cons false (.ix (.var 3) (.int 0)) .nil))))))
    .nil) .nil)
    .nil))
def fourO : Ss := (.cons (.fr (.nm 2) (.rng3 (.call 0 (.cons false (.bin .sub (.var 0) (.bin .mul (.var 1) (.var 1))) .nil)) (.neg (.int 1)) (.neg (.int 1))) fourI) .nil)
def fourB : Ss :=
  (.cons (.fr (.nm 1) (.rng3 (.call 0 (.cons false (.var 0) .nil)) (.neg (.int 1)) (.neg (.int 1))) fourO)
    (.cons (.ret .non)
    .nil))
def TwoCl (cl : Cl) (n : Int) : Prop := ∀ m : Int, 0 ≤ m → m ≤ n → ∃ d, TwoOk m d ∧ cl 1 [.v (.int m)] [] = some (.ok (.v d) [] [])
def FourR (n : Int) (d : D) : Prop := ∃ a b c e : Int, d = .tup [.int a, .int b, .int c, .int e] ∧ 0 ≤ a ∧ 0 ≤ b ∧ 0 ≤ c ∧ 0 ≤ e ∧ a * a + b * b + c * c + e * e = n
theorem sq_le {r n : Int} (h0 : 0 ≤ r) (h : r * r ≤ n) : r ≤ n := by
  by_cases z1 : r ≤ 1
  · have : r = 0 ∨ r = 1 := by omega
    rcases this with rfl | rfl <;> omega
  · have := Int.mul_le_mul (show 1 ≤ r by omega) (Int.le_refl r) h0 h0
    omega
theorem four_turn (n c d : Int) (hs : n < 2 ^ 59) (h2 : TwoCl cl n) (h : AH) (c0 : 0 ≤ c) (d0 : 0 ≤ d) (hcd : c * c + d * d ≤ n) (s3 : Sl) :
    (∃ r e', evSs cl W fourI [.v (.int n), .v (.int c), .v (.int d), s3] h = some (.ok (.rt (.v r)) e' h) ∧ FourR n r) ∨
      (∃ s3', evSs cl W fourI [.v (.int n), .v (.int c), .v (.int d), s3] h = some (.ok .nx [.v (.int n), .v (.int c), .v (.int d), s3'] h) ∧ ∀ a b : Int, a * a + b * b ≠ n - c * c - d * d) := by
  have q1 := sq_nn c
  have q2 := sq_nn d
  have sc : small64 c = true := by have := sq_le c0 (show c * c ≤ n by omega); simp [small64]; omega
  have sd : small64 d = true := by have := sq_le d0 (show d * d ≤ n by omega); simp [small64]; omega
  obtain ⟨r, hr, hc⟩ := h2 (n - c * c - d * d) (by omega) (by omega)
  have lw : r.low 0 = true := by
    rcases hr with ⟨a, b, rfl, _⟩ | ⟨rfl, _⟩ <;> rfl
  have cc : call cl 1 [.v (.int (n - c * c - d * d))] [.v (.int n), .v (.int c), .v (.int d), s3] h = some (.ok (.v r) [.v (.int n), .v (.int c), .v (.int d), s3] h) := call_pure (ss := [.v (.int (n - c * c - d * d))]) rfl rfl hc lw rfl
  have b1 : evS cl W (.asg (.nm 3) (.call 1 (.cons false (.bin .sub (.bin .sub (.var 0) (.bin .mul (.var 1) (.var 1))) (.bin .mul (.var 2) (.var 2))) .nil))) [.v (.int n), .v (.int c), .v (.int d), s3] h = some (.ok .nx [.v (.int n), .v (.int c), .v (.int d), .v r] h) := by
    have : evR cl (.cons false (.bin .sub (.bin .sub (.var 0) (.bin .mul (.var 1) (.var 1))) (.bin .mul (.var 2) (.var 2))) .nil) [.v (.int n), .v (.int c), .v (.int d), s3] h = some (.ok [.v (.int (n - c * c - d * d))] [.v (.int n), .v (.int c), .v (.int d), s3] h) := by
      simp [evR, evE, bd, rd, op2, lift, sc, sd]
    simp only [evS, evE, this, bd_ok, cc]
    simp [bindR, frz, bindG, Option.bind]
  rcases hr with ⟨a, b, rfl, p0, p1, p2⟩ | ⟨rfl, p⟩
  · refine .inl ⟨.tup [.int c, .int d, .int b, .int a], [.v (.int n), .v (.int c), .v (.int d), .v (.tup [.int a, .int b])], ?_, c, d, b, a, rfl, c0, d0, by omega, p0, by omega⟩
    unfold fourI
    refine ss_nx b1 (ss_rt (e' := [.v (.int n), .v (.int c), .v (.int d), .v (.tup [.int a, .int b])]) ?_)
    simp [evS, evSs, evE, evD, bd, rd, lift, cmpD, truth, Option.bind, ixD, ixN, frz, sizeMax, retR]
  · refine .inr ⟨.v .non, ?_, p⟩
    unfold fourI
    refine ss_nx b1 (ss_nx (e' := [.v (.int n), .v (.int c), .v (.int d), .v .non]) (h' := h) ?_ rfl)
    simp [evS, evSs, evE, bd, rd, lift, cmpD, truth, Option.bind]
theorem four_in (n c : Int) (hs : n < 2 ^ 59) (hr : RootOk cl n) (h2 : TwoCl cl n) (h : AH) (c0 : 0 ≤ c) (hc : c * c ≤ n) (s2 s3 : Sl) :
    (∃ r e', evSs cl W fourO [.v (.int n), .v (.int c), s2, s3] h = some (.ok (.rt (.v r)) e' h) ∧ FourR n r) ∨
      (∃ s2' s3', evSs cl W fourO [.v (.int n), .v (.int c), s2, s3] h = some (.ok .nx [.v (.int n), .v (.int c), s2', s3'] h) ∧ ∀ a b d : Int, 0 ≤ d → a * a + b * b + d * d ≠ n - c * c) := by
  have q1 := sq_nn c
  have sc : small64 c = true := by have := sq_le c0 hc; simp [small64]; omega
  obtain ⟨r, r0, r1, r2, r3⟩ := hr (n - c * c) (by omega) (by omega)
  have rn : r ≤ n - c * c := sq_le r0 r1
  obtain ⟨xs, x1, x2, x3⟩ := rng_down r r0 (by omega)
  have cc : call cl 0 [.v (.int (n - c * c))] [.v (.int n), .v (.int c), s2, s3] h = some (.ok (.v (.int r)) [.v (.int n), .v (.int c), s2, s3] h) := call_pure (ss := [.v (.int (n - c * c))]) rfl rfl r3 rfl rfl
  have it : evI cl (.rng3 (.call 0 (.cons false (.bin .sub (.var 0) (.bin .mul (.var 1) (.var 1))) .nil)) (.neg (.int 1)) (.neg (.int 1))) [.v (.int n), .v (.int c), s2, s3] h = some (.ok (xs, []) [.v (.int n), .v (.int c), s2, s3] h) := by
    have : evR cl (.cons false (.bin .sub (.var 0) (.bin .mul (.var 1) (.var 1))) .nil) [.v (.int n), .v (.int c), s2, s3] h = some (.ok [.v (.int (n - c * c))] [.v (.int n), .v (.int c), s2, s3] h) := by
      simp [evR, evE, bd, rd, op2, lift, sc]
    simp only [evI, evE, this, bd_ok, cc, rd]
    simp [x1]
  have key := forS_find (h := h) (f := fun x e h => match bindG (.nm 2) x e with
      | some e => evSs cl W fourI e h
      | none => none) (I := fun e => ∃ s2 s3, e = [.v (.int n), .v (.int c), s2, s3]) (P := fun r => ∃ d, r = .v d ∧ FourR n d) (Nx := fun x => ∀ d : Int, x = .int d → ∀ a b : Int, a * a + b * b ≠ n - c * c - d * d) xs [.v (.int n), .v (.int c), s2, s3] (fun x hx e he => by
    obtain ⟨t2, t3, rfl⟩ := he
    obtain ⟨d, rfl, d0, d1⟩ := x2 x hx
    have dd : d * d ≤ r * r := Int.mul_le_mul d1 d1 d0 r0
    have bg : bindG (.nm 2) (.int d) [.v (.int n), .v (.int c), t2, t3] = some [.v (.int n), .v (.int c), .v (.int d), t3] := rfl
    simp only [bg]
    rcases four_turn (W := W) n c d hs h2 h c0 d0 (by omega) t3 with ⟨r', e', p1, p2⟩ | ⟨s3', p1, p2⟩
    · exact .inl ⟨_, e', p1, _, rfl, p2⟩
    · exact .inr ⟨_, p1, ⟨_, _, rfl⟩, fun d' ed => by cases ed; exact p2⟩) ⟨_, _, rfl⟩
  rcases key with ⟨r', e', p1, d, rfl, p2⟩ | ⟨e', p1, ⟨t2, t3, rfl⟩, p2⟩
  · refine .inl ⟨d, e', ?_, p2⟩
    unfold fourO
    refine ss_rt ?_
    simp only [evS, it, bd_ok, lockS]
    exact congrArg (letGo []) p1
  · refine .inr ⟨t2, t3, ?_, fun a b d d0 e => ?_⟩
    · unfold fourO
      refine ss_nx (e' := [.v (.int n), .v (.int c), t2, t3]) (h' := h) ?_ rfl
      simp only [evS, it, bd_ok, lockS]
      exact congrArg (letGo []) p1
    · have a1 := sq_nn a
      have b1 := sq_nn b
      have dr : d ≤ r := by
        have : d < r + 1 := lt_of_sq (by omega) (by omega)
        omega
      exact p2 _ (x3 d d0 dr) d rfl a b (by omega)
theorem four_ok (n : Int) (hn : 0 ≤ n) (hs : n < 2 ^ 59) (hr : RootOk cl n) (h2 : TwoCl cl n) (h : AH) (ex : ∃ a b c d : Int, a * a + b * b + c * c + d * d = n) : ∃ d, FourR n d ∧ runF cl W ⟨1, 4, fourB⟩ [.v (.int n)] h = some (.ok (.v d) [] h) := by
  obtain ⟨r, r0, r1, r2, r3⟩ := hr n hn (Int.le_refl _)
  have rn : r ≤ n := sq_le r0 r1
  obtain ⟨xs, x1, x2, x3⟩ := rng_down r r0 (by omega)
  have cc : call cl 0 [.v (.int n)] [.v (.int n), .un, .un, .un] h = some (.ok (.v (.int r)) [.v (.int n), .un, .un, .un] h) := call_pure (ss := [.v (.int n)]) rfl rfl r3 rfl rfl
  have it : evI cl (.rng3 (.call 0 (.cons false (.var 0) .nil)) (.neg (.int 1)) (.neg (.int 1))) [.v (.int n), .un, .un, .un] h = some (.ok (xs, []) [.v (.int n), .un, .un, .un] h) := by
    have : evR cl (.cons false (.var 0) .nil) [.v (.int n), .un, .un, .un] h = some (.ok [.v (.int n)] [.v (.int n), .un, .un, .un] h) := by
      simp [evR, evE, bd]
    simp only [evI, evE, this, bd_ok, cc, rd]
    simp [x1]
  have key := forS_find (h := h) (f := fun x e h => match bindG (.nm 1) x e with
      | some e => evSs cl W fourO e h
      | none => none) (I := fun e => ∃ s1 s2 s3, e = [.v (.int n), s1, s2, s3]) (P := fun r => ∃ d, r = .v d ∧ FourR n d) (Nx := fun x => ∀ c : Int, x = .int c → ∀ a b d : Int, 0 ≤ d → a * a + b * b + d * d ≠ n - c * c) xs [.v (.int n), .un, .un, .un] (fun x hx e he => by
    obtain ⟨t1, t2, t3, rfl⟩ := he
    obtain ⟨c, rfl, c0, c1⟩ := x2 x hx
    have dd : c * c ≤ r * r := Int.mul_le_mul c1 c1 c0 r0
    have bg : bindG (.nm 1) (.int c) [.v (.int n), t1, t2, t3] = some [.v (.int n), .v (.int c), t2, t3] := rfl
    simp only [bg]
    rcases four_in (W := W) n c hs hr h2 h c0 (by omega) t2 t3 with ⟨r', e', p1, p2⟩ | ⟨s2', s3', p1, p2⟩
    · exact .inl ⟨_, e', p1, _, rfl, p2⟩
    · exact .inr ⟨_, p1, ⟨_, _, _, rfl⟩, fun d' ed => by cases ed; exact p2⟩) ⟨_, _, _, rfl⟩
  rcases key with ⟨r', e', p1, d, rfl, p2⟩ | ⟨e', p1, ⟨t1, t2, t3, rfl⟩, p2⟩
  · refine ⟨d, p2, ?_⟩
    have bb : evSs cl W fourB [.v (.int n), .un, .un, .un] h = some (.ok (.rt (.v d)) e' h) := by
      unfold fourB
      refine ss_rt ?_
      simp only [evS, it, bd_ok, lockS]
      exact congrArg (letGo []) p1
    rw [runF_rt (by rfl) bb]
    simp [trim]
  · exfalso
    obtain ⟨a, b, c, d, e⟩ := ex
    have ab : ∀ x : Int, ∃ z, 0 ≤ z ∧ z * z = x * x := fun x => by
      rcases Int.le_total 0 x with p | p
      · exact ⟨x, p, rfl⟩
      · exact ⟨-x, by omega, by grind⟩
    obtain ⟨c', c0, hc⟩ := ab c
    obtain ⟨d', d0, hd⟩ := ab d
    have a1 := sq_nn a
    have b1 := sq_nn b
    have d1 := sq_nn d
    have cr : c' ≤ r := by
      have : c' < r + 1 := lt_of_sq (by omega) (by omega)
      omega
    exact p2 _ (x3 c' c0 cr) c' rfl a b d' d0 (by omega)
end Mp

/-! comprehensions without side effects -/
namespace Mp
variable {cl cl' : Cl} {W : Nat}
theorem forC_pure {own : List Nat} {f : D → Ev → AH → Option (O (Option D))} {e : Ev} {h : AH} {B : D → Ev} {p : D → Bool} {F : D → D} : ∀ (xs : List D) (acc : List D) (e' : Ev),
    (∀ x ∈ xs, f x (wipeS own e) h = some (.ok (if p x then some (F x) else none) (B x) h) ∧ wipeS own (B x) = wipeS own e ∧ noOwn own (B x) = true) → wipeS own e' = wipeS own e →
    ∃ e2, forC own f xs acc e' h = some (.ok (acc ++ (xs.filter p).map F) e2 h) ∧ (e2 = e' ∨ ∃ x ∈ xs, e2 = B x)
  | [], acc, e', _, _ => ⟨e', by simp [forC], .inl rfl⟩
  | x :: xs, acc, e', hf, hw => by
    obtain ⟨h1, h2, h3⟩ := hf x (List.mem_cons_self ..)
    rw [forC, hw, h1]
    simp only [bd_ok, h3, if_true]
    cases hp : p x with
    | true =>
      obtain ⟨e2, q1, q2⟩ := forC_pure (F := F) (p := p) (B := B) xs (acc ++ [F x]) (B x) (fun y hy => hf y (List.mem_cons_of_mem _ hy)) h2
      refine ⟨e2, ?_, ?_⟩
      · simp only [if_true]
        rw [q1]
        simp [hp]
      · rcases q2 with rfl | ⟨y, hy, rfl⟩
        · exact .inr ⟨x, List.mem_cons_self .., rfl⟩
        · exact .inr ⟨y, List.mem_cons_of_mem _ hy, rfl⟩
    | false =>
      obtain ⟨e2, q1, q2⟩ := forC_pure (F := F) (p := p) (B := B) xs acc (B x) (fun y hy => hf y (List.mem_cons_of_mem _ hy)) h2
      refine ⟨e2, ?_, ?_⟩
      · simp only [Bool.false_eq_true, if_false]
        rw [q1]
        simp [hp]
      · rcases q2 with rfl | ⟨y, hy, rfl⟩
        · exact .inr ⟨x, List.mem_cons_self .., rfl⟩
        · exact .inr ⟨y, List.mem_cons_of_mem _ hy, rfl⟩
theorem comp_gen {own : List Nat} {g : G} {it : It} {c elt : E} {e : Ev} {h : AH} {xs : List D} (B : D → Ev) (p : D → Bool) (F : D → D) (hit : evI cl it e h = some (.ok (xs, []) e h)) (hno : noOwn own e = true) (hl : xs.length ≤ sizeMax) (hbk : backS own e e = e)
    (hb : ∀ x ∈ xs, bindG g x (wipeS own e) = some (B x)) (hB : ∀ x ∈ xs, wipeS own (B x) = wipeS own e ∧ noOwn own (B x) = true ∧ backS own e (B x) = e)
    (hc : ∀ x ∈ xs, ∃ t, evE cl c (B x) h = some (.ok t (B x) h) ∧ (rd (B x) h t).bind truth = some (p x))
    (he : ∀ x ∈ xs, p x = true → ∃ r, evE cl elt (B x) h = some (.ok r (B x) h) ∧ frz (B x) r = some (F x, B x)) :
    evE cl (.comp elt own g it c) e h = some (.ok (.fr (.lst ((xs.filter p).map F))) e h) := by
  rw [evE, hit]
  simp only [bd_ok, hno, decide_eq_true hl, Bool.and_self, if_true, lockS]
  have key := forC_pure (own := own) (e := e) (h := h) (B := B) (p := p) (F := F) (f := fun x e h => match bindG g x e with
          | some e => bd (noEx (evE cl c e h)) fun t e h => match (rd e h t).bind truth with
            | some true => bd (noEx (evE cl elt e h)) fun y e h => match frz e y with
              | some (d, e) => some (.ok (some d) e h)
              | none => none
            | some false => some (.ok none e h)
            | none => none
          | none => none) xs [] e (fun x hx => by
    obtain ⟨w1, w2, w3⟩ := hB x hx
    refine ⟨?_, w1, w2⟩
    obtain ⟨t, t1, t2⟩ := hc x hx
    simp only [hb x hx, t1, noEx_ok, bd_ok, t2]
    cases hp : p x with
    | false => rfl
    | true =>
      obtain ⟨r, r1, r2⟩ := he x hx hp
      simp only [r1, noEx_ok, bd_ok, r2, if_true]) rfl
  obtain ⟨e2, q1, q2⟩ := key
  refine Eq.trans (congrArg (fun m => bd m (fun ys e' h => some (O.ok (Rv.fr (.lst ys)) (freeS [] (backS own e e')) h))) q1) ?_
  simp only [bd_ok, List.nil_append, freeS]
  rcases q2 with rfl | ⟨x, hx, rfl⟩
  · rw [hbk]
  · rw [(hB x hx).2.2]
/-- .. all of them -/
theorem comp_all {own : List Nat} {g : G} {it : It} {elt : E} {e : Ev} {h : AH} {xs : List D} (B : D → Ev) (F : D → D) (hit : evI cl it e h = some (.ok (xs, []) e h)) (hno : noOwn own e = true) (hl : xs.length ≤ sizeMax) (hbk : backS own e e = e)
    (hb : ∀ x ∈ xs, bindG g x (wipeS own e) = some (B x)) (hB : ∀ x ∈ xs, wipeS own (B x) = wipeS own e ∧ noOwn own (B x) = true ∧ backS own e (B x) = e)
    (he : ∀ x ∈ xs, ∃ r, evE cl elt (B x) h = some (.ok r (B x) h) ∧ frz (B x) r = some (F x, B x)) :
    evE cl (.comp elt own g it (.bl true)) e h = some (.ok (.fr (.lst (xs.map F))) e h) := by
  have := comp_gen (c := .bl true) (elt := elt) B (fun _ => true) F hit hno hl hbk hb hB (fun x hx => ⟨.v (.bl true), by simp [evE], by simp [rd, truth]⟩) (fun x hx _ => he x hx)
  rw [List.filter_eq_self.mpr (fun _ _ => rfl)] at this
  exact this
def fstD : D → Int
  | .tup [.int x, _] => x
  | _ => 0
def sndD : D → Int
  | .tup [_, .int y] => y
  | _ => 0
theorem zipL_mem : ∀ {xs ys : List Int} {d : D}, d ∈ zipL (xs.map D.int) (ys.map D.int) → ∃ x y, x ∈ xs ∧ y ∈ ys ∧ d = .tup [.int x, .int y]
  | [], _, _, h => by simp [zipL] at h
  | _ :: _, [], _, h => by simp [zipL] at h
  | x :: xs, y :: ys, d, h => by
    simp only [List.map_cons, zipL, List.mem_cons] at h
    rcases h with rfl | h
    · exact ⟨x, y, List.mem_cons_self .., List.mem_cons_self .., rfl⟩
    · obtain ⟨x', y', h1, h2, h3⟩ := zipL_mem h
      exact ⟨x', y', List.mem_cons_of_mem _ h1, List.mem_cons_of_mem _ h2, h3⟩
theorem zipL_map (F : Int → Int → D) : ∀ (xs ys : List Int), (zipL (xs.map D.int) (ys.map D.int)).map (fun d => F (fstD d) (sndD d)) = List.zipWith F xs ys
  | [], _ => by simp [zipL]
  | _ :: _, [] => by simp [zipL]
  | x :: xs, y :: ys => by
    simp only [List.map_cons, zipL, List.zipWith_cons_cons, zipL_map F xs ys]
    rfl
theorem zipL_le : ∀ (xs ys : List D), (zipL xs ys).length ≤ xs.length
  | [], _ => by simp [zipL]
  | _ :: _, [] => by simp [zipL]
  | x :: xs, y :: ys => by
    simp only [zipL, List.length_cons]
    have := zipL_le xs ys
    omega
/-- [x * y for x, y in zip(..)] -/
theorem dot_comp {i j : Nat} {it : It} {e : Ev} {h : AH} {xs ys : List Int} (B : Int → Int → Ev) (hit : evI cl it e h = some (.ok (zipL (xs.map D.int) (ys.map D.int), []) e h)) (hs : ∀ x ∈ xs, small64 x = true) (hl : xs.length ≤ sizeMax) (hno : noOwn [i, j] e = true) (hbk : backS [i, j] e e = e)
    (hb : ∀ x y, bindG (.tp (.cons (.nm i) (.cons (.nm j) .nil))) (.tup [.int x, .int y]) (wipeS [i, j] e) = some (B x y)) (hB : ∀ x y, wipeS [i, j] (B x y) = wipeS [i, j] e ∧ noOwn [i, j] (B x y) = true ∧ backS [i, j] e (B x y) = e)
    (hi : ∀ x y, (B x y)[i]? = some (.v (.int x))) (hj : ∀ x y, (B x y)[j]? = some (.v (.int y))) :
    evE cl (.comp (.bin .mul (.var i) (.var j)) [i, j] (.tp (.cons (.nm i) (.cons (.nm j) .nil))) it (.bl true)) e h = some (.ok (.fr (.lst ((List.zipWith (· * ·) xs ys).map D.int))) e h) := by
  have key := comp_all (elt := .bin .mul (.var i) (.var j)) (fun d => B (fstD d) (sndD d)) (fun d => .int (fstD d * sndD d)) hit hno (by have := zipL_le (xs.map D.int) (ys.map D.int); rw [List.length_map] at this; omega) hbk
    (fun d hd => by obtain ⟨x, y, _, _, rfl⟩ := zipL_mem hd; exact hb x y) (fun d hd => by obtain ⟨x, y, _, _, rfl⟩ := zipL_mem hd; exact hB x y)
    (fun d hd => by
      obtain ⟨x, y, hx, hy, rfl⟩ := zipL_mem hd
      refine ⟨.v (.int (x * y)), ?_, rfl⟩
      show evE cl (.bin .mul (.var i) (.var j)) (B x y) h = some (.ok _ (B x y) h)
      simp [evE, hi, hj, bd, rd, op2, lift, hs x hx])
  rw [key]
  have := zipL_map (fun x y => D.int (x * y)) xs ys
  rw [this]
  congr 4
  rw [List.map_zipWith]
theorem intsOf_int (l : List Int) : intsOf (l.map D.int) = some l := by
  induction l with
  | nil => rfl
  | cons i l ih => rw [List.map_cons, intsOf, ih]; rfl
/-! one step at a time -/
theorem bi1_ok {b : Bi} {a : E} {e e' : Ev} {h h' : AH} {r res : Rv} {d : D} (ha : evE cl a e h = some (.ok r e' h')) (hr : rd e' h' r = some d) (hb : bfn b [d] = some res) : evE cl (.bi b (.cons false a .nil)) e h = some (.ok res e' h') := by
  simp only [evE, evR, ha, bd_ok, List.mapM_cons, List.mapM_nil, hr]
  simp [hb, lift]
theorem retE_ok {a : E} {e e' e2 : Ev} {h h' : AH} {r r' : Rv} (ha : evE cl a e h = some (.ok r e' h')) (hr : retR e' r = some (r', e2)) : evS cl W (.ret a) e h = some (.ok (.rt r') e2 h') := by
  simp only [evS, ha, bd_ok, hr]
theorem asg_ok {a : E} {g : G} {e e' e2 : Ev} {h h' : AH} {r : Rv} (ha : evE cl a e h = some (.ok r e' h')) (hr : bindR g r e' = some e2) : evS cl W (.asg g a) e h = some (.ok .nx e2 h') := by
  simp only [evS, ha, bd_ok, hr]
theorem call1_ok {f : Nat} {a : E} {e e' : Ev} {h h' : AH} {d r : D} {e2 : Ev} (ha : evE cl a e h = some (.ok (.v d) e' h')) (hc : cl f [.v d] [] = some (.ok (.v r) e2 [])) (ld : d.low 0 = true) (lr : r.low 0 = true) : evE cl (.call f (.cons false a .nil)) e h = some (.ok (.v r) e' h') := by
  simp only [evE, evR, ha, bd_ok]
  exact call_pure (ss := [.v d]) rfl (by simp [Sl.low, ld]) hc lr rfl
theorem call2_ok {f : Nat} {a b : E} {e e' e3 : Ev} {h h' h3 : AH} {d d' r : D} {e2 : Ev} (ha : evE cl a e h = some (.ok (.v d) e' h')) (hb : evE cl b e' h' = some (.ok (.v d') e3 h3)) (hc : cl f [.v d, .v d'] [] = some (.ok (.v r) e2 [])) (ld : d.low 0 = true) (ld' : d'.low 0 = true) (lr : r.low 0 = true) :
    evE cl (.call f (.cons false a (.cons false b .nil))) e h = some (.ok (.v r) e3 h3) := by
  simp only [evE, evR, ha, hb, bd_ok]
  exact call_pure (ss := [.v d, .v d']) rfl (by simp [Sl.low, ld, ld']) hc lr rfl
theorem ifs_true {c : E} {a b : Ss} {e e' : Ev} {h h' : AH} {r : Rv} (hc : evE cl c e h = some (.ok r e' h')) (ht : (rd e' h' r).bind truth = some true) : evS cl W (.ifs c a b) e h = evSs cl W a e' h' := by
  simp only [evS, hc, bd_ok, ht]
theorem ifs_false {c : E} {a : Ss} {e e' : Ev} {h h' : AH} {r : Rv} (hc : evE cl c e h = some (.ok r e' h')) (ht : (rd e' h' r).bind truth = some false) : evS cl W (.ifs c a .nil) e h = some (.ok .nx e' h') := by
  simp only [evS, hc, bd_ok, ht, evSs]
theorem or_no {a b : E} {e e' e2 : Ev} {h h' h2 : AH} {x y : Rv} (ha : evE cl a e h = some (.ok x e' h')) (hx : (rd e' h' x).bind truth = some false) (hb : evE cl b e' h' = some (.ok y e2 h2)) : evE cl (.or a b) e h = some (.ok y e2 h2) := by
  simp only [evE, ha, bd_ok, hx, hb]
theorem cmp_okk {o : Cm} {a b : E} {e e' e2 : Ev} {h h' h2 : AH} {x y : Rv} {p q : D} {t : Bool} (ha : evE cl a e h = some (.ok x e' h')) (hb : evE cl b e' h' = some (.ok y e2 h2)) (hx : rd e2 h2 x = some p) (hy : rd e2 h2 y = some q) (hc : cmpD o p q = some t) :
    evE cl (.cmp o a b) e h = some (.ok (.v (.bl t)) e2 h2) := by
  simp only [evE, ha, hb, bd_ok, hx, hy, hc]
  rfl
theorem ix_okk {a b : E} {e e' e2 : Ev} {h h' h2 : AH} {x y : Rv} {p q r : D} (ha : evE cl a e h = some (.ok x e' h')) (hb : evE cl b e' h' = some (.ok y e2 h2)) (hx : rd e2 h2 x = some p) (hy : rd e2 h2 y = some q) (hc : ixD p q = some r) :
    evE cl (.ix a b) e h = some (.ok (.v r) e2 h2) := by
  simp only [evE, ha, hb, bd_ok, hx, hy, hc]
  rfl
theorem sum_ints (l : List Int) : bfn .sum [.lst (l.map D.int)] = some (.v (.int l.sum)) := by
  simp only [bfn, intsOf_int, Option.map]
theorem sameD_refl : ∀ d : D, (sameD d d = true ∨ sameD d d = false) := fun d => by cases sameD d d <;> simp
/-! ### drawing within expressions -/
section
variable {cl'' : Cl} {pk oq : Nat} {mm : Int}
theorem pick_E (hpk : ∀ ss h, cl pk ss h = runF cl' W ⟨2, 6, pickA⟩ ss h) {s : Nat} {e : Ev} {M : E} {m : Int} (hs : e[s]? = some (.v (.ref 1))) (hM : ∀ h, evE cl M e h = some (.ok (.v (.int m)) e h)) (hm : m < 1073741824) (cs : List Int) (l t : Int) (hW : cs.length < W) :
    ∃ r cs' l' t', cs'.length < W ∧ evE cl (.call pk (.cons false (.var s) (.cons false M .nil))) e (hp cs l mm t) = some (.ok (.v (.int r)) e (hp cs' l' mm t')) ∧ (1 ≤ m → 0 ≤ r ∧ r < m) := by
  obtain ⟨r, cs', l', t', q1, q2, q3, q4⟩ := pick_call (cl := cl) hpk cs l m mm t hW hm e
  refine ⟨r, cs', l', t', Nat.lt_of_le_of_lt q4.length_le hW, ?_, fun h1 => ?_⟩
  · simp only [evE, evR, hs, hM, bd_ok, q1]
  · by_cases h2 : 2 ≤ m
    · exact q2 h2
    · rw [q3 (by omega)]; omega
theorem of_E (hof : ∀ ss h, cl oq ss h = runF cl' W ⟨2, 2, ofB pk⟩ ss h) (hpk : ∀ ss h, cl' pk ss h = runF cl'' W ⟨2, 6, pickA⟩ ss h) {s : Nat} {e : Ev} {X : E} {xs : List D} (hs : e[s]? = some (.v (.ref 1))) (hX : ∀ h, evE cl X e h = some (.ok (.fr (.lst xs)) e h))
    (h1 : 1 ≤ xs.length) (h2 : xs.length < 1073741824) (cs : List Int) (l t : Int) (hW : cs.length < W) :
    ∃ d ∈ xs, ∃ cs' l' t', cs'.length < W ∧ evE cl (.call oq (.cons false (.var s) (.cons false X .nil))) e (hp cs l mm t) = some (.ok (.v d) e (hp cs' l' mm t')) := by
  obtain ⟨d, hd, cs', l', t', q1, q2⟩ := of_ok (cl := cl') (W := W) hpk cs l mm t hW xs h1 h2
  refine ⟨d, hd, cs', l', t', Nat.lt_of_le_of_lt q1.length_le hW, ?_⟩
  simp only [evE, evR, hs, hX, bd_ok]
  refine call_nb (ss := [.v (.ref 1), .ow (.lst xs)]) rfl rfl rfl ?_
  rw [hof]; exact q2
theorem forC_hp {own : List Nat} {f : D → Ev → AH → Option (O (Option D))} {e : Ev} {B : D → Ev} {P : D → Prop} : ∀ (xs : List D) (acc : List D) (e' : Ev) (cs : List Int) (l t : Int),
    (∀ x ∈ xs, (∀ cs l t, cs.length < W → ∃ d cs' l' t', cs'.length < W ∧ f x (wipeS own e) (hp cs l mm t) = some (.ok (some d) (B x) (hp cs' l' mm t')) ∧ P d) ∧ wipeS own (B x) = wipeS own e ∧ noOwn own (B x) = true) → wipeS own e' = wipeS own e → cs.length < W →
    ∃ ds e2 cs' l' t', cs'.length < W ∧ forC own f xs acc e' (hp cs l mm t) = some (.ok (acc ++ ds) e2 (hp cs' l' mm t')) ∧ ds.length = xs.length ∧ (∀ d ∈ ds, P d) ∧ (e2 = e' ∨ ∃ x ∈ xs, e2 = B x)
  | [], acc, e', cs, l, t, _, _, hW => ⟨[], e', cs, l, t, hW, by simp [forC], rfl, fun d hd => by simp at hd, .inl rfl⟩
  | x :: xs, acc, e', cs, l, t, hf, hw, hW => by
    obtain ⟨h1, h2, h3⟩ := hf x (List.mem_cons_self ..)
    obtain ⟨d, cs1, l1, t1, w1, q1, pd⟩ := h1 cs l t hW
    obtain ⟨ds, e2, cs2, l2, t2, w2, q2, q3, q4, q5⟩ := forC_hp (B := B) (P := P) xs (acc ++ [d]) (B x) cs1 l1 t1 (fun y hy => hf y (List.mem_cons_of_mem _ hy)) h2 w1
    refine ⟨d :: ds, e2, cs2, l2, t2, w2, ?_, by simp [q3], fun y hy => ?_, ?_⟩
    · rw [forC, hw, q1]
      simp only [bd_ok, h3, if_true]
      rw [q2]
      simp
    · rcases List.mem_cons.mp hy with rfl | hy
      · exact pd
      · exact q4 y hy
    · rcases q5 with rfl | ⟨y, hy, rfl⟩
      · exact .inr ⟨x, List.mem_cons_self .., rfl⟩
      · exact .inr ⟨y, List.mem_cons_of_mem _ hy, rfl⟩
theorem comp_hp {own : List Nat} {g : G} {it : It} {elt : E} {e : Ev} {xs : List D} (B : D → Ev) (P : D → Prop) (hit : ∀ h, evI cl it e h = some (.ok (xs, []) e h)) (hno : noOwn own e = true) (hl : xs.length ≤ sizeMax) (hbk : backS own e e = e)
    (hb : ∀ x ∈ xs, bindG g x (wipeS own e) = some (B x)) (hB : ∀ x ∈ xs, wipeS own (B x) = wipeS own e ∧ noOwn own (B x) = true ∧ backS own e (B x) = e)
    (he : ∀ x ∈ xs, ∀ cs l t, cs.length < W → ∃ r d cs' l' t', cs'.length < W ∧ evE cl elt (B x) (hp cs l mm t) = some (.ok r (B x) (hp cs' l' mm t')) ∧ frz (B x) r = some (d, B x) ∧ P d) (cs : List Int) (l t : Int) (hW : cs.length < W) :
    ∃ ds cs' l' t', cs'.length < W ∧ ds.length = xs.length ∧ (∀ d ∈ ds, P d) ∧ evE cl (.comp elt own g it (.bl true)) e (hp cs l mm t) = some (.ok (.fr (.lst ds)) e (hp cs' l' mm t')) := by
  have key := forC_hp (W := W) (mm := mm) (own := own) (e := e) (B := B) (P := P) (f := fun x e h => match bindG g x e with
          | some e => bd (noEx (evE cl (.bl true) e h)) fun t e h => match (rd e h t).bind truth with
            | some true => bd (noEx (evE cl elt e h)) fun y e h => match frz e y with
              | some (d, e) => some (.ok (some d) e h)
              | none => none
            | some false => some (.ok none e h)
            | none => none
          | none => none) xs [] e cs l t (fun x hx => by
    obtain ⟨w1, w2, w3⟩ := hB x hx
    refine ⟨fun cs l t hW => ?_, w1, w2⟩
    obtain ⟨r, d, cs', l', t', w', q1, q2, q3⟩ := he x hx cs l t hW
    refine ⟨d, cs', l', t', w', ?_, q3⟩
    have tr : ∀ h, (rd (B x) h (.v (.bl true))).bind truth = some true := fun h => rfl
    simp only [hb x hx, evE, noEx_ok, bd_ok, tr, q1, q2]) rfl hW
  obtain ⟨ds, e2, cs2, l2, t2, w2, q2, q3, q4, q5⟩ := key
  refine ⟨ds, cs2, l2, t2, w2, q3, q4, ?_⟩
  rw [evE, hit]
  simp only [bd_ok, hno, decide_eq_true hl, Bool.and_self, if_true, lockS]
  refine Eq.trans (congrArg (fun m => bd m (fun ys e' h => some (O.ok (Rv.fr (.lst ys)) (freeS [] (backS own e e')) h))) q2) ?_
  simp only [bd_ok, List.nil_append, freeS]
  rcases q5 with rfl | ⟨x, hx, rfl⟩
  · rw [hbk]
  · rw [(hB x hx).2.2]
theorem pick_F (hpk : ∀ ss h, cl pk ss h = runF cl' W ⟨2, 6, pickA⟩ ss h) {s : Nat} {e : Ev} {M : E} {m : Int} {h0 : AH} (hs : e[s]? = some (.v (.ref 1))) (cs : List Int) (l t : Int) (hM : evE cl M e h0 = some (.ok (.v (.int m)) e (hp cs l mm t))) (hm : m < 1073741824) (hW : cs.length < W) :
    ∃ r cs' l' t', cs'.length < W ∧ evE cl (.call pk (.cons false (.var s) (.cons false M .nil))) e h0 = some (.ok (.v (.int r)) e (hp cs' l' mm t')) ∧ (1 ≤ m → 0 ≤ r ∧ r < m) := by
  obtain ⟨r, cs', l', t', q1, q2, q3, q4⟩ := pick_call (cl := cl) hpk cs l m mm t hW hm e
  refine ⟨r, cs', l', t', Nat.lt_of_le_of_lt q4.length_le hW, ?_, fun h1 => ?_⟩
  · simp only [evE, evR, hs, hM, bd_ok, q1]
  · by_cases h2 : 2 ≤ m
    · exact q2 h2
    · rw [q3 (by omega)]; omega
/-- a for whose turns all go on -/
theorem forS_all {f : D → Ev → AH → Option (O Fl)} {I : Ev → AH → Prop} : ∀ (xs : List D) (e : Ev) (h : AH), (∀ x ∈ xs, ∀ e h, I e h → ∃ e' h', f x e h = some (.ok .nx e' h') ∧ I e' h') → I e h → ∃ e' h', forS f xs e h = some (.ok .nx e' h') ∧ I e' h'
  | [], e, h, _, i => ⟨e, h, rfl, i⟩
  | x :: xs, e, h, hf, i => by
    obtain ⟨e1, h1, q1, i1⟩ := hf x (List.mem_cons_self ..) e h i
    obtain ⟨e2, h2, q2, i2⟩ := forS_all xs e1 h1 (fun y hy => hf y (List.mem_cons_of_mem _ hy)) i1
    exact ⟨e2, h2, by simp only [forS, q1, bd_ok, q2], i2⟩
theorem fr_ok {g : G} {it : It} {b : Ss} {e e' : Ev} {h h' : AH} {xs : List D} (hit : evI cl it e h = some (.ok (xs, []) e h)) (hf : forS (fun x e h => match bindG g x e with
      | some e => evSs cl W b e h
      | none => none) xs e h = some (.ok .nx e' h')) : evS cl W (.fr g it b) e h = some (.ok .nx e' h') := by
  simp only [evS, hit, bd_ok, lockS]
  exact (congrArg (letGo []) hf).trans rfl
end
end Mp

/-! odd_primes_of: what it hands back -/
namespace Mp
variable {cl cl' : Cl} {W : Nat}
def strip : Nat → Nat → Nat → Nat → Nat × Nat
  | 0, n, _, o => (n, o)
  | f + 1, n, p, o => if n % p = 0 then strip f (n / p) p (o + 1) else (n, o)
def oplL (W : Nat) : Nat → Nat → Nat → List (Nat × Nat) → Nat × List (Nat × Nat)
  | 0, n, _, acc => (n, acc)
  | f + 1, n, p, acc => if p * p ≤ n then
      let q := strip W n p 0
      oplL W f q.1 (p + 1) (if q.2 % 2 = 1 ∧ p % 4 = 3 then acc ++ [(p, q.2)] else acc)
    else (n, acc)
def oddL (W n : Nat) : List (Nat × Nat) :=
  let q := oplL W W n 2 []
  if q.1 % 4 = 3 then q.2 ++ [(q.1, 1)] else q.2
def pD (q : Nat × Nat) : D := .tup [.int q.1, .int q.2]
def stripW : Ss := (.cons (.par [0, 3] (.cons false (.bin .fdiv (.var 0) (.var 2)) (.cons false (.bin .add (.var 3) (.int 1)) .nil))) .nil)
def oddW : Ss := (.cons (.asg (.nm 3) (.int 0))
    (.cons (.whl (.cmp .eq (.bin .mod (.var 0) (.var 2)) (.int 0)) stripW)
    (.cons (.ifs (.and (.cmp .eq (.bin .mod (.var 3) (.int 2)) (.int 1)) (.cmp .eq (.bin .mod (.var 2) (.int 4)) (.int 3))) (.cons (.expr (.me .lappend (.var 1) (.cons false (.tup (.cons false (.var 2) (.cons false (.var 3) .nil))) .nil)))
    .nil) .nil)
    (.cons (.asg (.nm 2) (.bin .add (.var 2) (.int 1)))
    .nil))))
def oddB : Ss :=
  (.cons (.par [1, 2] (.cons false (.lst .nil) (.cons false (.int 2) .nil)))
    (.cons (.whl (.cmp .le (.bin .mul (.var 2) (.var 2)) (.var 0)) oddW)
    (.cons (.ifs (.cmp .eq (.bin .mod (.var 0) (.int 4)) (.int 3)) (.cons (.expr (.me .lappend (.var 1) (.cons false (.tup (.cons false (.var 0) (.cons false (.int 1) .nil))) .nil)))
    .nil) .nil)
    (.cons (.ret (.var 1))
    .nil))))
theorem mul_okE {a b : E} {e e' e2 : Ev} {h h' h2 : AH} {p q : Int} (ha : evE cl a e h = some (.ok (.v (.int p)) e' h')) (hb : evE cl b e' h' = some (.ok (.v (.int q)) e2 h2)) (hs : (small64 p || small64 q) = true) : evE cl (.bin .mul a b) e h = some (.ok (.v (.int (p * q))) e2 h2) := by
  simp only [evE, ha, hb, bd_ok, rd, op2, hs, if_true]
  rfl
theorem fmod_nat (n p : Nat) : (n : Int).fmod (p : Int) = ((n % p : Nat) : Int) := by
  rw [Int.fmod_eq_emod_of_nonneg _ (by omega)]; rfl
theorem fdiv_nat (n p : Nat) : (n : Int).fdiv (p : Int) = ((n / p : Nat) : Int) := by
  rw [Int.fdiv_eq_ediv_of_nonneg _ (by omega)]; rfl
theorem strip_le : ∀ (f n p o : Nat), (strip f n p o).1 ≤ n ∧ (strip f n p o).2 ≤ o + f
  | 0, n, p, o => ⟨Nat.le_refl _, Nat.le_refl _⟩
  | f + 1, n, p, o => by
    unfold strip
    split
    · have := strip_le f (n / p) p (o + 1)
      have := Nat.div_le_self n p
      omega
    · exact ⟨Nat.le_refl _, by omega⟩
theorem strip_pos : ∀ (f n p o : Nat), 1 ≤ n → 2 ≤ p → 1 ≤ (strip f n p o).1
  | 0, n, p, o, h, _ => h
  | f + 1, n, p, o, h, h2 => by
    unfold strip
    split
    · rename_i c
      refine strip_pos f (n / p) p (o + 1) ?_ h2
      exact Nat.div_pos (Nat.le_of_dvd h (Nat.dvd_of_mod_eq_zero c)) (by omega)
    · exact h
theorem strip_loop (s1 : Sl) (hnb : ∀ xs, s1 ≠ .lk xs) (h : AH) (p : Nat) (h2 : 2 ≤ p) (hp : p < 1073741824) : ∀ (k n o : Nat), 1 ≤ n → n < k →
    whlS (fun e h => bd (evE cl (.cmp .eq (.bin .mod (.var 0) (.var 2)) (.int 0)) e h) fun x e h => match (rd e h x).bind truth with
      | some b => some (.ok b e h)
      | none => none) (fun e h => evSs cl W stripW e h) k [.v (.int n), s1, .v (.int p), .v (.int o)] h = some (.ok .nx [.v (.int (strip k n p o).1), s1, .v (.int p), .v (.int (strip k n p o).2)] h)
  | 0, n, o, h0, h1 => by omega
  | k + 1, n, o, h0, h1 => by
    rw [whlS]
    have hp0 : ((p : Int) != 0) = true := by simp; omega
    have c : bd (evE cl (.cmp .eq (.bin .mod (.var 0) (.var 2)) (.int 0)) [.v (.int n), s1, .v (.int p), .v (.int o)] h) (fun x e h => match (rd e h x).bind truth with
      | some b => some (O.ok b e h)
      | none => none) = some (.ok (decide (n % p = 0)) [.v (.int n), s1, .v (.int p), .v (.int o)] h) := by
      have e1 : (((n % p : Nat) : Int) == 0) = decide (n % p = 0) := by
        by_cases z : n % p = 0
        · rw [decide_eq_true z, z]; rfl
        · have : ((n % p : Nat) : Int) ≠ 0 := by omega
          rw [decide_eq_false z]
          exact beq_eq_false_iff_ne.mpr this
      simp only [evE, bd_ok, List.getElem?_cons_zero, List.getElem?_cons_succ, rd, op2, hp0, if_true, fmod_nat, lift, Option.map, cmpD, scalB, eqB, e1, Bool.true_or, Option.bind, truth]
    rw [c]
    simp only [bd_ok]
    by_cases z : n % p = 0
    · rw [decide_eq_true z]
      simp only []
      have hd : 1 ≤ n / p := Nat.div_pos (Nat.le_of_dvd h0 (Nat.dvd_of_mod_eq_zero z)) (by omega)
      have hl : n / p < n := Nat.div_lt_self h0 (by omega)
      have st : evSs cl W stripW [.v (.int n), s1, .v (.int p), .v (.int o)] h = some (.ok .nx [.v (.int (n / p : Nat)), s1, .v (.int p), .v (.int ((o + 1 : Nat) : Int))] h) := by
        unfold stripW
        refine ss_nx ?_ rfl
        have hpn : p ≠ 0 := by omega
        simp [evS, evR, evE, bd, rd, op2, lift, hpn, hp, fdiv_nat, frzs, bindRs, bindR, frz, bindG, Option.bind]
      rw [st]
      simp only [bd_ok]
      rw [strip_loop s1 hnb h p h2 hp k (n / p) (o + 1) hd (by omega)]
      rw [strip, if_pos z]
    · rw [decide_eq_false z]
      rw [strip, if_neg z]

theorem odd_turn (h : AH) (n p : Nat) (h1 : 1 ≤ n) (hn : n < W) (h2 : 2 ≤ p) (hp : p < 1073741824) (acc : List (Nat × Nat)) (hacc : acc.length < 1000000) (s3 : Sl) :
    evSs cl W oddW [.v (.int n), .ow (.lst (acc.map pD)), .v (.int p), s3] h = some (.ok .nx [.v (.int (strip W n p 0).1), .ow (.lst ((if (strip W n p 0).2 % 2 = 1 ∧ p % 4 = 3 then acc ++ [(p, (strip W n p 0).2)] else acc).map pD)), .v (.int ((p + 1 : Nat) : Int)), .v (.int (strip W n p 0).2)] h) := by
  have l := strip_loop (cl := cl) (W := W) (.ow (.lst (acc.map pD))) (fun xs z => nomatch z) h p h2 hp W n 0 h1 hn
  generalize strip W n p 0 = q at l ⊢
  unfold oddW
  refine ss_nx (e' := [.v (.int n), .ow (.lst (acc.map pD)), .v (.int p), .v (.int (0 : Nat))]) (h' := h) rfl (ss_nx (by simp only [evS]; exact l) ?_)
  have c1 : evE cl (.cmp .eq (.bin .mod (.var 3) (.int 2)) (.int 1)) [.v (.int q.1), .ow (.lst (acc.map pD)), .v (.int p), .v (.int q.2)] h = some (.ok (.v (.bl (decide (q.2 % 2 = 1)))) [.v (.int q.1), .ow (.lst (acc.map pD)), .v (.int p), .v (.int q.2)] h) := by
    refine cmp_okk (x := .v (.int ((q.2 % 2 : Nat) : Int))) (y := .v (.int 1)) ?_ rfl rfl rfl ?_
    · have := fmod_nat q.2 2
      simp only [evE, bd_ok, List.getElem?_cons_zero, List.getElem?_cons_succ, rd, op2]
      rw [← this]
      rfl
    · have e1 : (((q.2 % 2 : Nat) : Int) == 1) = decide (q.2 % 2 = 1) := by
        by_cases z : q.2 % 2 = 1
        · rw [decide_eq_true z, z]; rfl
        · have : ((q.2 % 2 : Nat) : Int) ≠ 1 := by omega
          rw [decide_eq_false z]
          exact beq_eq_false_iff_ne.mpr this
      simp only [cmpD, scalB, eqB, e1, Bool.true_or, if_true]
  have c2 : evE cl (.cmp .eq (.bin .mod (.var 2) (.int 4)) (.int 3)) [.v (.int q.1), .ow (.lst (acc.map pD)), .v (.int p), .v (.int q.2)] h = some (.ok (.v (.bl (decide (p % 4 = 3)))) [.v (.int q.1), .ow (.lst (acc.map pD)), .v (.int p), .v (.int q.2)] h) := by
    refine cmp_okk (x := .v (.int ((p % 4 : Nat) : Int))) (y := .v (.int 3)) ?_ rfl rfl rfl ?_
    · have := fmod_nat p 4
      simp only [evE, bd_ok, List.getElem?_cons_zero, List.getElem?_cons_succ, rd, op2]
      rw [← this]
      rfl
    · have e1 : (((p % 4 : Nat) : Int) == 3) = decide (p % 4 = 3) := by
        by_cases z : p % 4 = 3
        · rw [decide_eq_true z, z]; rfl
        · have : ((p % 4 : Nat) : Int) ≠ 3 := by omega
          rw [decide_eq_false z]
          exact beq_eq_false_iff_ne.mpr this
      simp only [cmpD, scalB, eqB, e1, Bool.true_or, if_true]
  have c : evE cl (.and (.cmp .eq (.bin .mod (.var 3) (.int 2)) (.int 1)) (.cmp .eq (.bin .mod (.var 2) (.int 4)) (.int 3))) [.v (.int q.1), .ow (.lst (acc.map pD)), .v (.int p), .v (.int q.2)] h =
      some (.ok (.v (.bl (decide (q.2 % 2 = 1 ∧ p % 4 = 3)))) [.v (.int q.1), .ow (.lst (acc.map pD)), .v (.int p), .v (.int q.2)] h) := by
    rw [evE, c1]
    simp only [bd_ok, rd, Option.bind, truth]
    by_cases z : q.2 % 2 = 1
    · rw [decide_eq_true z]
      simp only [c2]
      simp [z]
    · rw [decide_eq_false z]
      simp [z]
  refine ss_nx (e' := [.v (.int q.1), .ow (.lst ((if q.2 % 2 = 1 ∧ p % 4 = 3 then acc ++ [(p, q.2)] else acc).map pD)), .v (.int p), .v (.int q.2)]) (h' := h) ?_ (ss_nx (asg_ok (r := .v (.int ((p + 1 : Nat) : Int))) rfl rfl) rfl)
  by_cases z : q.2 % 2 = 1 ∧ p % 4 = 3
  · rw [if_pos z]
    refine (ifs_true (r := .v (.bl true)) (by rw [c, decide_eq_true z]) rfl).trans ?_
    refine ss_nx ?_ rfl
    have lt : (acc.map pD).length < sizeMax := by rw [List.length_map]; simp [sizeMax]; omega
    have mw : mew .lappend (.lst (acc.map pD)) [.tup [.int p, .int q.2]] = some (.lst ((acc ++ [(p, q.2)]).map pD), .non) := by
      simp only [mew, decide_eq_true lt, if_true, List.map_append, List.map_cons, List.map_nil]
      rfl
    simp [evS, evE, evR, evD, bd, rd, Ob.d, Me.of, method, Me.writes, margs, Me.stores, frz, sizeMax, mw]
  · rw [if_neg z]
    exact ifs_false (r := .v (.bl false)) (by rw [c, decide_eq_false z]) rfl
theorem odd_loop (h : AH) : ∀ (k n p : Nat) (acc : List (Nat × Nat)) (s3 : Sl), 1 ≤ n → n < W → n < 1000000 → 2 ≤ p → p ≤ 1001 → acc.length + 1 < p → 1003 < k + p →
    ∃ p' s3', 1 ≤ (oplL W k n p acc).1 ∧ (oplL W k n p acc).1 ≤ n ∧ (oplL W k n p acc).2.length < 1000 ∧ whlS (fun e h => bd (evE cl (.cmp .le (.bin .mul (.var 2) (.var 2)) (.var 0)) e h) fun x e h => match (rd e h x).bind truth with
      | some b => some (.ok b e h)
      | none => none) (fun e h => evSs cl W oddW e h) k [.v (.int n), .ow (.lst (acc.map pD)), .v (.int p), s3] h =
      some (.ok .nx [.v (.int (oplL W k n p acc).1), .ow (.lst ((oplL W k n p acc).2.map pD)), p', s3'] h) := by
  intro k
  induction k with
  | zero => intro n p acc s3 h1 hn hm h2 hp ha hk; omega
  | succ k ih =>
    intro n p acc s3 h1 hn hm h2 hp ha hk
    rw [whlS]
    have sp : small64 (p : Int) = true := by simp [small64]; omega
    have c : bd (evE cl (.cmp .le (.bin .mul (.var 2) (.var 2)) (.var 0)) [.v (.int n), .ow (.lst (acc.map pD)), .v (.int p), s3] h) (fun x e h => match (rd e h x).bind truth with
      | some b => some (O.ok b e h)
      | none => none) = some (.ok (decide (p * p ≤ n)) [.v (.int n), .ow (.lst (acc.map pD)), .v (.int p), s3] h) := by
      have e1 : decide ((p : Int) * (p : Int) ≤ (n : Int)) = decide (p * p ≤ n) := by
        by_cases z : p * p ≤ n
        · rw [decide_eq_true z]
          exact decide_eq_true (by exact_mod_cast z)
        · rw [decide_eq_false z]
          exact decide_eq_false (by intro q; exact z (by exact_mod_cast q))
      have cm : evE cl (.cmp .le (.bin .mul (.var 2) (.var 2)) (.var 0)) [.v (.int n), .ow (.lst (acc.map pD)), .v (.int p), s3] h = some (.ok (.v (.bl (decide (p * p ≤ n)))) [.v (.int n), .ow (.lst (acc.map pD)), .v (.int p), s3] h) := by
        refine cmp_okk (x := .v (.int ((p : Int) * p))) (y := .v (.int n)) (p := .int ((p : Int) * p)) (q := .int n) (mul_okE (p := (p : Int)) (q := (p : Int)) rfl rfl (by rw [sp]; rfl)) rfl rfl rfl ?_
        show some (decide ((p : Int) * (p : Int) ≤ (n : Int))) = _
        rw [e1]
      rw [cm]
      rfl
    rw [c]
    simp only [bd_ok]
    by_cases z : p * p ≤ n
    · rw [decide_eq_true z]
      simp only []
      have hp1 : p ≤ 999 := by
        apply Decidable.byContradiction
        intro hc
        have : 1000 * 1000 ≤ p * p := Nat.mul_le_mul (by omega) (by omega)
        omega
      rw [odd_turn h n p h1 hn h2 (by omega) acc (by omega) s3]
      simp only [bd_ok]
      have hs := strip_le W n p 0
      have hs1 := strip_pos W n p 0 h1 h2
      obtain ⟨p', s3', q1, q2, q3, q4⟩ := ih (strip W n p 0).1 (p + 1) (if (strip W n p 0).2 % 2 = 1 ∧ p % 4 = 3 then acc ++ [(p, (strip W n p 0).2)] else acc) (.v (.int (strip W n p 0).2)) hs1 (by omega) (by omega) (by omega) (by omega) (by split <;> simp <;> omega) (by omega)
      have e2 : oplL W (k + 1) n p acc = oplL W k (strip W n p 0).1 (p + 1) (if (strip W n p 0).2 % 2 = 1 ∧ p % 4 = 3 then acc ++ [(p, (strip W n p 0).2)] else acc) := by
        rw [oplL, if_pos z]
      rw [e2]
      exact ⟨p', s3', q1, by omega, q3, q4⟩
    · rw [decide_eq_false z]
      have e2 : oplL W (k + 1) n p acc = (n, acc) := by rw [oplL, if_neg z]
      rw [e2]
      exact ⟨_, _, h1, Nat.le_refl _, by simp; omega, rfl⟩
theorem odd_ok (n : Nat) (h1 : 1 ≤ n) (hn : n < W) (hm : n < 1000000) (hW : 1002 ≤ W) (h : AH) : runF cl W ⟨1, 4, oddB⟩ [.v (.int n)] h = some (.ok (.fr (.lst ((oddL W n).map pD))) [] h) := by
  obtain ⟨p', s3', q0, q1, q2, q3⟩ := odd_loop (cl := cl) (W := W) h W n 2 [] .un h1 hn hm (by omega) (by omega) (by simp) (by omega)
  unfold oddL
  generalize oplL W W n 2 [] = q at q0 q1 q2 q3
  have b : ∃ e', evSs cl W oddB [.v (.int n), .un, .un, .un] h = some (.ok (.rt (.fr (.lst ((if q.1 % 4 = 3 then q.2 ++ [(q.1, 1)] else q.2).map pD)))) e' h) := by
    refine ⟨[.v (.int q.1), .un, p', s3'], ?_⟩
    unfold oddB
    refine ss_nx (e' := [.v (.int n), .ow (.lst []), .v (.int (2 : Nat)), .un]) (h' := h) rfl (ss_nx (by simp only [evS]; exact q3) ?_)
    have c2 : evE cl (.cmp .eq (.bin .mod (.var 0) (.int 4)) (.int 3)) [.v (.int q.1), .ow (.lst (q.2.map pD)), p', s3'] h = some (.ok (.v (.bl (decide (q.1 % 4 = 3)))) [.v (.int q.1), .ow (.lst (q.2.map pD)), p', s3'] h) := by
      refine cmp_okk (x := .v (.int ((q.1 % 4 : Nat) : Int))) (y := .v (.int 3)) ?_ rfl rfl rfl ?_
      · have := fmod_nat q.1 4
        simp only [evE, bd_ok, List.getElem?_cons_zero, List.getElem?_cons_succ, rd, op2]
        rw [← this]
        rfl
      · have e1 : (((q.1 % 4 : Nat) : Int) == 3) = decide (q.1 % 4 = 3) := by
          by_cases z : q.1 % 4 = 3
          · rw [decide_eq_true z, z]; rfl
          · have : ((q.1 % 4 : Nat) : Int) ≠ 3 := by omega
            rw [decide_eq_false z]
            exact beq_eq_false_iff_ne.mpr this
        simp only [cmpD, scalB, eqB, e1, Bool.true_or, if_true]
    refine ss_nx (e' := [.v (.int q.1), .ow (.lst ((if q.1 % 4 = 3 then q.2 ++ [(q.1, 1)] else q.2).map pD)), p', s3']) (h' := h) ?_ (ss_rt rfl)
    by_cases z : q.1 % 4 = 3
    · rw [if_pos z]
      refine (ifs_true (r := .v (.bl true)) (by rw [c2, decide_eq_true z]) rfl).trans ?_
      refine ss_nx ?_ rfl
      have lt : (q.2.map pD).length < sizeMax := by rw [List.length_map]; simp [sizeMax]; omega
      have mw : mew .lappend (.lst (q.2.map pD)) [.tup [.int q.1, .int 1]] = some (.lst ((q.2 ++ [(q.1, 1)]).map pD), .non) := by
        simp only [mew, decide_eq_true lt, if_true, List.map_append, List.map_cons, List.map_nil]
        rfl
      simp [evS, evE, evR, evD, bd, rd, Ob.d, Me.of, method, Me.writes, margs, Me.stores, frz, sizeMax, mw]
    · rw [if_neg z]
      exact ifs_false (r := .v (.bl false)) (by rw [c2, decide_eq_false z]) rfl
  obtain ⟨e', b⟩ := b
  rw [runF_rt (by rfl) b]
  simp [trim]
end Mp

set_option maxHeartbeats 0
namespace K60
open Mp PySem
def top (i : Nat) : PySem.Stmt := PySem.Challenge.pw_triplesonce_k60_whole_sums_and_orders.main.body.getD i (.Pass ⟨0, 0, 0, 0⟩)
def b0 : Ss :=
  (.cons (.par [1, 2] (.cons false (.int 0) (.cons false (.bin .add (.var 0) (.int 1)) .nil)))
    (.cons (.whl (.cmp .gt (.bin .sub (.var 2) (.var 1)) (.int 1)) (.cons (.asg (.nm 3) (.bin .fdiv (.bin .add (.var 1) (.var 2)) (.int 2)))
    (.cons (.asg (.tp (.cons (.nm 1) (.cons (.nm 2) .nil))) (.ite (.cmp .le (.bin .mul (.var 3) (.var 3)) (.var 0)) (.tup (.cons false (.var 3) (.cons false (.var 2) .nil))) (.tup (.cons false (.var 1) (.cons false (.var 3) .nil)))))
    .nil)))
    (.cons (.ret (.var 1))
    .nil)))
def N0 : List PySem.Str := [(PySem.Str.ofString "number"), (PySem.Str.ofString "low"), (PySem.Str.ofString "high"), (PySem.Str.ofString "middle")]
def p0 : List PySem.Str := [(PySem.Str.ofString "number")]
abbrev s0 : PySem.Stmt := top 1
def b1 : Ss :=
  (.cons (.asg (.nm 1) (.int 0))
    (.cons (.whl (.cmp .le (.bin .mul (.bin .mul (.int 2) (.var 1)) (.var 1)) (.var 0)) (.cons (.asg (.nm 2) (.call 0 (.cons false (.bin .sub (.var 0) (.bin .mul (.var 1) (.var 1))) .nil)))
    (.cons (.ifs (.cmp .eq (.bin .add (.bin .mul (.var 1) (.var 1)) (.bin .mul (.var 2) (.var 2))) (.var 0)) (.cons (.ret (.tup (.cons false (.var 1) (.cons false (.var 2) .nil))))
    .nil) .nil)
    (.cons (.asg (.nm 1) (.bin .add (.var 1) (.int 1)))
    .nil))))
    (.cons (.ret .non)
    .nil)))
def N1 : List PySem.Str := [(PySem.Str.ofString "n"), (PySem.Str.ofString "a"), (PySem.Str.ofString "b")]
def p1 : List PySem.Str := [(PySem.Str.ofString "n")]
abbrev s1 : PySem.Stmt := top 2
def b2 : Ss :=
  (.cons (.fr (.nm 1) (.rng3 (.call 0 (.cons false (.var 0) .nil)) (.neg (.int 1)) (.neg (.int 1))) (.cons (.fr (.nm 2) (.rng3 (.call 0 (.cons false (.bin .sub (.var 0) (.bin .mul (.var 1) (.var 1))) .nil)) (.neg (.int 1)) (.neg (.int 1))) (.cons (.asg (.nm 3) (.call 1 (.cons false (.bin .sub (.bin .sub (.var 0) (.bin .mul (.var 1) (.var 1))) (.bin .mul (.var 2) (.var 2))) .nil)))
    (.cons (.ifs (.cmp .isnt (.var 3) .non) (.cons (.ret (.tup (.cons false (.var 1) (.cons false (.var 2) (.cons false (.ix (.var 3) (.int 1)) (.cons false (.ix (.var 3) (.int 0)) .nil))))))
    .nil) .nil)
    .nil)))
    .nil))
    (.cons (.ret .non)
    .nil))
def N2 : List PySem.Str := [(PySem.Str.ofString "n"), (PySem.Str.ofString "c"), (PySem.Str.ofString "d"), (PySem.Str.ofString "pair")]
def p2 : List PySem.Str := [(PySem.Str.ofString "n")]
abbrev s2 : PySem.Stmt := top 3
def b3 : Ss :=
  (.cons (.asg (.tp (.cons (.nm 1) (.cons (.nm 2) (.cons (.nm 3) (.cons (.nm 4) .nil))))) (.var 0))
    (.cons (.ret (.tup (.cons false (.tup (.cons false (.var 1) (.cons false (.var 2) (.cons false (.var 3) (.cons false (.var 4) .nil))))) (.cons false (.tup (.cons false (.neg (.var 2)) (.cons false (.var 1) (.cons false (.neg (.var 4)) (.cons false (.var 3) .nil))))) (.cons false (.tup (.cons false (.neg (.var 3)) (.cons false (.var 4) (.cons false (.var 1) (.cons false (.neg (.var 2)) .nil))))) (.cons false (.tup (.cons false (.neg (.var 4)) (.cons false (.neg (.var 3)) (.cons false (.var 2) (.cons false (.var 1) .nil))))) .nil))))))
    .nil))
def N3 : List PySem.Str := [(PySem.Str.ofString "row"), (PySem.Str.ofString "a"), (PySem.Str.ofString "b"), (PySem.Str.ofString "c"), (PySem.Str.ofString "d")]
def p3 : List PySem.Str := [(PySem.Str.ofString "row")]
abbrev s3 : PySem.Stmt := top 4
def b4 : Ss :=
  (.cons (.ret (.bi .tuple (.cons false (.comp (.bi .sum (.cons false (.comp (.bin .mul (.var 3) (.var 4)) [3, 4] (.tp (.cons (.nm 3) (.cons (.nm 4) .nil))) (.zip (.var 2) (.var 1) true) (.bl true)) .nil)) [2] (.nm 2) (.e (.call 3 (.cons false (.var 0) .nil))) (.bl true)) .nil)))
    .nil)
def N4 : List PySem.Str := [(PySem.Str.ofString "one"), (PySem.Str.ofString "other"), (PySem.Str.ofString "row"), (PySem.Str.ofString "x"), (PySem.Str.ofString "y")]
def p4 : List PySem.Str := [(PySem.Str.ofString "one"), (PySem.Str.ofString "other")]
abbrev s4 : PySem.Stmt := top 5
def b5 : Ss :=
  (.cons (.par [1, 2] (.cons false (.lst .nil) (.cons false (.int 2) .nil)))
    (.cons (.whl (.cmp .le (.bin .mul (.var 2) (.var 2)) (.var 0)) (.cons (.asg (.nm 3) (.int 0))
    (.cons (.whl (.cmp .eq (.bin .mod (.var 0) (.var 2)) (.int 0)) (.cons (.par [0, 3] (.cons false (.bin .fdiv (.var 0) (.var 2)) (.cons false (.bin .add (.var 3) (.int 1)) .nil)))
    .nil))
    (.cons (.ifs (.and (.cmp .eq (.bin .mod (.var 3) (.int 2)) (.int 1)) (.cmp .eq (.bin .mod (.var 2) (.int 4)) (.int 3))) (.cons (.expr (.me .lappend (.var 1) (.cons false (.tup (.cons false (.var 2) (.cons false (.var 3) .nil))) .nil)))
    .nil) .nil)
    (.cons (.asg (.nm 2) (.bin .add (.var 2) (.int 1)))
    .nil)))))
    (.cons (.ifs (.cmp .eq (.bin .mod (.var 0) (.int 4)) (.int 3)) (.cons (.expr (.me .lappend (.var 1) (.cons false (.tup (.cons false (.var 0) (.cons false (.int 1) .nil))) .nil)))
    .nil) .nil)
    (.cons (.ret (.var 1))
    .nil))))
def N5 : List PySem.Str := [(PySem.Str.ofString "n"), (PySem.Str.ofString "found"), (PySem.Str.ofString "p"), (PySem.Str.ofString "often")]
def p5 : List PySem.Str := [(PySem.Str.ofString "n")]
abbrev s5 : PySem.Stmt := top 6
def b6 : Ss :=
  (.cons (.asg (.nm 1) (.call 1 (.cons false (.var 0) .nil)))
    (.cons (.ret (.ite (.cmp .isnt (.var 1) .non) (.tup (.cons false (.str (PySem.Str.ofString "squares")) (.cons true (.var 1) .nil))) (.tup (.cons false (.str (PySem.Str.ofString "prime")) (.cons true (.ix (.call 5 (.cons false (.var 0) .nil)) (.int 0)) .nil)))))
    .nil))
def N6 : List PySem.Str := [(PySem.Str.ofString "n"), (PySem.Str.ofString "pair")]
def p6 : List PySem.Str := [(PySem.Str.ofString "n")]
abbrev s6 : PySem.Stmt := top 7
def b7 : Ss :=
  (.cons (.ret (.and (.cmp .isin (.bin .mod (.var 0) (.int 4)) (.tup (.cons false (.int 1) (.cons false (.int 2) .nil)))) (.cmp .ne (.call 5 (.cons false (.var 0) .nil)) (.lst .nil))))
    .nil)
def N7 : List PySem.Str := [(PySem.Str.ofString "order")]
def p7 : List PySem.Str := [(PySem.Str.ofString "order")]
abbrev s7 : PySem.Stmt := top 9
def b8 : Ss :=
  (.cons (.asg (.nm 1) (.int 11))
    (.cons (.fr (.nm 2) (.e (.var 0)) (.cons (.asg (.nm 1) (.bin .mod (.bi .int (.cons false (.bin .add (.bin .add (.bin .mul (.var 1) (.int 69069)) (.bin .mul (.var 2) (.int 31))) (.int 5)) .nil)) (.int 2147483629)))
    .nil))
    (.cons (.asg (.nm 3) (.comp (.bi .abs (.cons false (.var 2) .nil)) [2] (.nm 2) (.e (.var 0)) (.bl true)))
    (.cons (.ret (.shr (.dct false (.cons false (.str (PySem.Str.ofString "cells")) (.cons false (.shr (.rev (.var 3))) (.cons false (.str (PySem.Str.ofString "left")) (.cons false (.int 1) (.cons false (.str (PySem.Str.ofString "mixed")) (.cons false (.var 1) (.cons false (.str (PySem.Str.ofString "turn")) (.cons false (.int 0) .nil)))))))))))
    .nil))))
def N8 : List PySem.Str := [(PySem.Str.ofString "script"), (PySem.Str.ofString "stirred"), (PySem.Str.ofString "cell"), (PySem.Str.ofString "cells")]
def p8 : List PySem.Str := [(PySem.Str.ofString "script")]
abbrev s8 : PySem.Stmt := top 11
def b9 : Ss :=
  (.cons (.ifs (.cmp .lt (.var 1) (.int 2)) (.cons (.ret (.int 0))
    .nil) .nil)
    (.cons (.asg (.nm 2) (.ix (.var 0) (.str (PySem.Str.ofString "cells"))))
    (.cons (.whl (.and (.cmp .lt (.ix (.var 0) (.str (PySem.Str.ofString "left"))) (.int 2)) (.cmp .gt (.bi .len (.cons false (.var 2) .nil)) (.int 0))) (.cons (.sset (.var 0) (.str (PySem.Str.ofString "left")) (.me .lpop (.var 2) .nil))
    .nil))
    (.cons (.asg (.nm 3) (.ix (.var 0) (.str (PySem.Str.ofString "left"))))
    (.cons (.ifs (.cmp .gt (.var 3) (.int 1)) (.cons (.sset (.var 0) (.str (PySem.Str.ofString "left")) (.bin .fdiv (.var 3) (.var 1)))
    (.cons (.ret (.bin .mod (.bi .int (.cons false (.var 3) .nil)) (.var 1)))
    .nil)) .nil)
    (.cons (.sset (.var 0) (.str (PySem.Str.ofString "turn")) (.bin .add (.ix (.var 0) (.str (PySem.Str.ofString "turn"))) (.int 1)))
    (.cons (.asg (.nm 4) (.ix (.var 0) (.str (PySem.Str.ofString "turn"))))
    (.cons (.asg (.nm 5) (.bin .mod (.bi .int (.cons false (.bin .add (.ix (.var 0) (.str (PySem.Str.ofString "mixed"))) (.bin .mul (.var 4) (.int 104729))) .nil)) (.int 998244353)))
    (.cons (.asg (.nm 5) (.bin .mod (.bi .int (.cons false (.bin .add (.bin .mul (.var 5) (.var 5)) (.bin .mul (.var 4) (.int 17))) .nil)) (.int 2147483647)))
    (.cons (.ret (.bin .mod (.bi .int (.cons false (.bin .fdiv (.var 5) (.int 16)) .nil)) (.var 1)))
    .nil))))))))))
def N9 : List PySem.Str := [(PySem.Str.ofString "source"), (PySem.Str.ofString "most"), (PySem.Str.ofString "cells"), (PySem.Str.ofString "others"), (PySem.Str.ofString "lap"), (PySem.Str.ofString "stirred")]
def p9 : List PySem.Str := [(PySem.Str.ofString "source"), (PySem.Str.ofString "most")]
abbrev s9 : PySem.Stmt := top 12
def b10 : Ss :=
  (.cons (.ret (.ix (.var 1) (.call 9 (.cons false (.var 0) (.cons false (.bi .len (.cons false (.var 1) .nil)) .nil)))))
    .nil)
def N10 : List PySem.Str := [(PySem.Str.ofString "source"), (PySem.Str.ofString "some")]
def p10 : List PySem.Str := [(PySem.Str.ofString "source"), (PySem.Str.ofString "some")]
abbrev s10 : PySem.Stmt := top 13
def b11 : Ss :=
  (.cons (.par [1, 2] (.cons false (.lst .nil) (.cons false (.int 2) .nil)))
    (.cons (.whl (.cmp .gt (.var 0) (.int 1)) (.cons (.asg (.nm 3) (.int 0))
    (.cons (.whl (.cmp .eq (.bin .mod (.bi .int (.cons false (.var 0) .nil)) (.var 2)) (.int 0)) (.cons (.par [0, 3] (.cons false (.bin .fdiv (.var 0) (.var 2)) (.cons false (.bin .add (.var 3) (.int 1)) .nil)))
    .nil))
    (.cons (.asg (.nm 1) (.bin .add (.var 1) (.bin .mul (.lst (.cons false (.tup (.cons false (.var 2) (.cons false (.var 3) .nil))) .nil)) (.bi .int (.cons false (.cmp .gt (.var 3) (.int 0)) .nil)))))
    (.cons (.asg (.nm 2) (.ite (.cmp .le (.bin .mul (.var 2) (.var 2)) (.var 0)) (.bin .add (.var 2) (.int 1)) (.bi .max (.cons false (.var 0) (.cons false (.int 2) .nil)))))
    .nil)))))
    (.cons (.ret (.var 1))
    .nil)))
def N11 : List PySem.Str := [(PySem.Str.ofString "n"), (PySem.Str.ofString "found"), (PySem.Str.ofString "p"), (PySem.Str.ofString "often")]
def p11 : List PySem.Str := [(PySem.Str.ofString "n")]
abbrev s11 : PySem.Stmt := top 14
def b12 : Ss :=
  (.cons (.asg (.nm 1) (.call 8 (.cons false (.var 0) .nil)))
    (.cons (.fr (.nm 2) (.rng1 (.int 4)) (.cons (.asg (.nm 3) (.lst .nil))
    (.cons (.fr (.nm 4) (.rng1 (.int 2)) (.cons (.expr (.me .lappend (.var 3) (.cons false (.tup (.cons false (.call 9 (.cons false (.var 1) (.cons false (.int 30) .nil))) (.cons false (.call 9 (.cons false (.var 1) (.cons false (.int 30) .nil))) .nil))) .nil)))
    .nil))
    (.cons (.asg (.tp (.cons (.tp (.cons (.nm 17) (.cons (.nm 18) .nil))) (.cons (.tp (.cons (.nm 19) (.cons (.nm 20) .nil))) .nil))) (.var 3))
    (.cons (.par [13, 14] (.cons false (.bin .add (.bin .mul (.var 17) (.var 17)) (.bin .mul (.var 18) (.var 18))) (.cons false (.bin .add (.bin .mul (.var 19) (.var 19)) (.bin .mul (.var 20) (.var 20))) .nil)))
    (.cons (.asg (.nm 5) (.call 1 (.cons false (.bin .mul (.var 13) (.var 14)) .nil)))
    (.cons (.ifs (.or (.cmp .is (.var 5) .non) (.or (.cmp .ne (.bin .add (.bin .mul (.ix (.var 5) (.int 0)) (.ix (.var 5) (.int 0))) (.bin .mul (.ix (.var 5) (.int 1)) (.ix (.var 5) (.int 1)))) (.bin .mul (.var 13) (.var 14))) (.cmp .gt (.ix (.var 5) (.int 0)) (.ix (.var 5) (.int 1))))) (.cons (.ret (.bl false))
    .nil) .nil)
    (.cons (.ifs (.or (.cmp .is (.call 1 (.cons false (.var 13) .nil)) .non) (.cmp .ne (.bin .add (.bin .mul (.bin .add (.bin .mul (.var 17) (.var 19)) (.bin .mul (.var 18) (.var 20))) (.bin .add (.bin .mul (.var 17) (.var 19)) (.bin .mul (.var 18) (.var 20)))) (.bin .mul (.bin .sub (.bin .mul (.var 17) (.var 20)) (.bin .mul (.var 18) (.var 19))) (.bin .sub (.bin .mul (.var 17) (.var 20)) (.bin .mul (.var 18) (.var 19))))) (.bin .mul (.var 13) (.var 14)))) (.cons (.ret (.bl false))
    .nil) .nil)
    (.cons (.asg (.nm 6) (.call 10 (.cons false (.var 1) (.cons false (.lst (.cons false (.int 3) (.cons false (.int 7) (.cons false (.int 11) (.cons false (.int 19) .nil))))) .nil))))
    (.cons (.asg (.nm 7) (.bin .add (.int 1) (.call 9 (.cons false (.var 1) (.cons false (.bin .fdiv (.int 20000) (.bin .mul (.var 6) (.var 6))) .nil)))))
    (.cons (.ifs (.cmp .ne (.cmp .is (.call 1 (.cons false (.bin .mul (.bin .mul (.var 7) (.var 6)) (.var 6)) .nil)) .non) (.cmp .is (.call 1 (.cons false (.var 7) .nil)) .non)) (.cons (.ret (.bl false))
    .nil) .nil)
    (.cons (.ifs (.and (.cmp .isnt (.call 1 (.cons false (.var 7) .nil)) .non) (.cmp .isnt (.call 1 (.cons false (.bin .mul (.var 7) (.var 6)) .nil)) .non)) (.cons (.ret (.bl false))
    .nil) .nil)
    (.cons (.asg (.nm 8) (.bin .add (.int 2) (.call 9 (.cons false (.var 1) (.cons false (.int 399) .nil)))))
    (.cons (.asg (.nm 9) (.call 6 (.cons false (.var 8) .nil)))
    (.cons (.asg (.nm 10) (.and (.cmp .eq (.ix (.var 9) (.int 0)) (.str (PySem.Str.ofString "prime"))) (.cmp .isin (.bin .mod (.bi .int (.cons false (.var 8) .nil)) (.int 4)) (.tup (.cons false (.int 1) (.cons false (.int 2) .nil))))))
    (.cons (.ifs (.cmp .ne (.bi .repr (.cons false (.call 7 (.cons false (.var 8) .nil)) .nil)) (.bi .repr (.cons false (.var 10) .nil))) (.cons (.ret (.bl false))
    .nil) .nil)
    (.cons (.ifs (.and (.var 10) (.cmp .eq (.comp (.var 23) [23, 24] (.tp (.cons (.nm 23) (.cons (.nm 24) .nil))) (.e (.call 11 (.cons false (.var 8) .nil))) (.cmp .eq (.var 23) (.ix (.var 9) (.int 1)))) (.lst .nil))) (.cons (.ret (.bl false))
    .nil) .nil)
    (.cons (.asg (.nm 11) (.bin .add (.int 2) (.call 9 (.cons false (.var 1) (.cons false (.int 300) .nil)))))
    (.cons (.ifs (.or (.call 7 (.cons false (.bin .mul (.var 11) (.var 11)) .nil)) (.call 7 (.cons false (.bin .add (.bin .mul (.var 11) (.var 11)) (.int 1)) .nil))) (.cons (.ret (.bl false))
    .nil) .nil)
    (.cons (.par [15, 16] (.cons false (.call 2 (.cons false (.call 9 (.cons false (.var 1) (.cons false (.int 300) .nil))) .nil)) (.cons false (.call 2 (.cons false (.call 9 (.cons false (.var 1) (.cons false (.int 300) .nil))) .nil)) .nil)))
    (.cons (.asg (.nm 12) (.comp (.bi .sum (.cons false (.comp (.bin .mul (.var 22) (.var 22)) [22] (.nm 22) (.e (.var 21)) (.bl true)) .nil)) [21] (.nm 21) (.e (.tup (.cons false (.var 15) (.cons false (.var 16) (.cons false (.call 4 (.cons false (.var 15) (.cons false (.var 16) .nil))) .nil))))) (.bl true)))
    (.cons (.ifs (.cmp .ne (.bin .mul (.ix (.var 12) (.int 0)) (.ix (.var 12) (.int 1))) (.ix (.var 12) (.int 2))) (.cons (.ret (.bl false))
    .nil) .nil)
    .nil))))))))))))))))))))))
    (.cons (.ret (.cmp .eq (.call 6 (.cons false (.int 9) .nil)) (.tup (.cons false (.str (PySem.Str.ofString "squares")) (.cons false (.int 0) (.cons false (.int 3) .nil))))))
    .nil)))
def N12 : List PySem.Str := [(PySem.Str.ofString "script"), (PySem.Str.ofString "source"), (PySem.Str.ofString "lap"), (PySem.Str.ofString "pairs"), (PySem.Str.ofString "time"), (PySem.Str.ofString "told"), (PySem.Str.ofString "q"), (PySem.Str.ofString "big"), (PySem.Str.ofString "order"), (PySem.Str.ofString "paper"), (PySem.Str.ofString "barred"), (PySem.Str.ofString "root"), (PySem.Str.ofString "sizes"), (PySem.Str.ofString "n"), (PySem.Str.ofString "m"), (PySem.Str.ofString "one"), (PySem.Str.ofString "other"), (PySem.Str.ofString "a"), (PySem.Str.ofString "b"), (PySem.Str.ofString "c"), (PySem.Str.ofString "d"), (PySem.Str.ofString "row"), (PySem.Str.ofString "x"), (PySem.Str.ofString "p"), (PySem.Str.ofString "often")]
def p12 : List PySem.Str := [(PySem.Str.ofString "script")]
abbrev s12 : PySem.Stmt := top 15
def names : List PySem.Str := [(PySem.Str.ofString "whole_root"), (PySem.Str.ofString "two_squares"), (PySem.Str.ofString "four_squares"), (PySem.Str.ofString "four_table"), (PySem.Str.ofString "eulers_product"), (PySem.Str.ofString "odd_primes_of"), (PySem.Str.ofString "two_paper"), (PySem.Str.ofString "is_barred_plane"), (PySem.Str.ofString "_law_source"), (PySem.Str.ofString "_law_pick"), (PySem.Str.ofString "_law_of"), (PySem.Str.ofString "_law_primes"), (PySem.Str.ofString "law")]
def tab : List Fn := [⟨1, N0.length, b0⟩, ⟨1, N1.length, b1⟩, ⟨1, N2.length, b2⟩, ⟨1, N3.length, b3⟩, ⟨2, N4.length, b4⟩, ⟨1, N5.length, b5⟩, ⟨1, N6.length, b6⟩, ⟨1, N7.length, b7⟩, ⟨1, N8.length, b8⟩, ⟨2, N9.length, b9⟩, ⟨2, N10.length, b10⟩, ⟨1, N11.length, b11⟩, ⟨1, N12.length, b12⟩]

def T (i : Nat) : Option Fn := tab[i]?
theorem c0 : chkSs N0 names (L2.defScope s0) (fun _ => true) b0 (L2.defBody s0) = true := by decide +kernel
theorem f0 : L2.FnScope N0 p0 (L2.defScope s0) := ⟨rfl, rfl, rfl, by decide +kernel, rfl, by decide +kernel, by decide +kernel⟩
theorem h0 : BindOk (PySem.Str.ofString "whole_root") s0 p0 := fun _ _ _ _ _ _ us hl => (match us, hl with | [_], _ => rfl)
theorem t0 : TextOk T names 0 (PySem.Str.ofString "whole_root") s0 := ⟨N0, p0, b0, rfl, f0, h0, c0⟩
theorem c1 : chkSs N1 names (L2.defScope s1) (fun _ => true) b1 (L2.defBody s1) = true := by decide +kernel
theorem f1 : L2.FnScope N1 p1 (L2.defScope s1) := ⟨rfl, rfl, rfl, by decide +kernel, rfl, by decide +kernel, by decide +kernel⟩
theorem h1 : BindOk (PySem.Str.ofString "two_squares") s1 p1 := fun _ _ _ _ _ _ us hl => (match us, hl with | [_], _ => rfl)
theorem t1 : TextOk T names 1 (PySem.Str.ofString "two_squares") s1 := ⟨N1, p1, b1, rfl, f1, h1, c1⟩
theorem c2 : chkSs N2 names (L2.defScope s2) (fun _ => true) b2 (L2.defBody s2) = true := by decide +kernel
theorem f2 : L2.FnScope N2 p2 (L2.defScope s2) := ⟨rfl, rfl, rfl, by decide +kernel, rfl, by decide +kernel, by decide +kernel⟩
theorem h2 : BindOk (PySem.Str.ofString "four_squares") s2 p2 := fun _ _ _ _ _ _ us hl => (match us, hl with | [_], _ => rfl)
theorem t2 : TextOk T names 2 (PySem.Str.ofString "four_squares") s2 := ⟨N2, p2, b2, rfl, f2, h2, c2⟩
theorem c3 : chkSs N3 names (L2.defScope s3) (fun _ => true) b3 (L2.defBody s3) = true := by decide +kernel
theorem f3 : L2.FnScope N3 p3 (L2.defScope s3) := ⟨rfl, rfl, rfl, by decide +kernel, rfl, by decide +kernel, by decide +kernel⟩
theorem h3 : BindOk (PySem.Str.ofString "four_table") s3 p3 := fun _ _ _ _ _ _ us hl => (match us, hl with | [_], _ => rfl)
theorem t3 : TextOk T names 3 (PySem.Str.ofString "four_table") s3 := ⟨N3, p3, b3, rfl, f3, h3, c3⟩
theorem c4 : chkSs N4 names (L2.defScope s4) (fun _ => true) b4 (L2.defBody s4) = true := by decide +kernel
theorem f4 : L2.FnScope N4 p4 (L2.defScope s4) := ⟨rfl, rfl, rfl, by decide +kernel, rfl, by decide +kernel, by decide +kernel⟩
theorem h4 : BindOk (PySem.Str.ofString "eulers_product") s4 p4 := fun _ _ _ _ _ _ us hl => (match us, hl with | [_, _], _ => rfl)
theorem t4 : TextOk T names 4 (PySem.Str.ofString "eulers_product") s4 := ⟨N4, p4, b4, rfl, f4, h4, c4⟩
theorem c5 : chkSs N5 names (L2.defScope s5) (fun _ => true) b5 (L2.defBody s5) = true := by decide +kernel
theorem f5 : L2.FnScope N5 p5 (L2.defScope s5) := ⟨rfl, rfl, rfl, by decide +kernel, rfl, by decide +kernel, by decide +kernel⟩
theorem h5 : BindOk (PySem.Str.ofString "odd_primes_of") s5 p5 := fun _ _ _ _ _ _ us hl => (match us, hl with | [_], _ => rfl)
theorem t5 : TextOk T names 5 (PySem.Str.ofString "odd_primes_of") s5 := ⟨N5, p5, b5, rfl, f5, h5, c5⟩
theorem c6 : chkSs N6 names (L2.defScope s6) (fun _ => true) b6 (L2.defBody s6) = true := by decide +kernel
theorem f6 : L2.FnScope N6 p6 (L2.defScope s6) := ⟨rfl, rfl, rfl, by decide +kernel, rfl, by decide +kernel, by decide +kernel⟩
theorem h6 : BindOk (PySem.Str.ofString "two_paper") s6 p6 := fun _ _ _ _ _ _ us hl => (match us, hl with | [_], _ => rfl)
theorem t6 : TextOk T names 6 (PySem.Str.ofString "two_paper") s6 := ⟨N6, p6, b6, rfl, f6, h6, c6⟩
theorem c7 : chkSs N7 names (L2.defScope s7) (fun _ => true) b7 (L2.defBody s7) = true := by decide +kernel
theorem f7 : L2.FnScope N7 p7 (L2.defScope s7) := ⟨rfl, rfl, rfl, by decide +kernel, rfl, by decide +kernel, by decide +kernel⟩
theorem h7 : BindOk (PySem.Str.ofString "is_barred_plane") s7 p7 := fun _ _ _ _ _ _ us hl => (match us, hl with | [_], _ => rfl)
theorem t7 : TextOk T names 7 (PySem.Str.ofString "is_barred_plane") s7 := ⟨N7, p7, b7, rfl, f7, h7, c7⟩
theorem c8 : chkSs N8 names (L2.defScope s8) (fun _ => true) b8 (L2.defBody s8) = true := by decide +kernel
theorem f8 : L2.FnScope N8 p8 (L2.defScope s8) := ⟨rfl, rfl, rfl, by decide +kernel, rfl, by decide +kernel, by decide +kernel⟩
theorem h8 : BindOk (PySem.Str.ofString "_law_source") s8 p8 := fun _ _ _ _ _ _ us hl => (match us, hl with | [_], _ => rfl)
theorem t8 : TextOk T names 8 (PySem.Str.ofString "_law_source") s8 := ⟨N8, p8, b8, rfl, f8, h8, c8⟩
theorem c9 : chkSs N9 names (L2.defScope s9) (fun _ => true) b9 (L2.defBody s9) = true := by decide +kernel
theorem f9 : L2.FnScope N9 p9 (L2.defScope s9) := ⟨rfl, rfl, rfl, by decide +kernel, rfl, by decide +kernel, by decide +kernel⟩
theorem h9 : BindOk (PySem.Str.ofString "_law_pick") s9 p9 := fun _ _ _ _ _ _ us hl => (match us, hl with | [_, _], _ => rfl)
theorem t9 : TextOk T names 9 (PySem.Str.ofString "_law_pick") s9 := ⟨N9, p9, b9, rfl, f9, h9, c9⟩
theorem c10 : chkSs N10 names (L2.defScope s10) (fun _ => true) b10 (L2.defBody s10) = true := by decide +kernel
theorem f10 : L2.FnScope N10 p10 (L2.defScope s10) := ⟨rfl, rfl, rfl, by decide +kernel, rfl, by decide +kernel, by decide +kernel⟩
theorem h10 : BindOk (PySem.Str.ofString "_law_of") s10 p10 := fun _ _ _ _ _ _ us hl => (match us, hl with | [_, _], _ => rfl)
theorem t10 : TextOk T names 10 (PySem.Str.ofString "_law_of") s10 := ⟨N10, p10, b10, rfl, f10, h10, c10⟩
theorem c11 : chkSs N11 names (L2.defScope s11) (fun _ => true) b11 (L2.defBody s11) = true := by decide +kernel
theorem f11 : L2.FnScope N11 p11 (L2.defScope s11) := ⟨rfl, rfl, rfl, by decide +kernel, rfl, by decide +kernel, by decide +kernel⟩
theorem h11 : BindOk (PySem.Str.ofString "_law_primes") s11 p11 := fun _ _ _ _ _ _ us hl => (match us, hl with | [_], _ => rfl)
theorem t11 : TextOk T names 11 (PySem.Str.ofString "_law_primes") s11 := ⟨N11, p11, b11, rfl, f11, h11, c11⟩
theorem c12 : chkSs N12 names (L2.defScope s12) (fun _ => true) b12 (L2.defBody s12) = true := by decide +kernel
theorem f12 : L2.FnScope N12 p12 (L2.defScope s12) := ⟨rfl, rfl, rfl, by decide +kernel, rfl, by decide +kernel, by decide +kernel⟩
theorem h12 : BindOk (PySem.Str.ofString "law") s12 p12 := fun _ _ _ _ _ _ us hl => (match us, hl with | [_], _ => rfl)
theorem t12 : TextOk T names 12 (PySem.Str.ofString "law") s12 := ⟨N12, p12, b12, rfl, f12, h12, c12⟩
def sts : List PySem.Stmt := [s0, s1, s2, s3, s4, s5, s6, s7, s8, s9, s10, s11, s12]
theorem texts : ∀ (i : Nat) (x : PySem.Str) (st : PySem.Stmt), names[i]? = some x → sts[i]? = some st → TextOk T names i x st
  | 0, _, _, h1, h2 => by cases h1; cases h2; exact t0
  | 1, _, _, h1, h2 => by cases h1; cases h2; exact t1
  | 2, _, _, h1, h2 => by cases h1; cases h2; exact t2
  | 3, _, _, h1, h2 => by cases h1; cases h2; exact t3
  | 4, _, _, h1, h2 => by cases h1; cases h2; exact t4
  | 5, _, _, h1, h2 => by cases h1; cases h2; exact t5
  | 6, _, _, h1, h2 => by cases h1; cases h2; exact t6
  | 7, _, _, h1, h2 => by cases h1; cases h2; exact t7
  | 8, _, _, h1, h2 => by cases h1; cases h2; exact t8
  | 9, _, _, h1, h2 => by cases h1; cases h2; exact t9
  | 10, _, _, h1, h2 => by cases h1; cases h2; exact t10
  | 11, _, _, h1, h2 => by cases h1; cases h2; exact t11
  | 12, _, _, h1, h2 => by cases h1; cases h2; exact t12
  | i + 13, _, _, h1, _ => by simp [names] at h1
theorem objs {K : PySem.W.Frag} (o0 : ObjIn K (PySem.Str.ofString "whole_root") s0) (o1 : ObjIn K (PySem.Str.ofString "two_squares") s1) (o2 : ObjIn K (PySem.Str.ofString "four_squares") s2) (o3 : ObjIn K (PySem.Str.ofString "four_table") s3) (o4 : ObjIn K (PySem.Str.ofString "eulers_product") s4) (o5 : ObjIn K (PySem.Str.ofString "odd_primes_of") s5) (o6 : ObjIn K (PySem.Str.ofString "two_paper") s6) (o7 : ObjIn K (PySem.Str.ofString "is_barred_plane") s7) (o8 : ObjIn K (PySem.Str.ofString "_law_source") s8) (o9 : ObjIn K (PySem.Str.ofString "_law_pick") s9) (o10 : ObjIn K (PySem.Str.ofString "_law_of") s10) (o11 : ObjIn K (PySem.Str.ofString "_law_primes") s11) (o12 : ObjIn K (PySem.Str.ofString "law") s12) : ∀ (i : Nat) (x : PySem.Str) (st : PySem.Stmt), names[i]? = some x → sts[i]? = some st → ObjIn K x st
  | 0, _, _, h1, h2 => by cases h1; cases h2; exact o0
  | 1, _, _, h1, h2 => by cases h1; cases h2; exact o1
  | 2, _, _, h1, h2 => by cases h1; cases h2; exact o2
  | 3, _, _, h1, h2 => by cases h1; cases h2; exact o3
  | 4, _, _, h1, h2 => by cases h1; cases h2; exact o4
  | 5, _, _, h1, h2 => by cases h1; cases h2; exact o5
  | 6, _, _, h1, h2 => by cases h1; cases h2; exact o6
  | 7, _, _, h1, h2 => by cases h1; cases h2; exact o7
  | 8, _, _, h1, h2 => by cases h1; cases h2; exact o8
  | 9, _, _, h1, h2 => by cases h1; cases h2; exact o9
  | 10, _, _, h1, h2 => by cases h1; cases h2; exact o10
  | 11, _, _, h1, h2 => by cases h1; cases h2; exact o11
  | 12, _, _, h1, h2 => by cases h1; cases h2; exact o12
  | i + 13, _, _, h1, _ => by simp [names] at h1
theorem bns {K : PySem.W.Frag} (z0 : PySem.W.nsIn K mainGlobals (PySem.Str.ofString "len") = some none) (z1 : PySem.W.nsIn K mainGlobals (PySem.Str.ofString "tuple") = some none) (z2 : PySem.W.nsIn K mainGlobals (PySem.Str.ofString "list") = some none) (z3 : PySem.W.nsIn K mainGlobals (PySem.Str.ofString "sorted") = some none) (z4 : PySem.W.nsIn K mainGlobals (PySem.Str.ofString "sum") = some none) (z5 : PySem.W.nsIn K mainGlobals (PySem.Str.ofString "max") = some none) (z6 : PySem.W.nsIn K mainGlobals (PySem.Str.ofString "min") = some none) (z7 : PySem.W.nsIn K mainGlobals (PySem.Str.ofString "abs") = some none) (z8 : PySem.W.nsIn K mainGlobals (PySem.Str.ofString "int") = some none) (z9 : PySem.W.nsIn K mainGlobals (PySem.Str.ofString "repr") = some none) (z10 : PySem.W.nsIn K mainGlobals (PySem.Str.ofString "all") = some none) (z11 : PySem.W.nsIn K mainGlobals (PySem.Str.ofString "any") = some none) (z12 : PySem.W.nsIn K mainGlobals (PySem.Str.ofString "range") = some none) (z13 : PySem.W.nsIn K mainGlobals (PySem.Str.ofString "isinstance") = some none) (z14 : PySem.W.nsIn K mainGlobals (PySem.Str.ofString "bool") = some none) (z15 : PySem.W.nsIn K mainGlobals (PySem.Str.ofString "str") = some none) (z16 : PySem.W.nsIn K mainGlobals (PySem.Str.ofString "dict") = some none) (z17 : PySem.W.nsIn K mainGlobals (PySem.Str.ofString "enumerate") = some none) (z18 : PySem.W.nsIn K mainGlobals (PySem.Str.ofString "zip") = some none) (z19 : PySem.W.nsIn K mainGlobals (PySem.Str.ofString "super") = some none) : ∀ x ∈ bnames, PySem.W.nsIn K mainGlobals x = some none := by
  intro x hx
  simp only [bnames, List.mem_cons, List.mem_nil_iff, or_false] at hx
  rcases hx with rfl | rfl | rfl | rfl | rfl | rfl | rfl | rfl | rfl | rfl | rfl | rfl | rfl | rfl | rfl | rfl | rfl | rfl | rfl | rfl
  all_goals assumption
def level : Nat := 20
def fuel : Nat := 100000000
def wits : List Nat := [0, 1, 65, 4161, 2, 66, 4162, 266306, 130, 3, 67, 4163, 266307, 131, 4227, 266371, 4, 68, 4164, 266308, 132, 4228, 266372, 270531, 8324, 5, 69, 4165, 266309, 133, 4229, 266373, 260, 8325, 197, 4293, 6, 70, 4166, 266310,
  134, 4230, 266374, 266501, 8326, 198, 4294, 266438, 532614, 7, 71, 4167, 266311, 135, 4231, 266375, 8454, 8327, 199, 4295, 266439, 532615, 8391, 270535, 8, 72, 4168, 266312, 136, 4232, 266376, 536775, 8328, 200, 4296, 266440, 532616, 8392, 270536, 270663,
  264, 9, 73, 4169, 266313, 137, 4233, 266377, 532744, 8329, 201, 4297, 266441, 532617, 8393, 270537, 16648, 265, 4361, 266505, 10, 74, 4170, 266314, 138, 4234, 266378, 4425, 8330, 202, 4298, 266442, 532618, 8394, 270538, 12617, 266, 4362, 266506, 274634,
  8458, 11, 75, 4171, 266315, 139, 4235, 266379, 520, 8331, 203, 4299, 266443, 532619, 8395, 270539, 394, 267, 4363, 266507, 274635, 8459, 270603, 536779, 12, 76, 4172, 266316, 140, 4236, 266380, 270667, 8332, 204, 4300, 266444, 532620, 8396, 270540, 266635,
  268, 4364, 266508, 274636, 8460, 270604, 536780, 274827, 532748, 13, 77, 4173, 266317, 141, 4237, 266381, 16652, 8333, 205, 4301, 266445, 532621, 8397, 270541, 8588, 269, 4365, 266509, 274637, 8461, 270605, 536781, 1065228, 532749, 333, 4429, 14, 78, 4174, 266318,
  142, 4238, 266382, 12621, 8334, 206, 4302, 266446, 532622, 8398, 270542, 278861, 270, 4366, 266510, 274638, 8462, 270606, 536782, 4557, 532750, 334, 4430, 266574, 16908, 15, 79, 4175, 266319, 143, 4239, 266383, 398, 8335, 207, 4303, 266447, 532623, 8399, 270543,
  532878, 271, 4367, 266511, 274639, 8463, 270607, 536783, 16782, 532751, 335, 4431, 266575, 532942, 8527, 270671, 16, 80, 4176, 266320, 144, 4240, 266384, 266639, 8336, 208, 4304, 266448, 532624, 8400, 270544, 274831, 272, 4368, 266512, 274640, 8464, 270608, 536784, 270799,
  532752, 336, 4432, 266576, 274895, 8528, 270672, 537039, 16656, 17, 81, 4177, 266321, 145, 4241, 266385, 8592, 8337, 209, 4305, 266449, 532625, 8401, 270545, 1065232, 273, 4369, 266513, 274641, 8465, 270609, 536785, 541072, 532753, 337, 4433, 266577, 20880, 8529, 270673,
  528, 16657, 532817, 12625, 18, 82, 4178, 266322, 146, 4242, 266386, 278865, 8338, 210, 4306, 266450, 532626, 8402, 270546, 4561, 274, 4370, 266514, 274642, 8466, 270610, 536786, 12753, 532754, 338, 4434, 266578, 1065488, 8530, 270674, 266769, 16658, 532818, 12626, 274770,
  402, 19, 83, 4179, 266323, 147, 4243, 266387, 532882, 8339, 211, 4307, 266451, 532627, 8403, 270547, 16786, 275, 4371, 266515, 274643, 8467, 270611, 536787, 33296, 532755, 339, 4435, 266579, 4626, 8531, 270675, 8722, 16659, 532819, 12627, 274771, 403, 4499, 266643,
  20, 84, 4180, 266324, 148, 4244, 266388, 274835, 8340, 212, 4308, 266452, 532628, 8404, 270548, 270803, 276, 4372, 266516, 274644, 8468, 270612, 536788, 537043, 532756, 340, 4436, 266580, 799187, 8532, 270676, 807315, 16660, 532820, 12628, 274772, 404, 4500, 266644, 545235,
  8596, 21, 85, 4181, 266325, 149, 4245, 266389, 1065236, 8341, 213, 4309, 266453, 532629, 8405, 270549, 541076, 277, 4373, 266517, 274645, 8469, 270613, 536789, 532, 532757, 341, 4437, 266581, 270868, 8533, 270677, 533012, 16661, 532821, 12629, 274773, 405, 4501, 266645,
  16916, 8597, 270741, 278869, 22, 86, 4182, 266326, 150, 4246, 266390, 4565, 8342, 214, 4310, 266454, 532630, 8406, 270550, 12757, 278, 4374, 266518, 274646, 8470, 270614, 536790, 266773, 532758, 342, 4438, 266582, 1040, 8534, 270678, 274965, 16662, 532822, 12630, 274774,
  406, 4502, 266646, 4693, 8598, 270742, 278870, 799062, 532886, 23, 87, 4183, 266327, 151, 4247, 266391, 16790, 8343, 215, 4311, 266455, 532631, 8407, 270551, 788, 279, 4375, 266519, 274647, 8471, 270615, 536791, 8726, 532759, 343, 4439, 266583, 12822, 8535, 270679,
  549270, 16663, 532823, 12631, 274775, 407, 4503, 266647, 541206, 8599, 270743, 278871, 799063, 532887, 12695, 274839, 24, 88, 4184, 266328, 152, 4248, 266392, 270807, 8344, 216, 4312, 266456, 532632, 8408, 270552, 537047, 280, 4376, 266520, 274648, 8472, 270616, 536792, 807319,
  532760, 344, 4440, 266584, 283095, 8536, 270680, 545239, 16664, 532824, 12632, 274776, 408, 4504, 266648, 270935, 8600, 270744, 278872, 799064, 532888, 12696, 274840, 537175, 1065240, 25, 89, 4185, 266329, 153, 4249, 266393, 541080, 8345, 217, 4313, 266457, 532633, 8409, 270553,
  536, 281, 4377, 266521, 274649, 8473, 270617, 536793, 533016, 532761, 345, 4441, 266585, 537112, 8537, 270681, 16920, 16665, 532825, 12633, 274777, 409, 4505, 266649, 1073560, 8601, 270745, 278873, 799065, 532889, 12697, 274841, 1065496, 1065241, 473, 4569, 26, 90, 4186, 266330,
  154, 4250, 266394, 12761, 8346, 218, 4314, 266458, 532634, 8410, 270554, 266777, 282, 4378, 266522, 274650, 8474, 270618, 536794, 274969, 532762, 346, 4442, 266586, 33304, 8538, 270682, 4697, 16666, 532826, 12634, 274778, 410, 4506, 266650, 12889, 8602, 270746, 278874, 799066,
  532890, 12698, 274842, 279129, 1065242, 474, 4570, 266714, 16794, 27, 91, 4187, 266331, 155, 4251, 266395, 17176, 8347, 219, 4315, 266459, 532635, 8411, 270555, 8730, 283, 4379, 266523, 274651, 8475, 270619, 536795, 549274, 532763, 347, 4443, 266587, 602, 8539, 270683,
  541210, 16667, 532827, 12635, 274779, 411, 4507, 266651, 2130456, 8603, 270747, 278875, 799067, 532891, 12699, 274843, 666, 1065243, 475, 4571, 266715, 16795, 8667, 270811, 28, 92, 4188, 266332, 156, 4252, 266396, 537051, 8348, 220, 4316, 266460, 532636, 8412, 270556, 807323,
  284, 4380, 266524, 274652, 8476, 270620, 536796, 545243, 532764, 348, 4444, 266588, 266843, 8540, 270684, 270939, 16668, 532828, 12636, 274780, 412, 4508, 266652, 537179, 8604, 270748, 278876, 799068, 532892, 12700, 274844, 266907, 1065244, 476, 4572, 266716, 16796, 8668, 270812, 275099,
  541084, 29, 93, 4189, 266333, 157, 4253, 266397, 540, 8349, 221, 4317, 266461, 532637, 8413, 270557, 533020, 285, 4381, 266525, 274653, 8477, 270621, 536797, 16924, 532765, 349, 4445, 266589, 8796, 8541, 270685, 1073564, 16669, 532829, 12637, 274781, 413, 4509, 266653,
  1065500, 8605, 270749, 278877, 799069, 532893, 12701, 274845, 8860, 1065245, 477, 4573, 266717, 16797, 8669, 270813, 33816, 541085, 532957, 12765, 30, 94, 4190, 266334, 158, 4254, 266398, 266781, 8350, 222, 4318, 266462, 532638, 8414, 270558, 274973, 286, 4382, 266526, 274654,
  8478, 270622, 536798, 4701, 532766, 350, 4446, 266590, 796, 8542, 270686, 12893, 16670, 532830, 12638, 274782, 414, 4510, 266654, 279133, 8606, 270750, 278878, 799070, 532894, 12702, 274846, 21085, 1065246, 478, 4574, 266718, 16798, 8670, 270814, 291357, 541086, 532958, 12766, 274910,
  1065756, 31, 95, 4191, 266335, 159, 4255, 266399, 8734, 8351, 223, 4319, 266463, 532639, 8415, 270559, 549278, 287, 4383, 266527, 274655, 8479, 270623, 536799, 541214, 532767, 351, 4447, 266591, 533086, 8543, 270687, 33564, 16671, 532831, 12639, 274783, 415, 4511, 266655,
  670, 8607, 270751, 278879, 799071, 532895, 12703, 274847, 533150, 1065247, 479, 4575, 266719, 16799, 8671, 270815, 17054, 541087, 532959, 12767, 274911, 734, 20895, 537055, 32, 96, 4192, 266336, 160, 4256, 266400, 807327, 8352, 224, 4320, 266464, 532640, 8416, 270560, 545247,
  288, 4384, 266528, 274656, 8480, 270624, 536800, 270943, 532768, 352, 4448, 266592, 275039, 8544, 270688, 537183, 16672, 532832, 12640, 274784, 416, 4512, 266656, 266911, 8608, 270752, 278880, 799072, 532896, 12704, 274848, 275103, 1065248, 480, 4576, 266720, 16800, 8672, 270816, 799391,
  541088, 532960, 12768, 274912, 266975, 20896, 537056, 271071, 544, 33, 97, 4193, 266337, 161, 4257, 266401, 533024, 8353, 225, 4321, 266465, 532641, 8417, 270561, 16928, 289, 4385, 266529, 274657, 8481, 270625, 536801, 1073568, 532769, 353, 4449, 266593, 545312, 8545, 270689,
  1065504, 16673, 532833, 12641, 274785, 417, 4513, 266657, 8864, 8609, 270753, 278881, 799073, 532897, 12705, 274849, 549790, 1065249, 481, 4577, 266721, 16801, 8673, 270817, 541344, 541089, 532961, 12769, 274913, 8928, 20897, 537057, 33312, 545, 4641, 266785, 34, 98, 4194, 266338,
  162, 4258, 266402, 274977, 8354, 226, 4322, 266466, 532642, 8418, 270562, 4705, 290, 4386, 266530, 274658, 8482, 270626, 536802, 12897, 532770, 354, 4450, 266594, 17184, 8546, 270690, 279137, 16674, 532834, 12642, 274786, 418, 4514, 266658, 21089, 8610, 270754, 278882, 799074,
  532898, 12706, 274850, 291361, 1065250, 482, 4578, 266722, 16802, 8674, 270818, 4833, 541090, 532962, 12770, 274914, 2130464, 20898, 537058, 13025, 546, 4642, 266786, 799202, 8738, 35, 99, 4195, 266339, 163, 4259, 266403, 549282, 8355, 227, 4323, 266467, 532643, 8419, 270563,
  541218, 291, 4387, 266531, 274659, 8483, 270627, 536803, 1082144, 532771, 355, 4451, 266595, 16994, 8547, 270691, 674, 16675, 532835, 12643, 274787, 419, 4515, 266659, 533154, 8611, 270755, 278883, 799075, 532899, 12707, 274851, 17058, 1065251, 483, 4579, 266723, 16803, 8675, 270819,
  1056, 541091, 532963, 12771, 274915, 533218, 20899, 537059, 1065634, 547, 4643, 266787, 799203, 8739, 270883, 807331, 36, 100, 4196, 266340, 164, 4260, 266404, 545251, 8356, 228, 4324, 266468, 532644, 8420, 270564, 270947, 292, 4388, 266532, 274660, 8484, 270628, 536804, 537187,
  532772, 356, 4452, 266596, 799331, 8548, 270692, 266915, 16676, 532836, 12644, 274788, 420, 4516, 266660, 275107, 8612, 270756, 278884, 799076, 532900, 12708, 274852, 799395, 1065252, 484, 4580, 266724, 16804, 8676, 270820, 271075, 541092, 532964, 12772, 274916, 275171, 20900, 537060, 537315,
  548, 4644, 266788, 799204, 8740, 270884, 807332, 1335907, 533028, 37, 101, 4197, 266341, 165, 4261, 266405, 16932, 8357, 229, 4325, 266469, 532645, 8421, 270565, 1073572, 293, 4389, 266533, 274661, 8485, 270629, 536805, 1065508, 532773, 357, 4453, 266597, 4772, 8549, 270693,
  8868, 16677, 532837, 12645, 274789, 421, 4517, 266661, 2130976, 8613, 270757, 278885, 799077, 532901, 12709, 274853, 541348, 1065253, 485, 4581, 266725, 16805, 8677, 270821, 33316, 541093, 532965, 12773, 274917, 1073764, 20901, 537061, 25252, 549, 4645, 266789, 799205, 8741, 270885, 807333,
  804, 533029, 12837, 274981, 38, 102, 4198, 266342, 166, 4262, 266406, 4709, 8358, 230, 4326, 266470, 532646, 8422, 270566, 12901, 294, 4390, 266534, 274662, 8486, 270630, 536806, 279141, 532774, 358, 4454, 266598, 1065764, 8550, 270694, 21093, 16678, 532838, 12646, 274790,
  422, 4518, 266662, 291365, 8614, 270758, 278886, 799078, 532902, 12710, 274854, 4837, 1065254, 486, 4582, 266726, 16806, 8678, 270822, 13029, 541094, 532966, 12774, 274918, 33572, 20902, 537062, 279269, 550, 4646, 266790, 799206, 8742, 270886, 807334, 267045, 533030, 12838, 274982, 283110,
  549286, 39, 103, 4199, 266343, 167, 4263, 266407, 541222, 8359, 231, 4327, 266471, 532647, 8423, 270567, 66592, 295, 4391, 266535, 274663, 8487, 270631, 536807, 678, 532775, 359, 4455, 266599, 271014, 8551, 270695, 533158, 16679, 532839, 12647, 274791, 423, 4519, 266663,
  17062, 8615, 270759, 278887, 799079, 532903, 12711, 274855, 17444, 1065255, 487, 4583, 266727, 16807, 8679, 270823, 1065638, 541095, 532967, 12775, 274919, 17126, 20903, 537063, 549542, 551, 4647, 266791, 799207, 8743, 270887, 807335, 8998, 533031, 12839, 274983, 283111, 549287, 537127, 545255,
  40, 104, 4200, 266344, 168, 4264, 266408, 270951, 8360, 232, 4328, 266472, 532648, 8424, 270568, 537191, 296, 4392, 266536, 274664, 8488, 270632, 536808, 266919, 532776, 360, 4456, 266600, 283239, 8552, 270696, 275111, 16680, 532840, 12648, 274792, 424, 4520, 266664, 799399,
  8616, 270760, 278888, 799080, 532904, 12712, 274856, 271079, 1065256, 488, 4584, 266728, 16808, 8680, 270824, 537319, 541096, 532968, 12776, 274920, 799463, 20904, 537064, 1335911, 552, 4648, 266792, 799208, 8744, 270888, 807336, 545511, 533032, 12840, 274984, 283112, 549288, 537128, 545256, 287463,
  16936, 41, 105, 4201, 266345, 169, 4265, 266409, 1073576, 8361, 233, 4329, 266473, 532649, 8425, 270569, 1065512, 297, 4393, 266537, 274665, 8489, 270633, 536809, 8872, 532777, 361, 4457, 266601, 12968, 8553, 270697, 1598374, 16681, 532841, 12649, 274793, 425, 4521, 266665,
  541352, 8617, 270761, 278889, 799081, 532905, 12713, 274857, 33320, 1065257, 489, 4585, 266729, 16809, 8681, 270825, 25256, 541097, 532969, 12777, 274921, 541416, 20905, 537065, 808, 553, 4649, 266793, 799209, 8745, 270889, 807337, 533288, 533033, 12841, 274985, 283113, 549289, 537129, 545257,
  17192, 16937, 617, 4713, 42, 106, 4202, 266346, 170, 4266, 266410, 12905, 8362, 234, 4330, 266474, 532650, 8426, 270570, 279145, 298, 4394, 266538, 274666, 8490, 270634, 536810, 21097, 532778, 362, 4458, 266602, 2130472, 8554, 270698, 291369, 16682, 532842, 12650, 274794,
  426, 4522, 266666, 4841, 8618, 270762, 278890, 799082, 532906, 12714, 274858, 13033, 1065258, 490, 4586, 266730, 16810, 8682, 270826, 279273, 541098, 532970, 12778, 274922, 1082152, 20906, 537066, 267049, 554, 4650, 266794, 799210, 8746, 270890, 807338, 275241, 533034, 12842, 274986, 283114,
  549290, 537130, 545258, 799529, 16938, 618, 4714, 266858, 541226, 43, 107, 4203, 266347, 171, 4267, 266411, 1064, 8363, 235, 4331, 266475, 532651, 8427, 270571, 682, 299, 4395, 266539, 274667, 8491, 270635, 536811, 533162, 532779, 363, 4459, 266603, 537258, 8555, 270699,
  17066, 16683, 532843, 12651, 274795, 427, 4523, 266667, 1066024, 8619, 270763, 278891, 799083, 532907, 12715, 274859, 1065642, 1065259, 491, 4587, 266731, 16811, 8683, 270827, 549546, 541099, 532971, 12779, 274923, 4906, 20907, 537067, 9002, 555, 4651, 266795, 799211, 8747, 270891, 807339,
  33832, 533035, 12843, 274987, 283115, 549291, 537131, 545259, 541482, 16939, 619, 4715, 266859, 541227, 8811, 270955, 44, 108, 4204, 266348, 172, 4268, 266412, 537195, 8364, 236, 4332, 266476, 532652, 8428, 270572, 266923, 300, 4396, 266540, 274668, 8492, 270636, 536812, 275115,
  532780, 364, 4460, 266604, 807531, 8556, 270700, 799403, 16684, 532844, 12652, 274796, 428, 4524, 266668, 271083, 8620, 270764, 278892, 799084, 532908, 12716, 274860, 537323, 1065260, 492, 4588, 266732, 16812, 8684, 270828, 1335915, 541100, 532972, 12780, 274924, 283371, 20908, 537068, 545515,
  556]
def witOk (n w : Nat) : Bool :=
  let a := w % 64; let b := w / 64 % 64; let c := w / 4096 % 64; let d := w / 262144
  a * a + b * b + c * c + d * d == n
def witsOk : Nat → List Nat → Bool
  | _, [] => true
  | n, w :: r => witOk n w && witsOk (n + 1) r
theorem wits_ok : witsOk 0 wits = true := by decide +kernel
theorem wits_len : wits.length = 2001 := by decide +kernel
theorem wits_at : ∀ (l : List Nat) (n i w : Nat), witsOk n l = true → l[i]? = some w → witOk (n + i) w = true
  | [], _, _, _, _, h => by simp at h
  | x :: l, n, 0, w, h, e => by
    simp only [witsOk, Bool.and_eq_true] at h
    simp at e
    subst e
    exact h.1
  | x :: l, n, i + 1, w, h, e => by
    simp only [witsOk, Bool.and_eq_true] at h
    have := wits_at l (n + 1) i w h.2 (by simpa using e)
    rw [show n + (i + 1) = n + 1 + i by omega]
    exact this
theorem four_ex (n : Int) (h0 : 0 ≤ n) (h1 : n ≤ 2000) : ∃ a b c d : Int, a * a + b * b + c * c + d * d = n := by
  obtain ⟨w, hw⟩ : ∃ w, wits[n.toNat]? = some w := ⟨_, List.getElem?_eq_getElem (by rw [wits_len]; omega)⟩
  have := wits_at wits 0 n.toNat w wits_ok hw
  rw [Nat.zero_add] at this
  unfold witOk at this
  simp only [beq_iff_eq] at this
  have e : (n.toNat : Int) = n := by omega
  refine ⟨((w % 64 : Nat) : Int), ((w / 64 % 64 : Nat) : Int), ((w / 4096 % 64 : Nat) : Int), ((w / 262144 : Nat) : Int), ?_⟩
  rw [← e]
  exact_mod_cast this

theorem rootIs (k : Nat) (ss : List Sl) (h : AH) : callN T fuel (k + 1) 0 ss h = runF (callN T fuel k) fuel ⟨1, 4, rootB⟩ ss h := callN_at rfl ss h
theorem twoIs (k : Nat) (ss : List Sl) (h : AH) : callN T fuel (k + 1) 1 ss h = runF (callN T fuel k) fuel ⟨1, 3, twoB⟩ ss h := callN_at rfl ss h
theorem fourIs (k : Nat) (ss : List Sl) (h : AH) : callN T fuel (k + 1) 2 ss h = runF (callN T fuel k) fuel ⟨1, 4, fourB⟩ ss h := callN_at rfl ss h
theorem rootC (k : Nat) (n : Int) (hn : n < 10000000) : RootOk (callN T fuel (k + 1)) n := fun m h0 h1 => by
  obtain ⟨r, r0, r1, r2, r3⟩ := root_ok (cl := callN T fuel k) (W := fuel) m h0 (by simp [fuel]; omega) (by omega) []
  exact ⟨r, r0, r1, r2, by rw [rootIs]; exact r3⟩
theorem twoC (k : Nat) (n : Int) (hn : n < 10000000) : TwoCl (callN T fuel (k + 2)) n := fun m h0 h1 => by
  obtain ⟨d, d0, d1⟩ := two_ok (cl := callN T fuel (k + 1)) (W := fuel) m h0 (by omega) (by simp [fuel]; omega) (rootC k m (by omega)) []
  exact ⟨d, d0, by rw [twoIs]; exact d1⟩
theorem fourC (k : Nat) (n : Int) (h0 : 0 ≤ n) (hn : n < 10000000) (ex : ∃ a b c d : Int, a * a + b * b + c * c + d * d = n) : ∃ d, FourR n d ∧ callN T fuel (k + 3) 2 [.v (.int n)] [] = some (.ok (.v d) [] []) := by
  obtain ⟨d, d0, d1⟩ := four_ok (cl := callN T fuel (k + 2)) (W := fuel) n h0 (by omega) (rootC (k + 1) n hn) (twoC k n hn) [] ex
  exact ⟨d, d0, by rw [fourIs]; exact d1⟩
def row4 (a b c d : Int) : D := .tup [.int a, .int b, .int c, .int d]
def tabD (a b c d : Int) : D := .tup [row4 a b c d, row4 (-b) a (-d) c, row4 (-c) d a (-b), row4 (-d) (-c) b a]
theorem tableC (k : Nat) (a b c d : Int) : callN T fuel (k + 1) 3 [.v (row4 a b c d)] [] = some (.ok (.v (tabD a b c d)) [] []) := rfl
def sm4 (a b c d : Int) : Prop := small64 a = true ∧ small64 b = true ∧ small64 c = true ∧ small64 d = true
def l4 (a b c d : Int) : List Int := [a, b, c, d]
theorem row4_l (a b c d : Int) : row4 a b c d = .tup ((l4 a b c d).map D.int) := rfl
def dot4 (xs ys : List Int) : Int := (List.zipWith (· * ·) xs ys).sum
/-- four ints of a tuple -/
def un4 : D → List Int
  | .tup [.int a, .int b, .int c, .int d] => [a, b, c, d]
  | _ => []
def rows4 (a b c d : Int) : List D := [row4 a b c d, row4 (-b) a (-d) c, row4 (-c) d a (-b), row4 (-d) (-c) b a]
theorem small_neg {a : Int} (h : small64 a = true) : small64 (-a) = true := by
  simp [small64] at h ⊢; omega
theorem rows4_of {a b c d : Int} (h : sm4 a b c d) : ∀ x ∈ rows4 a b c d, x = .tup ((un4 x).map D.int) ∧ (un4 x).length = 4 ∧ ∀ i ∈ un4 x, small64 i = true := by
  obtain ⟨h1, h2, h3, h4⟩ := h
  intro x hx
  simp only [rows4, List.mem_cons, List.mem_nil_iff, or_false] at hx
  rcases hx with rfl | rfl | rfl | rfl <;> refine ⟨rfl, rfl, ?_⟩ <;> simp [un4, row4, h1, h2, h3, h4, small_neg]
def euD (a b c d : Int) (ys : List Int) : D := .tup ((rows4 a b c d).map fun r => .int (dot4 (un4 r) ys))
theorem eulerC (k : Nat) (a b c d : Int) (ys : List Int) (hy : ys.length = 4) (h : sm4 a b c d) : callN T fuel (k + 2) 4 [.v (row4 a b c d), .v (.tup (ys.map D.int))] [] = some (.ok (.v (euD a b c d ys)) [] []) := by
  have hb : evSs (callN T fuel (k + 1)) fuel b4 [.v (row4 a b c d), .v (.tup (ys.map D.int)), .un, .un, .un] [] = some (.ok (.rt (.v (euD a b c d ys))) [.v (row4 a b c d), .v (.tup (ys.map D.int)), .un, .un, .un] []) := by
    unfold b4
    refine ss_rt ?_
    have inner : ∀ r ∈ rows4 a b c d, evE (callN T fuel (k + 1)) (.comp (.bin .mul (.var 3) (.var 4)) [3, 4] (.tp (.cons (.nm 3) (.cons (.nm 4) .nil))) (.zip (.var 2) (.var 1) true) (.bl true)) [.v (row4 a b c d), .v (.tup (ys.map D.int)), .v r, .un, .un] [] =
        some (.ok (.fr (.lst ((List.zipWith (· * ·) (un4 r) ys).map .int))) [.v (row4 a b c d), .v (.tup (ys.map D.int)), .v r, .un, .un] []) := fun r hr => by
      obtain ⟨e1, e2, e3⟩ := rows4_of h r hr
      refine dot_comp (fun x y => [.v (row4 a b c d), .v (.tup (ys.map D.int)), .v r, .v (.int x), .v (.int y)]) ?_ e3 (by rw [e2]; decide) rfl rfl (fun _ _ => rfl) (fun _ _ => ⟨rfl, rfl, rfl⟩) (fun _ _ => rfl) (fun _ _ => rfl)
      have : evI (callN T fuel (k + 1)) (.zip (.var 2) (.var 1) true) [.v (row4 a b c d), .v (.tup (ys.map D.int)), .v (.tup ((un4 r).map D.int)), .un, .un] [] = some (.ok (zipL ((un4 r).map D.int) (ys.map D.int), []) [.v (row4 a b c d), .v (.tup (ys.map D.int)), .v (.tup ((un4 r).map D.int)), .un, .un] []) := by
        simp [evI, evE, bd, wkd, e2, hy]
      rw [← e1] at this
      exact this
    have outer : evE (callN T fuel (k + 1)) (.comp (.bi .sum (.cons false (.comp (.bin .mul (.var 3) (.var 4)) [3, 4] (.tp (.cons (.nm 3) (.cons (.nm 4) .nil))) (.zip (.var 2) (.var 1) true) (.bl true)) .nil)) [2] (.nm 2) (.e (.call 3 (.cons false (.var 0) .nil))) (.bl true)) [.v (row4 a b c d), .v (.tup (ys.map D.int)), .un, .un, .un] [] =
        some (.ok (.fr (.lst ((rows4 a b c d).map fun r => .int (dot4 (un4 r) ys)))) [.v (row4 a b c d), .v (.tup (ys.map D.int)), .un, .un, .un] []) := by
      refine comp_all (fun r => [.v (row4 a b c d), .v (.tup (ys.map D.int)), .v r, .un, .un]) _ (xs := rows4 a b c d) rfl rfl (by simp [rows4, sizeMax]) rfl (fun _ _ => rfl) (fun _ _ => ⟨rfl, rfl, rfl⟩) fun r hr => ⟨.v (.int (dot4 (un4 r) ys)), ?_, rfl⟩
      exact bi1_ok (inner r hr) rfl (sum_ints _)
    exact retE_ok (bi1_ok outer rfl rfl) rfl
  refine Eq.trans (callN_at (T := T) (F := ⟨2, 5, b4⟩) (k := k + 1) rfl _ _) ?_
  rw [runF_rt (by rfl) hb]
  rfl

theorem oddIs (k : Nat) (ss : List Sl) (h : AH) : callN T fuel (k + 1) 5 ss h = runF (callN T fuel k) fuel ⟨1, 4, oddB⟩ ss h := callN_at rfl ss h
theorem oddC (k n : Nat) (h1 : 1 ≤ n) (hn : n < 1000000) : callN T fuel (k + 1) 5 [.v (.int n)] [] = some (.ok (.fr (.lst ((oddL fuel n).map pD))) [] []) := by
  rw [oddIs]
  exact odd_ok n h1 (by simp [fuel]; omega) hn (by simp [fuel]) []
theorem pD_low : ∀ l : List (Nat × Nat), D.lows 0 (l.map pD) = true
  | [] => rfl
  | q :: l => by rw [List.map_cons, D.lows, pD_low l]; rfl
theorem pD_plain : ∀ l : List (Nat × Nat), D.plains 59 (l.map pD) = true
  | [] => rfl
  | q :: l => by rw [List.map_cons, D.plains, pD_plain l]; rfl
/-- a call whose answer is a new list -/
theorem call1_fr {cl : Cl} {f : Nat} {a : E} {e e' : Ev} {h h' : AH} {d : D} {o : Ob} {e2 : Ev} (ha : evE cl a e h = some (.ok (.v d) e' h')) (hc : cl f [.v d] [] = some (.ok (.fr o) e2 [])) (ld : d.low 0 = true) (lr : o.low 0 = true) : evE cl (.call f (.cons false a .nil)) e h = some (.ok (.fr o) e' h') := by
  simp only [evE, evR, ha, bd_ok]
  exact call_pure (ss := [.v d]) rfl (by simp [Sl.low, ld]) hc lr rfl
def m12 (m : Nat) : Bool := decide (m % 4 = 1) || decide (m % 4 = 2)
theorem isin12 (m : Nat) : inB (.int ((m % 4 : Nat) : Int)) [.int 1, .int 2] = m12 m := by
  have h : m % 4 = 0 ∨ m % 4 = 1 ∨ m % 4 = 2 ∨ m % 4 = 3 := by omega
  unfold m12
  rcases h with h | h | h | h <;> rw [h] <;> decide
theorem ne_nil (l : List (Nat × Nat)) : cmpD .ne (.lst (l.map pD)) (.lst []) = some (!l.isEmpty) := by
  have p1 : plain (.lst (l.map pD)) = true := by
    show D.plains 59 (l.map pD) = true
    exact pD_plain l
  have p2 : plain (.lst []) = true := rfl
  have e : eqB (.lst (l.map pD)) (.lst []) = l.isEmpty := by
    cases l <;> rfl
  simp only [cmpD, p1, p2, e, Bool.and_self, Bool.or_true, if_true]
theorem barC (k m : Nat) (h1 : 1 ≤ m) (hm : m < 1000000) : callN T fuel (k + 2) 7 [.v (.int m)] [] = some (.ok (.v (.bl (m12 m && !(oddL fuel m).isEmpty))) [] []) := by
  have c1 : evE (callN T fuel (k + 1)) (.cmp .isin (.bin .mod (.var 0) (.int 4)) (.tup (.cons false (.int 1) (.cons false (.int 2) .nil)))) [.v (.int m)] [] = some (.ok (.v (.bl (m12 m))) [.v (.int m)] []) := by
    refine cmp_okk (x := .v (.int ((m % 4 : Nat) : Int))) (y := .v (.tup [.int 1, .int 2])) ?_ rfl rfl rfl ?_
    · have := fmod_nat m 4
      simp only [evE, bd_ok, List.getElem?_cons_zero, rd, op2]
      rw [← this]
      rfl
    · show (if plain (.int ((m % 4 : Nat) : Int)) && plain (.tup [.int 1, .int 2]) then some (inB (.int ((m % 4 : Nat) : Int)) [.int 1, .int 2]) else none) = some (m12 m)
      rw [isin12]
      rfl
  have c2 : evE (callN T fuel (k + 1)) (.cmp .ne (.call 5 (.cons false (.var 0) .nil)) (.lst .nil)) [.v (.int m)] [] = some (.ok (.v (.bl (!(oddL fuel m).isEmpty))) [.v (.int m)] []) :=
    cmp_okk (call1_fr (d := .int m) rfl (oddC k m h1 hm) rfl (pD_low _)) (y := .fr (.lst [])) rfl rfl rfl (ne_nil _)
  have hb : evSs (callN T fuel (k + 1)) fuel b7 [.v (.int m)] [] = some (.ok (.rt (.v (.bl (m12 m && !(oddL fuel m).isEmpty)))) [.v (.int m)] []) := by
    unfold b7
    refine ss_rt (retE_ok (r := .v (.bl (m12 m && !(oddL fuel m).isEmpty))) (e' := [.v (.int m)]) (h' := []) ?_ rfl)
    rw [evE, c1]
    cases hz : m12 m with
    | true =>
      simp only [bd_ok, rd, Option.bind, truth, c2, Bool.true_and]
    | false =>
      simp only [bd_ok, rd, Option.bind, truth, Bool.false_and]
  refine Eq.trans (callN_at (T := T) (F := ⟨1, 1, b7⟩) (k := k + 1) rfl _ _) ?_
  rw [runF_rt (by rfl) hb]
  rfl
def sqK : PySem.Str := PySem.Str.ofString "squares"
def prK : PySem.Str := PySem.Str.ofString "prime"
/-- two_paper -/
theorem paperC (k m : Nat) (h1 : 1 ≤ m) (hm : m < 1000000) (d : D) (hd : callN T fuel (k + 2) 1 [.v (.int m)] [] = some (.ok (.v d) [] [])) :
    (∀ a b : Int, d = .tup [.int a, .int b] → callN T fuel (k + 3) 6 [.v (.int m)] [] = some (.ok (.v (.tup [.str sqK, .int a, .int b])) [] [])) ∧
    (∀ q r, d = .non → oddL fuel m = q :: r → callN T fuel (k + 3) 6 [.v (.int m)] [] = some (.ok (.v (.tup [.str prK, .int q.1, .int q.2])) [] [])) := by
  constructor
  · rintro a b rfl
    have hb : evSs (callN T fuel (k + 2)) fuel b6 [.v (.int m), .un] [] = some (.ok (.rt (.v (.tup [.str sqK, .int a, .int b]))) [.v (.int m), .v (.tup [.int a, .int b])] []) := by
      unfold b6
      exact ss_nx (asg_ok (call1_ok (d := .int m) rfl hd rfl rfl) rfl) (ss_rt rfl)
    refine Eq.trans (callN_at (T := T) (F := ⟨1, 2, b6⟩) (k := k + 2) rfl _ _) ?_
    rw [runF_rt (by rfl) hb]
    rfl
  · rintro q r rfl hq
    have ho := oddC (k + 1) m h1 hm
    rw [hq] at ho
    have ix : evE (callN T fuel (k + 2)) (.ix (.call 5 (.cons false (.var 0) .nil)) (.int 0)) [.v (.int m), .v .non] [] = some (.ok (.v (pD q)) [.v (.int m), .v .non] []) := by
      refine ix_okk (call1_fr (d := .int m) rfl ho rfl (pD_low _)) (y := .v (.int 0)) rfl rfl rfl ?_
      show (ixN ((q :: r).map pD).length 0).bind _ = _
      have : ixN ((q :: r).map pD).length 0 = some 0 := by
        unfold ixN
        rw [if_pos (by decide), if_pos (by simp)]
        rfl
      rw [this]
      rfl
    have hb : evSs (callN T fuel (k + 2)) fuel b6 [.v (.int m), .un] [] = some (.ok (.rt (.v (.tup [.str prK, .int q.1, .int q.2]))) [.v (.int m), .v .non] []) := by
      unfold b6
      refine ss_nx (e' := [.v (.int m), .v .non]) (h' := []) (asg_ok (call1_ok (d := .int m) rfl hd rfl rfl) rfl) (ss_rt (retE_ok (r := .v (.tup [.str prK, .int q.1, .int q.2])) (e' := [.v (.int m), .v .non]) (h' := []) ?_ rfl))
      have c : evE (callN T fuel (k + 2)) (.cmp .isnt (.var 1) .non) [.v (.int m), .v .non] [] = some (.ok (.v (.bl false)) [.v (.int m), .v .non] []) := rfl
      rw [evE, c]
      simp only [bd_ok, rd, Option.bind, truth]
      rw [evE, evD]
      have cs : evD (callN T fuel (k + 2)) (.cons true (.ix (.call 5 (.cons false (.var 0) .nil)) (.int 0)) .nil) [.v (.int m), .v .non] [] = some (.ok [.int q.1, .int q.2] [.v (.int m), .v .non] []) := by
        rw [evD, ix]
        rfl
      have st : evE (callN T fuel (k + 2)) (.str (PySem.Str.ofString "prime")) [.v (.int m), .v .non] [] = some (.ok (.v (.str prK)) [.v (.int m), .v .non] []) := rfl
      rw [st]
      simp only [bd_ok, frz, cs]
      rfl
    refine Eq.trans (callN_at (T := T) (F := ⟨1, 2, b6⟩) (k := k + 2) rfl _ _) ?_
    rw [runF_rt (by rfl) hb]
    rfl

/-! orders to 400, roots to 301 -/
def isS (m : Nat) : Bool := (List.range 21).any fun a => (List.range 21).any fun b => decide (a * a + b * b = m)
def isP : D → Bool
  | .tup [.int _, .int _] => true
  | _ => false
def primesHas (m p : Nat) : Bool := match callN T fuel 20 11 [.v (.int m)] [] with
  | some (.ok (.fr (.lst xs)) _ []) => xs.all isP && xs.any (fun d => decide (fstD d = p)) && decide (xs.length ≤ 100)
  | _ => false
def chk (m : Nat) : Bool := if isS m then !m12 m || (oddL fuel m).isEmpty else match oddL fuel m with
  | [] => false
  | q :: _ => !m12 m || primesHas m q.1
theorem chks : ((List.range 401).all fun m => decide (m < 2) || chk m) = true := by decide +kernel
def rootk (r : Nat) : Bool := (!m12 (r * r) || (oddL fuel (r * r)).isEmpty) && (!m12 (r * r + 1) || (oddL fuel (r * r + 1)).isEmpty)
theorem rootks : ((List.range 302).all fun r => decide (r < 2) || rootk r) = true := by decide +kernel

def sq4 (l : List Int) : Int := (l.map fun i => i * i).sum
def bnd (a : Int) : Prop := -1000 ≤ a ∧ a ≤ 1000
theorem bnd_small {a : Int} (h : bnd a) : small64 a = true := by
  obtain ⟨h1, h2⟩ := h
  simp [small64]; omega

theorem euler_id (a b c d x y z w : Int) : sq4 ((rows4 a b c d).map fun r => dot4 (un4 r) (l4 x y z w)) = sq4 (l4 a b c d) * sq4 (l4 x y z w) := by
  simp [rows4, row4, un4, dot4, sq4, l4]
  grind

theorem mul_bnd {p q m n : Int} (hp : -m ≤ p ∧ p ≤ m) (hq : -n ≤ q ∧ q ≤ n) (hm : 0 ≤ m) (hn : 0 ≤ n) : -(m * n) ≤ p * q ∧ p * q ≤ m * n := by
  have h1 : p.natAbs ≤ m.natAbs := by omega
  have h2 : q.natAbs ≤ n.natAbs := by omega
  have h3 := Nat.mul_le_mul h1 h2
  rw [← Int.natAbs_mul, ← Int.natAbs_mul] at h3
  have h4 := Int.mul_nonneg hm hn
  omega
theorem bnd_neg {p : Int} (h : bnd p) : bnd (-p) := by
  obtain ⟨h1, h2⟩ := h
  exact ⟨by omega, by omega⟩
/-- the four sums -/
def eul (a b c d : Int) (ys : List Int) : List Int := (rows4 a b c d).map fun r => dot4 (un4 r) ys
theorem euD_l (a b c d : Int) (ys : List Int) : euD a b c d ys = .tup ((eul a b c d ys).map D.int) := by
  unfold euD eul
  rw [List.map_map]; rfl
def bb (i : Int) : Prop := -4000000 ≤ i ∧ i ≤ 4000000
theorem dot_bb {a b c d x y z w : Int} (ha : bnd a) (hb : bnd b) (hc : bnd c) (hd : bnd d) (hx : bnd x) (hy : bnd y) (hz : bnd z) (hw : bnd w) : bb (dot4 [a, b, c, d] [x, y, z, w]) := by
  have h1 := mul_bnd ha hx (by decide) (by decide)
  have h2 := mul_bnd hb hy (by decide) (by decide)
  have h3 := mul_bnd hc hz (by decide) (by decide)
  have h4 := mul_bnd hd hw (by decide) (by decide)
  simp only [dot4, List.zipWith_cons_cons, List.zipWith_nil_left, List.sum_cons, List.sum_nil]
  exact ⟨by omega, by omega⟩
theorem eul_bb {a b c d x y z w : Int} (ha : bnd a) (hb : bnd b) (hc : bnd c) (hd : bnd d) (hx : bnd x) (hy : bnd y) (hz : bnd z) (hw : bnd w) : ∀ i ∈ eul a b c d [x, y, z, w], bb i := by
  intro i hi
  simp only [eul, rows4, row4, un4, List.map_cons, List.map_nil, List.mem_cons, List.mem_nil_iff, or_false] at hi
  rcases hi with rfl | rfl | rfl | rfl
  · exact dot_bb ha hb hc hd hx hy hz hw
  · exact dot_bb (bnd_neg hb) ha (bnd_neg hd) hc hx hy hz hw
  · exact dot_bb (bnd_neg hc) hd ha (bnd_neg hb) hx hy hz hw
  · exact dot_bb (bnd_neg hd) (bnd_neg hc) hb ha hx hy hz hw
theorem sq_bb {a b c d : Int} (ha : bnd a) (hb : bnd b) (hc : bnd c) (hd : bnd d) : bb (sq4 (l4 a b c d)) := by
  have h1 := mul_bnd ha ha (by decide) (by decide)
  have h2 := mul_bnd hb hb (by decide) (by decide)
  have h3 := mul_bnd hc hc (by decide) (by decide)
  have h4 := mul_bnd hd hd (by decide) (by decide)
  simp only [sq4, l4, List.map_cons, List.map_nil, List.sum_cons, List.sum_nil]
  exact ⟨by omega, by omega⟩
theorem bb_small {i : Int} (h : bb i) : small64 i = true := by
  obtain ⟨h1, h2⟩ := h
  simp [small64]; omega
theorem bnd_sm4 {a b c d : Int} (ha : bnd a) (hb : bnd b) (hc : bnd c) (hd : bnd d) : sm4 a b c d := ⟨bnd_small ha, bnd_small hb, bnd_small hc, bnd_small hd⟩

theorem bnd_of {n p q r s : Int} (p0 : 0 ≤ p) (hn : n ≤ 1000) (e : p * p + q * q + r * r + s * s = n) : bnd p := by
  have h1 := sq_nn q; have h2 := sq_nn r; have h3 := sq_nn s
  have := sq_le p0 (show p * p ≤ n by omega)
  exact ⟨by omega, by omega⟩

theorem rp_same {e e' e2 : Ev} {h h' h2 : AH} {cl : Cl} {a b : E} {p : D} (ha : evE cl a e h = some (.ok (.v p) e' h')) (hb : evE cl b e' h' = some (.ok (.v p) e2 h2)) (hn : ∀ n, p ≠ .ref n) (ho : repOk p = true) (hs : sameD p p = true) : evE cl (.cmp .ne (.bi .repr (.cons false a .nil)) (.bi .repr (.cons false b .nil))) e h = some (.ok (.v (.bl false)) e2 h2) := by
  have hr : ∀ e h, rd e h (.v p) = some p := fun e h => by
    cases p <;> first | rfl | exact absurd rfl (hn _)
  have hp : bfn .repr [p] = some (.v (.rp p)) := by simp only [bfn, ho, if_true]
  have hc : cmpD .ne (.rp p) (.rp p) = some false := by simp [cmpD, hs]
  exact cmp_okk (bi1_ok ha (hr _ _) hp) (bi1_ok hb (hr _ _) hp) rfl rfl hc

/-! ### sums of two squares -/
def Sq (n : Int) : Prop := ∃ a b : Int, a * a + b * b = n
def isQ (q : Nat) : Prop := q = 3 ∨ q = 7 ∨ q = 11 ∨ q = 19
theorem qres {q : Nat} (hq : isQ q) : ∀ k, k < q → ∀ l, l < q → (k * k + l * l) % q = 0 → k = 0 ∧ l = 0 := by
  rcases hq with rfl | rfl | rfl | rfl <;> decide +kernel
theorem qdiv {q : Nat} (hq : isQ q) (a b : Int) (h : (a * a + b * b) % (q : Int) = 0) : a % (q : Int) = 0 ∧ b % (q : Int) = 0 := by
  have q0 : (0 : Int) < q := by rcases hq with rfl | rfl | rfl | rfl <;> decide
  have ha := Int.emod_nonneg a (show (q : Int) ≠ 0 by omega)
  have hb := Int.emod_nonneg b (show (q : Int) ≠ 0 by omega)
  have ha' := Int.emod_lt_of_pos a q0
  have hb' := Int.emod_lt_of_pos b q0
  have e : (a % (q : Int) * (a % (q : Int)) + b % (q : Int) * (b % (q : Int))) % (q : Int) = 0 := by
    rw [Int.add_emod, ← Int.mul_emod, ← Int.mul_emod, ← Int.add_emod]; exact h
  obtain ⟨k, hk⟩ := Int.eq_ofNat_of_zero_le ha
  obtain ⟨l, hl⟩ := Int.eq_ofNat_of_zero_le hb
  rw [hk, hl] at e
  have e2 : (k * k + l * l) % q = 0 := by exact_mod_cast e
  obtain ⟨z1, z2⟩ := qres hq k (by omega) l (by omega) e2
  omega
theorem qmul {q : Nat} (hq : isQ q) {a b n : Int} (h : a * a + b * b = n * q) : ∃ a' b' : Int, a = q * a' ∧ b = q * b' ∧ (q : Int) * (a' * a' + b' * b') = n := by
  have q0 : (0 : Int) < q := by rcases hq with rfl | rfl | rfl | rfl <;> decide
  obtain ⟨h1, h2⟩ := qdiv hq a b (by rw [h]; exact Int.mul_emod_left ..)
  obtain ⟨a', ea⟩ := Int.dvd_of_emod_eq_zero h1
  obtain ⟨b', eb⟩ := Int.dvd_of_emod_eq_zero h2
  refine ⟨a', b', ea, eb, ?_⟩
  have e : (q : Int) * (q * (a' * a' + b' * b')) = q * n := by
    rw [ea, eb] at h
    have : (q : Int) * a' * (q * a') + q * b' * (q * b') = q * (q * (a' * a' + b' * b')) := by grind
    rw [← this, h, Int.mul_comm]
  exact Int.eq_of_mul_eq_mul_left (by omega) e
theorem sq_desc {q : Nat} (hq : isQ q) {n : Int} : Sq (n * q * q) ↔ Sq n := by
  have q0 : (0 : Int) < q := by rcases hq with rfl | rfl | rfl | rfl <;> decide
  constructor
  · rintro ⟨a, b, h⟩
    obtain ⟨a', b', _, _, e⟩ := qmul hq h
    refine ⟨a', b', ?_⟩
    have : (q : Int) * (a' * a' + b' * b') = q * n := by rw [e, Int.mul_comm]
    exact Int.eq_of_mul_eq_mul_left (by omega) this
  · rintro ⟨a, b, h⟩
    exact ⟨a * q, b * q, by rw [← h]; grind⟩
theorem sq_not {q : Nat} (hq : isQ q) : ∀ (k : Nat) (n : Int), 1 ≤ n → n ≤ k → Sq n → Sq (n * q) → False := by
  have q0 : (3 : Int) ≤ q := by rcases hq with rfl | rfl | rfl | rfl <;> decide
  intro k
  induction k with
  | zero => intro n h1 h2; omega
  | succ k ih =>
    rintro n h1 h2 ⟨a, b, e1⟩ ⟨c, d, e2⟩
    obtain ⟨c', d', _, _, e3⟩ := qmul hq e2
    have e1' : a * a + b * b = (c' * c' + d' * d') * q := by rw [e1, ← e3, Int.mul_comm]
    obtain ⟨a', b', _, _, e4⟩ := qmul hq e1'
    have r1 := sq_nn a'
    have r2 := sq_nn b'
    generalize hr : a' * a' + b' * b' = r at e4
    have r0 : 1 ≤ r := by
      apply Decidable.byContradiction
      intro hc
      have z : r = 0 := by omega
      rw [z, Int.mul_zero] at e4
      rw [← e4, Int.mul_zero] at e3
      omega
    have big : r < n := by
      have x1 : 3 * r ≤ (q : Int) * r := Int.mul_le_mul_of_nonneg_right q0 (by omega)
      have x2 : 3 * ((q : Int) * r) ≤ q * (q * r) := Int.mul_le_mul_of_nonneg_right q0 (by omega)
      have e5 : n = q * (q * r) := by rw [e4]; exact e3.symm
      omega
    refine ih r r0 (by omega) ⟨a', b', hr⟩ ⟨c', d', ?_⟩
    rw [← e4, Int.mul_comm]
/-! ### the law's steps -/
abbrev en (s0 s2 s3 s4 s5 s6 s7 s8 s9 s10 s11 s12 s13 s14 s15 s16 s17 s18 s19 s20 s21 s22 s23 s24 : Sl) : Ev := [s0, .v (.ref 1), s2, s3, s4, s5, s6, s7, s8, s9, s10, s11, s12, s13, s14, s15, s16, s17, s18, s19, s20, s21, s22, s23, s24]
def Lap (mm : Int) (e : Ev) (h : AH) : Prop := ∃ s0 s2 s3 s4 s5 s6 s7 s8 s9 s10 s11 s12 s13 s14 s15 s16 s17 s18 s19 s20 s21 s22 s23 s24, e = en s0 s2 s3 s4 s5 s6 s7 s8 s9 s10 s11 s12 s13 s14 s15 s16 s17 s18 s19 s20 s21 s22 s23 s24 ∧
  isOwn s21 = false ∧ isOwn s22 = false ∧ isOwn s23 = false ∧ isOwn s24 = false ∧ ∃ cs l t, cs.length < fuel ∧ h = hp cs l mm t
abbrev CL : Cl := callN T fuel 20
def lapB : Ss := match b12 with
  | .cons _ (.cons (.fr _ _ b) _) => b
  | _ => .nil
def Go (mm : Int) (s : Ss) (e : Ev) (h : AH) : Prop := ∃ e' h', evSs CL fuel s e h = some (.ok .nx e' h') ∧ Lap mm e' h'
theorem go1 {mm : Int} {s : Ss} {e e1 : Ev} {h h1 : AH} (q : evSs CL fuel (s.take 1) e h = some (.ok .nx e1 h1)) (g : Go mm (s.drop 1) e1 h1) : Go mm s e h := by
  obtain ⟨e', h', g1, g2⟩ := g
  exact ⟨e', h', (ss_split 1 q).trans g1, g2⟩
theorem pkIs (k : Nat) (ss : List Sl) (h : AH) : callN T fuel (k + 1) 9 ss h = runF (callN T fuel k) fuel ⟨2, 6, pickA⟩ ss h := callN_at rfl ss h
theorem ofIs (k : Nat) (ss : List Sl) (h : AH) : callN T fuel (k + 1) 10 ss h = runF (callN T fuel k) fuel ⟨2, 2, ofB 9⟩ ss h := callN_at rfl ss h
theorem two_E {X : E} {e e' : Ev} {h h' : AH} {n : Int} (hX : evE CL X e h = some (.ok (.v (.int n)) e' h')) (h0 : 0 ≤ n) (h1 : n < 10000000) : ∃ d, TwoOk n d ∧ evE CL (.call 1 (.cons false X .nil)) e h = some (.ok (.v d) e' h') := by
  obtain ⟨d, d0, d1⟩ := twoC 18 n h1 n h0 (Int.le_refl _)
  refine ⟨d, d0, call1_ok (d := .int n) hX d1 rfl ?_⟩
  rcases d0 with ⟨a, b, rfl, _⟩ | ⟨rfl, _⟩ <;> rfl
def isNon : D → Bool
  | .non => true
  | _ => false
theorem non_iff {n : Int} {d : D} (h : TwoOk n d) : isNon d = true ↔ ¬ Sq n := by
  rcases h with ⟨a, b, rfl, _, _, e⟩ | ⟨rfl, e⟩
  · exact ⟨fun z => (by cases z), fun z => absurd ⟨a, b, e⟩ z⟩
  · exact ⟨fun _ ⟨a, b, z⟩ => e a b z, fun _ => rfl⟩
theorem is_E {X : E} {e e' : Ev} {h h' : AH} {n : Int} {d : D} (hX : evE CL X e h = some (.ok (.v d) e' h')) (h2 : TwoOk n d) : evE CL (.cmp .is X .non) e h = some (.ok (.v (.bl (isNon d))) e' h') := by
  rcases h2 with ⟨a, b, rfl, _⟩ | ⟨rfl, _⟩
  · exact cmp_okk (y := .v .non) hX rfl rfl rfl rfl
  · exact cmp_okk (y := .v .non) hX rfl rfl rfl rfl
theorem isnt_E {X : E} {e e' : Ev} {h h' : AH} {n : Int} {d : D} (hX : evE CL X e h = some (.ok (.v d) e' h')) (h2 : TwoOk n d) : evE CL (.cmp .isnt X .non) e h = some (.ok (.v (.bl (!isNon d))) e' h') := by
  rcases h2 with ⟨a, b, rfl, _⟩ | ⟨rfl, _⟩
  · exact cmp_okk (y := .v .non) hX rfl rfl rfl rfl
  · exact cmp_okk (y := .v .non) hX rfl rfl rfl rfl
theorem app_ok {cl : Cl} {i : Nat} {a : E} {e : Ev} {h h' : AH} {d : D} {xs : List D} (hi : e[i]? = some (.ow (.lst xs))) (ha : evE cl a e h = some (.ok (.v d) e h')) (hl : xs.length < sizeMax) :
    evS cl fuel (.expr (.me .lappend (.var i) (.cons false a .nil))) e h = some (.ok .nx (e.set i (.ow (.lst (xs ++ [d])))) h') := by
  have mw : mew .lappend (.lst xs) [d] = some (.lst (xs ++ [d]), .non) := by simp only [mew, decide_eq_true hl, if_true]
  have hv : evE cl (.var i) e h = some (.ok (.bor i) e h) := by rw [evE, hi]
  have hr : rd e h (.bor i) = some (.lst xs) := by unfold rd; simp only [hi]; rfl
  have ev : evE cl (.me .lappend (.var i) (.cons false a .nil)) e h = some (.ok (.v .non) (e.set i (.ow (.lst (xs ++ [d])))) h') := by
    rw [evE, hv]
    simp only [bd_ok, hr, Me.of, if_true, evR, ha]
    simp only [method, Me.writes, if_true, margs, Me.stores, frz, Option.map, hi, mw]
  simp only [evS, ev, bd_ok]
theorem tup2_E {cl : Cl} {a b : E} {e e1 e2 : Ev} {h h1 h2 : AH} {p q : D} (ha : evE cl a e h = some (.ok (.v p) e1 h1)) (hb : evE cl b e1 h1 = some (.ok (.v q) e2 h2)) : evE cl (.tup (.cons false a (.cons false b .nil))) e h = some (.ok (.v (.tup [p, q])) e2 h2) := by
  rw [evE, evD, ha]
  simp only [bd_ok, frz]
  rw [evD, hb]
  simp only [bd_ok, frz, evD]
  rfl
section
variable {mm : Int} {s0 s2 s3 s4 s5 s6 s7 s8 s9 s10 s11 s12 s13 s14 s15 s16 s17 s18 s19 s20 s21 s22 s23 s24 : Sl}
def appS : S := .expr (.me .lappend (.var 3) (.cons false (.tup (.cons false (.call 9 (.cons false (.var 1) (.cons false (.int 30) .nil))) (.cons false (.call 9 (.cons false (.var 1) (.cons false (.int 30) .nil))) .nil))) .nil))
def b30 (a : Int) : Prop := 0 ≤ a ∧ a < 30
theorem turn1 (xs : List D) (hx : xs.length < 10) (cs : List Int) (l t : Int) (hW : cs.length < fuel) : ∃ a b cs' l' t', cs'.length < fuel ∧ b30 a ∧ b30 b ∧
    evSs CL fuel (.cons appS .nil) (en s0 s2 (.ow (.lst xs)) s4 s5 s6 s7 s8 s9 s10 s11 s12 s13 s14 s15 s16 s17 s18 s19 s20 s21 s22 s23 s24) (hp cs l mm t) =
      some (.ok .nx (en s0 s2 (.ow (.lst (xs ++ [.tup [.int a, .int b]]))) s4 s5 s6 s7 s8 s9 s10 s11 s12 s13 s14 s15 s16 s17 s18 s19 s20 s21 s22 s23 s24) (hp cs' l' mm t')) := by
  obtain ⟨a, cs1, l1, t1, w1, q1, p1⟩ := pick_E (cl := CL) (mm := mm) (W := fuel) (pkIs 19) (s := 1) (e := en s0 s2 (.ow (.lst xs)) s4 s5 s6 s7 s8 s9 s10 s11 s12 s13 s14 s15 s16 s17 s18 s19 s20 s21 s22 s23 s24) (M := .int 30) (m := 30) rfl (fun h => rfl) (by decide) cs l t hW
  obtain ⟨b, cs2, l2, t2, w2, q2, p2⟩ := pick_E (cl := CL) (mm := mm) (W := fuel) (pkIs 19) (s := 1) (e := en s0 s2 (.ow (.lst xs)) s4 s5 s6 s7 s8 s9 s10 s11 s12 s13 s14 s15 s16 s17 s18 s19 s20 s21 s22 s23 s24) (M := .int 30) (m := 30) rfl (fun h => rfl) (by decide) cs1 l1 t1 w1
  exact ⟨a, b, cs2, l2, t2, w2, p1 (by decide), p2 (by decide), ss_nx (app_ok rfl (tup2_E q1 q2) (by simp [sizeMax]; omega)) rfl⟩
theorem k0 (h : AH) (g : Go mm (lapB.drop 1) (en s0 s2 (.ow (.lst [])) s4 s5 s6 s7 s8 s9 s10 s11 s12 s13 s14 s15 s16 s17 s18 s19 s20 s21 s22 s23 s24) h) : Go mm lapB (en s0 s2 s3 s4 s5 s6 s7 s8 s9 s10 s11 s12 s13 s14 s15 s16 s17 s18 s19 s20 s21 s22 s23 s24) h :=
  go1 (ss_nx (asg_ok (r := .fr (.lst [])) rfl rfl) rfl) g
theorem k1 (cs : List Int) (l t : Int) (hW : cs.length < fuel) (g : ∀ a b c d cs' l' t', cs'.length < fuel → b30 a → b30 b → b30 c → b30 d →
      Go mm (lapB.drop 2) (en s0 s2 (.ow (.lst [.tup [.int a, .int b], .tup [.int c, .int d]])) (.v (.int 1)) s5 s6 s7 s8 s9 s10 s11 s12 s13 s14 s15 s16 s17 s18 s19 s20 s21 s22 s23 s24) (hp cs' l' mm t')) :
    Go mm (lapB.drop 1) (en s0 s2 (.ow (.lst [])) s4 s5 s6 s7 s8 s9 s10 s11 s12 s13 s14 s15 s16 s17 s18 s19 s20 s21 s22 s23 s24) (hp cs l mm t) := by
  obtain ⟨a, b, cs1, l1, t1, w1, ha, hb, q1⟩ := turn1 (mm := mm) (s0 := s0) (s2 := s2) (s4 := .v (.int 0)) (s5 := s5) (s6 := s6) (s7 := s7) (s8 := s8) (s9 := s9) (s10 := s10) (s11 := s11) (s12 := s12) (s13 := s13) (s14 := s14) (s15 := s15) (s16 := s16) (s17 := s17) (s18 := s18) (s19 := s19) (s20 := s20) (s21 := s21) (s22 := s22) (s23 := s23) (s24 := s24) [] (by decide) cs l t hW
  obtain ⟨c, d, cs2, l2, t2, w2, hc, hd, q2⟩ := turn1 (mm := mm) (s0 := s0) (s2 := s2) (s4 := .v (.int 1)) (s5 := s5) (s6 := s6) (s7 := s7) (s8 := s8) (s9 := s9) (s10 := s10) (s11 := s11) (s12 := s12) (s13 := s13) (s14 := s14) (s15 := s15) (s16 := s16) (s17 := s17) (s18 := s18) (s19 := s19) (s20 := s20) (s21 := s21) (s22 := s22) (s23 := s23) (s24 := s24) [.tup [.int a, .int b]] (by simp) cs1 l1 t1 w1
  refine go1 (e1 := en s0 s2 (.ow (.lst [.tup [.int a, .int b], .tup [.int c, .int d]])) (.v (.int 1)) s5 s6 s7 s8 s9 s10 s11 s12 s13 s14 s15 s16 s17 s18 s19 s20 s21 s22 s23 s24) (ss_nx (fr_ok (xs := rngL 0 1 2) rfl ?_) rfl) (g a b c d cs2 l2 t2 w2 ha hb hc hd)
  have e0 : rngL 0 1 2 = [.int 0, .int 1] := rfl
  rw [e0]
  rw [forS]
  refine Eq.trans (congrArg (fun m => bd m _) q1) ?_
  simp only [bd_ok]
  rw [forS]
  refine Eq.trans (congrArg (fun m => bd m _) q2) ?_
  rfl
end

theorem add_okE {cl : Cl} {a b : E} {e e' e2 : Ev} {h h' h2 : AH} {p q : Int} (ha : evE cl a e h = some (.ok (.v (.int p)) e' h')) (hb : evE cl b e' h' = some (.ok (.v (.int q)) e2 h2)) : evE cl (.bin .add a b) e h = some (.ok (.v (.int (p + q))) e2 h2) := by
  simp only [evE, ha, hb, bd_ok, rd, op2]
  rfl
theorem sub_okE {cl : Cl} {a b : E} {e e' e2 : Ev} {h h' h2 : AH} {p q : Int} (ha : evE cl a e h = some (.ok (.v (.int p)) e' h')) (hb : evE cl b e' h' = some (.ok (.v (.int q)) e2 h2)) : evE cl (.bin .sub a b) e h = some (.ok (.v (.int (p - q))) e2 h2) := by
  simp only [evE, ha, hb, bd_ok, rd, op2]
  rfl
theorem par2 {cl : Cl} {a b : E} {i j : Nat} {e e1 e2 e3 : Ev} {h h1 h2 : AH} {p q : D} (ha : evE cl a e h = some (.ok (.v p) e1 h1)) (hb : evE cl b e1 h1 = some (.ok (.v q) e2 h2)) (hbd : bindRs [i, j] [.v p, .v q] e2 = some e3) : evS cl fuel (.par [i, j] (.cons false a (.cons false b .nil))) e h = some (.ok .nx e3 h2) := by
  have r : evR cl (.cons false a (.cons false b .nil)) e h = some (.ok [.v p, .v q] e2 h2) := by simp only [evR, ha, hb, bd_ok]
  have f : frzs [.v p, .v q] e2 = some ([.v p, .v q], e2) := rfl
  simp only [evS, r, bd_ok, f, Option.bind, hbd]
theorem ne_sameI {e e' e2 : Ev} {h h' h2 : AH} {cl : Cl} {a b : E} {p q : Int} (ha : evE cl a e h = some (.ok (.v (.int p)) e' h')) (hb : evE cl b e' h' = some (.ok (.v (.int q)) e2 h2)) (hpq : p = q) : evE cl (.cmp .ne a b) e h = some (.ok (.v (.bl false)) e2 h2) :=
  cmp_okk ha hb rfl rfl (by subst hpq; simp [cmpD, scalB, eqB])
theorem ne_sameB {e e' e2 : Ev} {h h' h2 : AH} {cl : Cl} {a b : E} {p q : Bool} (ha : evE cl a e h = some (.ok (.v (.bl p)) e' h')) (hb : evE cl b e' h' = some (.ok (.v (.bl q)) e2 h2)) (hpq : p = q) : evE cl (.cmp .ne a b) e h = some (.ok (.v (.bl false)) e2 h2) :=
  cmp_okk ha hb rfl rfl (by subst hpq; simp [cmpD, scalB, eqB])
theorem and_E {e e' e2 : Ev} {h h' h2 : AH} {cl : Cl} {a b : E} {p q : Bool} (ha : evE cl a e h = some (.ok (.v (.bl p)) e' h')) (hb : evE cl b e' h' = some (.ok (.v (.bl q)) e2 h2)) (h2' : e2 = e' ∧ h2 = h') : evE cl (.and a b) e h = some (.ok (.v (.bl (p && q))) e' h') := by
  obtain ⟨rfl, rfl⟩ := h2'
  rw [evE, ha]
  cases p with
  | true => simp only [bd_ok, rd, Option.bind, truth, hb, Bool.true_and]
  | false => simp only [bd_ok, rd, Option.bind, truth, Bool.false_and]
theorem sm_of {a m : Int} (h : 0 ≤ a ∧ a ≤ m) (hm : m ≤ 1000000000) : small64 a = true := by
  simp [small64]; omega
theorem b30_sm {a : Int} (h : b30 a) : small64 a = true := sm_of ⟨h.1, Int.le_of_lt h.2⟩ (by decide)
theorem b30_mul {a b : Int} (ha : b30 a) (hb : b30 b) : 0 ≤ a * b ∧ a * b ≤ 841 := by
  obtain ⟨a0, a1⟩ := ha
  obtain ⟨b0, b1⟩ := hb
  have h1 := Int.mul_nonneg a0 b0
  have h2 : a * b ≤ 29 * 29 := Int.mul_le_mul (by omega) (by omega) b0 (by decide)
  omega
section
variable {mm : Int} {s0 s2 s3 s4 s5 s6 s7 s8 s9 s10 s11 s12 s13 s14 s15 s16 s17 s18 s19 s20 s21 s22 s23 s24 : Sl} {a b c d n m x y : Int}
theorem k2 (h : AH) (g : Go mm (lapB.drop 3) (en s0 s2 (.v (.lst [.tup [.int a, .int b], .tup [.int c, .int d]])) s4 s5 s6 s7 s8 s9 s10 s11 s12 s13 s14 s15 s16 (.v (.int a)) (.v (.int b)) (.v (.int c)) (.v (.int d)) s21 s22 s23 s24) h) :
    Go mm (lapB.drop 2) (en s0 s2 (.ow (.lst [.tup [.int a, .int b], .tup [.int c, .int d]])) s4 s5 s6 s7 s8 s9 s10 s11 s12 s13 s14 s15 s16 s17 s18 s19 s20 s21 s22 s23 s24) h :=
  go1 (ss_nx (asg_ok (r := .bor 3) rfl rfl) rfl) g
theorem sqsum_E {cl : Cl} {e : Ev} {h : AH} {i j : Nat} (hi : e[i]? = some (.v (.int a))) (hj : e[j]? = some (.v (.int b))) (ha : b30 a) (hb : b30 b) : evE cl (.bin .add (.bin .mul (.var i) (.var i)) (.bin .mul (.var j) (.var j))) e h = some (.ok (.v (.int (a * a + b * b))) e h) := by
  have vi : evE cl (.var i) e h = some (.ok (.v (.int a)) e h) := by rw [evE, hi]
  have vj : evE cl (.var j) e h = some (.ok (.v (.int b)) e h) := by rw [evE, hj]
  exact add_okE (mul_okE vi vi (by rw [b30_sm ha]; rfl)) (mul_okE vj vj (by rw [b30_sm hb]; rfl))
theorem k3 (ha : b30 a) (hb : b30 b) (hc : b30 c) (hd : b30 d) (h : AH) (g : Go mm (lapB.drop 4) (en s0 s2 s3 s4 s5 s6 s7 s8 s9 s10 s11 s12 (.v (.int (a * a + b * b))) (.v (.int (c * c + d * d))) s15 s16 (.v (.int a)) (.v (.int b)) (.v (.int c)) (.v (.int d)) s21 s22 s23 s24) h) :
    Go mm (lapB.drop 3) (en s0 s2 s3 s4 s5 s6 s7 s8 s9 s10 s11 s12 s13 s14 s15 s16 (.v (.int a)) (.v (.int b)) (.v (.int c)) (.v (.int d)) s21 s22 s23 s24) h :=
  go1 (ss_nx (par2 (sqsum_E (i := 17) (j := 18) rfl rfl ha hb) (sqsum_E (i := 19) (j := 20) rfl rfl hc hd) rfl) rfl) g
/-- what is known of n and m -/
structure NM (n m : Int) : Prop where
  n0 : 0 ≤ n ∧ n ≤ 1682
  m0 : 0 ≤ m ∧ m ≤ 1682
  nm : 0 ≤ n * m ∧ n * m ≤ 2829124
  sn : Sq n
  sq : Sq (n * m)
theorem nm_of (ha : b30 a) (hb : b30 b) (hc : b30 c) (hd : b30 d) : NM (a * a + b * b) (c * c + d * d) := by
  have h1 := b30_mul ha ha
  have h2 := b30_mul hb hb
  have h3 := b30_mul hc hc
  have h4 := b30_mul hd hd
  refine ⟨⟨by omega, by omega⟩, ⟨by omega, by omega⟩, ?_, ⟨a, b, rfl⟩, ⟨a * c + b * d, a * d - b * c, by grind⟩⟩
  have h5 := Int.mul_nonneg (show 0 ≤ a * a + b * b by omega) (show 0 ≤ c * c + d * d by omega)
  have h6 : (a * a + b * b) * (c * c + d * d) ≤ 1682 * 1682 := Int.mul_le_mul (by omega) (by omega) (by omega) (by decide)
  omega
theorem k4 (N : NM n m) (h : AH) (g : ∀ x y, 0 ≤ x → x ≤ y → x * x + y * y = n * m → Go mm (lapB.drop 5) (en s0 s2 s3 s4 (.v (.tup [.int x, .int y])) s6 s7 s8 s9 s10 s11 s12 (.v (.int n)) (.v (.int m)) s15 s16 s17 s18 s19 s20 s21 s22 s23 s24) h) :
    Go mm (lapB.drop 4) (en s0 s2 s3 s4 s5 s6 s7 s8 s9 s10 s11 s12 (.v (.int n)) (.v (.int m)) s15 s16 s17 s18 s19 s20 s21 s22 s23 s24) h := by
  have hX : evE CL (.bin .mul (.var 13) (.var 14)) (en s0 s2 s3 s4 s5 s6 s7 s8 s9 s10 s11 s12 (.v (.int n)) (.v (.int m)) s15 s16 s17 s18 s19 s20 s21 s22 s23 s24) h = some (.ok (.v (.int (n * m))) (en s0 s2 s3 s4 s5 s6 s7 s8 s9 s10 s11 s12 (.v (.int n)) (.v (.int m)) s15 s16 s17 s18 s19 s20 s21 s22 s23 s24) h) :=
    mul_okE rfl rfl (by rw [sm_of N.n0 (by decide)]; rfl)
  have nm := N.nm
  obtain ⟨d, hd, q⟩ := two_E hX nm.1 (by omega)
  rcases hd with ⟨x, y, rfl, x0, xy, e⟩ | ⟨rfl, e⟩
  · exact go1 (ss_nx (asg_ok q rfl) rfl) (g x y x0 xy e)
  · obtain ⟨x, y, z⟩ := N.sq
    exact absurd z (e x y)
theorem k5 (N : NM n m) (x0 : 0 ≤ x) (xy : x ≤ y) (exy : x * x + y * y = n * m) (h : AH) (g : Go mm (lapB.drop 6) (en s0 s2 s3 s4 (.v (.tup [.int x, .int y])) s6 s7 s8 s9 s10 s11 s12 (.v (.int n)) (.v (.int m)) s15 s16 s17 s18 s19 s20 s21 s22 s23 s24) h) :
    Go mm (lapB.drop 5) (en s0 s2 s3 s4 (.v (.tup [.int x, .int y])) s6 s7 s8 s9 s10 s11 s12 (.v (.int n)) (.v (.int m)) s15 s16 s17 s18 s19 s20 s21 s22 s23 s24) h := by
  have nm := N.nm
  have h1 := sq_nn x
  have h2 := sq_nn y
  have sx : small64 x = true := sm_of ⟨x0, sq_le x0 (show x * x ≤ n * m by omega)⟩ (by omega)
  have sy : small64 y = true := sm_of ⟨by omega, sq_le (show 0 ≤ y by omega) (show y * y ≤ n * m by omega)⟩ (by omega)
  have i0 : evE CL (.ix (.var 5) (.int 0)) (en s0 s2 s3 s4 (.v (.tup [.int x, .int y])) s6 s7 s8 s9 s10 s11 s12 (.v (.int n)) (.v (.int m)) s15 s16 s17 s18 s19 s20 s21 s22 s23 s24) h = some (.ok (.v (.int x)) (en s0 s2 s3 s4 (.v (.tup [.int x, .int y])) s6 s7 s8 s9 s10 s11 s12 (.v (.int n)) (.v (.int m)) s15 s16 s17 s18 s19 s20 s21 s22 s23 s24) h) := rfl
  have i1 : evE CL (.ix (.var 5) (.int 1)) (en s0 s2 s3 s4 (.v (.tup [.int x, .int y])) s6 s7 s8 s9 s10 s11 s12 (.v (.int n)) (.v (.int m)) s15 s16 s17 s18 s19 s20 s21 s22 s23 s24) h = some (.ok (.v (.int y)) (en s0 s2 s3 s4 (.v (.tup [.int x, .int y])) s6 s7 s8 s9 s10 s11 s12 (.v (.int n)) (.v (.int m)) s15 s16 s17 s18 s19 s20 s21 s22 s23 s24) h) := rfl
  refine go1 (ss_nx (ifs_false (r := .v (.bl false)) (or_no (x := .v (.bl false)) rfl rfl (or_no (x := .v (.bl false)) (ne_sameI (add_okE (mul_okE i0 i0 (by rw [sx]; rfl)) (mul_okE i1 i1 (by rw [sy]; rfl))) (mul_okE (p := n) (q := m) rfl rfl (by rw [sm_of N.n0 (by decide)]; rfl)) exy) rfl (cmp_okk i0 i1 rfl rfl ?_))) rfl) rfl) g
  show some (decide (y < x)) = some false
  rw [decide_eq_false (by omega)]
theorem k6 (ha : b30 a) (hb : b30 b) (hc : b30 c) (hd : b30 d) (h : AH) (g : Go mm (lapB.drop 7) (en s0 s2 s3 s4 s5 s6 s7 s8 s9 s10 s11 s12 (.v (.int (a * a + b * b))) (.v (.int (c * c + d * d))) s15 s16 (.v (.int a)) (.v (.int b)) (.v (.int c)) (.v (.int d)) s21 s22 s23 s24) h) :
    Go mm (lapB.drop 6) (en s0 s2 s3 s4 s5 s6 s7 s8 s9 s10 s11 s12 (.v (.int (a * a + b * b))) (.v (.int (c * c + d * d))) s15 s16 (.v (.int a)) (.v (.int b)) (.v (.int c)) (.v (.int d)) s21 s22 s23 s24) h := by
  have N := nm_of ha hb hc hd
  have n0 := N.n0
  obtain ⟨dd, h2, q⟩ := two_E (X := .var 13) (e := en s0 s2 s3 s4 s5 s6 s7 s8 s9 s10 s11 s12 (.v (.int (a * a + b * b))) (.v (.int (c * c + d * d))) s15 s16 (.v (.int a)) (.v (.int b)) (.v (.int c)) (.v (.int d)) s21 s22 s23 s24) (h := h) (n := a * a + b * b) rfl n0.1 (by omega)
  have is0 := is_E q h2
  have nn : isNon dd = false := by
    cases hz : isNon dd with
    | false => rfl
    | true => exact absurd N.sn ((non_iff h2).mp hz)
  rw [nn] at is0
  have m1 := b30_mul ha hc
  have m2 := b30_mul hb hd
  have m3 := b30_mul ha hd
  have m4 := b30_mul hb hc
  have p1 : evE CL (.bin .add (.bin .mul (.var 17) (.var 19)) (.bin .mul (.var 18) (.var 20))) (en s0 s2 s3 s4 s5 s6 s7 s8 s9 s10 s11 s12 (.v (.int (a * a + b * b))) (.v (.int (c * c + d * d))) s15 s16 (.v (.int a)) (.v (.int b)) (.v (.int c)) (.v (.int d)) s21 s22 s23 s24) h =
      some (.ok (.v (.int (a * c + b * d))) (en s0 s2 s3 s4 s5 s6 s7 s8 s9 s10 s11 s12 (.v (.int (a * a + b * b))) (.v (.int (c * c + d * d))) s15 s16 (.v (.int a)) (.v (.int b)) (.v (.int c)) (.v (.int d)) s21 s22 s23 s24) h) :=
    add_okE (mul_okE rfl rfl (by rw [b30_sm ha]; rfl)) (mul_okE rfl rfl (by rw [b30_sm hb]; rfl))
  have p2 : evE CL (.bin .sub (.bin .mul (.var 17) (.var 20)) (.bin .mul (.var 18) (.var 19))) (en s0 s2 s3 s4 s5 s6 s7 s8 s9 s10 s11 s12 (.v (.int (a * a + b * b))) (.v (.int (c * c + d * d))) s15 s16 (.v (.int a)) (.v (.int b)) (.v (.int c)) (.v (.int d)) s21 s22 s23 s24) h =
      some (.ok (.v (.int (a * d - b * c))) (en s0 s2 s3 s4 s5 s6 s7 s8 s9 s10 s11 s12 (.v (.int (a * a + b * b))) (.v (.int (c * c + d * d))) s15 s16 (.v (.int a)) (.v (.int b)) (.v (.int c)) (.v (.int d)) s21 s22 s23 s24) h) :=
    sub_okE (mul_okE rfl rfl (by rw [b30_sm ha]; rfl)) (mul_okE rfl rfl (by rw [b30_sm hb]; rfl))
  have s1 : small64 (a * c + b * d) = true := by simp [small64]; omega
  have s2' : small64 (a * d - b * c) = true := by simp [small64]; omega
  refine go1 (ss_nx (ifs_false (r := .v (.bl false)) (or_no (x := .v (.bl false)) is0 rfl (ne_sameI (add_okE (mul_okE p1 p1 (by rw [s1]; rfl)) (mul_okE p2 p2 (by rw [s2']; rfl))) (mul_okE rfl rfl (by rw [sm_of N.n0 (by decide)]; rfl)) ?_)) rfl) rfl) g
  grind
end

section
variable {mm : Int} {s0 s2 s3 s4 s5 s6 s7 s8 s9 s10 s11 s12 s13 s14 s15 s16 s17 s18 s19 s20 s21 s22 s23 s24 : Sl} {big : Int} {q : Nat}
theorem k7 (cs : List Int) (l t : Int) (hW : cs.length < fuel) (g : ∀ q cs' l' t', cs'.length < fuel → isQ q → Go mm (lapB.drop 8) (en s0 s2 s3 s4 s5 (.v (.int (q : Nat))) s7 s8 s9 s10 s11 s12 s13 s14 s15 s16 s17 s18 s19 s20 s21 s22 s23 s24) (hp cs' l' mm t')) :
    Go mm (lapB.drop 7) (en s0 s2 s3 s4 s5 s6 s7 s8 s9 s10 s11 s12 s13 s14 s15 s16 s17 s18 s19 s20 s21 s22 s23 s24) (hp cs l mm t) := by
  obtain ⟨d, hd, cs1, l1, t1, w1, q1⟩ := of_E (cl := CL) (mm := mm) (W := fuel) (ofIs 19) (pkIs 18) (s := 1) (e := en s0 s2 s3 s4 s5 s6 s7 s8 s9 s10 s11 s12 s13 s14 s15 s16 s17 s18 s19 s20 s21 s22 s23 s24) (X := .lst (.cons false (.int 3) (.cons false (.int 7) (.cons false (.int 11) (.cons false (.int 19) .nil))))) (xs := [.int 3, .int 7, .int 11, .int 19]) rfl (fun h => rfl) (by decide) (by decide) cs l t hW
  have hq : ∃ q : Nat, d = .int q ∧ isQ q := by
    simp only [List.mem_cons, List.mem_nil_iff, or_false] at hd
    rcases hd with rfl | rfl | rfl | rfl
    · exact ⟨3, rfl, .inl rfl⟩
    · exact ⟨7, rfl, .inr (.inl rfl)⟩
    · exact ⟨11, rfl, .inr (.inr (.inl rfl))⟩
    · exact ⟨19, rfl, .inr (.inr (.inr rfl))⟩
  obtain ⟨q, rfl, hq⟩ := hq
  exact go1 (ss_nx (asg_ok q1 rfl) rfl) (g q cs1 l1 t1 w1 hq)
theorem k8 (hq : isQ q) (cs : List Int) (l t : Int) (hW : cs.length < fuel) (g : ∀ (big : Int) cs' l' t', cs'.length < fuel → 1 ≤ big → 0 ≤ big * q * q → big * q * q ≤ 20000 → Go mm (lapB.drop 9) (en s0 s2 s3 s4 s5 (.v (.int q)) (.v (.int big)) s8 s9 s10 s11 s12 s13 s14 s15 s16 s17 s18 s19 s20 s21 s22 s23 s24) (hp cs' l' mm t')) :
    Go mm (lapB.drop 8) (en s0 s2 s3 s4 s5 (.v (.int q)) s7 s8 s9 s10 s11 s12 s13 s14 s15 s16 s17 s18 s19 s20 s21 s22 s23 s24) (hp cs l mm t) := by
  have hM : ∀ h, evE CL (.bin .fdiv (.int 20000) (.bin .mul (.var 6) (.var 6))) (en s0 s2 s3 s4 s5 (.v (.int q)) s7 s8 s9 s10 s11 s12 s13 s14 s15 s16 s17 s18 s19 s20 s21 s22 s23 s24) h = some (.ok (.v (.int ((20000 / (q * q) : Nat) : Int))) (en s0 s2 s3 s4 s5 (.v (.int q)) s7 s8 s9 s10 s11 s12 s13 s14 s15 s16 s17 s18 s19 s20 s21 s22 s23 s24) h) := by
    intro h
    rcases hq with rfl | rfl | rfl | rfl <;> rfl
  have hb : ((20000 / (q * q) : Nat) : Int) < 1073741824 ∧ 1 ≤ ((20000 / (q * q) : Nat) : Int) ∧ ((20000 / (q * q) : Nat) : Int) * q * q ≤ 20000 := by
    rcases hq with rfl | rfl | rfl | rfl <;> decide
  obtain ⟨r, cs1, l1, t1, w1, q1, q2⟩ := pick_E (cl := CL) (mm := mm) (W := fuel) (pkIs 19) (s := 1) (e := en s0 s2 s3 s4 s5 (.v (.int q)) s7 s8 s9 s10 s11 s12 s13 s14 s15 s16 s17 s18 s19 s20 s21 s22 s23 s24) (M := .bin .fdiv (.int 20000) (.bin .mul (.var 6) (.var 6))) (m := ((20000 / (q * q) : Nat) : Int)) rfl hM hb.1 cs l t hW
  obtain ⟨r0, r1⟩ := q2 hb.2.1
  have q0 : (0 : Int) ≤ q := by omega
  have x1 : (1 + r) * q ≤ ((20000 / (q * q) : Nat) : Int) * q := Int.mul_le_mul_of_nonneg_right (by omega) q0
  have x2 := Int.mul_le_mul_of_nonneg_right x1 q0
  have x3 := Int.mul_nonneg (Int.mul_nonneg (show 0 ≤ 1 + r by omega) q0) q0
  refine go1 (ss_nx (asg_ok (add_okE (p := 1) (q := r) rfl q1) rfl) rfl) (g (1 + r) cs1 l1 t1 w1 (by omega) x3 (by omega))
theorem k9 (hq : isQ q) (b1 : 1 ≤ big) (b2 : 0 ≤ big * q * q) (b3 : big * q * q ≤ 20000) (h : AH) (g : Go mm (lapB.drop 10) (en s0 s2 s3 s4 s5 (.v (.int q)) (.v (.int big)) s8 s9 s10 s11 s12 s13 s14 s15 s16 s17 s18 s19 s20 s21 s22 s23 s24) h) :
    Go mm (lapB.drop 9) (en s0 s2 s3 s4 s5 (.v (.int q)) (.v (.int big)) s8 s9 s10 s11 s12 s13 s14 s15 s16 s17 s18 s19 s20 s21 s22 s23 s24) h := by
  have sq : small64 (q : Int) = true := by rcases hq with rfl | rfl | rfl | rfl <;> decide
  have q1 : (1 : Int) ≤ q := by rcases hq with rfl | rfl | rfl | rfl <;> decide
  have le1 : big ≤ big * q := by
    have := Int.mul_le_mul_of_nonneg_left q1 (show 0 ≤ big by omega)
    omega
  have le2 : big * q ≤ big * q * q := by
    have := Int.mul_le_mul_of_nonneg_left q1 (show 0 ≤ big * q by omega)
    omega
  obtain ⟨d1, t1, e1⟩ := two_E (X := .bin .mul (.bin .mul (.var 7) (.var 6)) (.var 6)) (e := en s0 s2 s3 s4 s5 (.v (.int q)) (.v (.int big)) s8 s9 s10 s11 s12 s13 s14 s15 s16 s17 s18 s19 s20 s21 s22 s23 s24) (h := h) (n := big * q * q) (mul_okE (p := big * q) (q := q) (mul_okE (p := big) (q := q) rfl rfl (by rw [sq, Bool.or_true])) rfl (by rw [sq, Bool.or_true])) b2 (by omega)
  obtain ⟨d2, t2, e2⟩ := two_E (X := .var 7) (e := en s0 s2 s3 s4 s5 (.v (.int q)) (.v (.int big)) s8 s9 s10 s11 s12 s13 s14 s15 s16 s17 s18 s19 s20 s21 s22 s23 s24) (h := h) (n := big) rfl (by omega) (by omega)
  refine go1 (ss_nx (ifs_false (r := .v (.bl false)) (ne_sameB (is_E e1 t1) (is_E e2 t2) ?_) rfl) rfl) g
  have x1 := non_iff t1
  have x2 := non_iff t2
  rw [sq_desc hq] at x1
  cases z1 : isNon d1 <;> cases z2 : isNon d2 <;> simp [z1, z2] at x1 x2 ⊢
  · exact absurd x1 x2
  · exact absurd x2 x1
theorem k10 (hq : isQ q) (b1 : 1 ≤ big) (b2 : 0 ≤ big * q * q) (b3 : big * q * q ≤ 20000) (h : AH) (g : Go mm (lapB.drop 11) (en s0 s2 s3 s4 s5 (.v (.int q)) (.v (.int big)) s8 s9 s10 s11 s12 s13 s14 s15 s16 s17 s18 s19 s20 s21 s22 s23 s24) h) :
    Go mm (lapB.drop 10) (en s0 s2 s3 s4 s5 (.v (.int q)) (.v (.int big)) s8 s9 s10 s11 s12 s13 s14 s15 s16 s17 s18 s19 s20 s21 s22 s23 s24) h := by
  have sq : small64 (q : Int) = true := by rcases hq with rfl | rfl | rfl | rfl <;> decide
  have q1 : (1 : Int) ≤ q := by rcases hq with rfl | rfl | rfl | rfl <;> decide
  have le1 : big ≤ big * q := by
    have := Int.mul_le_mul_of_nonneg_left q1 (show 0 ≤ big by omega)
    omega
  have le2 : big * q ≤ big * q * q := by
    have := Int.mul_le_mul_of_nonneg_left q1 (show 0 ≤ big * q by omega)
    omega
  obtain ⟨d1, t1, e1⟩ := two_E (X := .bin .mul (.var 7) (.var 6)) (e := en s0 s2 s3 s4 s5 (.v (.int q)) (.v (.int big)) s8 s9 s10 s11 s12 s13 s14 s15 s16 s17 s18 s19 s20 s21 s22 s23 s24) (h := h) (n := big * q) (mul_okE (p := big) (q := q) rfl rfl (by rw [sq, Bool.or_true])) (by omega) (by omega)
  obtain ⟨d2, t2, e2⟩ := two_E (X := .var 7) (e := en s0 s2 s3 s4 s5 (.v (.int q)) (.v (.int big)) s8 s9 s10 s11 s12 s13 s14 s15 s16 s17 s18 s19 s20 s21 s22 s23 s24) (h := h) (n := big) rfl (by omega) (by omega)
  have both : ((!isNon d2) && (!isNon d1)) = false := by
    have x1 := non_iff t1
    have x2 := non_iff t2
    have no := sq_not hq big.toNat big b1 (by omega)
    cases z1 : isNon d1 <;> cases z2 : isNon d2 <;> simp [z1, z2] at x1 x2 ⊢
    exact no x2 x1
  have an := and_E (isnt_E e2 t2) (isnt_E e1 t1) ⟨rfl, rfl⟩
  rw [both] at an
  exact go1 (ss_nx (ifs_false (r := .v (.bl false)) an rfl) rfl) g
theorem k11 (cs : List Int) (l t : Int) (hW : cs.length < fuel) (g : ∀ (m : Nat) cs' l' t', cs'.length < fuel → 2 ≤ m → m ≤ 400 → Go mm (lapB.drop 12) (en s0 s2 s3 s4 s5 s6 s7 (.v (.int m)) s9 s10 s11 s12 s13 s14 s15 s16 s17 s18 s19 s20 s21 s22 s23 s24) (hp cs' l' mm t')) :
    Go mm (lapB.drop 11) (en s0 s2 s3 s4 s5 s6 s7 s8 s9 s10 s11 s12 s13 s14 s15 s16 s17 s18 s19 s20 s21 s22 s23 s24) (hp cs l mm t) := by
  obtain ⟨r, cs1, l1, t1, w1, q1, q2⟩ := pick_E (cl := CL) (mm := mm) (W := fuel) (pkIs 19) (s := 1) (e := en s0 s2 s3 s4 s5 s6 s7 s8 s9 s10 s11 s12 s13 s14 s15 s16 s17 s18 s19 s20 s21 s22 s23 s24) (M := .int 399) (m := 399) rfl (fun h => rfl) (by decide) cs l t hW
  obtain ⟨r0, r1⟩ := q2 (by decide)
  have e : ((2 + r).toNat : Int) = 2 + r := by omega
  have := g (2 + r).toNat cs1 l1 t1 w1 (by omega) (by omega)
  rw [e] at this
  exact go1 (ss_nx (asg_ok (add_okE (p := 2) (q := r) rfl q1) rfl) rfl) this
theorem k16 (cs : List Int) (l t : Int) (hW : cs.length < fuel) (g : ∀ (m : Nat) cs' l' t', cs'.length < fuel → 2 ≤ m → m ≤ 301 → Go mm (lapB.drop 17) (en s0 s2 s3 s4 s5 s6 s7 s8 s9 s10 (.v (.int m)) s12 s13 s14 s15 s16 s17 s18 s19 s20 s21 s22 s23 s24) (hp cs' l' mm t')) :
    Go mm (lapB.drop 16) (en s0 s2 s3 s4 s5 s6 s7 s8 s9 s10 s11 s12 s13 s14 s15 s16 s17 s18 s19 s20 s21 s22 s23 s24) (hp cs l mm t) := by
  obtain ⟨r, cs1, l1, t1, w1, q1, q2⟩ := pick_E (cl := CL) (mm := mm) (W := fuel) (pkIs 19) (s := 1) (e := en s0 s2 s3 s4 s5 s6 s7 s8 s9 s10 s11 s12 s13 s14 s15 s16 s17 s18 s19 s20 s21 s22 s23 s24) (M := .int 300) (m := 300) rfl (fun h => rfl) (by decide) cs l t hW
  obtain ⟨r0, r1⟩ := q2 (by decide)
  have e : ((2 + r).toNat : Int) = 2 + r := by omega
  have := g (2 + r).toNat cs1 l1 t1 w1 (by omega) (by omega)
  rw [e] at this
  exact go1 (ss_nx (asg_ok (add_okE (p := 2) (q := r) rfl q1) rfl) rfl) this
end

theorem chk_at {m : Nat} (h2 : 2 ≤ m) (h4 : m ≤ 400) : chk m = true := by
  have := List.all_eq_true.mp chks m (List.mem_range.mpr (by omega))
  simpa [show ¬ m < 2 by omega] using this
theorem root_at {r : Nat} (h2 : 2 ≤ r) (h4 : r ≤ 301) : rootk r = true := by
  have := List.all_eq_true.mp rootks r (List.mem_range.mpr (by omega))
  simpa [show ¬ r < 2 by omega] using this
theorem isS_iff {m : Nat} (h4 : m ≤ 400) : isS m = true ↔ Sq m := by
  unfold isS
  simp only [List.any_eq_true, List.mem_range, decide_eq_true_eq]
  constructor
  · rintro ⟨a, _, b, _, e⟩
    exact ⟨a, b, by exact_mod_cast e⟩
  · rintro ⟨a, b, e⟩
    have e2 : a.natAbs * a.natAbs + b.natAbs * b.natAbs = m := by
      have h1 := Int.natAbs_mul_self (a := a)
      have h2 := Int.natAbs_mul_self (a := b)
      have : ((a.natAbs * a.natAbs + b.natAbs * b.natAbs : Nat) : Int) = m := by
        rw [Int.natCast_add, h1, h2]; exact e
      exact_mod_cast this
    have bd : ∀ x y : Nat, x * x + y * y = m → x < 21 := fun x y hxy => by
      apply Decidable.byContradiction
      intro hc
      have : 21 * 21 ≤ x * x := Nat.mul_le_mul (by omega) (by omega)
      omega
    exact ⟨_, bd _ _ e2, _, bd b.natAbs a.natAbs (by omega), e2⟩
/-- the paper of an order -/
def Pap (m : Nat) (d : D) (bar : Bool) : Prop := (∃ a b : Int, d = .tup [.str sqK, .int a, .int b] ∧ bar = false) ∨
  ∃ q r, oddL fuel m = q :: r ∧ d = .tup [.str prK, .int q.1, .int q.2] ∧ bar = m12 m ∧ (m12 m = true → primesHas m q.1 = true)
theorem pap_of {m : Nat} (h2 : 2 ≤ m) (h4 : m ≤ 400) : ∃ d bar, Pap m d bar ∧ callN T fuel (17 + 3) 6 [.v (.int m)] [] = some (.ok (.v d) [] []) ∧ (m12 m && !(oddL fuel m).isEmpty) = bar := by
  have ck := chk_at h2 h4
  obtain ⟨d, hd, hc⟩ := twoC 17 (m : Int) (by omega) m (by omega) (Int.le_refl _)
  obtain ⟨p1, p2⟩ := paperC 17 m (by omega) (by omega) d hc
  unfold chk at ck
  rcases hd with ⟨a, b, rfl, _, _, e⟩ | ⟨rfl, e⟩
  · have hs : isS m = true := (isS_iff h4).mpr ⟨a, b, e⟩
    rw [if_pos hs] at ck
    refine ⟨_, false, .inl ⟨a, b, rfl, rfl⟩, p1 a b rfl, ?_⟩
    cases z1 : m12 m <;> cases z2 : (oddL fuel m).isEmpty <;> simp [z1, z2] at ck ⊢
  · have hs : ¬ isS m = true := fun z => by
      obtain ⟨a, b, e'⟩ := (isS_iff h4).mp z
      exact e a b e'
    rw [if_neg hs] at ck
    cases ho : oddL fuel m with
    | nil => rw [ho] at ck; cases ck
    | cons q r =>
      rw [ho] at ck
      refine ⟨_, m12 m, .inr ⟨q, r, ho, rfl, rfl, fun z => ?_⟩, p2 q r rfl ho, by simp⟩
      have ck : (!m12 m || primesHas m q.1) = true := ck
      rw [z] at ck
      exact ck
theorem pap_low {m : Nat} {d : D} {bar : Bool} (h : Pap m d bar) : d.low 0 = true := by
  rcases h with ⟨a, b, rfl, _⟩ | ⟨q, r, _, rfl, _⟩ <;> rfl
section
variable {mm : Int} {s0 s2 s3 s4 s5 s6 s7 s8 s9 s10 s11 s12 s13 s14 s15 s16 s17 s18 s19 s20 s21 s22 s23 s24 : Sl} {m r : Nat} {d : D} {bar : Bool}
theorem k12 (h2 : 2 ≤ m) (h4 : m ≤ 400) (h : AH) (g : ∀ d bar, Pap m d bar → (m12 m && !(oddL fuel m).isEmpty) = bar → Go mm (lapB.drop 13) (en s0 s2 s3 s4 s5 s6 s7 (.v (.int m)) (.v d) s10 s11 s12 s13 s14 s15 s16 s17 s18 s19 s20 s21 s22 s23 s24) h) :
    Go mm (lapB.drop 12) (en s0 s2 s3 s4 s5 s6 s7 (.v (.int m)) s9 s10 s11 s12 s13 s14 s15 s16 s17 s18 s19 s20 s21 s22 s23 s24) h := by
  obtain ⟨d, bar, hp, hc, hb⟩ := pap_of h2 h4
  refine go1 (ss_nx (asg_ok (r := .v d) (call1_ok (d := .int m) rfl hc rfl (pap_low hp)) ?_) rfl) (g d bar hp hb)
  rfl
theorem k13 (hp : Pap m d bar) (h : AH) (g : Go mm (lapB.drop 14) (en s0 s2 s3 s4 s5 s6 s7 (.v (.int m)) (.v d) (.v (.bl bar)) s11 s12 s13 s14 s15 s16 s17 s18 s19 s20 s21 s22 s23 s24) h) :
    Go mm (lapB.drop 13) (en s0 s2 s3 s4 s5 s6 s7 (.v (.int m)) (.v d) s10 s11 s12 s13 s14 s15 s16 s17 s18 s19 s20 s21 s22 s23 s24) h := by
  have c2 : evE CL (.cmp .isin (.bin .mod (.bi .int (.cons false (.var 8) .nil)) (.int 4)) (.tup (.cons false (.int 1) (.cons false (.int 2) .nil)))) (en s0 s2 s3 s4 s5 s6 s7 (.v (.int m)) (.v d) s10 s11 s12 s13 s14 s15 s16 s17 s18 s19 s20 s21 s22 s23 s24) h =
      some (.ok (.v (.bl (m12 m))) (en s0 s2 s3 s4 s5 s6 s7 (.v (.int m)) (.v d) s10 s11 s12 s13 s14 s15 s16 s17 s18 s19 s20 s21 s22 s23 s24) h) := by
    refine cmp_okk (x := .v (.int ((m % 4 : Nat) : Int))) (y := .v (.tup [.int 1, .int 2])) ?_ rfl rfl rfl ?_
    · have e1 : evE CL (.bi .int (.cons false (.var 8) .nil)) (en s0 s2 s3 s4 s5 s6 s7 (.v (.int m)) (.v d) s10 s11 s12 s13 s14 s15 s16 s17 s18 s19 s20 s21 s22 s23 s24) h = some (.ok (.v (.int m)) (en s0 s2 s3 s4 s5 s6 s7 (.v (.int m)) (.v d) s10 s11 s12 s13 s14 s15 s16 s17 s18 s19 s20 s21 s22 s23 s24) h) := rfl
      have := fmod_nat m 4
      rw [evE, e1]
      simp only [bd_ok, evE, rd, op2]
      rw [← this]
      rfl
    · show (if Mp.plain (.int ((m % 4 : Nat) : Int)) && Mp.plain (.tup [.int 1, .int 2]) then some (inB (.int ((m % 4 : Nat) : Int)) [.int 1, .int 2]) else none) = some (m12 m)
      rw [isin12]
      rfl
  rcases hp with ⟨a, b, rfl, rfl⟩ | ⟨q, r, ho, rfl, rfl, _⟩
  · have c1 : evE CL (.cmp .eq (.ix (.var 9) (.int 0)) (.str (PySem.Str.ofString "prime"))) (en s0 s2 s3 s4 s5 s6 s7 (.v (.int m)) (.v (.tup [.str sqK, .int a, .int b])) s10 s11 s12 s13 s14 s15 s16 s17 s18 s19 s20 s21 s22 s23 s24) h =
        some (.ok (.v (.bl false)) (en s0 s2 s3 s4 s5 s6 s7 (.v (.int m)) (.v (.tup [.str sqK, .int a, .int b])) s10 s11 s12 s13 s14 s15 s16 s17 s18 s19 s20 s21 s22 s23 s24) h) := by
      refine cmp_okk (x := .v (.str sqK)) (y := .v (.str prK)) rfl rfl rfl rfl ?_
      have : (sqK == prK) = false := by decide +kernel
      simp [cmpD, scalB, eqB, this]
    exact go1 (ss_nx (asg_ok (r := .v (.bl false)) (and_E c1 c2 ⟨rfl, rfl⟩) rfl) rfl) g
  · have c1 : evE CL (.cmp .eq (.ix (.var 9) (.int 0)) (.str (PySem.Str.ofString "prime"))) (en s0 s2 s3 s4 s5 s6 s7 (.v (.int m)) (.v (.tup [.str prK, .int q.1, .int q.2])) s10 s11 s12 s13 s14 s15 s16 s17 s18 s19 s20 s21 s22 s23 s24) h =
        some (.ok (.v (.bl true)) (en s0 s2 s3 s4 s5 s6 s7 (.v (.int m)) (.v (.tup [.str prK, .int q.1, .int q.2])) s10 s11 s12 s13 s14 s15 s16 s17 s18 s19 s20 s21 s22 s23 s24) h) := by
      refine cmp_okk (x := .v (.str prK)) (y := .v (.str prK)) rfl rfl rfl rfl ?_
      simp [cmpD, scalB, eqB]
    have an := and_E c1 c2 ⟨rfl, rfl⟩
    rw [Bool.true_and] at an
    exact go1 (ss_nx (asg_ok an rfl) rfl) g
theorem k14 (h2 : 2 ≤ m) (h4 : m ≤ 400) (hb : (m12 m && !(oddL fuel m).isEmpty) = bar) (h : AH) (g : Go mm (lapB.drop 15) (en s0 s2 s3 s4 s5 s6 s7 (.v (.int m)) s9 (.v (.bl bar)) s11 s12 s13 s14 s15 s16 s17 s18 s19 s20 s21 s22 s23 s24) h) :
    Go mm (lapB.drop 14) (en s0 s2 s3 s4 s5 s6 s7 (.v (.int m)) s9 (.v (.bl bar)) s11 s12 s13 s14 s15 s16 s17 s18 s19 s20 s21 s22 s23 s24) h := by
  have bc := barC 18 m (by omega) (by omega)
  rw [hb] at bc
  refine go1 (ss_nx (ifs_false (r := .v (.bl false)) (rp_same (p := .bl bar) (call1_ok (d := .int m) rfl bc rfl rfl) rfl (fun n z => nomatch z) ?_ ?_) rfl) rfl) g
  · cases bar <;> decide
  · cases bar <;> rfl
theorem k15 (hp : Pap m d bar) (h23 : isOwn s23 = false) (h24 : isOwn s24 = false) (h : AH) (g : Go mm (lapB.drop 16) (en s0 s2 s3 s4 s5 s6 s7 (.v (.int m)) (.v d) (.v (.bl bar)) s11 s12 s13 s14 s15 s16 s17 s18 s19 s20 s21 s22 s23 s24) h) :
    Go mm (lapB.drop 15) (en s0 s2 s3 s4 s5 s6 s7 (.v (.int m)) (.v d) (.v (.bl bar)) s11 s12 s13 s14 s15 s16 s17 s18 s19 s20 s21 s22 s23 s24) h := by
  cases bar with
  | false => exact go1 (ss_nx (ifs_false (r := .v (.bl false)) rfl rfl) rfl) g
  | true =>
    rcases hp with ⟨a, b, rfl, z⟩ | ⟨q, r, ho, rfl, z, hph⟩
    · cases z
    · have ph := hph z.symm
      unfold primesHas at ph
      split at ph
      · rename_i xs e0 hc
        simp only [Bool.and_eq_true, List.all_eq_true, List.any_eq_true, decide_eq_true_eq] at ph
        obtain ⟨⟨ap, x0, hx0, ex0⟩, hl⟩ := ph
        have low : D.lows 0 xs = true := by
          have : ∀ l : List D, (∀ x ∈ l, isP x = true) → D.lows 0 l = true := by
            intro l
            induction l with
            | nil => intro _; rfl
            | cons x l ih =>
              intro hx
              rw [D.lows, ih fun y hy => hx y (List.mem_cons_of_mem _ hy)]
              have := hx x (List.mem_cons_self ..)
              unfold isP at this
              split at this
              · rfl
              · cases this
          exact this xs ap
        have pr : ∀ x ∈ xs, ∃ i j : Int, x = .tup [.int i, .int j] := fun x hx => by
          have := ap x hx
          unfold isP at this
          split at this
          · exact ⟨_, _, rfl⟩
          · cases this
        have hit : evI CL (.e (.call 11 (.cons false (.var 8) .nil))) (en s0 s2 s3 s4 s5 s6 s7 (.v (.int m)) (.v (.tup [.str prK, .int q.1, .int q.2])) (.v (.bl true)) s11 s12 s13 s14 s15 s16 s17 s18 s19 s20 s21 s22 s23 s24) h =
            some (.ok (xs, []) (en s0 s2 s3 s4 s5 s6 s7 (.v (.int m)) (.v (.tup [.str prK, .int q.1, .int q.2])) (.v (.bl true)) s11 s12 s13 s14 s15 s16 s17 s18 s19 s20 s21 s22 s23 s24) h) := by
          have e1 : evE CL (.call 11 (.cons false (.var 8) .nil)) (en s0 s2 s3 s4 s5 s6 s7 (.v (.int m)) (.v (.tup [.str prK, .int q.1, .int q.2])) (.v (.bl true)) s11 s12 s13 s14 s15 s16 s17 s18 s19 s20 s21 s22 s23 s24) h =
              some (.ok (.fr (.lst xs)) (en s0 s2 s3 s4 s5 s6 s7 (.v (.int m)) (.v (.tup [.str prK, .int q.1, .int q.2])) (.v (.bl true)) s11 s12 s13 s14 s15 s16 s17 s18 s19 s20 s21 s22 s23 s24) h) := call1_fr (d := .int m) rfl hc rfl low
          rw [evI, e1]
          rfl
        have cg := comp_gen (cl := CL) (own := [23, 24]) (g := .tp (.cons (.nm 23) (.cons (.nm 24) .nil))) (c := .cmp .eq (.var 23) (.ix (.var 9) (.int 1))) (elt := .var 23)
          (fun x => en s0 s2 s3 s4 s5 s6 s7 (.v (.int m)) (.v (.tup [.str prK, .int q.1, .int q.2])) (.v (.bl true)) s11 s12 s13 s14 s15 s16 s17 s18 s19 s20 s21 s22 (.v (.int (fstD x))) (.v (.int (sndD x)))) (fun x => fstD x == q.1) (fun x => .int (fstD x)) hit
          (by simp [noOwn, en, h23, h24]) (by simp [sizeMax]; omega) rfl (fun x hx => by obtain ⟨i, j, rfl⟩ := pr x hx; rfl) (fun x hx => ⟨rfl, rfl, rfl⟩)
          (fun x hx => ⟨.v (.bl (fstD x == q.1)), cmp_okk (x := .v (.int (fstD x))) (y := .v (.int q.1)) rfl rfl rfl rfl (by simp [cmpD, scalB, eqB]), rfl⟩) (fun x hx _ => ⟨.v (.int (fstD x)), rfl, rfl⟩)
        obtain ⟨y, ys, hys⟩ : ∃ y ys, (xs.filter fun x => fstD x == (q.1 : Int)).map (fun x => D.int (fstD x)) = y :: ys := by
          have hm : x0 ∈ xs.filter fun x => fstD x == (q.1 : Int) := List.mem_filter.mpr ⟨hx0, by simpa using ex0⟩
          cases hz : (xs.filter fun x => fstD x == (q.1 : Int)) with
          | nil => rw [hz] at hm; cases hm
          | cons y ys => exact ⟨_, _, rfl⟩
        have pl : Mp.plain (.lst ((xs.filter fun x => fstD x == (q.1 : Int)).map fun x => D.int (fstD x))) = true := by
          have : ∀ l : List D, D.plains 59 (l.map fun x => D.int (fstD x)) = true := by
            intro l
            induction l with
            | nil => rfl
            | cons x l ih => rw [List.map_cons, D.plains, ih]; rfl
          exact this _
        rw [hys] at cg pl
        have ce : cmpD .eq (.lst (y :: ys)) (.lst []) = some false := by
          have p2 : Mp.plain (.lst []) = true := rfl
          have e3 : eqB (.lst (y :: ys)) (.lst []) = false := rfl
          simp only [cmpD, pl, p2, e3, Bool.and_self, Bool.or_true, if_true]
        have c2 := cmp_okk (o := .eq) (b := .lst .nil) cg (y := .fr (.lst [])) rfl rfl rfl ce
        exact go1 (ss_nx (ifs_false (r := .v (.bl false)) (and_E (p := true) rfl c2 ⟨rfl, rfl⟩) rfl) rfl) g
      · cases ph
theorem k17 (h2 : 2 ≤ r) (h3 : r ≤ 301) (h : AH) (g : Go mm (lapB.drop 18) (en s0 s2 s3 s4 s5 s6 s7 s8 s9 s10 (.v (.int r)) s12 s13 s14 s15 s16 s17 s18 s19 s20 s21 s22 s23 s24) h) :
    Go mm (lapB.drop 17) (en s0 s2 s3 s4 s5 s6 s7 s8 s9 s10 (.v (.int r)) s12 s13 s14 s15 s16 s17 s18 s19 s20 s21 s22 s23 s24) h := by
  have rk := root_at h2 h3
  unfold rootk at rk
  simp only [Bool.and_eq_true] at rk
  have hr : r * r ≤ 301 * 301 := Nat.mul_le_mul h3 h3
  have hr0 : 2 * 2 ≤ r * r := Nat.mul_le_mul h2 h2
  have b1 := barC 18 (r * r) (by omega) (by omega)
  have b2 := barC 18 (r * r + 1) (by omega) (by omega)
  have z : ∀ {p q : Bool}, (!p || q) = true → (p && !q) = false := fun {p q} h => by cases p <;> cases q <;> simp at h ⊢
  rw [z rk.1] at b1
  rw [z rk.2] at b2
  have sr : small64 (r : Int) = true := by simp [small64]; omega
  have m1 : evE CL (.bin .mul (.var 11) (.var 11)) (en s0 s2 s3 s4 s5 s6 s7 s8 s9 s10 (.v (.int r)) s12 s13 s14 s15 s16 s17 s18 s19 s20 s21 s22 s23 s24) h = some (.ok (.v (.int ((r * r : Nat) : Int))) (en s0 s2 s3 s4 s5 s6 s7 s8 s9 s10 (.v (.int r)) s12 s13 s14 s15 s16 s17 s18 s19 s20 s21 s22 s23 s24) h) := by
    rw [Int.natCast_mul]
    exact mul_okE rfl rfl (by rw [sr]; rfl)
  have m2 : evE CL (.bin .add (.bin .mul (.var 11) (.var 11)) (.int 1)) (en s0 s2 s3 s4 s5 s6 s7 s8 s9 s10 (.v (.int r)) s12 s13 s14 s15 s16 s17 s18 s19 s20 s21 s22 s23 s24) h = some (.ok (.v (.int ((r * r + 1 : Nat) : Int))) (en s0 s2 s3 s4 s5 s6 s7 s8 s9 s10 (.v (.int r)) s12 s13 s14 s15 s16 s17 s18 s19 s20 s21 s22 s23 s24) h) := by
    rw [Int.natCast_add]
    exact add_okE m1 rfl
  exact go1 (ss_nx (ifs_false (r := .v (.bl false)) (or_no (x := .v (.bl false)) (call1_ok m1 b1 rfl rfl) rfl (call1_ok m2 b2 rfl rfl)) rfl) rfl) g
end

def unT : D → List Int
  | .tup xs => (intsOf xs).getD []
  | _ => []
theorem unT_tup (l : List Int) : unT (.tup (l.map D.int)) = l := by
  show (intsOf (l.map D.int)).getD [] = l
  rw [intsOf_int]; rfl
section
variable {mm : Int} {s0 s2 s3 s4 s5 s6 s7 s8 s9 s10 s11 s12 s13 s14 s15 s16 s17 s18 s19 s20 s21 s22 s23 s24 : Sl} {a b c d x y z w : Int}
theorem four_E (e : Ev) (he : e[1]? = some (.v (.ref 1))) (cs : List Int) (l t : Int) (hW : cs.length < fuel) : ∃ a b c d cs' l' t', cs'.length < fuel ∧ bnd a ∧ bnd b ∧ bnd c ∧ bnd d ∧
    evE CL (.call 2 (.cons false (.call 9 (.cons false (.var 1) (.cons false (.int 300) .nil))) .nil)) e (hp cs l mm t) = some (.ok (.v (row4 a b c d)) e (hp cs' l' mm t')) := by
  obtain ⟨n, cs1, l1, t1, w1, q1, q2⟩ := pick_E (cl := CL) (mm := mm) (W := fuel) (pkIs 19) (s := 1) (e := e) (M := .int 300) (m := 300) he (fun h => rfl) (by decide) cs l t hW
  obtain ⟨n0, n1⟩ := q2 (by decide)
  obtain ⟨d, ⟨p, q, r, s, rfl, p0, q0, r0, s0, ee⟩, hc⟩ := fourC 17 n n0 (by omega) (four_ex n n0 (by omega))
  exact ⟨p, q, r, s, cs1, l1, t1, w1, bnd_of p0 (by omega) ee, bnd_of (q := p) (r := r) (s := s) q0 (show n ≤ 1000 by omega) (by omega), bnd_of (q := p) (r := q) (s := s) r0 (show n ≤ 1000 by omega) (by omega), bnd_of (q := p) (r := q) (s := r) s0 (show n ≤ 1000 by omega) (by omega), call1_ok q1 hc rfl rfl⟩
theorem k18 (cs : List Int) (l t : Int) (hW : cs.length < fuel) (g : ∀ a b c d x y z w cs' l' t', cs'.length < fuel → bnd a → bnd b → bnd c → bnd d → bnd x → bnd y → bnd z → bnd w →
      Go mm (lapB.drop 19) (en s0 s2 s3 s4 s5 s6 s7 s8 s9 s10 s11 s12 s13 s14 (.v (row4 a b c d)) (.v (row4 x y z w)) s17 s18 s19 s20 s21 s22 s23 s24) (hp cs' l' mm t')) :
    Go mm (lapB.drop 18) (en s0 s2 s3 s4 s5 s6 s7 s8 s9 s10 s11 s12 s13 s14 s15 s16 s17 s18 s19 s20 s21 s22 s23 s24) (hp cs l mm t) := by
  obtain ⟨a, b, c, d, cs1, l1, t1, w1, ha, hb, hc, hd, q1⟩ := four_E (mm := mm) (en s0 s2 s3 s4 s5 s6 s7 s8 s9 s10 s11 s12 s13 s14 s15 s16 s17 s18 s19 s20 s21 s22 s23 s24) rfl cs l t hW
  obtain ⟨x, y, z, w, cs2, l2, t2, w2, hx, hy, hz, hw, q2⟩ := four_E (mm := mm) (en s0 s2 s3 s4 s5 s6 s7 s8 s9 s10 s11 s12 s13 s14 s15 s16 s17 s18 s19 s20 s21 s22 s23 s24) rfl cs1 l1 t1 w1
  exact go1 (ss_nx (par2 q1 q2 rfl) rfl) (g a b c d x y z w cs2 l2 t2 w2 ha hb hc hd hx hy hz hw)
theorem k19 (ha : bnd a) (hb : bnd b) (hc : bnd c) (hd : bnd d) (hx : bnd x) (hy : bnd y) (hz : bnd z) (hw : bnd w) (h21 : isOwn s21 = false) (h22 : isOwn s22 = false) (h : AH)
    (g : Go mm (lapB.drop 20) (en s0 s2 s3 s4 s5 s6 s7 s8 s9 s10 s11 (.ow (.lst [.int (sq4 (l4 a b c d)), .int (sq4 (l4 x y z w)), .int (sq4 (eul a b c d [x, y, z, w]))])) s13 s14 (.v (row4 a b c d)) (.v (row4 x y z w)) s17 s18 s19 s20 s21 s22 s23 s24) h) :
    Go mm (lapB.drop 19) (en s0 s2 s3 s4 s5 s6 s7 s8 s9 s10 s11 s12 s13 s14 (.v (row4 a b c d)) (.v (row4 x y z w)) s17 s18 s19 s20 s21 s22 s23 s24) h := by
  have ec : callN T fuel (18 + 2) 4 [.v (row4 a b c d), .v (row4 x y z w)] [] = some (.ok (.v (euD a b c d [x, y, z, w])) [] []) := eulerC 18 a b c d [x, y, z, w] rfl (bnd_sm4 ha hb hc hd)
  have low : (euD a b c d [x, y, z, w]).low 0 = true := rfl
  have eb := eul_bb ha hb hc hd hx hy hz hw
  have rows : ∀ r ∈ [row4 a b c d, row4 x y z w, euD a b c d [x, y, z, w]], r = .tup ((unT r).map D.int) ∧ (unT r).length ≤ sizeMax ∧ ∀ i ∈ unT r, small64 i = true := by
    intro r hr
    simp only [List.mem_cons, List.mem_nil_iff, or_false] at hr
    rcases hr with rfl | rfl | rfl
    · rw [row4_l, unT_tup]
      exact ⟨rfl, by simp [l4, sizeMax], by simp [l4, bnd_small ha, bnd_small hb, bnd_small hc, bnd_small hd]⟩
    · rw [row4_l, unT_tup]
      exact ⟨rfl, by simp [l4, sizeMax], by simp [l4, bnd_small hx, bnd_small hy, bnd_small hz, bnd_small hw]⟩
    · rw [euD_l, unT_tup]
      exact ⟨rfl, by simp [eul, rows4, sizeMax], fun i hi => bb_small (eb i hi)⟩
  have inner : ∀ r ∈ [row4 a b c d, row4 x y z w, euD a b c d [x, y, z, w]], evE CL (.comp (.bin .mul (.var 22) (.var 22)) [22] (.nm 22) (.e (.var 21)) (.bl true)) (en s0 s2 s3 s4 s5 s6 s7 s8 s9 s10 s11 s12 s13 s14 (.v (row4 a b c d)) (.v (row4 x y z w)) s17 s18 s19 s20 (.v r) s22 s23 s24) h =
      some (.ok (.fr (.lst (((unT r).map fun i => i * i).map D.int))) (en s0 s2 s3 s4 s5 s6 s7 s8 s9 s10 s11 s12 s13 s14 (.v (row4 a b c d)) (.v (row4 x y z w)) s17 s18 s19 s20 (.v r) s22 s23 s24) h) := fun r hr => by
    obtain ⟨e1, e2, e3⟩ := rows r hr
    have hit : evI CL (.e (.var 21)) (en s0 s2 s3 s4 s5 s6 s7 s8 s9 s10 s11 s12 s13 s14 (.v (row4 a b c d)) (.v (row4 x y z w)) s17 s18 s19 s20 (.v (.tup ((unT r).map D.int))) s22 s23 s24) h = some (.ok ((unT r).map D.int, []) (en s0 s2 s3 s4 s5 s6 s7 s8 s9 s10 s11 s12 s13 s14 (.v (row4 a b c d)) (.v (row4 x y z w)) s17 s18 s19 s20 (.v (.tup ((unT r).map D.int))) s22 s23 s24) h) := rfl
    rw [← e1] at hit
    have := comp_all (cl := CL) (own := [22]) (g := .nm 22) (elt := .bin .mul (.var 22) (.var 22)) (fun v => en s0 s2 s3 s4 s5 s6 s7 s8 s9 s10 s11 s12 s13 s14 (.v (row4 a b c d)) (.v (row4 x y z w)) s17 s18 s19 s20 (.v r) (.v v) s23 s24) (fun v => match v with | .int i => .int (i * i) | v => v) hit
      (by simp [noOwn, en, h22]) (by simpa using e2) rfl (fun _ _ => rfl) (fun _ _ => ⟨rfl, rfl, rfl⟩) (fun v hv => by
        obtain ⟨i, hi, rfl⟩ := List.mem_map.mp hv
        exact ⟨.v (.int (i * i)), mul_okE rfl rfl (by rw [e3 i hi]; rfl), rfl⟩)
    rw [this, List.map_map, List.map_map]
    rfl
  have hit : evI CL (.e (.tup (.cons false (.var 15) (.cons false (.var 16) (.cons false (.call 4 (.cons false (.var 15) (.cons false (.var 16) .nil))) .nil))))) (en s0 s2 s3 s4 s5 s6 s7 s8 s9 s10 s11 s12 s13 s14 (.v (row4 a b c d)) (.v (row4 x y z w)) s17 s18 s19 s20 s21 s22 s23 s24) h =
      some (.ok ([row4 a b c d, row4 x y z w, euD a b c d [x, y, z, w]], []) (en s0 s2 s3 s4 s5 s6 s7 s8 s9 s10 s11 s12 s13 s14 (.v (row4 a b c d)) (.v (row4 x y z w)) s17 s18 s19 s20 s21 s22 s23 s24) h) := by
    have c4 : evE CL (.call 4 (.cons false (.var 15) (.cons false (.var 16) .nil))) (en s0 s2 s3 s4 s5 s6 s7 s8 s9 s10 s11 s12 s13 s14 (.v (row4 a b c d)) (.v (row4 x y z w)) s17 s18 s19 s20 s21 s22 s23 s24) h =
        some (.ok (.v (euD a b c d [x, y, z, w])) (en s0 s2 s3 s4 s5 s6 s7 s8 s9 s10 s11 s12 s13 s14 (.v (row4 a b c d)) (.v (row4 x y z w)) s17 s18 s19 s20 s21 s22 s23 s24) h) := call2_ok (d := row4 a b c d) (d' := row4 x y z w) rfl rfl ec rfl rfl low
    have v15 : evE CL (.var 15) (en s0 s2 s3 s4 s5 s6 s7 s8 s9 s10 s11 s12 s13 s14 (.v (row4 a b c d)) (.v (row4 x y z w)) s17 s18 s19 s20 s21 s22 s23 s24) h = some (.ok (.v (row4 a b c d)) (en s0 s2 s3 s4 s5 s6 s7 s8 s9 s10 s11 s12 s13 s14 (.v (row4 a b c d)) (.v (row4 x y z w)) s17 s18 s19 s20 s21 s22 s23 s24) h) := rfl
    have v16 : evE CL (.var 16) (en s0 s2 s3 s4 s5 s6 s7 s8 s9 s10 s11 s12 s13 s14 (.v (row4 a b c d)) (.v (row4 x y z w)) s17 s18 s19 s20 s21 s22 s23 s24) h = some (.ok (.v (row4 x y z w)) (en s0 s2 s3 s4 s5 s6 s7 s8 s9 s10 s11 s12 s13 s14 (.v (row4 a b c d)) (.v (row4 x y z w)) s17 s18 s19 s20 s21 s22 s23 s24) h) := rfl
    rw [evI, evE, evD, v15]
    simp only [bd_ok, frz]
    rw [evD, v16]
    simp only [bd_ok, frz]
    rw [evD, c4]
    simp only [bd_ok, frz, evD]
    rfl
  have outer := comp_all (cl := CL) (own := [21]) (g := .nm 21) (elt := .bi .sum (.cons false (.comp (.bin .mul (.var 22) (.var 22)) [22] (.nm 22) (.e (.var 21)) (.bl true)) .nil)) (fun r => en s0 s2 s3 s4 s5 s6 s7 s8 s9 s10 s11 s12 s13 s14 (.v (row4 a b c d)) (.v (row4 x y z w)) s17 s18 s19 s20 (.v r) s22 s23 s24) (fun r => .int (sq4 (unT r))) hit
    (by simp [noOwn, en, h21]) (by simp [sizeMax]) rfl (fun _ _ => rfl) (fun _ _ => ⟨rfl, rfl, rfl⟩) (fun r hr => ⟨.v (.int (sq4 (unT r))), bi1_ok (inner r hr) rfl (sum_ints _), rfl⟩)
  have e3 : [row4 a b c d, row4 x y z w, euD a b c d [x, y, z, w]].map (fun r => D.int (sq4 (unT r))) = [.int (sq4 (l4 a b c d)), .int (sq4 (l4 x y z w)), .int (sq4 (eul a b c d [x, y, z, w]))] := by
    simp only [List.map_cons, List.map_nil]
    rw [row4_l, row4_l, euD_l, unT_tup, unT_tup, unT_tup]
  rw [e3] at outer
  exact go1 (ss_nx (asg_ok outer rfl) rfl) g
theorem k20 (ha : bnd a) (hb : bnd b) (hc : bnd c) (hd : bnd d) (h : AH)
    (g : Go mm (lapB.drop 21) (en s0 s2 s3 s4 s5 s6 s7 s8 s9 s10 s11 (.ow (.lst [.int (sq4 (l4 a b c d)), .int (sq4 (l4 x y z w)), .int (sq4 (eul a b c d [x, y, z, w]))])) s13 s14 s15 s16 s17 s18 s19 s20 s21 s22 s23 s24) h) :
    Go mm (lapB.drop 20) (en s0 s2 s3 s4 s5 s6 s7 s8 s9 s10 s11 (.ow (.lst [.int (sq4 (l4 a b c d)), .int (sq4 (l4 x y z w)), .int (sq4 (eul a b c d [x, y, z, w]))])) s13 s14 s15 s16 s17 s18 s19 s20 s21 s22 s23 s24) h := by
  have sb : small64 (sq4 (l4 a b c d)) = true := bb_small (sq_bb ha hb hc hd)
  refine go1 (ss_nx (ifs_false (r := .v (.bl false)) (ne_sameI (mul_okE (p := sq4 (l4 a b c d)) (q := sq4 (l4 x y z w)) (ix_okk (x := .bor 12) (y := .v (.int 0)) rfl rfl rfl rfl rfl) (ix_okk (x := .bor 12) (y := .v (.int 1)) rfl rfl rfl rfl rfl) (by rw [sb]; rfl)) (ix_okk (x := .bor 12) (y := .v (.int 2)) (r := .int (sq4 (eul a b c d [x, y, z, w]))) rfl rfl rfl rfl rfl) ?_) rfl) rfl) g
  exact (euler_id a b c d x y z w).symm
end
theorem lap_ok (mm : Int) (v : D) (e : Ev) (h : AH) (L : Lap mm e h) : ∃ e' h', (match bindG (.nm 2) v e with
      | some e => evSs CL fuel lapB e h
      | none => none) = some (.ok .nx e' h') ∧ Lap mm e' h' := by
  obtain ⟨s0, s2, s3, s4, s5, s6, s7, s8, s9, s10, s11, s12, s13, s14, s15, s16, s17, s18, s19, s20, s21, s22, s23, s24, rfl, h21, h22, h23, h24, cs, l, t, hW, rfl⟩ := L
  show Go mm lapB (en s0 (.v v) s3 s4 s5 s6 s7 s8 s9 s10 s11 s12 s13 s14 s15 s16 s17 s18 s19 s20 s21 s22 s23 s24) (hp cs l mm t)
  refine k0 _ (k1 cs l t hW fun a b c d cs1 l1 t1 w1 ha hb hc hd => k2 _ (k3 ha hb hc hd _ ?_))
  refine k4 (nm_of ha hb hc hd) _ fun x y x0 xy exy => k5 (nm_of ha hb hc hd) x0 xy exy _ (k6 ha hb hc hd _ ?_)
  refine k7 cs1 l1 t1 w1 fun q cs2 l2 t2 w2 hq => k8 hq cs2 l2 t2 w2 fun big cs3 l3 t3 w3 b1 b2 b3 => k9 hq b1 b2 b3 _ (k10 hq b1 b2 b3 _ ?_)
  refine k11 cs3 l3 t3 w3 fun m cs4 l4 t4 w4 m2 m4 => k12 m2 m4 _ fun dd bar hp hb' => k13 hp _ (k14 m2 m4 hb' _ (k15 hp h23 h24 _ ?_))
  refine k16 cs4 l4 t4 w4 fun r cs5 l5 t5 w5 r2 r3 => k17 r2 r3 _ ?_
  refine k18 cs5 l5 t5 w5 fun a' b' c' d' x' y' z' w' cs6 l6 t6 w6 ha' hb' hc' hd' hx' hy' hz' hw' => k19 ha' hb' hc' hd' hx' hy' hz' hw' h21 h22 _ (k20 ha' hb' hc' hd' _ ?_)
  exact ⟨_, _, rfl, _, _, _, _, _, _, _, _, _, _, _, _, _, _, _, _, _, _, _, _, _, _, _, _, rfl, h21, h22, h23, h24, cs6, l6, t6, w6, rfl⟩
theorem srcIs (k : Nat) (ss : List Sl) (h : AH) : callN T fuel (k + 1) 8 ss h = runF (callN T fuel k) fuel ⟨1, 4, openB⟩ ss h := callN_at rfl ss h
theorem law : ∀ ns : List Int, ns.length ≤ 63 → ∃ e h, callN T fuel (level + 1) 12 [.v (.scr ns)] [] = some (.ok (.v (.bl true)) e h) := by
  intro ns hl
  obtain ⟨mm, ho⟩ := open_ok (cl := callN T fuel 19) (W := fuel) ns hl
  have hW : (ns.map absI).reverse.length < fuel := by simp [fuel]; omega
  have a0 : evSs CL fuel (b12.take 1) (.v (.scr ns) :: List.replicate 24 .un) [] = some (.ok .nx (en (.v (.scr ns)) .un .un .un .un .un .un .un .un .un .un .un .un .un .un .un .un .un .un .un .un .un .un .un) (hp (ns.map absI).reverse 1 mm 0)) := by
    refine ss_nx (asg_ok (r := .v (.ref 1)) (e' := .v (.scr ns) :: List.replicate 24 .un) (h' := hp (ns.map absI).reverse 1 mm 0) ?_ rfl) rfl
    have z : CL 8 [.v (.scr ns)] [] = some (.ok (.v (.ref 1)) [] (hp (ns.map absI).reverse 1 mm 0)) := by
      show callN T fuel 20 8 _ _ = _
      rw [srcIs]; exact ho
    have c0 : call CL 8 [.v (.scr ns)] (.v (.scr ns) :: List.replicate 24 .un) [] = some (.ok (.v (.ref 1)) (.v (.scr ns) :: List.replicate 24 .un) (hp (ns.map absI).reverse 1 mm 0)) := call_nb (ss := [.v (.scr ns)]) rfl rfl (by rw [z]; rfl) z
    exact c0
  obtain ⟨e', h', q1, L⟩ := forS_all (I := Lap mm) (f := fun x e h => match bindG (.nm 2) x e with
      | some e => evSs CL fuel lapB e h
      | none => none) (rngL 0 1 4) (en (.v (.scr ns)) .un .un .un .un .un .un .un .un .un .un .un .un .un .un .un .un .un .un .un .un .un .un .un) (hp (ns.map absI).reverse 1 mm 0) (fun v hv e h L => lap_ok mm v e h L)
    ⟨_, _, _, _, _, _, _, _, _, _, _, _, _, _, _, _, _, _, _, _, _, _, _, _, rfl, rfl, rfl, rfl, rfl, _, _, _, hW, rfl⟩
  have a1 : evSs CL fuel ((b12.drop 1).take 1) (en (.v (.scr ns)) .un .un .un .un .un .un .un .un .un .un .un .un .un .un .un .un .un .un .un .un .un .un .un) (hp (ns.map absI).reverse 1 mm 0) = some (.ok .nx e' h') := ss_nx (fr_ok rfl q1) rfl
  obtain ⟨s0, s2, s3, s4, s5, s6, s7, s8, s9, s10, s11, s12, s13, s14, s15, s16, s17, s18, s19, s20, s21, s22, s23, s24, rfl, _, _, _, _, cs, l, t, _, rfl⟩ := L
  have a2 : isT (evSs CL fuel (b12.drop 2) (en s0 s2 s3 s4 s5 s6 s7 s8 s9 s10 s11 s12 s13 s14 s15 s16 s17 s18 s19 s20 s21 s22 s23 s24) (hp cs l mm t)) = true := by kernel_rfl
  obtain ⟨e2, h2, a3⟩ := of_isT a2
  have main : evSs CL fuel b12 (.v (.scr ns) :: List.replicate 24 .un) [] = some (.ok (.rt (.v (.bl true))) e2 h2) := (ss_split 1 a0).trans ((ss_split 1 a1).trans a3)
  exact ⟨[], _, Eq.trans (callN_at (T := T) (F := ⟨1, 25, b12⟩) (k := 20) rfl _ _) (runF_rt rfl main)⟩
end K60
open PySem PySem.W PyProof.Rows
set_option maxHeartbeats 0 in
theorem PySem.Challenge.cw_triplesonce_k60_whole_sums_and_orders_holds : PySem.Challenge.rw_triplesonce_k60_whole_sums_and_orders.Holds := by
  w_on; o_law; k_head; (case hw => w_witness2)
  k_fill
  refine Mp.walk_mp (l := PySem.Challenge.rw_triplesonce_k60_whole_sums_and_orders) (n := 63) (k := K60.level + 1) (x := "script") (T := K60.T) (F := K60.fuel) (i := 12) (kn := K60.names) rfl (by decide) rfl ⟨rfl, by decide, by decide⟩ (fun w h Y => PySem.W.kIn_of Y) rfl ?F K60.law
  case F =>
    intro w mg h KX G
    refine' Mp.end_of KX G (sts := K60.sts) rfl K60.texts (K60.objs ?o0 ?o1 ?o2 ?o3 ?o4 ?o5 ?o6 ?o7 ?o8 ?o9 ?o10 ?o11 ?o12) (K60.bns ?z0 ?z1 ?z2 ?z3 ?z4 ?z5 ?z6 ?z7 ?z8 ?z9 ?z10 ?z11 ?z12 ?z13 ?z14 ?z15 ?z16 ?z17 ?z18 ?z19) rfl rfl rfl K60.f12 K60.h12 K60.c12
    (case o0 => refine' Mp.obj_mk ?a ?l ?c ?k; (case a => k_is); (case l => k_is); (case c => k_is); (case k => k_is))
    (case o1 => refine' Mp.obj_mk ?a ?l ?c ?k; (case a => k_is); (case l => k_is); (case c => k_is); (case k => k_is))
    (case o2 => refine' Mp.obj_mk ?a ?l ?c ?k; (case a => k_is); (case l => k_is); (case c => k_is); (case k => k_is))
    (case o3 => refine' Mp.obj_mk ?a ?l ?c ?k; (case a => k_is); (case l => k_is); (case c => k_is); (case k => k_is))
    (case o4 => refine' Mp.obj_mk ?a ?l ?c ?k; (case a => k_is); (case l => k_is); (case c => k_is); (case k => k_is))
    (case o5 => refine' Mp.obj_mk ?a ?l ?c ?k; (case a => k_is); (case l => k_is); (case c => k_is); (case k => k_is))
    (case o6 => refine' Mp.obj_mk ?a ?l ?c ?k; (case a => k_is); (case l => k_is); (case c => k_is); (case k => k_is))
    (case o7 => refine' Mp.obj_mk ?a ?l ?c ?k; (case a => k_is); (case l => k_is); (case c => k_is); (case k => k_is))
    (case o8 => refine' Mp.obj_mk ?a ?l ?c ?k; (case a => k_is); (case l => k_is); (case c => k_is); (case k => k_is))
    (case o9 => refine' Mp.obj_mk ?a ?l ?c ?k; (case a => k_is); (case l => k_is); (case c => k_is); (case k => k_is))
    (case o10 => refine' Mp.obj_mk ?a ?l ?c ?k; (case a => k_is); (case l => k_is); (case c => k_is); (case k => k_is))
    (case o11 => refine' Mp.obj_mk ?a ?l ?c ?k; (case a => k_is); (case l => k_is); (case c => k_is); (case k => k_is))
    (case o12 => refine' Mp.obj_mk ?a ?l ?c ?k; (case a => k_is); (case l => k_is); (case c => k_is); (case k => k_is))
    (case z0 => k_is)
    (case z1 => k_is)
    (case z2 => k_is)
    (case z3 => k_is)
    (case z4 => k_is)
    (case z5 => k_is)
    (case z6 => k_is)
    (case z7 => k_is)
    (case z8 => k_is)
    (case z9 => k_is)
    (case z10 => k_is)
    (case z11 => k_is)
    (case z12 => k_is)
    (case z13 => k_is)
    (case z14 => k_is)
    (case z15 => k_is)
    (case z16 => k_is)
    (case z17 => k_is)
    (case z18 => k_is)
    (case z19 => k_is)
