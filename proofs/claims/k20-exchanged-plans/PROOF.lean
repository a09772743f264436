import PyProof.Rows.All
import Wide.All
import OpenK.AllK
import Wide.FinOn
import HandS.ForMost
import HandS.ForExc
import HandS.Deep
import HandS.TupAny
import HandS.TupLe
import HandS.TupMul
import HandS.Text
import KE.SortData
import KE.DataCmp
import KE.DataMinMax
import KE.DataFind
import KE.DataIsa
import HandS.Rev
import HandS.RevTup
import HandS.Style
import HandS.Dict
import HandS.Struct
import HandS.DictTup
import PyProof.AutoSeq1
import HandS.Zip
import HandS.Iter
import HandS.WordsExc
import HandS.Comp
import HandS.TupSets
import HandS.Conv
import HandS.More
import KE.LtData
import HandS.HotCalls
import HandS.ExcIs
import HandS.Small
import PySem.Challenge.RW_threeplans_k20_whole_exchanged_plans
set_option Elab.async false
set_option linter.all false
set_option maxRecDepth 100000
set_option maxHeartbeats 4000000
/-! A small Python of values: its terms and what they compute. -/
namespace TP
open PySem L2
/-- an organizer -/
structure Og where
  n : Int
  th : List PyData
  kept : Nat
/-- what changes: the number of draws, the organizers; the script stays -/
structure G where
  k : Nat
  ns : List Int
  os : List Og
/-- a list or dict of a variable's own -/
inductive Con where
  | lst (xs : List PyData)
  | dct (kvs : List (Int × PyData))
inductive W where
  | d (x : PyData) | own (c : Con) | pk (c : Con) | twn | scr | obj (i : Nat)
inductive Res (α : Type) where
  | ok (a : α) (g : G) | ex (c : Nat) (g : G) | no
def Res.bind {α β : Type} (r : Res α) (f : α → G → Res β) : Res β :=
  match r with
  | .ok a g => f a g
  | .ex c g => .ex c g
  | .no => .no
@[simp] theorem bind_ok {α β : Type} (a : α) (g : G) (f : α → G → Res β) : (Res.ok a g).bind f = f a g := rfl
@[simp] theorem bind_ex {α β : Type} (c : Nat) (g : G) (f : α → G → Res β) : (Res.ex c g : Res α).bind f = .ex c g := rfl
@[simp] theorem bind_no {α β : Type} (f : α → G → Res β) : (Res.no : Res α).bind f = .no := rfl
/-- no exception comes out -/
def Res.nox {α : Type} (r : Res α) : Res α :=
  match r with
  | .ok a g => .ok a g
  | .ex _ _ => .no
  | .no => .no
@[simp] theorem nox_ok {α : Type} (a : α) (g : G) : (Res.ok a g).nox = .ok a g := rfl
@[simp] theorem nox_no {α : Type} : (Res.no : Res α).nox = .no := rfl
def Res.of {α : Type} (o : Option α) (g : G) : Res α :=
  match o with
  | some a => .ok a g
  | none => .no
@[simp] theorem of_some {α : Type} (a : α) (g : G) : Res.of (some a) g = .ok a g := rfl
@[simp] theorem of_none {α : Type} (g : G) : (Res.of none g : Res α) = .no := rfl
abbrev Fn := List W → G → Res W
abbrev Env' := List (Option W)
/-- as data that may be read for a moment -/
def W.rd : W → Option PyData
  | .d x => some x
  | .own (.lst xs) => some (.list xs)
  | .pk (.lst xs) => some (.list xs)
  | _ => none
/-- as data that stays -/
def W.fz : W → Option PyData
  | .d x => some x
  | .own (.lst xs) => some (.list xs)
  | _ => none
@[simp] theorem rd_d (x : PyData) : (W.d x).rd = some x := rfl
@[simp] theorem rd_own (xs : List PyData) : (W.own (.lst xs)).rd = some (.list xs) := rfl
@[simp] theorem rd_pk (xs : List PyData) : (W.pk (.lst xs)).rd = some (.list xs) := rfl
@[simp] theorem fz_d (x : PyData) : (W.d x).fz = some x := rfl
@[simp] theorem fz_own (xs : List PyData) : (W.own (.lst xs)).fz = some (.list xs) := rfl
@[simp] theorem fz_pk (c : Con) : (W.pk c).fz = none := rfl
def W.see (z : Bool) (w : W) : Option PyData := if z then w.fz else w.rd
/-- read a variable -/
def W.look : W → W
  | .own c => .pk c
  | w => w
def get (ρ : Env') (i : Nat) : Option W :=
  match ρ[i]? with
  | some (some w) => some w.look
  | _ => none
def lim : Nat := 16777216
/-! ### data -/
mutual
/-- may be compared by < -/
def cm : PyData → PyData → Bool
  | .int _, .int _ => true
  | .tuple xs, .tuple ys => cmAll xs ys
  | .list xs, .list ys => cmAll xs ys
  | _, _ => false
def cmAll : List PyData → List PyData → Bool
  | x :: xs, y :: ys => cm x y && cmAll xs ys
  | [], _ => true
  | _, [] => true
end
def rank : PyData → Nat
  | .int _ => 1
  | .tuple _ => 2
  | .list _ => 3
  | _ => 0
mutual
/-- a weak order: of ints by <, of tuples and lists item by item -/
def cmp3 : PyData → PyData → Ordering
  | .int a, .int b => compare a b
  | .tuple xs, .tuple ys => cmpAll3 xs ys
  | .list xs, .list ys => cmpAll3 xs ys
  | x, y => compare (rank x) (rank y)
def cmpAll3 : List PyData → List PyData → Ordering
  | [], [] => .eq
  | [], _ :: _ => .lt
  | _ :: _, [] => .gt
  | x :: xs, y :: ys => (cmp3 x y).then (cmpAll3 xs ys)
end
def lt (x y : PyData) : Bool := cmp3 x y == .lt
mutual
/-- no list in it -/
def noL : PyData → Bool
  | .tuple xs => noLs xs
  | .list _ => false
  | .dict _ => false
  | _ => true
def noLs : List PyData → Bool
  | [] => true
  | x :: xs => noL x && noLs xs
end
inductive O2 where
  | add | sub | mul | fdiv | mod | pow | eq | ne | lt | le | gt | ge | is | isnt | inn | notin
  deriving DecidableEq
def sameShape (x y : PyData) : Bool := SeqAt.shaped x && SeqAt.shaped y
def binD (o : O2) (x y : PyData) : Option W :=
  match o with
  | .add => match x, y with
    | .int i, .int j => some (.d (.int (i + j)))
    | .tuple xs, .tuple ys => if xs.length + ys.length ≤ lim then some (.d (.tuple (xs ++ ys))) else none
    | .list xs, .list ys => if xs.length + ys.length ≤ lim then some (.own (.lst (xs ++ ys))) else none
    | .str a, .str b => if a.length + b.length ≤ lim then some (.d (.str (a ++ b))) else none
    | _, _ => none
  | .sub => match x, y with
    | .int i, .int j => some (.d (.int (i - j)))
    | _, _ => none
  | .mul => match x, y with
    | .int i, .int j => if (-(2 ^ 64) < i ∧ i < 2 ^ 64) ∨ (-(2 ^ 64) < j ∧ j < 2 ^ 64) then some (.d (.int (i * j))) else none
    | .list xs, .int j => if 0 ≤ j ∧ j ≤ 1000 ∧ xs.length ≤ 1000 then some (.own (.lst (List.replicate j.toNat xs).flatten)) else none
    | .tuple xs, .int j => if 2 ≤ j ∧ j ≤ 1000 ∧ xs.length ≤ 1000 ∧ xs ≠ [] then some (.d (.tuple (List.replicate j.toNat xs).flatten)) else none
    | _, _ => none
  | .fdiv => match x, y with
    | .int i, .int j => if 0 < j ∧ j < 1073741824 then some (.d (.int (i / j))) else none
    | _, _ => none
  | .mod => match x, y with
    | .int i, .int j => if 0 < j then some (.d (.int (i % j))) else none
    | _, _ => none
  | .pow => match x, y with
    | .int i, .int j => if 0 ≤ j ∧ j ≤ 1000000 ∧ i.natAbs < 2 ^ 64 then some (.d (.int (i ^ j.toNat))) else none
    | _, _ => none
  | .eq => if sameShape x y then some (.d (.bool (PyData.eqv x y))) else none
  | .ne => if sameShape x y then some (.d (.bool (!PyData.eqv x y))) else none
  | .lt => if sameShape x y && cm x y then some (.d (.bool (lt x y))) else none
  | .gt => if sameShape x y && cm x y then some (.d (.bool (lt y x))) else none
  | .le => match x, y with
    | .int i, .int j => some (.d (.bool (decide (i ≤ j))))
    | _, _ => none
  | .ge => match x, y with
    | .int i, .int j => some (.d (.bool (decide (j ≤ i))))
    | _, _ => none
  | .is => match x, y with
    | .bool a, .bool b => some (.d (.bool (decide (a = b))))
    | .none, .none => some (.d (.bool true))
    | _, .none => some (.d (.bool false))
    | _, _ => none
  | .isnt => match x, y with
    | .bool a, .bool b => some (.d (.bool (!decide (a = b))))
    | .none, .none => some (.d (.bool false))
    | _, .none => some (.d (.bool true))
    | _, _ => none
  | .inn => match y with
    | .list ys => if sameShape x (.list ys) then some (.d (.bool (ys.any fun z => PyData.eqv z x))) else none
    | .tuple ys => if sameShape x (.tuple ys) then some (.d (.bool (ys.any fun z => PyData.eqv z x))) else none
    | .str z => match x with
      | .str c => if c.length = 1 then some (.d (.bool (decide (c.cps.getD 0 0 ∈ z.cps.toList)))) else none
      | _ => none
    | _ => none
  | .notin => match y with
    | .list ys => if sameShape x (.list ys) then some (.d (.bool (!ys.any fun z => PyData.eqv z x))) else none
    | .tuple ys => if sameShape x (.tuple ys) then some (.d (.bool (!ys.any fun z => PyData.eqv z x))) else none
    | _ => none
def isCmp : O2 → Bool
  | .eq | .ne | .lt | .le | .gt | .ge | .is | .isnt | .inn | .notin => true
  | _ => false
/-- x[i] -/
def ixD (x i : PyData) : Option PyData :=
  match x, i with
  | .list xs, .int j => atI xs j
  | .tuple xs, .int j => atI xs j
  | _, _ => none
def cutD (xs : List PyData) (lo hi : Option Int) : List PyData := (xs.drop (HT.sIx xs.length 0 lo)).take (HT.sIx xs.length xs.length hi - HT.sIx xs.length 0 lo)
/-- x[lo:hi] -/
def slD (x : PyData) (lo hi : Option Int) : Option W :=
  match x with
  | .list xs => some (.own (.lst (cutD xs lo hi)))
  | .tuple xs => some (.d (.tuple (cutD xs lo hi)))
  | _ => none
/-- xs[::-1] of a list -/
def revD (x : PyData) : Option W :=
  match x with
  | .list xs => some (.own (.lst xs.reverse))
  | .tuple xs => some (.d (.tuple xs.reverse))
  | _ => none
def ints? : List PyData → Option (List Int)
  | [] => some []
  | .int i :: r => (ints? r).map (i :: ·)
  | _ :: _ => none
def bools? : List PyData → Option (List Bool)
  | [] => some []
  | .bool i :: r => (bools? r).map (i :: ·)
  | _ :: _ => none
def strs? : List PyData → Option (List Str)
  | [] => some []
  | .str i :: r => (strs? r).map (i :: ·)
  | _ :: _ => none
def seq? : PyData → Option (List PyData)
  | .list xs => some xs
  | .tuple xs => some xs
  | _ => none
/-! ### sorting -/
def ins (x : PyData) : List PyData → List PyData
  | [] => [x]
  | y :: r => if lt y x then y :: ins x r else x :: y :: r
/-- sorted by <, equal ones in their order -/
def srt : List PyData → List PyData
  | [] => []
  | x :: r => ins x (srt r)
def isInt : PyData → Bool
  | .int _ => true
  | _ => false
def isLst : PyData → Bool
  | .list _ => true
  | _ => false
def isTup1 : PyData → Bool
  | .tuple (_ :: _) => true
  | _ => false
def cmS (xs : List PyData) : Bool := xs.all fun x => xs.all fun y => cm x y && SeqAt.shaped x
def srtOk (xs : List PyData) : Bool := decide (xs.length ≤ lim) && cmS xs && (xs.all isInt || xs.all isTup1 || xs.all isLst)
/-- the first of the least -/
def least (m : PyData) : List PyData → PyData
  | [] => m
  | y :: r => if lt y m then least y r else least m r
/-! ### built-ins by values -/
inductive Bl where
  | len | tup | lst | all | any | min2 | max2 | min1 | sorted | str | int | lenset | index | count | join | split | lrng | trng
  deriving DecidableEq
def digit? (z : Str) : Option Int :=
  match z.cps.toList with
  | [c] => if 48 ≤ c ∧ c ≤ 57 then some ((c : Int) - 48) else none
  | _ => none
/-- distinct ones -/
def dd : List (List Int) → List (List Int)
  | [] => []
  | x :: r => if x ∈ r then dd r else x :: dd r
def tupInts? : PyData → Option (List Int)
  | .tuple xs => ints? xs
  | _ => none
def tupsInts? : List PyData → Option (List (List Int))
  | [] => some []
  | x :: r => match tupInts? x, tupsInts? r with
    | some n, some ns => some (n :: ns)
    | _, _ => none
def rngL (a b : Int) : List PyData := (List.range (b - a).toNat).map fun j => .int (a + (j : Nat))
def idxOf? (y : PyData) : List PyData → Option Nat
  | [] => none
  | x :: r => if PyData.eqv x y then some 0 else (idxOf? y r).map (· + 1)
def bLen : List PyData → Option W
  | [.list ys] => some (.d (.int ys.length))
  | [.tuple ys] => some (.d (.int ys.length))
  | [.str z] => if z.length ≤ lim then some (.d (.int z.length)) else none
  | _ => none
def bTup : List PyData → Option W
  | [x] => (seq? x).map fun ys => .d (.tuple ys)
  | _ => none
def bLst : List PyData → Option W
  | [x] => (seq? x).map fun ys => .own (.lst ys)
  | _ => none
def bAll : List PyData → Option W
  | [.list ys] => (bools? ys).map fun bs => .d (.bool (bs.all id))
  | _ => none
def bAny : List PyData → Option W
  | [.list ys] => (bools? ys).map fun bs => .d (.bool (bs.any id))
  | _ => none
def bMin2 : List PyData → Option W
  | [.int i, .int j] => some (.d (.int (if j < i then j else i)))
  | _ => none
def bMax2 : List PyData → Option W
  | [.int i, .int j] => some (.d (.int (if j > i then j else i)))
  | _ => none
def bMin1 : List PyData → Option W
  | [.list (y :: r)] => if cmS (y :: r) then some (.d (least y r)) else none
  | _ => none
def bSorted : List PyData → Option W
  | [x] => (seq? x).bind fun ys => if srtOk ys then some (.own (.lst (srt ys))) else none
  | _ => none
def bStr : List PyData → Option W
  | [.int i] => if 0 ≤ i ∧ i < 1000 then some (.d (.str (toString i))) else none
  | _ => none
def bInt : List PyData → Option W
  | [.str z] => (digit? z).map fun i => .d (.int i)
  | _ => none
def bLenset : List PyData → Option W
  | [.list ys] => if ys.length < 64 then (tupsInts? ys).map fun ks => .d (.int (dd ks).length) else none
  | _ => none
def bIndex : List PyData → Option W
  | [x, y] => (seq? x).bind fun ys => if sameShape x y then (idxOf? y ys).map fun j => .d (.int (j : Nat)) else none
  | _ => none
def bCount : List PyData → Option W
  | [.list ys, x] => if sameShape (.list ys) x then some (.d (.int (ys.countP fun y => PyData.eqv y x))) else none
  | _ => none
def joinS (z : Str) : List Str → Str
  | [] => ⟨#[]⟩
  | [a] => a
  | a :: b :: r => a ++ z ++ joinS z (b :: r)
def bJoin : List PyData → Option W
  | [.str z, .list ys] => (strs? ys).bind fun ss => if (joinS z ss).length ≤ 1000 then some (.d (.str (joinS z ss))) else none
  | _ => none
def bLrng : List PyData → Option W
  | [.int n] => if -1000 ≤ n ∧ n ≤ 1000 then some (.own (.lst (rngL 0 n))) else none
  | _ => none
def bTrng : List PyData → Option W
  | [.int n] => if -1000 ≤ n ∧ n ≤ 1000 then some (.d (.tuple (rngL 0 n))) else none
  | _ => none
def bltD : Bl → List PyData → Option W
  | .len => bLen | .tup => bTup | .lst => bLst | .all => bAll | .any => bAny | .min2 => bMin2 | .max2 => bMax2 | .min1 => bMin1 | .sorted => bSorted
  | .str => bStr | .int => bInt | .lenset => bLenset | .index => bIndex | .count => bCount | .join => bJoin | .split => fun _ => none | .lrng => bLrng | .trng => bTrng
inductive Ty where
  | int | bool | tuple | str
  deriving DecidableEq
def isiD (t : Ty) (x : PyData) : Bool :=
  match t, x with
  | .int, .int _ => true
  | .int, .bool _ => true
  | .bool, .bool _ => true
  | .tuple, .tuple _ => true
  | .str, .str _ => true
  | _, _ => false
/-! ### terms -/
inductive Tg where
  | one (i : Nat) | two (i j : Nat) | three (i j k : Nat)
mutual
inductive E where
  | v (i : Nat) | c (x : PyData) | gs (x z : Str) | neg (a : E)
  | o2 (o : O2) (a b : E) | chain (o p : O2) (a b c : E)
  | ban (es : EL) | bor (es : EL) | bno (a : E) | ite (c a b : E)
  | tup (es : EL) | lst (es : EL) | ix (a i : E) | sl (a : E) (lo hi : OE) | rev (a : E)
  | call (f : Nat) (es : EL) | blt (b : Bl) (es : EL) | isi (t : Ty) (a : E)
  | comp (elt : E) (t : Tg) (s : I) (cd : OE)
  | dget (i : Nat) (k : E) | dsort (i : Nat)
  | dsp (kvs : List (Int × Int)) (k : E) | pick (fs : List Nat) (i : E) (es : EL)
  | lidx (a b : E) | lcnt (a b : E) | six (i : Nat) (k : E) | slen (i : Nat) | semp (i : Nat) | tlen (i : Nat)
inductive EL where
  | nil | cons (a : E) (r : EL)
inductive OE where
  | non | som (a : E)
inductive I where
  | seq (a : E) | rng1 (a : E) | rng2 (a b : E) | rng3 (a b c : E) | zip (a b : E) | enm (a : E)
end
def bt (o : Option W) : Option Bool :=
  match o with
  | some (.d (.bool b)) => some b
  | _ => none
def W.bl? : W → Option Bool
  | .d (.bool b) => some b
  | _ => none
@[simp] theorem bl?_bool (b : Bool) : (W.d (.bool b)).bl? = some b := rfl
def W.int? : W → Option Int
  | .d (.int b) => some b
  | _ => none
@[simp] theorem int?_int (b : Int) : (W.d (.int b)).int? = some b := rfl
/-- a target's slots, from an item -/
def bindT (t : Tg) (x : PyData) (ρ : Env') : Option Env' :=
  match t with
  | .one i => some (ρ.set i (some (.d x)))
  | .two i j => match x with
    | .tuple [a, b] => some ((ρ.set i (some (.d a))).set j (some (.d b)))
    | _ => none
  | .three i j k => match x with
    | .tuple [a, b, c] => some (((ρ.set i (some (.d a))).set j (some (.d b))).set k (some (.d c)))
    | _ => none
def zipL : List PyData → List PyData → List PyData
  | x :: xs, y :: ys => .tuple [x, y] :: zipL xs ys
  | _, _ => []
def enumL (i : Nat) : List PyData → List PyData
  | [] => []
  | x :: r => .tuple [.int (i : Nat), x] :: enumL (i + 1) r
def rngD (a b : Int) : Option (List PyData) :=
  if -(2 ^ 30) ≤ a ∧ a < 2 ^ 30 ∧ -(2 ^ 30) ≤ b ∧ b < 2 ^ 30 then some (rngL a b) else none
def rngD3 (a b c : Int) : Option (List PyData) :=
  if (-(2 ^ 30) ≤ a ∧ a < 2 ^ 30 ∧ -(2 ^ 30) ≤ b ∧ b < 2 ^ 30) ∧ c = -1 then some ((List.range (a - b).toNat).map fun j => .int (a - (j : Nat))) else none
def zipD (x y : PyData) : Option (List PyData) :=
  match x, y with
  | .list xs, .list ys => some (zipL xs ys)
  | .tuple xs, .tuple ys => some (zipL xs ys)
  | _, _ => none
def enmD (x : PyData) : Option (List PyData) :=
  match x with
  | .list xs => some (enumL 0 xs)
  | _ => none
/-- through the items -/
def each (f : PyData → G → Res (Option PyData)) : List PyData → G → Res (List PyData)
  | [], g => .ok [] g
  | x :: r, g => (f x g).bind fun o g1 => (each f r g1).bind fun ys g2 => .ok (match o with | some y => y :: ys | none => ys) g2
def fzs : List W → Option (List PyData)
  | [] => some []
  | w :: r => match w.fz, fzs r with
    | some x, some xs => some (x :: xs)
    | _, _ => none
def rds : List W → Option (List PyData)
  | [] => some []
  | w :: r => match w.rd, rds r with
    | some x, some xs => some (x :: xs)
    | _, _ => none
/-- what a callee sees -/
def W.arg : W → Option W
  | .own (.lst xs) => some (.d (.list xs))
  | .pk (.lst xs) => some (.d (.list xs))
  | .own (.dct _) => none
  | .pk (.dct _) => none
  | w => some w
def args? : List W → Option (List W)
  | [] => some []
  | w :: r => match w.arg, args? r with
    | some x, some xs => some (x :: xs)
    | _, _ => none
def W.isPk : W → Bool
  | .pk _ => true
  | _ => false
/-- what comes back, where a variable's own list was lent -/
def W.clean : W → Bool
  | .d x => noL x
  | .own (.lst xs) => noLs xs
  | _ => false
def pickF (fs : List Nat) (n : Int) : Option Nat := if 0 ≤ n then fs[n.toNat]? else none
section
variable (Φ : Nat → Fn)
mutual
def ev : E → Env' → G → Res W
  | .v i, ρ, g => .of (get ρ i) g
  | .c x, _, g => .ok (.d x) g
  | .gs _ z, _, g => .ok (.d (.str z)) g
  | .neg a, ρ, g => (ev a ρ g).bind fun w g1 => .of (w.int?.map fun i => .d (.int (-i))) g1
  | .o2 o a b, ρ, g => (ev a ρ g).bind fun w g1 => (ev b ρ g1).bind fun u g2 => .of (do binD o (← w.rd) (← u.rd)) g2
  | .chain o p a b c, ρ, g => (ev a ρ g).bind fun w g1 => (ev b ρ g1).bind fun u g2 => (Res.of (bt (do binD o (← w.rd) (← u.rd))) g2).bind fun k g3 =>
      if k then (ev c ρ g3).bind fun z g4 => .of (do binD p (← u.rd) (← z.rd)) g4 else .ok (.d (.bool false)) g3
  | .ban es, ρ, g => evAnd es ρ g
  | .bor es, ρ, g => evOr es ρ g
  | .bno a, ρ, g => (ev a ρ g).bind fun w g1 => .of (w.bl?.map fun b => .d (.bool (!b))) g1
  | .ite c a b, ρ, g => (ev c ρ g).bind fun w g1 => (Res.of w.bl? g1).bind fun k g2 => if k then ev a ρ g2 else ev b ρ g2
  | .tup es, ρ, g => (evl es ρ g).bind fun ws g1 => .of ((fzs ws).map fun xs => .d (.tuple xs)) g1
  | .lst es, ρ, g => (evl es ρ g).bind fun ws g1 => .of ((fzs ws).map fun xs => .own (.lst xs)) g1
  | .ix a i, ρ, g => (ev a ρ g).bind fun w g1 => (ev i ρ g1).bind fun u g2 => .of (do (ixD (← w.rd) (← u.rd)).map .d) g2
  | .sl a lo hi, ρ, g => (ev a ρ g).bind fun w g1 => (evo lo ρ g1).bind fun l g2 => (evo hi ρ g2).bind fun h g3 => .of (do slD (← w.rd) l h) g3
  | .rev a, ρ, g => (ev a ρ g).bind fun w g1 => .of (do revD (← w.rd)) g1
  | .call f es, ρ, g => (evl es ρ g).bind fun ws g1 => (Res.of (args? ws) g1).bind fun xs g2 => (Φ f xs g2).bind fun w g3 => if !ws.any W.isPk || w.clean then .ok w g3 else .no
  | .blt b es, ρ, g => (evl es ρ g).bind fun ws g1 => .of (do bltD b (← rds ws)) g1
  | .isi t a, ρ, g => (ev a ρ g).bind fun w g1 => .of (w.rd.map fun x => .d (.bool (isiD t x))) g1
  | .comp elt t s cd, ρ, g => (evi false s ρ g).bind fun xs g1 => if xs.length ≤ lim then
      (each (fun x g => ((Res.of (bindT t x ρ) g).bind fun ρ' g => (evc cd ρ' g).bind fun k g =>
        if k then (ev elt ρ' g).bind fun w g => .of (w.fz.map some) g else .ok none g).nox) xs g1).bind fun ys g2 => .ok (.own (.lst ys)) g2 else .no
  | .dget i k, ρ, g => match ρ[i]? with
    | some (some (.own (.dct kvs))) => (ev k ρ g).bind fun w g1 => match w.int? with
      | some n => .of ((kvs.find? fun p => decide (p.1 = n)).map fun p => .d p.2) g1
      | none => .no
    | _ => .no
  | .dsort i, ρ, g => match ρ[i]? with
    | some (some (.own (.dct kvs))) => if kvs.length < 64 then .ok (.own (.lst (srt (kvs.map fun p => .int p.1)))) g else .no
    | _ => .no
  | .dsp kvs k, ρ, g => (ev k ρ g).bind fun w g1 => match w.int? with
    | some n => .of ((kvs.find? fun p => decide (p.1 = n)).map fun p => .d (.int p.2)) g1
    | none => .no
  | .pick fs i es, ρ, g => (ev i ρ g).bind fun w g1 => match w.int? with
    | some n => match pickF fs n with
      | some f => (evl es ρ g1).bind fun ws g1 => (Res.of (args? ws) g1).bind fun xs g2 => (Φ f xs g2).bind fun w g3 => if !ws.any W.isPk || w.clean then .ok w g3 else .no
      | none => .no
    | none => .no
  | .lidx a b, ρ, g => (ev a ρ g).bind fun w g1 => match w.rd with
    | some (.list xs) => (ev b ρ g1).bind fun u g2 => .of (do bIndex [.list xs, ← u.rd]) g2
    | _ => .no
  | .lcnt a b, ρ, g => (ev a ρ g).bind fun w g1 => match w.rd with
    | some (.list xs) => (ev b ρ g1).bind fun u g2 => .of (do bCount [.list xs, ← u.rd]) g2
    | _ => .no
  | .six i k, ρ, g => match get ρ i with
    | some .scr => (ev k ρ g).bind fun w g1 => .of (do (atI g1.ns (← w.int?)).map fun n => .d (.int n)) g1
    | _ => .no
  | .slen i, ρ, g => match get ρ i with
    | some .scr => .ok (.d (.int g.ns.length)) g
    | _ => .no
  | .semp i, ρ, g => match get ρ i with
    | some .scr => .ok (.d (.bool g.ns.isEmpty)) g
    | _ => .no
  | .tlen i, ρ, g => match get ρ i with
    | some .twn => .ok (.d (.int g.k)) g
    | _ => .no
def evl : EL → Env' → G → Res (List W)
  | .nil, _, g => .ok [] g
  | .cons a r, ρ, g => (ev a ρ g).bind fun w g1 => (evl r ρ g1).bind fun ws g2 => .ok (w :: ws) g2
def evAnd : EL → Env' → G → Res W
  | .nil, _, _ => .no
  | .cons a .nil, ρ, g => (ev a ρ g).bind fun w g1 => .of (w.bl?.map fun b => .d (.bool b)) g1
  | .cons a (.cons b r), ρ, g => (ev a ρ g).bind fun w g1 => (Res.of w.bl? g1).bind fun k g2 => if k then evAnd (.cons b r) ρ g2 else .ok (.d (.bool false)) g2
def evOr : EL → Env' → G → Res W
  | .nil, _, _ => .no
  | .cons a .nil, ρ, g => (ev a ρ g).bind fun w g1 => .of (w.bl?.map fun b => .d (.bool b)) g1
  | .cons a (.cons b r), ρ, g => (ev a ρ g).bind fun w g1 => (Res.of w.bl? g1).bind fun k g2 => if k then .ok (.d (.bool true)) g2 else evOr (.cons b r) ρ g2
def evo : OE → Env' → G → Res (Option Int)
  | .non, _, g => .ok none g
  | .som a, ρ, g => (ev a ρ g).bind fun w g1 => .of (w.int?.map some) g1
def evc : OE → Env' → G → Res Bool
  | .non, _, g => .ok true g
  | .som a, ρ, g => (ev a ρ g).bind fun w g1 => .of w.bl? g1
def evi (z : Bool) : I → Env' → G → Res (List PyData)
  | .seq a, ρ, g => (ev a ρ g).bind fun w g1 => .of (do seq? (← w.see z)) g1
  | .rng1 a, ρ, g => (ev a ρ g).bind fun w g1 => .of (do rngD 0 (← w.int?)) g1
  | .rng2 a b, ρ, g => (ev a ρ g).bind fun w g1 => (ev b ρ g1).bind fun u g2 => .of (do rngD (← w.int?) (← u.int?)) g2
  | .rng3 a b c, ρ, g => (ev a ρ g).bind fun w g1 => (ev b ρ g1).bind fun u g2 => (ev c ρ g2).bind fun z g3 => .of (do rngD3 (← w.int?) (← u.int?) (← z.int?)) g3
  | .zip a b, ρ, g => (ev a ρ g).bind fun w g1 => (ev b ρ g1).bind fun u g2 => .of (do zipD (← w.see z) (← u.see z)) g2
  | .enm a, ρ, g => (ev a ρ g).bind fun w g1 => .of (do enmD (← w.see z)) g1
end
end
inductive Out where
  | nx (ρ : Env') (g : G) | rt (w : W) (g : G) | ex (c : Nat) (g : G) | no
def Res.out {α : Type} (r : Res α) (f : α → G → Out) : Out :=
  match r with
  | .ok a g => f a g
  | .ex c g => .ex c g
  | .no => .no
@[simp] theorem out_ok {α : Type} (a : α) (g : G) (f : α → G → Out) : (Res.ok a g).out f = f a g := rfl
@[simp] theorem out_ex {α : Type} (c : Nat) (g : G) (f : α → G → Out) : (Res.ex c g : Res α).out f = .ex c g := rfl
@[simp] theorem out_no {α : Type} (f : α → G → Out) : (Res.no : Res α).out f = .no := rfl
def Out.then (o : Out) (f : Env' → G → Out) : Out :=
  match o with
  | .nx ρ g => f ρ g
  | o => o
@[simp] theorem then_nx (ρ : Env') (g : G) (f : Env' → G → Out) : (Out.nx ρ g).then f = f ρ g := rfl
@[simp] theorem then_rt (w : W) (g : G) (f : Env' → G → Out) : (Out.rt w g).then f = .rt w g := rfl
@[simp] theorem then_ex (c : Nat) (g : G) (f : Env' → G → Out) : (Out.ex c g).then f = .ex c g := rfl
@[simp] theorem then_no (f : Env' → G → Out) : (Out.no).then f = .no := rfl
mutual
inductive S where
  | asg (i : Nat) (own : Bool) (e : E) | mov (i j : Nat) | asg2 (i j : Nat) (oi oj : Bool) (a b : E) | asgT (t : Tg) (e : E) | aug (i : Nat) (e : E)
  | app (i : Nat) (e : E) | ext (i : Nat) (e : E) | rem (i : Nat) (e : E) | popT (t : Tg) (l : Nat)
  | dnew (i : Nat) | dset (i : Nat) (k v : E)
  | ife (c : E) (a b : SL) | fr (fz : List Nat) (t : Tg) (s : I) (b : SL) | wh (c : E) (b : SL)
  | ret (e : E) | ex (e : E) | rse (c : Nat) | tryW (b : SL) | tapp (i : Nat)
inductive SL where
  | nil | cons (s : S) (r : SL)
end
/-- store a value at a slot -/
def put (ρ : Env') (i : Nat) (own : Bool) (w : W) : Option Env' :=
  if i < ρ.length then (match w with
  | .own c => if own then some (ρ.set i (some (.own c))) else match c with
    | .lst xs => some (ρ.set i (some (.d (.list xs))))
    | .dct _ => none
  | .pk _ => none
  | .twn => none
  | .scr => none
  | w => some (ρ.set i (some w))) else none
def mask : Env' → Env' → Env'
  | none :: r, _ :: r' => none :: mask r r'
  | some _ :: r, x :: r' => x :: mask r r'
  | [], r => r
  | _ :: _, [] => []
def putK (kvs : List (Int × PyData)) (k : Int) (x : PyData) : List (Int × PyData) :=
  if kvs.any (fun p => decide (p.1 = k)) then kvs.map (fun p => if p.1 = k then (p.1, x) else p) else kvs ++ [(k, x)]
/-- variables' own lists become data -/
def frz : List Nat → Env' → Env'
  | [], ρ => ρ
  | i :: r, ρ => frz r (match ρ[i]? with
    | some (some (.own (.lst xs))) => ρ.set i (some (.d (.list xs)))
    | _ => ρ)
def forL (body : Env' → G → Out) (t : Tg) : List PyData → Env' → G → Out
  | [], ρ, g => .nx ρ g
  | x :: r, ρ, g => match bindT t x ρ with
    | none => .no
    | some ρ1 => (body ρ1 g).then fun ρ2 g2 => forL body t r (mask ρ ρ2) g2
def whileL (cond : Env' → G → Res Bool) (body : Env' → G → Out) : Nat → Env' → G → Out
  | 0, _, _ => .no
  | n + 1, ρ, g => (cond ρ g).out fun b g1 => if b then (body ρ g1).then fun ρ2 g2 => whileL cond body n (mask ρ ρ2) g2 else .nx ρ g1
def fuel : Nat := 10000000000000000000000000000000000000000
/-- the exception that _law_which tells -/
def told (c : Nat) : PyData := .tuple [.str "raised", .int (c : Nat)]
section
variable (Φ : Nat → Fn)
mutual
def run : S → Env' → G → Out
  | .asg i o e, ρ, g => (ev Φ e ρ g).out fun w g1 => (Res.of (put ρ i o w) g1).out fun ρ' g2 => .nx ρ' g2
  | .mov i j, ρ, g => match ρ[j]? with
    | some (some (.own (.lst xs))) => .nx ((ρ.set j (some (.d (.list xs)))).set i (some (.d (.list xs)))) g
    | some (some (.d x)) => .nx (ρ.set i (some (.d x))) g
    | _ => .no
  | .asg2 i j oi oj a b, ρ, g => (ev Φ a ρ g).out fun w g1 => (ev Φ b ρ g1).out fun u g2 => (Res.of (do put (← put ρ j oj u) i oi w) g2).out fun ρ' g3 => .nx ρ' g3
  | .asgT t e, ρ, g => (ev Φ e ρ g).out fun w g1 => (Res.of (do bindT t (← w.fz) ρ) g1).out fun ρ' g2 => .nx ρ' g2
  | .aug i e, ρ, g => match get ρ i with
    | some (.d (.int x)) => (ev Φ e ρ g).out fun w g1 => match w.int? with
      | some y => .nx (ρ.set i (some (.d (.int (x + y))))) g1
      | none => .no
    | _ => .no
  | .app i e, ρ, g => match ρ[i]? with
    | some (some (.own (.lst xs))) => (ev Φ e ρ g).out fun w g1 => match w.fz with
      | some x => if xs.length < lim then .nx (ρ.set i (some (.own (.lst (xs ++ [x]))))) g1 else .no
      | none => .no
    | _ => .no
  | .ext i e, ρ, g => match ρ[i]? with
    | some (some (.own (.lst xs))) => (ev Φ e ρ g).out fun w g1 => match w.fz with
      | some x => match seq? x with
        | some ys => if xs.length + ys.length ≤ lim then .nx (ρ.set i (some (.own (.lst (xs ++ ys))))) g1 else .no
        | none => .no
      | none => .no
    | _ => .no
  | .rem i e, ρ, g => match ρ[i]? with
    | some (some (.own (.lst xs))) => (ev Φ e ρ g).out fun w g1 => match w.fz with
      | some x => if sameShape x (.list xs) then (match idxOf? x xs with
        | some j => .nx (ρ.set i (some (.own (.lst (xs.eraseIdx j))))) g1
        | none => .no) else .no
      | none => .no
    | _ => .no
  | .popT t l, ρ, g => match ρ[l]? with
    | some (some (.own (.lst xs))) => match xs.getLast? with
      | some x => match bindT t x (ρ.set l (some (.own (.lst xs.dropLast)))) with
        | some ρ' => .nx ρ' g
        | none => .no
      | none => .no
    | _ => .no
  | .dnew i, ρ, g => if i < ρ.length then .nx (ρ.set i (some (.own (.dct [])))) g else .no
  | .dset i k v, ρ, g => match ρ[i]? with
    | some (some (.own (.dct kvs))) => (ev Φ v ρ g).out fun w g1 => (ev Φ k ρ g1).out fun u g2 => match w, u.int? with
      | .d x, some n => if noL x = true ∧ kvs.length < 1000 then .nx (ρ.set i (some (.own (.dct (putK kvs n x))))) g2 else .no
      | _, _ => .no
    | _ => .no
  | .ife c a b, ρ, g => (ev Φ c ρ g).out fun w g1 => match w.bl? with
    | some k => if k then runs a ρ g1 else runs b ρ g1
    | none => .no
  | .fr fz t s b, ρ, g => (evi Φ true s (frz fz ρ) g).out fun xs g1 => forL (fun ρ g => runs b ρ g) t xs (frz fz ρ) g1
  | .wh c b, ρ, g => whileL (fun ρ g => (ev Φ c ρ g).bind fun w g1 => .of w.bl? g1) (fun ρ g => runs b ρ g) fuel ρ g
  | .ret e, ρ, g => (ev Φ e ρ g).out fun w g1 => match w with
    | .pk c => .rt (.own c) g1
    | w => .rt w g1
  | .ex e, ρ, g => (ev Φ e ρ g).out fun _ g1 => .nx ρ g1
  | .rse c, _, g => .ex c g
  | .tapp i, ρ, g => match get ρ i with
    | some .twn => if g.k < lim then .nx ρ { g with k := g.k + 1 } else .no
    | _ => .no
  | .tryW b, ρ, g => match runs b ρ g with
    | .ex c g1 => if c < 11 then .rt (.d (told c)) g1 else .no
    | o => o
def runs : SL → Env' → G → Out
  | .nil, ρ, g => .nx ρ g
  | .cons s r, ρ, g => (run s ρ g).then fun ρ' g' => runs r ρ' g'
end
end
/-- a def's value -/
def fnv (Φ : Nat → Fn) (slots : Nat) (b : SL) : Fn := fun ws g =>
  match runs Φ b (ws.map some ++ List.replicate (slots - ws.length) none) g with
  | .nx _ g1 => .ok (.d .none) g1
  | .rt w g1 => .ok w g1
  | .ex c g1 => .ex c g1
  | .no => .no
example (Φ : Nat → Fn) (g : G) : ev Φ (.o2 .add (.v 0) (.c (.int 3))) [some (.d (.int 5))] g = .ok (.d (.int 8)) g := rfl
example (Φ : Nat → Fn) (g : G) (n : Int) : fnv Φ 1 (.cons (.ret (.o2 .add (.v 0) (.c (.int 3)))) .nil) [.d (.int n)] g = .ok (.d (.int (n + 3))) g := rfl
end TP
/-! Values of the small Python in the abstract heap. -/
namespace TP
open PySem L2
/-! ### data that stays -/
mutual
inductive Dq (O : Addr → Prop) (H : Hp) : V → PyData → Prop
  | non : Dq O H .non .none
  | bl (b : Bool) : Dq O H (.bl b) (.bool b)
  | int (i : Int) : Dq O H (.int i) (.int i)
  | str (x : Str) : Dq O H (.str x) (.str x)
  | lst {a : Addr} {xs : List V} {ds : List PyData} : H a = some (.lst xs) → ¬ O a → DqAll O H xs ds → Dq O H (.ref a) (.list ds)
  | tup {a : Addr} {xs : List V} {ds : List PyData} : H a = some (.tup xs) → DqAll O H xs ds → Dq O H (.ref a) (.tuple ds)
inductive DqAll (O : Addr → Prop) (H : Hp) : List V → List PyData → Prop
  | nil : DqAll O H [] []
  | cons {v : V} {vs : List V} {d : PyData} {ds : List PyData} : Dq O H v d → DqAll O H vs ds → DqAll O H (v :: vs) (d :: ds)
end
section
variable {O O' : Addr → Prop} {H H' : Hp}
mutual
theorem Dq.mono (hl : ∀ a xs, H a = some (.lst xs) → ¬ O a → H' a = some (.lst xs) ∧ ¬ O' a) (ht : ∀ a xs, H a = some (.tup xs) → H' a = some (.tup xs)) : ∀ {v : V} {x : PyData}, Dq O H v x → Dq O' H' v x
  | _, _, .non => .non
  | _, _, .bl b => .bl b
  | _, _, .int i => .int i
  | _, _, .str x => .str x
  | _, _, .lst h n r => .lst (hl _ _ h n).1 (hl _ _ h n).2 (DqAll.mono hl ht r)
  | _, _, .tup h r => .tup (ht _ _ h) (DqAll.mono hl ht r)
theorem DqAll.mono (hl : ∀ a xs, H a = some (.lst xs) → ¬ O a → H' a = some (.lst xs) ∧ ¬ O' a) (ht : ∀ a xs, H a = some (.tup xs) → H' a = some (.tup xs)) : ∀ {v : List V} {x : List PyData}, DqAll O H v x → DqAll O' H' v x
  | _, _, .nil => .nil
  | _, _, .cons h r => .cons (Dq.mono hl ht h) (DqAll.mono hl ht r)
end
mutual
/-- data without lists hangs on the tuples alone -/
theorem Dq.noL (ht : ∀ a xs, H a = some (.tup xs) → H' a = some (.tup xs)) : ∀ {v : V} {x : PyData}, Dq O H v x → TP.noL x = true → Dq O' H' v x
  | _, _, .non, _ => .non
  | _, _, .bl b, _ => .bl b
  | _, _, .int i, _ => .int i
  | _, _, .str x, _ => .str x
  | _, _, .lst h n r, q => by simp [TP.noL] at q
  | _, _, .tup h r, q => .tup (ht _ _ h) (DqAll.noL ht r (by simpa [TP.noL] using q))
theorem DqAll.noL (ht : ∀ a xs, H a = some (.tup xs) → H' a = some (.tup xs)) : ∀ {v : List V} {x : List PyData}, DqAll O H v x → TP.noLs x = true → DqAll O' H' v x
  | _, _, .nil, _ => .nil
  | _, _, .cons h r, q => by
    have q' := q
    simp only [TP.noLs, Bool.and_eq_true] at q'
    exact .cons (Dq.noL ht h q'.1) (DqAll.noL ht r q'.2)
end
mutual
theorem Dq.dp {K : PySem.W.Frag} : ∀ {v : V} {x : PyData}, Dq O H v x → Dp K H v x
  | _, _, .non => .non
  | _, _, .bl b => .bl b
  | _, _, .int i => .int i
  | _, _, .str x => .str x
  | _, _, .lst h n r => .lst (SqL.of h) (DqAll.dp r)
  | _, _, .tup h r => .tup (SqT.of h) (DqAll.dp r)
theorem DqAll.dp {K : PySem.W.Frag} : ∀ {v : List V} {x : List PyData}, DqAll O H v x → DpAll K H v x
  | _, _, .nil => .nil
  | _, _, .cons h r => .cons (Dq.dp h) (DqAll.dp r)
end
theorem DqAll.len : ∀ {vs : List V} {xs : List PyData}, DqAll O H vs xs → vs.length = xs.length
  | _, _, .nil => rfl
  | _, _, .cons _ r => by rw [List.length_cons, List.length_cons, r.len]
theorem DqAll.get : ∀ {vs : List V} {xs : List PyData} {i : Nat} {x : PyData}, DqAll O H vs xs → xs[i]? = some x → ∃ v, vs[i]? = some v ∧ Dq O H v x
  | _, _, _, _, .nil, h => by simp at h
  | _, _, 0, _, .cons q _, h => by
    simp at h
    subst h
    exact ⟨_, rfl, q⟩
  | _, _, i + 1, x, .cons _ r, h => by
    obtain ⟨v, h1, h2⟩ := DqAll.get (i := i) (x := x) r (by simpa using h)
    exact ⟨v, by simpa using h1, h2⟩
theorem DqAll.getV : ∀ {vs : List V} {xs : List PyData} {i : Nat} {v : V}, DqAll O H vs xs → vs[i]? = some v → ∃ x, xs[i]? = some x ∧ Dq O H v x
  | _, _, _, _, .nil, h => by simp at h
  | _, _, 0, _, .cons q _, h => by
    simp at h
    subst h
    exact ⟨_, rfl, q⟩
  | _, _, i + 1, x, .cons _ r, h => by
    obtain ⟨v, h1, h2⟩ := DqAll.getV (i := i) (v := x) r (by simpa using h)
    exact ⟨v, by simpa using h1, h2⟩
theorem DqAll.of : ∀ {vs : List V} {xs : List PyData}, vs.length = xs.length → (∀ (i : Nat) (v : V) (x : PyData), vs[i]? = some v → xs[i]? = some x → Dq O H v x) → DqAll O H vs xs
  | [], [], _, _ => .nil
  | v :: vs, x :: xs, hl, h => .cons (h 0 v x rfl rfl) (DqAll.of (by simpa using hl) fun i v x a b => h (i + 1) v x (by simpa using a) (by simpa using b))
  | [], _ :: _, h, _ => by simp at h
  | _ :: _, [], h, _ => by simp at h
theorem DqAll.append : ∀ {vs ws : List V} {xs ys : List PyData}, DqAll O H vs xs → DqAll O H ws ys → DqAll O H (vs ++ ws) (xs ++ ys)
  | _, _, _, _, .nil, s => s
  | _, _, _, _, .cons q r, s => .cons q (r.append s)
theorem DqAll.drop : ∀ (n : Nat) {vs : List V} {xs : List PyData}, DqAll O H vs xs → DqAll O H (vs.drop n) (xs.drop n)
  | 0, _, _, r => r
  | n + 1, _, _, .nil => .nil
  | n + 1, _, _, .cons _ r => r.drop n
theorem DqAll.take : ∀ (n : Nat) {vs : List V} {xs : List PyData}, DqAll O H vs xs → DqAll O H (vs.take n) (xs.take n)
  | 0, _, _, _ => .nil
  | n + 1, _, _, .nil => .nil
  | n + 1, _, _, .cons q r => .cons q (r.take n)
theorem DqAll.rev {vs : List V} {xs : List PyData} (r : DqAll O H vs xs) : DqAll O H vs.reverse xs.reverse := by
  induction vs generalizing xs with
  | nil => cases r; exact .nil
  | cons v vs ih =>
    cases r with
    | cons q r =>
      rw [List.reverse_cons, List.reverse_cons]
      exact (ih r).append (.cons q .nil)
theorem DqAll.eraseIdx : ∀ (n : Nat) {vs : List V} {xs : List PyData}, DqAll O H vs xs → DqAll O H (vs.eraseIdx n) (xs.eraseIdx n)
  | _, _, _, .nil => .nil
  | 0, _, _, .cons _ r => r
  | n + 1, _, _, .cons q r => .cons q (r.eraseIdx n)
theorem DqAll.dropLast {vs : List V} {xs : List PyData} (r : DqAll O H vs xs) : DqAll O H vs.dropLast xs.dropLast := by
  rw [List.dropLast_eq_take, List.dropLast_eq_take, r.len]
  exact r.take _
theorem DqAll.rep {vs : List V} {xs : List PyData} (r : DqAll O H vs xs) : ∀ k : Nat, DqAll O H (List.replicate k vs).flatten (List.replicate k xs).flatten
  | 0 => .nil
  | k + 1 => by
    rw [List.replicate_succ, List.replicate_succ, List.flatten_cons, List.flatten_cons]
    exact r.append (r.rep k)
theorem DqAll.ints : ∀ {xs : List PyData} {vs : List V} {ns : List Int}, DqAll O H vs xs → ints? xs = some ns → vs = ns.map V.int
  | [], _, ns, .nil, h => by
    simp [ints?] at h
    subst h
    rfl
  | .int i :: r, _, ns, .cons q s, h => by
    cases q
    simp only [ints?, Option.map_eq_some_iff] at h
    obtain ⟨ms, h1, rfl⟩ := h
    rw [s.ints h1]
    rfl
  | .none :: r, _, ns, _, h => by simp [ints?] at h
  | .bool _ :: r, _, ns, _, h => by simp [ints?] at h
  | .str _ :: r, _, ns, _, h => by simp [ints?] at h
  | .list _ :: r, _, ns, _, h => by simp [ints?] at h
  | .tuple _ :: r, _, ns, _, h => by simp [ints?] at h
  | .dict _ :: r, _, ns, _, h => by simp [ints?] at h
theorem DqAll.bools : ∀ {xs : List PyData} {vs : List V} {ns : List Bool}, DqAll O H vs xs → bools? xs = some ns → vs = ns.map V.bl
  | [], _, ns, .nil, h => by
    simp [bools?] at h
    subst h
    rfl
  | .bool i :: r, _, ns, .cons q s, h => by
    cases q
    simp only [bools?, Option.map_eq_some_iff] at h
    obtain ⟨ms, h1, rfl⟩ := h
    rw [s.bools h1]
    rfl
  | .none :: r, _, ns, _, h => by simp [bools?] at h
  | .int _ :: r, _, ns, _, h => by simp [bools?] at h
  | .str _ :: r, _, ns, _, h => by simp [bools?] at h
  | .list _ :: r, _, ns, _, h => by simp [bools?] at h
  | .tuple _ :: r, _, ns, _, h => by simp [bools?] at h
  | .dict _ :: r, _, ns, _, h => by simp [bools?] at h
theorem DqAll.strs : ∀ {xs : List PyData} {vs : List V} {ns : List Str}, DqAll O H vs xs → strs? xs = some ns → vs = ns.map V.str
  | [], _, ns, .nil, h => by
    simp [strs?] at h
    subst h
    rfl
  | .str i :: r, _, ns, .cons q s, h => by
    cases q
    simp only [strs?, Option.map_eq_some_iff] at h
    obtain ⟨ms, h1, rfl⟩ := h
    rw [s.strs h1]
    rfl
  | .none :: r, _, ns, _, h => by simp [strs?] at h
  | .int _ :: r, _, ns, _, h => by simp [strs?] at h
  | .bool _ :: r, _, ns, _, h => by simp [strs?] at h
  | .list _ :: r, _, ns, _, h => by simp [strs?] at h
  | .tuple _ :: r, _, ns, _, h => by simp [strs?] at h
  | .dict _ :: r, _, ns, _, h => by simp [strs?] at h
end
/-! ### objects that may change -/
abbrev OA := List (Addr × Addr × Addr)
def Mb (tw : Addr) (oa : OA) (b : Addr) : Prop := b = tw ∨ ∃ t ∈ oa, b = t.1 ∨ b = t.2.1 ∨ b = t.2.2
/-- what stands stays, but for what may change in M -/
structure Ext (M : Addr → Prop) (H H' : Hp) : Prop where
  keep : ∀ b o, H b = some o → (¬ M b ∨ ¬ Mut (some o)) → H' b = some o
  dom : ∀ b, H' b = none → H b = none
theorem Ext.refl (M : Addr → Prop) (H : Hp) : Ext M H H := ⟨fun _ _ h _ => h, fun _ h => h⟩
theorem Ext.trans {M M' : Addr → Prop} {H H1 H2 : Hp} (a : Ext M H H1) (b : Ext M' H1 H2) (h : ∀ x, M' x → M x ∨ H x = none) : Ext M H H2 := by
  refine ⟨fun x o e q => b.keep x o (a.keep x o e q) ?_, fun x e => a.dom x (b.dom x e)⟩
  rcases q with q | q
  · left
    intro z
    rcases h x z with z | z
    · exact q z
    · rw [e] at z; cases z
  · exact .inr q
theorem Ext.tup {M : Addr → Prop} {H H' : Hp} (x : Ext M H H') : ∀ a xs, H a = some (.tup xs) → H' a = some (.tup xs) := fun a xs e => x.keep a _ e (.inr fun z => z)
theorem Ext.upd {M : Addr → Prop} {H : Hp} {p : Addr} {o : HO} (h : H p = none) : Ext M H (upd H p o) := by
  refine ⟨fun b u e _ => ?_, fun b e => ?_⟩
  · rw [upd_ne (ne_of_none e h)]; exact e
  · by_cases hb : b = p
    · subst hb; exact h
    · rw [upd_ne hb] at e; exact e
structure Fm where
  K : PySem.W.Frag
  tw : Addr
  sa : Addr
  C : Addr
  HE : Hp
  oaE : OA
  cb : Addr → Prop
def Own (F : Fm) (oa : OA) (al : List (Option Addr)) (b : Addr) : Prop := Mb F.tw oa b ∨ F.cb b ∨ some b ∈ al
def SqF (K : PySem.W.Frag) (H : Hp) (a : Addr) (xs : List V) : Prop :=
  (∃ o, H a = some (.frz o (.lst xs))) ∨
    ∃ (o : Obj) (its : Array Value) (n : Nat), K.lookup a = some o ∧ o.cls = .type "list" ∧ o.dict = none ∧ o.data = .seq its n ∧ its.size ≤ sizeLine ∧ Vals xs its.toList
theorem SqF.sq {K : PySem.W.Frag} {H : Hp} {a : Addr} {xs : List V} (h : SqF K H a xs) : SqL K H a xs := by
  rcases h with ⟨o, h⟩ | h
  · exact .inl (.inr ⟨o, h⟩)
  · exact .inr h
theorem SqF.ext {K : PySem.W.Frag} {M : Addr → Prop} {H H' : Hp} {a : Addr} {xs : List V} (h : SqF K H a xs) (e : Ext M H H') : SqF K H' a xs := by
  rcases h with ⟨o, h⟩ | h
  · exact .inl ⟨o, e.keep _ _ h (.inr fun z => z)⟩
  · exact .inr h
def ogFs (l : Addr) (og : Og) : List (Str × V) := [("players", .int og.n), ("threes", .ref l), ("kept", .int (og.kept : Nat))]
structure OgOk (C : Addr) (H : Hp) (t : Addr × Addr × Addr) (og : Og) : Prop where
  ob : H t.1 = some (.ins C t.2.1 (ogFs t.2.2 og))
  own : H t.2.1 = some (.own t.1)
  ls : ∃ vs, H t.2.2 = some (.lst vs) ∧ DqAll (fun _ => True) H vs og.th
structure GRel (F : Fm) (oa : OA) (g : G) (H : Hp) : Prop where
  tw : H F.tw = some (.lst (List.replicate g.k (.int 0)))
  sc : SqF F.K H F.sa (g.ns.map V.int)
  os : ∀ (i : Nat) (og : Og), g.os[i]? = some og → ∃ t, oa[i]? = some t ∧ OgOk F.C H t og
  len : oa.length = g.os.length
  nd : (oa.map (·.2.2)).Nodup
  nt : F.tw ∉ oa.map (·.2.2)
def OaLe (oa oa' : OA) : Prop := ∀ (i : Nat) (t : Addr × Addr × Addr), oa[i]? = some t → ∃ l, oa'[i]? = some (t.1, t.2.1, l)
theorem OaLe.refl (oa : OA) : OaLe oa oa := fun i t h => ⟨t.2.2, h⟩
theorem OaLe.trans {a b c : OA} (x : OaLe a b) (y : OaLe b c) : OaLe a c := fun i t h => by
  obtain ⟨l, h1⟩ := x i t h
  obtain ⟨l', h2⟩ := y i _ h1
  exact ⟨l', h2⟩
structure Step (F : Fm) (oa oa' : OA) (g' : G) (H H' : Hp) : Prop where
  ext : Ext (Mb F.tw oa) H H'
  gr : GRel F oa' g' H'
  new : ∀ b, Mb F.tw oa' b → Mb F.tw oa b ∨ H b = none
  le : OaLe oa oa'
theorem Step.trans {F : Fm} {oa oa1 oa2 : OA} {g1 g2 : G} {H H1 H2 : Hp} (a : Step F oa oa1 g1 H H1) (b : Step F oa1 oa2 g2 H1 H2) : Step F oa oa2 g2 H H2 := by
  refine ⟨a.ext.trans b.ext a.new, b.gr, fun x h => ?_, a.le.trans b.le⟩
  rcases b.new x h with h | h
  · exact a.new x h
  · exact .inr (a.ext.dom x h)
theorem Step.refl {F : Fm} {oa : OA} {g : G} {H : Hp} (gr : GRel F oa g H) : Step F oa oa g H H := ⟨Ext.refl _ _, gr, fun _ h => .inl h, OaLe.refl _⟩
theorem GRel.upd {F : Fm} {oa : OA} {g : G} {H : Hp} {p : Addr} {o : HO} (gr : GRel F oa g H) (h : H p = none) : GRel F oa g (upd H p o) := by
  have k : ∀ b u, H b = some u → L2.upd H p o b = some u := fun b u e => by rw [upd_ne (ne_of_none e h)]; exact e
  refine ⟨k _ _ gr.tw, gr.sc.ext (M := fun _ => False) (Ext.upd h), fun i og e => ?_, gr.len, gr.nd, gr.nt⟩
  obtain ⟨t, h1, ⟨h2, h3, vs, h4, h5⟩⟩ := gr.os i og e
  exact ⟨t, h1, ⟨k _ _ h2, k _ _ h3, vs, k _ _ h4, h5.mono (fun a xs _ n => absurd trivial n) fun a xs q => k _ _ q⟩⟩
/-- a new object -/
theorem Step.upd {F : Fm} {oa : OA} {g : G} {H : Hp} {p : Addr} {o : HO} (gr : GRel F oa g H) (h : H p = none) : Step F oa oa g H (upd H p o) :=
  ⟨Ext.upd h, gr.upd h, fun _ z => .inl z, OaLe.refl _⟩
/-! ### values -/
def ConOk (O : Addr → Prop) (H : Hp) (p : Addr) : Con → Prop
  | .lst xs => ∃ vs, H p = some (.lst vs) ∧ DqAll O H vs xs
  | .dct kvs => ∃ es : List (Key × V), H p = some (.dK es) ∧ PySem.Paired (fun (e : Key × V) (q : Int × PyData) => e.1 = Sum.inl q.1 ∧ Dq (fun _ => True) H e.2 q.2) es kvs
def WOk (F : Fm) (oa : OA) (al : List (Option Addr)) (H0 H : Hp) (v : V) : W → Prop
  | .d x => Dq (Own F oa al) H v x
  | .own c => ∃ p, v = .ref p ∧ H0 p = none ∧ ¬ Own F oa al p ∧ ConOk (fun b => Own F oa al b ∨ b = p) H p c
  | .pk c => ∃ p, v = .ref p ∧ some p ∈ al ∧ ConOk (Own F oa al) H p c
  | .twn => v = .ref F.tw
  | .scr => v = .ref F.sa
  | .obj i => ∃ t, oa[i]? = some t ∧ v = .ref t.1
end TP
/-! The frame's relation, the judgements. -/
namespace TP
open PySem L2
theorem Own.of_step {F : Fm} {oa oa' : OA} {al : List (Option Addr)} {g' : G} {H H' : Hp} (st : Step F oa oa' g' H H') {b : Addr} {o : HO} (hb : H b = some o) (h : Own F oa' al b) : Own F oa al b := by
  rcases h with h | h
  · rcases st.new b h with h | h
    · exact .inl h
    · rw [hb] at h; cases h
  · exact .inr h
theorem Dq.step {F : Fm} {oa oa' : OA} {al : List (Option Addr)} {g' : G} {H H' : Hp} (st : Step F oa oa' g' H H') {v : V} {x : PyData} (h : Dq (Own F oa al) H v x) : Dq (Own F oa' al) H' v x :=
  h.mono (fun a xs e n => ⟨st.ext.keep a _ e (.inl fun z => n (.inl z)), fun z => n (Own.of_step st e z)⟩) st.ext.tup
theorem DqAll.step {F : Fm} {oa oa' : OA} {al : List (Option Addr)} {g' : G} {H H' : Hp} (st : Step F oa oa' g' H H') {v : List V} {x : List PyData} (h : DqAll (Own F oa al) H v x) : DqAll (Own F oa' al) H' v x :=
  h.mono (fun a xs e n => ⟨st.ext.keep a _ e (.inl fun z => n (.inl z)), fun z => n (Own.of_step st e z)⟩) st.ext.tup
theorem PairedImp {α β : Type} {F G : α → β → Prop} (h : ∀ a b, F a b → G a b) : ∀ {l : List α} {m : List β}, PySem.Paired F l m → PySem.Paired G l m
  | _, _, .nil => .nil
  | _, _, .cons r t => .cons (h _ _ r) (PairedImp h t)
theorem dqTrue {O : Addr → Prop} {H : Hp} {v : V} {x : PyData} (h : Dq (fun _ => True) H v x) : Dq O H v x := h.mono (fun a xs _ n => absurd trivial n) fun _ _ e => e
theorem dqTrueAll {O : Addr → Prop} {H : Hp} {v : List V} {x : List PyData} (h : DqAll (fun _ => True) H v x) : DqAll O H v x := h.mono (fun a xs _ n => absurd trivial n) fun _ _ e => e
/-- contents carried over -/
theorem ConOk.go {O O' : Addr → Prop} {H H' : Hp} {p : Addr} {c : Con} (h : ConOk O H p c) (hp : ∀ o, H p = some o → H' p = some o) (hl : ∀ a xs, H a = some (.lst xs) → ¬ O a → H' a = some (.lst xs) ∧ ¬ O' a) (ht : ∀ a xs, H a = some (.tup xs) → H' a = some (.tup xs)) : ConOk O' H' p c := by
  cases c with
  | lst xs =>
    obtain ⟨vs, e, r⟩ := h
    exact ⟨vs, hp _ e, r.mono hl ht⟩
  | dct kvs =>
    obtain ⟨es, e, r⟩ := h
    exact ⟨es, hp _ e, PairedImp (fun a b z => ⟨z.1, z.2.mono (fun a xs _ n => absurd trivial n) ht⟩) r⟩
theorem ConOk.some {O : Addr → Prop} {H : Hp} {p : Addr} {c : Con} (h : ConOk O H p c) : ∃ o, H p = some o ∧ Mut (some o) := by
  cases c with
  | lst xs => obtain ⟨vs, e, r⟩ := h; exact ⟨_, e, trivial⟩
  | dct xs => obtain ⟨vs, e, r⟩ := h; exact ⟨_, e, trivial⟩
/-- a slot's value -/
def VOk (F : Fm) (oa : OA) (al : List (Option Addr)) (H : Hp) (i : Nat) (v : V) : W → Prop
  | .d x => Dq (Own F oa al) H v x
  | .own c => ∃ p, v = .ref p ∧ al[i]? = some (some p) ∧ ConOk (Own F oa al) H p c
  | .pk _ => False
  | .twn => v = .ref F.tw
  | .scr => v = .ref F.sa
  | .obj j => ∃ t, oa[j]? = some t ∧ v = .ref t.1
structure Rel (F : Fm) (oa : OA) (al : List (Option Addr)) (ρ : Env') (g : G) (σ : St) (H : Hp) : Prop where
  ls : ρ.length = σ.length
  la : ρ.length ≤ al.length
  cell : ∀ (i : Nat) (w : W), ρ[i]? = some (some w) → ∃ v, σ[i]? = some (some v) ∧ VOk F oa al H i v w
  inj : ∀ (i j : Nat) (p : Addr), al[i]? = some (some p) → al[j]? = some (some p) → i = j
  fresh : ∀ (p : Addr), some p ∈ al → F.HE p = none ∧ ¬ Mb F.tw oa p ∧ ¬ F.cb p ∧ ∃ o, H p = some o
  ext : Ext (Mb F.tw F.oaE) F.HE H
  gr : GRel F oa g H
  new : ∀ b, Mb F.tw oa b → Mb F.tw F.oaE b ∨ F.HE b = none
  le : OaLe F.oaE oa
  cbE : ∀ b, F.cb b → ∃ o, F.HE b = some o
theorem Rel.step {F : Fm} {oa oa' : OA} {al : List (Option Addr)} {ρ : Env'} {g g' : G} {σ : St} {H H' : Hp} (R : Rel F oa al ρ g σ H) (st : Step F oa oa' g' H H') : Rel F oa' al ρ g' σ H' := by
  refine ⟨R.ls, R.la, fun i w e => ?_, R.inj, fun p hp => ?_, R.ext.trans st.ext R.new, st.gr, fun b hb => ?_, R.le.trans st.le, R.cbE⟩
  · obtain ⟨v, e1, q⟩ := R.cell i w e
    refine ⟨v, e1, ?_⟩
    cases w with
    | d x => exact Dq.step st q
    | own c =>
      obtain ⟨p, rfl, e2, q⟩ := q
      refine ⟨p, rfl, e2, q.go (fun o z => st.ext.keep p o z (.inl (R.fresh p (List.mem_of_getElem? e2)).2.1)) (fun a xs e n => ⟨st.ext.keep a _ e (.inl fun z => n (.inl z)), fun z => n (Own.of_step st e z)⟩) st.ext.tup⟩
    | pk c => exact q
    | twn => exact q
    | scr => exact q
    | obj j =>
      obtain ⟨t, e2, rfl⟩ := q
      obtain ⟨l, e3⟩ := st.le j t e2
      exact ⟨_, e3, rfl⟩
  · obtain ⟨h1, h2, h3, o, h4⟩ := R.fresh p hp
    refine ⟨h1, fun z => ?_, h3, o, st.ext.keep p o h4 (.inl h2)⟩
    rcases st.new p z with z | z
    · exact h2 z
    · rw [h4] at z; cases z
  · rcases st.new b hb with h | h
    · exact R.new b h
    · exact .inr (R.ext.dom b h)
/-- a temporary value carried over -/
theorem WOk.step {F : Fm} {oa oa' : OA} {al : List (Option Addr)} {ρ : Env'} {g g' : G} {σ : St} {H0 H H' : Hp} {v : V} {w : W} (R : Rel F oa al ρ g σ H) (h : WOk F oa al H0 H v w) (st : Step F oa oa' g' H H') : WOk F oa' al H0 H' v w := by
  cases w with
  | d x => exact Dq.step st h
  | own c =>
    obtain ⟨p, rfl, e0, n, q⟩ := h
    obtain ⟨o, eo, _⟩ := q.some
    have n' : ¬ Own F oa' al p := fun z => n (Own.of_step st eo z)
    refine ⟨p, rfl, e0, n', q.go (fun o z => st.ext.keep p o z (.inl fun z => n (.inl z))) (fun a xs e m => ⟨st.ext.keep a _ e (.inl fun z => m (.inl (.inl z))), fun z => ?_⟩) st.ext.tup⟩
    rcases z with z | z
    · exact m (.inl (Own.of_step st e z))
    · exact m (.inr z)
  | pk c =>
    obtain ⟨p, rfl, hp, q⟩ := h
    exact ⟨p, rfl, hp, q.go (fun o z => st.ext.keep p o z (.inl (R.fresh p hp).2.1)) (fun a xs e n => ⟨st.ext.keep a _ e (.inl fun z => n (.inl z)), fun z => n (Own.of_step st e z)⟩) st.ext.tup⟩
  | twn => exact h
  | scr => exact h
  | obj j =>
    obtain ⟨t, e2, rfl⟩ := h
    obtain ⟨l, e3⟩ := st.le j t e2
    exact ⟨_, e3, rfl⟩
/-- fresh since earlier -/
theorem WOk.earlier {F : Fm} {oa : OA} {al : List (Option Addr)} {H0 H1 H : Hp} {v : V} {w : W} (h : WOk F oa al H1 H v w) (e : ∀ b, H1 b = none → H0 b = none) : WOk F oa al H0 H v w := by
  cases w with
  | own c => obtain ⟨p, rfl, e0, r⟩ := h; exact ⟨p, rfl, e _ e0, r⟩
  | _ => exact h
theorem Rel.look {F : Fm} {oa : OA} {al : List (Option Addr)} {ρ : Env'} {g : G} {σ : St} {H : Hp} {i : Nat} {w : W} (R : Rel F oa al ρ g σ H) (h : get ρ i = some w) : ∃ v, σ[i]? = some (some v) ∧ WOk F oa al H H v w := by
  unfold get at h
  split at h
  · rename_i u e
    obtain rfl := Option.some.inj h
    obtain ⟨v, e1, q⟩ := R.cell i u e
    refine ⟨v, e1, ?_⟩
    cases u with
    | own c => obtain ⟨p, rfl, e2, q⟩ := q; exact ⟨p, rfl, List.mem_of_getElem? e2, q⟩
    | d x => exact q
    | pk c => exact q.elim
    | twn => exact q
    | scr => exact q
    | obj j => exact q
  · cases h
/-- what may be read: its items stay -/
inductive Dr (O : Addr → Prop) (H : Hp) (v : V) (x : PyData) : Prop
  | st (h : Dq O H v x) : Dr O H v x
  | ls (p : Addr) (xs : List PyData) (vs : List V) (e : v = .ref p) (ex : x = .list xs) (h : H p = some (.lst vs)) (r : DqAll O H vs xs) : Dr O H v x
theorem Dr.dp {K : PySem.W.Frag} {O : Addr → Prop} {H : Hp} {v : V} {x : PyData} (h : Dr O H v x) : Dp K H v x := by
  cases h with
  | st h => exact h.dp
  | ls p xs vs e ex h r => subst e; subst ex; exact .lst (SqL.of h) r.dp
theorem Dr.list {O : Addr → Prop} {H : Hp} {v : V} {xs : List PyData} (h : Dr O H v (.list xs)) : ∃ p vs, v = .ref p ∧ H p = some (.lst vs) ∧ DqAll O H vs xs := by
  cases h with
  | st h => cases h with
    | lst e n r => exact ⟨_, _, rfl, e, r⟩
  | ls p ys vs e ex h r => cases ex; exact ⟨p, vs, e, h, r⟩
theorem Dr.tuple {O : Addr → Prop} {H : Hp} {v : V} {xs : List PyData} (h : Dr O H v (.tuple xs)) : ∃ p vs, v = .ref p ∧ H p = some (.tup vs) ∧ DqAll O H vs xs := by
  cases h with
  | st h => cases h with
    | tup e r => exact ⟨_, _, rfl, e, r⟩
  | ls p ys vs e ex h r => cases ex
theorem Dr.int {O : Addr → Prop} {H : Hp} {v : V} {i : Int} (h : Dr O H v (.int i)) : v = .int i := by
  cases h with
  | st h => cases h; rfl
  | ls p ys vs e ex h r => cases ex
theorem Dr.bool {O : Addr → Prop} {H : Hp} {v : V} {i : Bool} (h : Dr O H v (.bool i)) : v = .bl i := by
  cases h with
  | st h => cases h; rfl
  | ls p ys vs e ex h r => cases ex
theorem Dr.none {O : Addr → Prop} {H : Hp} {v : V} (h : Dr O H v .none) : v = .non := by
  cases h with
  | st h => cases h; rfl
  | ls p ys vs e ex h r => cases ex
theorem Dr.str {O : Addr → Prop} {H : Hp} {v : V} {z : Str} (h : Dr O H v (.str z)) : v = .str z := by
  cases h with
  | st h => cases h; rfl
  | ls p ys vs e ex h r => cases ex
theorem WOk.rd {F : Fm} {oa : OA} {al : List (Option Addr)} {H0 H : Hp} {v : V} {w : W} {x : PyData} (h : WOk F oa al H0 H v w) (e : w.rd = some x) : Dr (Own F oa al) H v x := by
  cases w with
  | d y => obtain rfl := Option.some.inj e; exact .st h
  | own c =>
    cases c with
    | lst xs =>
      obtain rfl := Option.some.inj e
      obtain ⟨p, rfl, _, n, vs, h1, r⟩ := h
      exact .ls p xs vs rfl rfl h1 (r.mono (fun a ys e m => ⟨e, fun z => m (.inl z)⟩) fun _ _ e => e)
    | dct _ => cases e
  | pk c =>
    cases c with
    | lst xs =>
      obtain rfl := Option.some.inj e
      obtain ⟨p, rfl, _, vs, h1, r⟩ := h
      exact .ls p xs vs rfl rfl h1 r
    | dct _ => cases e
  | twn => cases e
  | scr => cases e
  | obj _ => cases e
theorem WOk.fz {F : Fm} {oa : OA} {al : List (Option Addr)} {H0 H : Hp} {v : V} {w : W} {x : PyData} (h : WOk F oa al H0 H v w) (e : w.fz = some x) : Dq (Own F oa al) H v x := by
  cases w with
  | d y => obtain rfl := Option.some.inj e; exact h
  | own c =>
    cases c with
    | lst xs =>
      obtain rfl := Option.some.inj e
      obtain ⟨p, rfl, _, n, vs, h1, r⟩ := h
      exact .lst h1 n (r.mono (fun a ys e m => ⟨e, fun z => m (.inl z)⟩) fun _ _ e => e)
    | dct _ => cases e
  | pk c => cases e
  | twn => cases e
  | scr => cases e
  | obj _ => cases e
/-- a new object of data, as a value -/
theorem WOk.newTup {F : Fm} {oa : OA} {al : List (Option Addr)} {H0 H : Hp} {p : Addr} {vs : List V} {xs : List PyData} (r : DqAll (Own F oa al) H vs xs) (hp : H p = none) : WOk F oa al H0 (upd H p (.tup vs)) (.ref p) (.d (.tuple xs)) :=
  .tup upd_same (r.mono (fun a ys e n => ⟨by rw [upd_ne (ne_of_none e hp)]; exact e, n⟩) fun a ys e => by rw [upd_ne (ne_of_none e hp)]; exact e)
theorem WOk.newLst {F : Fm} {oa : OA} {al : List (Option Addr)} {H0 H : Hp} {p : Addr} {vs : List V} {xs : List PyData} (r : DqAll (Own F oa al) H vs xs) (hp : H p = none) (h0 : H0 p = none) (n : ¬ Own F oa al p) : WOk F oa al H0 (upd H p (.lst vs)) (.ref p) (.own (.lst xs)) :=
  ⟨p, rfl, h0, n, vs, upd_same, r.mono (fun a ys e m => ⟨by rw [upd_ne (ne_of_none e hp)]; exact e, fun z => z.elim m fun z => (ne_of_none e hp) z⟩) fun a ys e => by rw [upd_ne (ne_of_none e hp)]; exact e⟩
/-- a new address is nobody's own -/
theorem Rel.nown {F : Fm} {oa : OA} {al : List (Option Addr)} {ρ : Env'} {g : G} {σ : St} {H : Hp} {p : Addr} (R : Rel F oa al ρ g σ H) (hp : H p = none) : ¬ Own F oa al p := by
  rintro (h | h | h)
  · rcases h with h | ⟨t, ht, h⟩
    · rw [h, R.gr.tw] at hp; cases hp
    · obtain ⟨i, hi, e⟩ := List.mem_iff_getElem.mp ht
      have e' : oa[i]? = some t := by rw [List.getElem?_eq_getElem hi, e]
      have hl : i < g.os.length := by rw [← R.gr.len]; exact hi
      obtain ⟨t', e2, q⟩ := R.gr.os i g.os[i] (List.getElem?_eq_getElem hl)
      rw [e'] at e2
      obtain rfl := Option.some.inj e2
      rcases h with h | h | h
      · rw [h, q.ob] at hp; cases hp
      · rw [h, q.own] at hp; cases hp
      · obtain ⟨vs, h1, _⟩ := q.ls
        rw [h, h1] at hp; cases hp
  · obtain ⟨o, ho⟩ := R.cbE p h
    have := R.ext.dom p hp
    rw [ho] at this; cases this
  · obtain ⟨_, _, _, o, ho⟩ := R.fresh p h
    rw [hp] at ho; cases ho
/-! ### the judgements -/
/-- what a value's reading says -/
def Post (F : Fm) (oa : OA) (al : List (Option Addr)) (cls : Nat → Addr) (σ : St) (H : Hp) (Wx : WX) (Q : VK) : Res W → Prop
  | .ok w g' => ∀ oa' v H', Step F oa oa' g' H H' → WOk F oa' al H H' v w → Q v H'
  | .ex c g' => ∀ oa' H', Step F oa oa' g' H H' → Wx (.ref (cls c)) none σ H'
  | .no => False
def tE (K : PySem.W.Frag) (C : Addr) (cls : Nat → Addr) (Wx : WX) (f : Env' → G → Res W) : TE := fun σ H Q => ∃ F oa al ρ g, F.K = K ∧ F.C = C ∧ Rel F oa al ρ g σ H ∧ Post F oa al cls σ H Wx Q (f ρ g)
def PostB (F : Fm) (oa : OA) (al : List (Option Addr)) (cls : Nat → Addr) (σ : St) (H : Hp) (Wx : WX) (Q : Bool → Hp → Prop) : Res Bool → Prop
  | .ok w g' => ∀ oa' H', Step F oa oa' g' H H' → Q w H'
  | .ex c g' => ∀ oa' H', Step F oa oa' g' H H' → Wx (.ref (cls c)) none σ H'
  | .no => False
def tT (K : PySem.W.Frag) (C : Addr) (cls : Nat → Addr) (Wx : WX) (f : Env' → G → Res Bool) : TT := fun σ H Q => ∃ F oa al ρ g, F.K = K ∧ F.C = C ∧ Rel F oa al ρ g σ H ∧ PostB F oa al cls σ H Wx Q (f ρ g)
inductive WsOk (F : Fm) (oa : OA) (al : List (Option Addr)) (H0 H : Hp) : List V → List W → Prop
  | nil : WsOk F oa al H0 H [] []
  | cons {v : V} {vs : List V} {w : W} {ws : List W} : WOk F oa al H0 H v w → WsOk F oa al H0 H vs ws → WsOk F oa al H0 H (v :: vs) (w :: ws)
def PostA (F : Fm) (oa : OA) (al : List (Option Addr)) (cls : Nat → Addr) (σ : St) (H : Hp) (Wx : WX) (Q : List V → Hp → Prop) : Res (List W) → Prop
  | .ok ws g' => ∀ oa' vs H', Step F oa oa' g' H H' → WsOk F oa' al H H' vs ws → Q vs H'
  | .ex c g' => ∀ oa' H', Step F oa oa' g' H H' → Wx (.ref (cls c)) none σ H'
  | .no => False
def tA (K : PySem.W.Frag) (C : Addr) (cls : Nat → Addr) (Wx : WX) (f : Env' → G → Res (List W)) : TA := fun σ H Q => ∃ F oa al ρ g, F.K = K ∧ F.C = C ∧ Rel F oa al ρ g σ H ∧ PostA F oa al cls σ H Wx Q (f ρ g)
theorem PE.imp {X : Cx} {e : Expr} {t t' : TE} (h : PE X e t) (i : ∀ σ H Q, t' σ H Q → t σ H Q) : PE X e t' := ⟨fun pins s σ H Q I q => h.run pins s σ H Q I (i σ H Q q)⟩
theorem PT.imp {X : Cx} {e : Expr} {t t' : TT} (h : PT X e t) (i : ∀ σ H Q, t' σ H Q → t σ H Q) : PT X e t' := ⟨fun pins s σ H Q I q => h.run pins s σ H Q I (i σ H Q q)⟩
theorem PW.imp {X : Cx} {e : Expr} {t t' : TT} (h : PW X e t) (i : ∀ σ H Q, t' σ H Q → t σ H Q) : PW X e t' := ⟨fun wh pins s σ H Q I q => h.run wh pins s σ H Q I (i σ H Q q)⟩
theorem PA.imp {X : Cx} {e : List Expr} {t t' : TA} (h : PA X e t) (i : ∀ σ H Q, t' σ H Q → t σ H Q) : PA X e t' := ⟨fun p pins s σ H Q I q => h.run p pins s σ H Q I (i σ H Q q)⟩
theorem PS.imp {X : Cx} {e : Stmt} {t t' : TS} (h : PS X e t) (i : ∀ D σ H, t' D σ H → t D σ H) : PS X e t' := ⟨fun pins s σ H D I q => h.run pins s σ H D I (i D σ H q)⟩
theorem PSs.imp {X : Cx} {e : List Stmt} {t t' : TS} (h : PSs X e t) (i : ∀ D σ H, t' D σ H → t D σ H) : PSs X e t' := ⟨fun pins s σ H D I q => h.run pins s σ H D I (i D σ H q)⟩
theorem PI.imp {X : Cx} {tg it : Expr} {t t' : TI} (h : PI X tg it t) (i : ∀ σ H Q, t' σ H Q → t σ H Q) : PI X tg it t' := ⟨fun pins s σ H Q I q => h.run pins s σ H Q I (i σ H Q q)⟩
section
variable {K : PySem.W.Frag} {C : Addr} {cls : Nat → Addr} {Wx : WX}
/-- one value ahead of more -/
theorem Post.bind {F : Fm} {oa : OA} {al : List (Option Addr)} {ρ : Env'} {g : G} {σ : St} {H : Hp} {Q : VK} {f : Env' → G → Res W} {k : W → G → Res W} (hK : F.K = K) (hC : F.C = C) (R : Rel F oa al ρ g σ H)
    (h : Post F oa al cls σ H Wx Q ((f ρ g).bind k)) {Q' : VK}
    (go : ∀ w g1 oa1 v H1, Step F oa oa1 g1 H H1 → Rel F oa1 al ρ g1 σ H1 → WOk F oa1 al H H1 v w → Post F oa al cls σ H Wx Q (k w g1) → Q' v H1) : tE K C cls Wx f σ H Q' := by
  refine ⟨F, oa, al, ρ, g, hK, hC, R, ?_⟩
  cases e : f ρ g with
  | ok w g1 =>
    rw [e] at h
    exact fun oa1 v H1 st wo => go w g1 oa1 v H1 st (R.step st) wo h
  | ex c g1 => rw [e] at h; exact h
  | no => rw [e] at h; exact h
/-- .. after a step -/
theorem Post.later {F : Fm} {oa oa1 : OA} {al : List (Option Addr)} {g1 : G} {σ : St} {H H1 : Hp} {Q : VK} {r : Res W} (h : Post F oa al cls σ H Wx Q r) (st : Step F oa oa1 g1 H H1) : Post F oa1 al cls σ H1 Wx Q r := by
  cases r with
  | ok w g' => exact fun oa' v H' st' wo => h oa' v H' (st.trans st') (wo.earlier st.ext.dom)
  | ex c g' => exact fun oa' H' st' => h oa' H' (st.trans st')
  | no => exact h
end
end TP
/-! The order of ints, tuples and lists: its laws, and that it is the machine's. -/
namespace TP
open PySem L2
theorem cmpI (a b : Int) : compare a b = .eq ↔ a = b := by
  show compareOfLessAndEq a b = .eq ↔ a = b
  unfold compareOfLessAndEq
  by_cases h : a < b
  · simp [h]; omega
  · by_cases h2 : a = b
    · simp [h2]
    · simp [h, h2]
theorem cmpI_lt' (a b : Int) : compare a b = .lt ↔ a < b := by
  show compareOfLessAndEq a b = .lt ↔ a < b
  unfold compareOfLessAndEq
  by_cases h : a < b
  · simp [h]
  · by_cases h2 : a = b
    · simp [h2]
    · simp [h, h2]
theorem cmpI_lt (a b : Int) : (compare a b == Ordering.lt) = decide (a < b) := by
  by_cases h : a < b
  · simp [h, (cmpI_lt' a b).mpr h]
  · have h2 : ¬ compare a b = .lt := fun q => h ((cmpI_lt' a b).mp q)
    simp [h, h2]
theorem cmpI_swap (a b : Int) : (compare a b).swap = compare b a := by
  show (compareOfLessAndEq a b).swap = compareOfLessAndEq b a
  unfold compareOfLessAndEq
  by_cases h : a < b
  · have h2 : ¬ b < a := by omega
    have h3 : ¬ b = a := by omega
    simp [h, h2, h3]
  · by_cases h2 : a = b
    · simp [h2]
    · have h3 : b < a := by omega
      simp [h, h2, h3]
theorem cmpN_swap (a b : Nat) : (compare a b).swap = compare b a := by
  show (compareOfLessAndEq a b).swap = compareOfLessAndEq b a
  unfold compareOfLessAndEq
  by_cases h : a < b
  · have h2 : ¬ b < a := by omega
    have h3 : ¬ b = a := by omega
    simp [h, h2, h3]
  · by_cases h2 : a = b
    · simp [h2]
    · have h3 : b < a := by omega
      simp [h, h2, h3]
theorem cmpN_lt (a b : Nat) : compare a b = .lt ↔ a < b := by
  show compareOfLessAndEq a b = .lt ↔ a < b
  unfold compareOfLessAndEq
  by_cases h : a < b
  · simp [h]
  · by_cases h2 : a = b
    · simp [h2]
    · simp [h, h2]
theorem cmpN_eq (a b : Nat) : compare a b = .eq ↔ a = b := by
  show compareOfLessAndEq a b = .eq ↔ a = b
  unfold compareOfLessAndEq
  by_cases h : a < b
  · simp [h]; omega
  · by_cases h2 : a = b
    · simp [h2]
    · simp [h, h2]
mutual
theorem cmp3_swap : ∀ x y : PyData, (cmp3 x y).swap = cmp3 y x
  | .int a, y => by
    cases y with
    | int b => simp only [cmp3]; exact cmpI_swap a b
    | _ => simp only [cmp3]; exact cmpN_swap _ _
  | .tuple xs, y => by
    cases y with
    | tuple ys => simp only [cmp3]; exact cmpAll3_swap xs ys
    | _ => simp only [cmp3]; exact cmpN_swap _ _
  | .list xs, y => by
    cases y with
    | list ys => simp only [cmp3]; exact cmpAll3_swap xs ys
    | _ => simp only [cmp3]; exact cmpN_swap _ _
  | .none, y => by cases y <;> simp only [cmp3] <;> exact cmpN_swap _ _
  | .bool _, y => by cases y <;> simp only [cmp3] <;> exact cmpN_swap _ _
  | .str _, y => by cases y <;> simp only [cmp3] <;> exact cmpN_swap _ _
  | .dict _, y => by cases y <;> simp only [cmp3] <;> exact cmpN_swap _ _
theorem cmpAll3_swap : ∀ x y : List PyData, (cmpAll3 x y).swap = cmpAll3 y x
  | [], [] => rfl
  | [], _ :: _ => rfl
  | _ :: _, [] => rfl
  | x :: xs, y :: ys => by
    simp only [cmpAll3]
    rw [← cmp3_swap x y, ← cmpAll3_swap xs ys]
    cases cmp3 x y <;> rfl
end
theorem rI (a : Int) : rank (.int a) = 1 := rfl
theorem rT (a : List PyData) : rank (.tuple a) = 2 := rfl
theorem rL (a : List PyData) : rank (.list a) = 3 := rfl
/-- by their kinds -/
theorem cmp3_kind {x y : PyData} (h : rank x ≠ rank y) : cmp3 x y = compare (rank x) (rank y) := by
  cases x <;> cases y <;> simp only [cmp3] <;> exact absurd rfl h
theorem cmp3_lt_rank {x y : PyData} (h : cmp3 x y = .lt) : rank x ≤ rank y := by
  by_cases e : rank x = rank y
  · omega
  · rw [cmp3_kind e, cmpN_lt] at h; omega
theorem cmp3_eq_rank {x y : PyData} (h : cmp3 x y = .eq) : rank x = rank y := by
  by_cases e : rank x = rank y
  · exact e
  · rw [cmp3_kind e, cmpN_eq] at h; exact h
theorem cmp3_of_rank {x y : PyData} (h : rank x < rank y) : cmp3 x y = .lt := by
  rw [cmp3_kind (by omega), cmpN_lt]; exact h
theorem cmp3_ge {x y : PyData} (h : cmp3 x y ≠ .gt) : rank x ≤ rank y := by
  cases e : cmp3 x y with
  | lt => exact cmp3_lt_rank e
  | eq => exact Nat.le_of_eq (cmp3_eq_rank e)
  | gt => exact absurd e h
theorem lt_iff {x y : PyData} : lt x y = true ↔ cmp3 x y = .lt := by simp [lt]
theorem lt_no {x y : PyData} : lt x y = false ↔ cmp3 x y ≠ .lt := by simp [lt]
mutual
theorem cmp3_tr : ∀ x y z : PyData, (cmp3 x y = .lt → cmp3 y z ≠ .gt → cmp3 x z = .lt) ∧ (cmp3 x y = .eq → cmp3 x z = cmp3 y z)
  | .int a, y, z => by
    by_cases hy : rank y = 1
    · cases y <;> simp only [rank] at hy <;> first | omega | skip
      rename_i b
      by_cases hz : rank z = 1
      · cases z <;> simp only [rank] at hz <;> first | omega | skip
        rename_i c
        simp only [cmp3]
        refine ⟨fun h1 h2 => ?_, fun h => ?_⟩
        · rw [cmpI_lt'] at h1 ⊢
          have h3 : ¬ c < b := fun q => h2 (by rw [← cmpI_swap c b, (cmpI_lt' c b).mpr q]; rfl)
          omega
        · rw [cmpI] at h; rw [h]
      · refine ⟨fun h1 h2 => ?_, fun h => ?_⟩
        · have h3 := cmp3_ge h2
          simp only [rI, rT, rL] at h3
          exact cmp3_of_rank (by simp only [rI, rT, rL]; omega)
        · rw [cmp3_kind (by simp only [rI, rT, rL]; omega), cmp3_kind (by simp only [rI, rT, rL]; omega)]; rfl
    · refine ⟨fun h1 h2 => ?_, fun h => ?_⟩
      · have h3 := cmp3_ge h2
        have h4 := cmp3_lt_rank h1
        simp only [rI, rT, rL] at h4
        exact cmp3_of_rank (by simp only [rI, rT, rL]; omega)
      · have := cmp3_eq_rank h; simp only [rI, rT, rL] at this; omega
  | .tuple xs, y, z => by
    by_cases hy : rank y = 2
    · cases y <;> simp only [rank] at hy <;> first | omega | skip
      rename_i ys
      by_cases hz : rank z = 2
      · cases z <;> simp only [rank] at hz <;> first | omega | skip
        rename_i zs
        simp only [cmp3]
        exact cmpAll3_tr xs ys zs
      · refine ⟨fun h1 h2 => ?_, fun h => ?_⟩
        · have h3 := cmp3_ge h2
          simp only [rI, rT, rL] at h3
          exact cmp3_of_rank (by simp only [rI, rT, rL]; omega)
        · rw [cmp3_kind (by simp only [rI, rT, rL]; omega), cmp3_kind (by simp only [rI, rT, rL]; omega)]; rfl
    · refine ⟨fun h1 h2 => ?_, fun h => ?_⟩
      · have h3 := cmp3_ge h2
        have h4 := cmp3_lt_rank h1
        simp only [rI, rT, rL] at h4
        exact cmp3_of_rank (by simp only [rI, rT, rL]; omega)
      · have := cmp3_eq_rank h; simp only [rI, rT, rL] at this; omega
  | .list xs, y, z => by
    by_cases hy : rank y = 3
    · cases y <;> simp only [rank] at hy <;> first | omega | skip
      rename_i ys
      by_cases hz : rank z = 3
      · cases z <;> simp only [rank] at hz <;> first | omega | skip
        rename_i zs
        simp only [cmp3]
        exact cmpAll3_tr xs ys zs
      · refine ⟨fun h1 h2 => ?_, fun h => ?_⟩
        · have h3 := cmp3_ge h2
          simp only [rI, rT, rL] at h3
          exact cmp3_of_rank (by simp only [rI, rT, rL]; omega)
        · rw [cmp3_kind (by simp only [rI, rT, rL]; omega), cmp3_kind (by simp only [rI, rT, rL]; omega)]; rfl
    · refine ⟨fun h1 h2 => ?_, fun h => ?_⟩
      · have h3 := cmp3_ge h2
        have h4 := cmp3_lt_rank h1
        simp only [rI, rT, rL] at h4
        exact cmp3_of_rank (by simp only [rI, rT, rL]; omega)
      · have := cmp3_eq_rank h; simp only [rI, rT, rL] at this; omega
  | .none, y, z => cmp3_tr0 rfl
  | .bool _, y, z => cmp3_tr0 rfl
  | .str _, y, z => cmp3_tr0 rfl
  | .dict _, y, z => cmp3_tr0 rfl
theorem cmp3_tr0 {x y z : PyData} (hx : rank x = 0) : (cmp3 x y = .lt → cmp3 y z ≠ .gt → cmp3 x z = .lt) ∧ (cmp3 x y = .eq → cmp3 x z = cmp3 y z) := by
  have e0 : ∀ u : PyData, cmp3 x u = compare 0 (rank u) := fun u => by cases x <;> simp only [rank] at hx <;> first | omega | (cases u <;> simp only [cmp3] <;> rfl)
  refine ⟨fun h1 h2 => ?_, fun h => ?_⟩
  · rw [e0, cmpN_lt] at h1 ⊢
    have := cmp3_ge h2
    omega
  · rw [e0, cmpN_eq] at h
    have ey : ∀ u : PyData, cmp3 y u = compare 0 (rank u) := fun u => by cases y <;> simp only [rank] at h <;> first | omega | (cases u <;> simp only [cmp3] <;> rfl)
    rw [e0, ey]
theorem cmpAll3_tr : ∀ x y z : List PyData, (cmpAll3 x y = .lt → cmpAll3 y z ≠ .gt → cmpAll3 x z = .lt) ∧ (cmpAll3 x y = .eq → cmpAll3 x z = cmpAll3 y z)
  | [], [], z => ⟨fun h => by simp [cmpAll3] at h, fun _ => rfl⟩
  | [], y :: ys, [] => ⟨fun _ h => by simp [cmpAll3] at h, fun h => by simp [cmpAll3] at h⟩
  | [], y :: ys, z :: zs => ⟨fun _ _ => rfl, fun h => by simp [cmpAll3] at h⟩
  | x :: xs, [], z => ⟨fun h => by simp [cmpAll3] at h, fun h => by simp [cmpAll3] at h⟩
  | x :: xs, y :: ys, [] => ⟨fun _ h => by simp [cmpAll3] at h, fun _ => rfl⟩
  | x :: xs, y :: ys, z :: zs => by
    have t1 := cmp3_tr x y z
    have t2 := cmpAll3_tr xs ys zs
    simp only [cmpAll3]
    cases e1 : cmp3 x y with
    | lt =>
      refine ⟨fun _ h => ?_, fun h => by simp [Ordering.then] at h⟩
      cases e2 : cmp3 y z with
      | gt => rw [e2] at h; exact absurd rfl h
      | lt => rw [t1.1 e1 (by rw [e2]; decide)]; rfl
      | eq => rw [t1.1 e1 (by rw [e2]; decide)]; rfl
    | gt => exact ⟨fun h => by simp [Ordering.then] at h, fun h => by simp [Ordering.then] at h⟩
    | eq =>
      rw [t1.2 e1]
      refine ⟨fun h1 h2 => ?_, fun h1 => ?_⟩
      · cases e2 : cmp3 y z with
        | lt => rfl
        | gt => rw [e2] at h2; exact absurd rfl h2
        | eq => rw [e2] at h2; exact t2.1 h1 h2
      · cases e2 : cmp3 y z with
        | lt => rfl
        | gt => rfl
        | eq => exact t2.2 h1
end
theorem lt_asym {x y : PyData} (h : lt x y = true) : lt y x = false := by
  rw [lt_iff] at h
  rw [lt_no, ← cmp3_swap x y, h]
  decide
theorem lt_tr {x y z : PyData} (h1 : lt y x = false) (h2 : lt z y = false) : lt z x = false := by
  rw [lt_no] at *
  intro h3
  have h1' : cmp3 x y ≠ .gt := by
    rw [← cmp3_swap y x]
    intro h
    exact h1 (by cases e : cmp3 y x <;> rw [e] at h <;> first | rfl | exact absurd h (by decide))
  exact h2 ((cmp3_tr z x y).1 h3 h1')
theorem lt_irr (x : PyData) : lt x x = false := by
  cases h : lt x x with
  | false => rfl
  | true => exact (lt_asym h).symm.trans h ▸ rfl
mutual
theorem cm_alike : ∀ x y : PyData, cm x y = true → PySem.W.alike x y = true
  | .int a, y, h => by cases y <;> simp [cm] at h; simp [PySem.W.alike]
  | .tuple xs, y, h => by
    cases y <;> simp [cm] at h
    simp only [PySem.W.alike]
    exact cmAll_alike _ _ h
  | .list xs, y, h => by
    cases y <;> simp [cm] at h
    simp only [PySem.W.alike]
    exact cmAll_alike _ _ h
  | .none, y, h => by cases y <;> simp [cm] at h
  | .bool _, y, h => by cases y <;> simp [cm] at h
  | .str _, y, h => by cases y <;> simp [cm] at h
  | .dict _, y, h => by cases y <;> simp [cm] at h
theorem cmAll_alike : ∀ x y : List PyData, cmAll x y = true → PySem.W.alikeAll x y = true
  | [], y, _ => by simp [PySem.W.alikeAll]
  | x :: xs, [], _ => by simp [PySem.W.alikeAll]
  | x :: xs, y :: ys, h => by
    have h' : cm x y = true ∧ cmAll xs ys = true := by simpa [cmAll] using h
    simp only [PySem.W.alikeAll, Bool.and_eq_true]
    exact ⟨cm_alike x y h'.1, cmAll_alike xs ys h'.2⟩
end
mutual
theorem cm_eqv : ∀ x y : PyData, cm x y = true → (PyData.eqv x y = decide (cmp3 x y = .eq))
  | .int a, y, h => by
    cases y <;> simp [cm] at h
    rename_i b
    simp only [PyData.eqv, cmp3]
    by_cases h : a = b
    · simp [h, (cmpI b b).mpr rfl]
    · have h2 : ¬ compare a b = .eq := fun q => h ((cmpI a b).mp q)
      simp [h, h2]
  | .tuple xs, y, h => by
    cases y <;> simp [cm] at h
    simp only [PyData.eqv, cmp3]
    exact cmAll_eqv xs _ h
  | .list xs, y, h => by
    cases y <;> simp [cm] at h
    simp only [PyData.eqv, cmp3]
    exact cmAll_eqv xs _ h
  | .none, y, h => by cases y <;> simp [cm] at h
  | .bool _, y, h => by cases y <;> simp [cm] at h
  | .str _, y, h => by cases y <;> simp [cm] at h
  | .dict _, y, h => by cases y <;> simp [cm] at h
theorem cmAll_eqv : ∀ x y : List PyData, cmAll x y = true → (PyData.eqvAll x y = decide (cmpAll3 x y = .eq))
  | [], [], _ => by simp [PyData.eqvAll, cmpAll3]
  | [], _ :: _, _ => by simp [PyData.eqvAll, cmpAll3]
  | _ :: _, [], _ => by simp [PyData.eqvAll, cmpAll3]
  | x :: xs, y :: ys, h => by
    have h' : cm x y = true ∧ cmAll xs ys = true := by simpa [cmAll] using h
    simp only [PyData.eqvAll, cmpAll3]
    rw [cm_eqv x y h'.1, cmAll_eqv xs ys h'.2]
    simp [Ordering.then_eq_eq]
end
mutual
/-- comparable ones that are not apart are the same -/
theorem cm_same : ∀ x y : PyData, cm x y = true → cmp3 x y = .eq → x = y
  | .int a, y, h, e => by
    cases y <;> simp [cm] at h
    simp only [cmp3] at e
    rw [(cmpI _ _).mp e]
  | .tuple xs, y, h, e => by
    cases y <;> simp [cm] at h
    simp only [cmp3] at e
    rw [cmAll_same xs _ h e]
  | .list xs, y, h, e => by
    cases y <;> simp [cm] at h
    simp only [cmp3] at e
    rw [cmAll_same xs _ h e]
  | .none, y, h, _ => by cases y <;> simp [cm] at h
  | .bool _, y, h, _ => by cases y <;> simp [cm] at h
  | .str _, y, h, _ => by cases y <;> simp [cm] at h
  | .dict _, y, h, _ => by cases y <;> simp [cm] at h
theorem cmAll_same : ∀ x y : List PyData, cmAll x y = true → cmpAll3 x y = .eq → x = y
  | [], [], _, _ => rfl
  | [], _ :: _, _, e => by simp [cmpAll3] at e
  | _ :: _, [], _, e => by simp [cmpAll3] at e
  | x :: xs, y :: ys, h, e => by
    have h' : cm x y = true ∧ cmAll xs ys = true := by simpa [cmAll] using h
    simp only [cmpAll3, Ordering.then_eq_eq] at e
    rw [cm_same x y h'.1 e.1, cmAll_same xs ys h'.2 e.2]
end
mutual
theorem dataLt_eq : ∀ x y : PyData, cm x y = true → PySem.W.dataLt x y = lt x y
  | .int a, y, h => by
    cases y <;> simp [cm] at h
    rw [PySem.W.dataLt_int]
    simp only [lt, cmp3]
    exact (cmpI_lt _ _).symm
  | .tuple xs, y, h => by
    cases y <;> simp [cm] at h
    rw [PySem.W.dataLt_tuple]
    simp only [lt, cmp3]
    exact rowLt_eq xs _ h
  | .list xs, y, h => by
    cases y <;> simp [cm] at h
    rw [PySem.W.dataLt_list]
    simp only [lt, cmp3]
    exact rowLt_eq xs _ h
  | .none, y, h => by cases y <;> simp [cm] at h
  | .bool _, y, h => by cases y <;> simp [cm] at h
  | .str _, y, h => by cases y <;> simp [cm] at h
  | .dict _, y, h => by cases y <;> simp [cm] at h
theorem rowLt_eq : ∀ x y : List PyData, cmAll x y = true → PyProof.Rows.lexLt PyProof.Rows.itemOrd (PySem.W.keyToksAll x) (PySem.W.keyToksAll y) = (cmpAll3 x y == .lt)
  | [], [], _ => PyProof.Rows.lex_irrefl _
  | [], y :: ys, _ => by simp [PySem.W.keyToksAll, PyProof.Rows.lexLt, cmpAll3, PyProof.Rows.itemLt, PyProof.Rows.itemOrd]
  | x :: xs, [], _ => by simp [PySem.W.keyToksAll, PyProof.Rows.lexLt, cmpAll3, PyProof.Rows.itemLt, PyProof.Rows.itemOrd]
  | x :: xs, y :: ys, h => by
    have h' : cm x y = true ∧ cmAll xs ys = true := by simpa [cmAll] using h
    rw [PySem.W.dataLt_cons (cm_alike x y h'.1), rowLt_eq xs ys h'.2, dataLt_eq x y h'.1, cm_eqv x y h'.1]
    simp only [lt, cmpAll3]
    cases e : cmp3 x y <;> simp [Ordering.then]
end
theorem cm_none {x y : PyData} (h : cm x y = true) : x ≠ .none := by
  intro e
  subst e
  cases y <;> simp [cm] at h
mutual
theorem cm_comm : ∀ x y : PyData, cm x y = true → cm y x = true
  | .int a, y, h => by cases y <;> simp [cm] at h ⊢
  | .tuple xs, y, h => by
    cases y <;> simp [cm] at h
    simp only [cm]
    exact cmAll_comm xs _ h
  | .list xs, y, h => by
    cases y <;> simp [cm] at h
    simp only [cm]
    exact cmAll_comm xs _ h
  | .none, y, h => by cases y <;> simp [cm] at h
  | .bool _, y, h => by cases y <;> simp [cm] at h
  | .str _, y, h => by cases y <;> simp [cm] at h
  | .dict _, y, h => by cases y <;> simp [cm] at h
theorem cmAll_comm : ∀ x y : List PyData, cmAll x y = true → cmAll y x = true
  | [], [], _ => by simp [cmAll]
  | [], _ :: _, _ => by simp [cmAll]
  | _ :: _, [], _ => by simp [cmAll]
  | x :: xs, y :: ys, h => by
    have h' : cm x y = true ∧ cmAll xs ys = true := by simpa [cmAll] using h
    simp only [cmAll, Bool.and_eq_true]
    exact ⟨cm_comm x y h'.1, cmAll_comm xs ys h'.2⟩
end
end TP
/-! Operators by values. -/
namespace TP
open PySem L2
/-- v is w's value at H', which is H or H with one new object -/
inductive Nw (O : Addr → Prop) (H : Hp) : V → Hp → W → Prop
  | old {v : V} {x : PyData} (h : Dq O H v x) : Nw O H v H (.d x)
  | tup {p : Addr} {vs : List V} {xs : List PyData} (h : H p = none) (r : DqAll O H vs xs) : Nw O H (.ref p) (upd H p (.tup vs)) (.d (.tuple xs))
  | lst {p : Addr} {vs : List V} {xs : List PyData} (h : H p = none) (r : DqAll O H vs xs) : Nw O H (.ref p) (upd H p (.lst vs)) (.own (.lst xs))
theorem Nw.ok {F : Fm} {oa : OA} {al : List (Option Addr)} {ρ : Env'} {g : G} {σ : St} {H H' : Hp} {v : V} {w : W} (R : Rel F oa al ρ g σ H) (n : Nw (Own F oa al) H v H' w) : Step F oa oa g H H' ∧ WOk F oa al H H' v w := by
  cases n with
  | old h => exact ⟨Step.refl R.gr, h⟩
  | tup h r => exact ⟨Step.upd R.gr h, WOk.newTup r h⟩
  | lst h r => exact ⟨Step.upd R.gr h, WOk.newLst r h h (R.nown h)⟩
/-- two operands by value -/
def rD (b : PyData → PyData → Option W) : R2 := fun x y H Q => ∃ O dx dy w, Dr O H x dx ∧ Dr O H y dy ∧ b dx dy = some w ∧ ∀ v H', Nw O H v H' w → Q v H'
section
variable {X : Cx} {K : PySem.W.Frag} {C : Addr} {cls : Nat → Addr} {Wx : WX}
theorem lim_eq : lim = sizeLine := by rw [sizeLine_eq]; rfl
theorem Dr.room (hu : X.A.units + 64 < cLine) {d e : PyData} (h : SeqAt.shaped d = true) : X.A.units + min d.depth e.depth < cLine := SeqAt.room_of_shaped h hu
theorem reads2 {pins : List (Addr × Obj)} {s : Shared} {σ : St} {H : Hp} {x y : V} {v u : Value} {O : Addr → Prop} {dx dy : PyData} (I : Inv X pins σ H s) (rx : RelV x v) (ry : RelV y u) (hx : Dr O H x dx) (hy : Dr O H y dy) :
    (∃ as, Reads s.heap v dx as) ∧ ∃ as, Reads s.heap u dy as := ⟨Dp.reads I dx x v hx.dp rx, Dp.reads I dy y u hy.dp ry⟩
theorem opD_add : OpR X (binaryOp .Add) (rD (binD .add)) := by
  intro pins s σ H x y v u Q I rx ry ⟨O, dx, dy, w, hx, hy, e, q⟩
  unfold binD at e
  simp only at e
  split at e
  · obtain rfl := Option.some.inj e
    cases hx.int; cases hy.int
    exact op_add pins s σ H _ _ v u Q I rx ry ⟨_, _, rfl, rfl, q _ _ (.old (.int _))⟩
  · rename_i xs ys
    split at e
    · rename_i hl
      obtain rfl := Option.some.inj e
      obtain ⟨p, vs, rfl, h1, r1⟩ := hx.tuple
      obtain ⟨p', vs', rfl, h2, r2⟩ := hy.tuple
      refine op_catA pins s σ H _ _ v u Q I rx ry ⟨p, p', vs, vs', rfl, rfl, SqT.of h1, SqT.of h2, by rw [r1.len, r2.len, ← lim_eq]; exact hl, fun e => ?_, fun ne e => ?_, fun n1 n2 a ha => ?_⟩
      · subst e
        cases r1
        exact q _ _ (.old (.tup h2 r2))
      · subst e
        cases r2
        rw [List.append_nil] at q
        exact q _ _ (.old (.tup h1 r1))
      · exact q _ _ (.tup ha (r1.append r2))
    · cases e
  · rename_i xs ys
    split at e
    · rename_i hl
      obtain rfl := Option.some.inj e
      obtain ⟨p, vs, rfl, h1, r1⟩ := hx.list
      obtain ⟨p', vs', rfl, h2, r2⟩ := hy.list
      exact op_cat pins s σ H _ _ v u Q I rx ry ⟨p, p', vs, vs', rfl, rfl, h1, h2, by rw [r1.len, r2.len, ← lim_eq]; exact hl, fun a ha => q _ _ (.lst ha (r1.append r2))⟩
    · cases e
  · split at e
    · rename_i hl
      obtain rfl := Option.some.inj e
      cases hx.str; cases hy.str
      exact op_add_str pins s σ H _ _ v u Q I rx ry ⟨_, _, rfl, rfl, by rw [← lim_eq]; exact hl, q _ _ (.old (.str _))⟩
    · cases e
  · cases e
theorem opD_sub : OpR X (binaryOp .Sub) (rD (binD .sub)) := by
  intro pins s σ H x y v u Q I rx ry ⟨O, dx, dy, w, hx, hy, e, q⟩
  unfold binD at e
  simp only at e
  split at e
  · obtain rfl := Option.some.inj e
    cases hx.int; cases hy.int
    exact op_sub pins s σ H _ _ v u Q I rx ry ⟨_, _, rfl, rfl, q _ _ (.old (.int _))⟩
  · cases e
theorem opD_mul : OpR X (binaryOp .Mult) (rD (binD .mul)) := by
  intro pins s σ H x y v u Q I rx ry ⟨O, dx, dy, w, hx, hy, e, q⟩
  unfold binD at e
  simp only at e
  split at e
  · split at e
    · rename_i hl
      obtain rfl := Option.some.inj e
      cases hx.int; cases hy.int
      exact op_mul pins s σ H _ _ v u Q I rx ry ⟨_, _, rfl, rfl, hl, q _ _ (.old (.int _))⟩
    · cases e
  · rename_i xs j
    split at e
    · rename_i hl
      obtain rfl := Option.some.inj e
      obtain ⟨p, vs, rfl, h1, r1⟩ := hx.list
      cases hy.int
      refine op_rep pins s σ H _ _ v u Q I rx ry ⟨p, j, vs, rfl, rfl, h1, by omega, by omega, ?_, fun a ha => q _ _ (.lst ha (r1.rep _))⟩
      rw [r1.len, sizeLine_eq]
      have h3 : j.toNat ≤ 1000 := by omega
      have := Nat.mul_le_mul hl.2.2 h3
      omega
    · cases e
  · rename_i xs j
    split at e
    · rename_i hl
      obtain rfl := Option.some.inj e
      obtain ⟨p, vs, rfl, h1, r1⟩ := hx.tuple
      cases hy.int
      exact op_repT pins s σ H _ _ v u Q I rx ry ⟨p, j, vs, rfl, rfl, SqT.of h1, fun z => hl.2.2.2 (by subst z; cases r1; rfl), hl.1, hl.2.1, by rw [r1.len]; exact hl.2.2.1, fun a ha => q _ _ (.tup ha (r1.rep _))⟩
    · cases e
  · cases e
theorem opD_fdiv : OpR X (binaryOp .FloorDiv) (rD (binD .fdiv)) := by
  intro pins s σ H x y v u Q I rx ry ⟨O, dx, dy, w, hx, hy, e, q⟩
  unfold binD at e
  simp only at e
  split at e
  · split at e
    · rename_i hl
      obtain rfl := Option.some.inj e
      cases hx.int; cases hy.int
      exact op_fdiv pins s σ H _ _ v u Q I rx ry ⟨_, _, rfl, rfl, hl, q _ _ (.old (.int _))⟩
    · cases e
  · cases e
theorem opD_mod : OpR X (binaryOp .Mod) (rD (binD .mod)) := by
  intro pins s σ H x y v u Q I rx ry ⟨O, dx, dy, w, hx, hy, e, q⟩
  unfold binD at e
  simp only at e
  split at e
  · split at e
    · rename_i hl
      obtain rfl := Option.some.inj e
      cases hx.int; cases hy.int
      exact op_mod pins s σ H _ _ v u Q I rx ry ⟨_, _, rfl, rfl, hl, q _ _ (.old (.int _))⟩
    · cases e
  · cases e
theorem opD_pow : OpR X (binaryOp .Pow) (rD (binD .pow)) := by
  intro pins s σ H x y v u Q I rx ry ⟨O, dx, dy, w, hx, hy, e, q⟩
  unfold binD at e
  simp only at e
  split at e
  · split at e
    · rename_i hl
      obtain rfl := Option.some.inj e
      cases hx.int; cases hy.int
      exact op_pow pins s σ H _ _ v u Q I rx ry ⟨_, _, rfl, rfl, hl, q _ _ (.old (.int _))⟩
    · cases e
  · cases e
theorem opD_eq (hu : X.A.units + 64 < cLine) : OpR X (compareOp .Eq) (rD (binD .eq)) := by
  intro pins s σ H x y v u Q I rx ry ⟨O, dx, dy, w, hx, hy, e, q⟩
  unfold binD at e
  simp only at e
  split at e
  · rename_i hl
    obtain rfl := Option.some.inj e
    have hl' := Bool.and_eq_true_iff.mp hl
    exact op_eqD hu pins s σ H _ _ v u Q I rx ry ⟨dx, dy, hx.dp, hy.dp, hl'.1, hl'.2, q _ _ (.old (.bl _))⟩
  · cases e
theorem opD_ne (hu : X.A.units + 64 < cLine) : OpR X (compareOp .NotEq) (rD (binD .ne)) := by
  intro pins s σ H x y v u Q I rx ry ⟨O, dx, dy, w, hx, hy, e, q⟩
  unfold binD at e
  simp only at e
  split at e
  · rename_i hl
    obtain rfl := Option.some.inj e
    have hl' := Bool.and_eq_true_iff.mp hl
    exact op_neD hu pins s σ H _ _ v u Q I rx ry ⟨dx, dy, hx.dp, hy.dp, hl'.1, hl'.2, q _ _ (.old (.bl _))⟩
  · cases e
theorem opD_lt (hu : X.A.units + 64 < cLine) : OpR X (compareOp .Lt) (rD (binD .lt)) := by
  intro pins s σ H x y v u Q I rx ry ⟨O, dx, dy, w, hx, hy, e, q⟩
  unfold binD at e
  simp only at e
  split at e
  · rename_i hl
    obtain rfl := Option.some.inj e
    have hl' := Bool.and_eq_true_iff.mp hl
    have hl2 := Bool.and_eq_true_iff.mp hl'.1
    obtain ⟨⟨as, r1⟩, bs, r2⟩ := reads2 I rx ry hx hy
    exact PySem.W.lt_data r1 r2 (cm_alike _ _ hl'.2) (cm_none hl'.2) (SeqAt.room_of_shaped hl2.1 hu) ⟨.bl _, H, I, rfl, by rw [dataLt_eq _ _ hl'.2]; exact q _ _ (.old (.bl _))⟩
  · cases e
theorem opD_gt (hu : X.A.units + 64 < cLine) : OpR X (compareOp .Gt) (rD (binD .gt)) := by
  intro pins s σ H x y v u Q I rx ry ⟨O, dx, dy, w, hx, hy, e, q⟩
  unfold binD at e
  simp only at e
  split at e
  · rename_i hl
    obtain rfl := Option.some.inj e
    have hl' := Bool.and_eq_true_iff.mp hl
    have hl2 := Bool.and_eq_true_iff.mp hl'.1
    obtain ⟨⟨as, r1⟩, bs, r2⟩ := reads2 I rx ry hx hy
    exact PySem.W.gt_data r1 r2 (cm_alike _ _ hl'.2) (cm_none hl'.2) (SeqAt.room_of_shaped hl2.1 hu) ⟨.bl _, H, I, rfl, by rw [dataLt_eq _ _ (cm_comm _ _ hl'.2)]; exact q _ _ (.old (.bl _))⟩
  · cases e
theorem opD_le : OpR X (compareOp .LtE) (rD (binD .le)) := by
  intro pins s σ H x y v u Q I rx ry ⟨O, dx, dy, w, hx, hy, e, q⟩
  unfold binD at e
  simp only at e
  split at e
  · obtain rfl := Option.some.inj e
    cases hx.int; cases hy.int
    exact op_le pins s σ H _ _ v u Q I rx ry ⟨_, _, rfl, rfl, q _ _ (.old (.bl _))⟩
  · cases e
theorem opD_ge : OpR X (compareOp .GtE) (rD (binD .ge)) := by
  intro pins s σ H x y v u Q I rx ry ⟨O, dx, dy, w, hx, hy, e, q⟩
  unfold binD at e
  simp only at e
  split at e
  · obtain rfl := Option.some.inj e
    cases hx.int; cases hy.int
    exact op_ge pins s σ H _ _ v u Q I rx ry ⟨_, _, rfl, rfl, q _ _ (.old (.bl _))⟩
  · cases e
theorem Dr.notNone {O : Addr → Prop} {H : Hp} {v : V} {x : PyData} (h : Dr O H v x) (n : x ≠ .none) : v ≠ .non := by
  intro e
  subst e
  cases h with
  | st h => cases h; exact n rfl
  | ls p xs vs e ex h r => cases e
theorem opD_is : OpR X (compareOp .Is) (rD (binD .is)) := by
  intro pins s σ H x y v u Q I rx ry ⟨O, dx, dy, w, hx, hy, e, q⟩
  unfold binD at e
  simp only at e
  split at e
  · obtain rfl := Option.some.inj e
    cases hx.bool; cases hy.bool
    exact op_is_bl pins s σ H _ _ v u Q I rx ry ⟨_, _, rfl, rfl, q _ _ (.old (.bl _))⟩
  · obtain rfl := Option.some.inj e
    cases hx.none; cases hy.none
    exact op_isN pins s σ H _ _ v u Q I rx ry ⟨rfl, q _ _ (.old (.bl _))⟩
  · rename_i z1 z2
    obtain rfl := Option.some.inj e
    cases hy.none
    have n : x ≠ .non := hx.notNone fun e => z2 e
    exact op_isN pins s σ H _ _ v u Q I rx ry ⟨rfl, by rw [decide_eq_false n]; exact q _ _ (.old (.bl _))⟩
  · cases e
theorem opD_isnt : OpR X (compareOp .IsNot) (rD (binD .isnt)) := by
  intro pins s σ H x y v u Q I rx ry ⟨O, dx, dy, w, hx, hy, e, q⟩
  unfold binD at e
  simp only at e
  split at e
  · obtain rfl := Option.some.inj e
    cases hx.bool; cases hy.bool
    exact op_isnot_bl pins s σ H _ _ v u Q I rx ry ⟨_, _, rfl, rfl, q _ _ (.old (.bl _))⟩
  · obtain rfl := Option.some.inj e
    cases hx.none; cases hy.none
    exact op_notN pins s σ H _ _ v u Q I rx ry ⟨rfl, q _ _ (.old (.bl _))⟩
  · rename_i z1 z2
    obtain rfl := Option.some.inj e
    cases hy.none
    have n : x ≠ .non := hx.notNone fun e => z2 e
    exact op_notN pins s σ H _ _ v u Q I rx ry ⟨rfl, by rw [decide_eq_false n]; exact q _ _ (.old (.bl _))⟩
  · cases e
theorem one_sign {c : Str} (h : c.length = 1) : c = ⟨#[c.cps.getD 0 0]⟩ := by
  obtain ⟨⟨l⟩⟩ := c
  match l, h with
  | [a], _ => rfl
theorem opD_in (hu : X.A.units + 65 < cLine) : OpR X (compareOp .In) (rD (binD .inn)) := by
  intro pins s σ H x y v u Q I rx ry ⟨O, dx, dy, w, hx, hy, e, q⟩
  unfold binD at e
  simp only at e
  split at e
  · rename_i ys
    split at e
    · rename_i hl
      obtain rfl := Option.some.inj e
      have hl' := Bool.and_eq_true_iff.mp hl
      obtain ⟨⟨as, r1⟩, bs, r2⟩ := reads2 I rx ry hx hy
      exact SeqAt.in_list_reads r2 r1 (SeqAt.canLay_of_shaped hl'.2) (SeqAt.canLay_of_shaped hl'.1) (PyProof.Rows.room_in_shaped hl'.1 hu) ⟨.bl _, H, I, rfl, q _ _ (.old (.bl _))⟩
    · cases e
  · rename_i ys
    split at e
    · rename_i hl
      obtain rfl := Option.some.inj e
      have hl' := Bool.and_eq_true_iff.mp hl
      obtain ⟨⟨as, r1⟩, bs, r2⟩ := reads2 I rx ry hx hy
      exact SeqAt.in_tuple_reads r2 r1 (SeqAt.canLay_of_shaped hl'.2) (SeqAt.canLay_of_shaped hl'.1) (PyProof.Rows.room_in_shaped hl'.1 hu) ⟨.bl _, H, I, rfl, q _ _ (.old (.bl _))⟩
    · cases e
  · split at e
    · split at e
      · rename_i z c hl
        obtain rfl := Option.some.inj e
        cases hx.str; cases hy.str
        rw [one_sign hl] at rx
        exact op_in_sign pins s σ H _ _ v u Q I rx ry ⟨_, _, rfl, rfl, q _ _ (.old (.bl _))⟩
      · cases e
    · cases e
  · cases e
theorem opD_notin (hu : X.A.units + 65 < cLine) : OpR X (compareOp .NotIn) (rD (binD .notin)) := by
  intro pins s σ H x y v u Q I rx ry ⟨O, dx, dy, w, hx, hy, e, q⟩
  unfold binD at e
  simp only at e
  split at e
  · rename_i ys
    split at e
    · rename_i hl
      obtain rfl := Option.some.inj e
      have hl' := Bool.and_eq_true_iff.mp hl
      obtain ⟨⟨as, r1⟩, bs, r2⟩ := reads2 I rx ry hx hy
      exact SeqAt.notIn_list_reads r2 r1 (SeqAt.canLay_of_shaped hl'.2) (SeqAt.canLay_of_shaped hl'.1) (PyProof.Rows.room_in_shaped hl'.1 hu) ⟨.bl _, H, I, rfl, q _ _ (.old (.bl _))⟩
    · cases e
  · rename_i ys
    split at e
    · rename_i hl
      obtain rfl := Option.some.inj e
      have hl' := Bool.and_eq_true_iff.mp hl
      obtain ⟨⟨as, r1⟩, bs, r2⟩ := reads2 I rx ry hx hy
      exact SeqAt.notIn_tuple_reads r2 r1 (SeqAt.canLay_of_shaped hl'.2) (SeqAt.canLay_of_shaped hl'.1) (PyProof.Rows.room_in_shaped hl'.1 hu) ⟨.bl _, H, I, rfl, q _ _ (.old (.bl _))⟩
    · cases e
  · cases e
/-! ### the operators of the terms -/
def bop? : O2 → Option Operator
  | .add => some .Add | .sub => some .Sub | .mul => some .Mult | .fdiv => some .FloorDiv | .mod => some .Mod | .pow => some .Pow
  | _ => none
def cop? : O2 → Option CmpOp
  | .eq => some .Eq | .ne => some .NotEq | .lt => some .Lt | .le => some .LtE | .gt => some .Gt | .ge => some .GtE | .is => some .Is | .isnt => some .IsNot | .inn => some .In | .notin => some .NotIn
  | _ => none
theorem opD_b {o : O2} {op : Operator} (h : bop? o = some op) : OpR X (binaryOp op) (rD (binD o)) := by
  cases o <;> first | (cases h; done) | skip
  · obtain rfl := Option.some.inj h; exact opD_add
  · obtain rfl := Option.some.inj h; exact opD_sub
  · obtain rfl := Option.some.inj h; exact opD_mul
  · obtain rfl := Option.some.inj h; exact opD_fdiv
  · obtain rfl := Option.some.inj h; exact opD_mod
  · obtain rfl := Option.some.inj h; exact opD_pow
theorem opD_c {o : O2} {op : CmpOp} (hu : X.A.units + 65 < cLine) (h : cop? o = some op) : OpR X (compareOp op) (rD (binD o)) := by
  have hu' : X.A.units + 64 < cLine := by omega
  cases o <;> first | (cases h; done) | skip
  · obtain rfl := Option.some.inj h; exact opD_eq hu'
  · obtain rfl := Option.some.inj h; exact opD_ne hu'
  · obtain rfl := Option.some.inj h; exact opD_lt hu'
  · obtain rfl := Option.some.inj h; exact opD_le
  · obtain rfl := Option.some.inj h; exact opD_gt hu'
  · obtain rfl := Option.some.inj h; exact opD_ge
  · obtain rfl := Option.some.inj h; exact opD_is
  · obtain rfl := Option.some.inj h; exact opD_isnt
  · obtain rfl := Option.some.inj h; exact opD_in hu
  · obtain rfl := Option.some.inj h; exact opD_notin hu
end
end TP
/-! Expressions. -/
namespace TP
open PySem L2
section
variable {X : Cx} {C : Addr} {cls : Nat → Addr} {Wx : WX}
theorem Post.of {F : Fm} {oa : OA} {al : List (Option Addr)} {σ : St} {H : Hp} {Q : VK} {o : Option W} {g : G} (h : Post F oa al cls σ H Wx Q (Res.of o g)) : ∃ w, o = some w ∧ Post F oa al cls σ H Wx Q (.ok w g) := by
  cases o with
  | none => exact h.elim
  | some w => exact ⟨w, rfl, h⟩
theorem bindSome {α β : Type} {o : Option α} {f : α → Option β} {b : β} (h : (o >>= f) = some b) : ∃ a, o = some a ∧ f a = some b := by
  cases o with
  | none => cases h
  | some a => exact ⟨a, rfl, h⟩
theorem Post.here {F : Fm} {oa : OA} {al : List (Option Addr)} {ρ : Env'} {σ : St} {H H' : Hp} {Q : VK} {w : W} {g : G} {v : V} (h : Post F oa al cls σ H Wx Q (.ok w g)) (R : Rel F oa al ρ g σ H) (n : Nw (Own F oa al) H v H' w) : Q v H' :=
  h oa v H' (n.ok R).1 (n.ok R).2
/-! ### names, constants -/
theorem fe_v {i : Nat} {x : Str} {pos : Pos} (hN : X.N[i]? = some x) (hv : Vis X.env.scope x) (hd : (x == ("__debug__" : Str)) = false) (hcd : (x == ("__classdict__" : Str)) = false) :
    PE X (.Name x pos) (tE X.K C cls Wx fun ρ g => .of (get ρ i) g) := by
  refine PE.imp (pe_var hN hv hd hcd) ?_
  rintro σ H Q ⟨F, oa, al, ρ, g, hK, hC, R, h⟩
  obtain ⟨w, e, h⟩ := Post.of h
  obtain ⟨v, e1, wo⟩ := R.look e
  exact ⟨v, e1, h oa v H (Step.refl R.gr) wo⟩
theorem fe_int {i : Int} {j pos} : PE X (.Constant (.int i) j pos) (tE X.K C cls Wx fun _ g => .ok (.d (.int i)) g) := by
  refine PE.imp pe_int ?_
  rintro σ H Q ⟨F, oa, al, ρ, g, hK, hC, R, h⟩
  exact h.here R (.old (.int _))
theorem fe_bl {i : Bool} {j pos} : PE X (.Constant (.bool i) j pos) (tE X.K C cls Wx fun _ g => .ok (.d (.bool i)) g) := by
  refine PE.imp pe_bl ?_
  rintro σ H Q ⟨F, oa, al, ρ, g, hK, hC, R, h⟩
  exact h.here R (.old (.bl _))
theorem fe_non {j pos} : PE X (.Constant .none j pos) (tE X.K C cls Wx fun _ g => .ok (.d .none) g) := by
  refine PE.imp pe_non ?_
  rintro σ H Q ⟨F, oa, al, ρ, g, hK, hC, R, h⟩
  exact h.here R (.old .non)
theorem fe_str {i : Str} {j pos} : PE X (.Constant (.str i) j pos) (tE X.K C cls Wx fun _ g => .ok (.d (.str i)) g) := by
  refine PE.imp pe_str ?_
  rintro σ H Q ⟨F, oa, al, ρ, g, hK, hC, R, h⟩
  exact h.here R (.old (.str _))
theorem fe_gs {x z : Str} {u : Value} {pos : Pos} (hg : Gl X x) (hm : X.mg x = some u) (r : RelV (.str z) u) (hd : (x == ("__debug__" : Str)) = false) : PE X (.Name x pos) (tE X.K C cls Wx fun _ g => .ok (.d (.str z)) g) := by
  refine PE.imp (pe_glob hg hm r hd) ?_
  rintro σ H Q ⟨F, oa, al, ρ, g, hK, hC, R, h⟩
  exact h.here R (.old (.str _))
/-! ### operators -/
variable {a b c : Expr} {fa fb fc : Env' → G → Res W}
def f1 (k : W → Option W) (fa : Env' → G → Res W) : Env' → G → Res W := fun ρ g => (fa ρ g).bind fun w g1 => .of (k w) g1
def f2 (k : W → W → Option W) (fa fb : Env' → G → Res W) : Env' → G → Res W := fun ρ g => (fa ρ g).bind fun w g1 => (fb ρ g1).bind fun u g2 => .of (k w u) g2
def kD (b : PyData → PyData → Option W) (w u : W) : Option W := do b (← w.rd) (← u.rd)
theorem kD_some {b : PyData → PyData → Option W} {w u z : W} (h : kD b w u = some z) : ∃ x y, w.rd = some x ∧ u.rd = some y ∧ b x y = some z := by
  obtain ⟨x, e1, h⟩ := bindSome h
  obtain ⟨y, e2, h⟩ := bindSome h
  exact ⟨x, y, e1, e2, h⟩
theorem two {σ : St} {H : Hp} {Q : VK} {k : W → W → Option W} {R2' : V → V → Hp → Prop} (h : tE X.K C cls Wx (f2 k fa fb) σ H Q)
    (go : ∀ F oa al ρ g H' x y w u z, F.K = X.K → F.C = C → Rel F oa al ρ g σ H' → WOk F oa al H H' x w → WOk F oa al H H' y u → k w u = some z → Post F oa al cls σ H' Wx Q (.ok z g) → R2' x y H') :
    tE X.K C cls Wx fa σ H fun x H1 => tE X.K C cls Wx fb σ H1 fun y H2 => R2' x y H2 := by
  obtain ⟨F, oa, al, ρ, g, hK, hC, R, h⟩ := h
  refine Post.bind hK hC R h fun w g1 oa1 x H1 st1 R1 wo1 h1 => ?_
  refine Post.bind hK hC R1 (h1.later st1) fun u g2 oa2 y H2 st2 R2 wo2 h2 => ?_
  obtain ⟨z, e, h3⟩ := Post.of (h2.later st2)
  exact go F oa2 al ρ g2 H2 x y w u z hK hC R2 (wo1.step R1 st2) (wo2.earlier st1.ext.dom) e h3
theorem one {σ : St} {H : Hp} {Q : VK} {k : W → Option W} {R1' : V → Hp → Prop} (h : tE X.K C cls Wx (f1 k fa) σ H Q)
    (go : ∀ F oa al ρ g H' x w z, F.K = X.K → F.C = C → Rel F oa al ρ g σ H' → WOk F oa al H H' x w → k w = some z → Post F oa al cls σ H' Wx Q (.ok z g) → R1' x H') :
    tE X.K C cls Wx fa σ H fun x H1 => R1' x H1 := by
  obtain ⟨F, oa, al, ρ, g, hK, hC, R, h⟩ := h
  refine Post.bind hK hC R h fun w g1 oa1 x H1 st1 R1 wo1 h1 => ?_
  obtain ⟨z, e, h3⟩ := Post.of (h1.later st1)
  exact go F oa1 al ρ g1 H1 x w z hK hC R1 wo1 e h3
theorem tOp_of {bD : PyData → PyData → Option W} {σ : St} {H : Hp} {Q : VK} (h : tE X.K C cls Wx (f2 (kD bD) fa fb) σ H Q) : tOp (rD bD) (tE X.K C cls Wx fa) (tE X.K C cls Wx fb) σ H Q :=
  two h fun F oa al ρ g H' x y w u z hK hC R wx wy e p => by
    obtain ⟨dx, dy, e1, e2, e3⟩ := kD_some e
    exact ⟨_, dx, dy, z, wx.rd e1, wy.rd e2, e3, fun v H2 n => p.here R n⟩
theorem fe_bin {o : O2} {op : Operator} {pos : Pos} (ho : bop? o = some op) (ha : PE X a (tE X.K C cls Wx fa)) (hb : PE X b (tE X.K C cls Wx fb)) : PE X (.BinOp a op b pos) (tE X.K C cls Wx (f2 (kD (binD o)) fa fb)) :=
  PE.imp (pe_op (opD_b ho) ha hb) fun _ _ _ h => tOp_of h
theorem fe_cmp {o : O2} {op : CmpOp} {pos : Pos} (hu : X.A.units + 65 < cLine) (ho : cop? o = some op) (ha : PE X a (tE X.K C cls Wx fa)) (hb : PE X b (tE X.K C cls Wx fb)) (hm : behindInMarks op b = false) : PE X (.Compare a [op] [b] pos) (tE X.K C cls Wx (f2 (kD (binD o)) fa fb)) :=
  PE.imp (pe_cmpR (opD_c hu ho) ha hb hm) fun _ _ _ h => tOp_of h
/-! ### tests -/
def tB' (f : Env' → G → Res W) : Env' → G → Res Bool := fun ρ g => (f ρ g).bind fun w g1 => .of w.bl? g1
theorem WOk.bool {F : Fm} {oa : OA} {al : List (Option Addr)} {H0 H : Hp} {v : V} {w : W} {k : Bool} (h : WOk F oa al H0 H v w) (e : w.bl? = some k) : v = .bl k ∧ w = .d (.bool k) := by
  cases w with
  | d x => cases x with
    | bool b => obtain rfl := Option.some.inj e; cases h; exact ⟨rfl, rfl⟩
    | none => cases e
    | int _ => cases e
    | str _ => cases e
    | list _ => cases e
    | tuple _ => cases e
    | dict _ => cases e
  | _ => cases e
theorem WOk.int {F : Fm} {oa : OA} {al : List (Option Addr)} {H0 H : Hp} {v : V} {w : W} {k : Int} (h : WOk F oa al H0 H v w) (e : w.int? = some k) : v = .int k ∧ w = .d (.int k) := by
  cases w with
  | d x => cases x with
    | int b => obtain rfl := Option.some.inj e; cases h; exact ⟨rfl, rfl⟩
    | none => cases e
    | bool _ => cases e
    | str _ => cases e
    | list _ => cases e
    | tuple _ => cases e
    | dict _ => cases e
  | _ => cases e
theorem PostB.bind {F : Fm} {oa : OA} {al : List (Option Addr)} {ρ : Env'} {g : G} {σ : St} {H : Hp} {Q : Bool → Hp → Prop} {f : Env' → G → Res W} {k : W → G → Res Bool} {K : PySem.W.Frag} (hK : F.K = K) (hC : F.C = C) (R : Rel F oa al ρ g σ H)
    (h : PostB F oa al cls σ H Wx Q ((f ρ g).bind k)) {Q' : VK}
    (go : ∀ w g1 oa1 v H1, Step F oa oa1 g1 H H1 → Rel F oa1 al ρ g1 σ H1 → WOk F oa1 al H H1 v w → PostB F oa al cls σ H Wx Q (k w g1) → Q' v H1) : tE K C cls Wx f σ H Q' := by
  refine ⟨F, oa, al, ρ, g, hK, hC, R, ?_⟩
  cases e : f ρ g with
  | ok w g1 =>
    rw [e] at h
    exact fun oa1 v H1 st wo => go w g1 oa1 v H1 st (R.step st) wo h
  | ex c g1 => rw [e] at h; exact h
  | no => rw [e] at h; exact h
theorem PostB.later {F : Fm} {oa oa1 : OA} {al : List (Option Addr)} {g1 : G} {σ : St} {H H1 : Hp} {Q : Bool → Hp → Prop} {r : Res Bool} (h : PostB F oa al cls σ H Wx Q r) (st : Step F oa oa1 g1 H H1) : PostB F oa1 al cls σ H1 Wx Q r := by
  cases r with
  | ok w g' => exact fun oa' H' st' => h oa' H' (st.trans st')
  | ex c g' => exact fun oa' H' st' => h oa' H' (st.trans st')
  | no => exact h
/-- a test by its value -/
theorem tB_of {σ : St} {H : Hp} {Q : Bool → Hp → Prop} (h : tT X.K C cls Wx (tB' fa) σ H Q) : tB (tE X.K C cls Wx fa) σ H Q := by
  obtain ⟨F, oa, al, ρ, g, hK, hC, R, h⟩ := h
  refine PostB.bind hK hC R h fun w g1 oa1 v H1 st1 R1 wo1 h1 => ?_
  cases e : w.bl? with
  | none => rw [e] at h1; exact h1.elim
  | some k =>
    rw [e] at h1
    obtain ⟨rfl, _⟩ := wo1.bool e
    exact ⟨k, rfl, h1 oa1 H1 st1⟩
theorem ft_val (ha : PE X a (tE X.K C cls Wx fa)) (he : ∀ whole, isTrue a X.env whole = (do let v ← whole; standAt a.pos; holding [v] (truthy v))) : PT X a (tT X.K C cls Wx (tB' fa)) :=
  PT.imp (pt_val ha he) fun _ _ _ h => tB_of h
theorem ft_cmp {o : O2} {op : CmpOp} {pos : Pos} (hu : X.A.units + 65 < cLine) (ho : cop? o = some op) (ha : PE X a (tE X.K C cls Wx fa)) (hb : PE X b (tE X.K C cls Wx fb)) (hm : behindInMarks op b = false) : PT X (.Compare a [op] [b] pos) (tT X.K C cls Wx (tB' (f2 (kD (binD o)) fa fb))) := by
  refine PT.imp (pt_cmpR (opD_c hu ho) ha hb hm) fun σ H Q h => ?_
  obtain ⟨F, oa, al, ρ, g, hK, hC, R, h⟩ := h
  show tE X.K C cls Wx fa σ H fun x H1 => tE X.K C cls Wx fb σ H1 fun y H2 => rD (binD o) x y H2 fun x H' => ∃ k, x = .bl k ∧ Q k H'
  refine tOp_of ⟨F, oa, al, ρ, g, hK, hC, R, ?_⟩
  unfold tB' at h
  cases e : f2 (kD (binD o)) fa fb ρ g with
  | ok w g1 =>
    rw [e] at h
    intro oa' v H' st wo
    cases e2 : w.bl? with
    | none => simp only [bind_ok, e2] at h; exact h.elim
    | some k =>
      simp only [bind_ok, e2] at h
      obtain ⟨rfl, _⟩ := wo.bool e2
      exact ⟨k, rfl, h oa' H' st⟩
  | ex c g1 => rw [e] at h; exact h
  | no => rw [e] at h; exact h
/-- from a test's reading to a test's reading -/
theorem tT_bind {F : Fm} {oa : OA} {al : List (Option Addr)} {ρ : Env'} {g : G} {σ : St} {H : Hp} {Q Q' : Bool → Hp → Prop} {f : Env' → G → Res Bool} {k : Bool → G → Res Bool} {K : PySem.W.Frag} (hK : F.K = K) (hC : F.C = C) (R : Rel F oa al ρ g σ H)
    (h : PostB F oa al cls σ H Wx Q ((f ρ g).bind k))
    (go : ∀ c g1 oa1 H1, Step F oa oa1 g1 H H1 → Rel F oa1 al ρ g1 σ H1 → PostB F oa al cls σ H Wx Q (k c g1) → Q' c H1) : tT K C cls Wx f σ H Q' := by
  refine ⟨F, oa, al, ρ, g, hK, hC, R, ?_⟩
  cases e : f ρ g with
  | ok w g1 =>
    rw [e] at h
    exact fun oa1 H1 st => go w g1 oa1 H1 st (R.step st) h
  | ex c g1 => rw [e] at h; exact h
  | no => rw [e] at h; exact h
def fnotB (f : Env' → G → Res Bool) : Env' → G → Res Bool := fun ρ g => (f ρ g).bind fun k g1 => .ok (!k) g1
def fandB (f f' : Env' → G → Res Bool) : Env' → G → Res Bool := fun ρ g => (f ρ g).bind fun k g1 => if k = true then f' ρ g1 else .ok false g1
def forB (f f' : Env' → G → Res Bool) : Env' → G → Res Bool := fun ρ g => (f ρ g).bind fun k g1 => if k = true then .ok true g1 else f' ρ g1
variable {ta tb tc : Env' → G → Res Bool}
theorem ft_not {pos : Pos} (ha : PT X a (tT X.K C cls Wx ta)) : PT X (.UnaryOp .Not a pos) (tT X.K C cls Wx (fnotB ta)) := by
  refine PT.imp (pt_not ha) fun σ H Q h => ?_
  obtain ⟨F, oa, al, ρ, g, hK, hC, R, h⟩ := h
  exact tT_bind hK hC R h fun k g1 oa1 H1 st R1 h1 => h1 oa1 H1 st
theorem fw_and1 {pos : Pos} (ha : PT X a (tT X.K C cls Wx ta)) : PW X (.BoolOp .And [a] pos) (tT X.K C cls Wx ta) := pw_and1 ha
theorem fw_or1 {pos : Pos} (ha : PT X a (tT X.K C cls Wx ta)) : PW X (.BoolOp .Or [a] pos) (tT X.K C cls Wx ta) := pw_or1 ha
theorem fw_and {rest : List Expr} {pos : Pos} (ha : PT X a (tT X.K C cls Wx ta)) (hb : PW X (.BoolOp .And (b :: rest) pos) (tT X.K C cls Wx tb)) : PW X (.BoolOp .And (a :: b :: rest) pos) (tT X.K C cls Wx (fandB ta tb)) := by
  refine PW.imp (pw_and ha hb) fun σ H Q h => ?_
  obtain ⟨F, oa, al, ρ, g, hK, hC, R, h⟩ := h
  refine tT_bind hK hC R h fun k g1 oa1 H1 st R1 h1 => ?_
  cases k with
  | true => exact iteT ⟨F, oa1, al, ρ, g1, hK, hC, R1, by rw [if_pos rfl] at h1; exact h1.later st⟩
  | false => rw [if_neg Bool.false_ne_true] at h1; exact iteF (h1 oa1 H1 st)
theorem fw_or {rest : List Expr} {pos : Pos} (ha : PT X a (tT X.K C cls Wx ta)) (hb : PW X (.BoolOp .Or (b :: rest) pos) (tT X.K C cls Wx tb)) : PW X (.BoolOp .Or (a :: b :: rest) pos) (tT X.K C cls Wx (forB ta tb)) := by
  refine PW.imp (pw_or ha hb) fun σ H Q h => ?_
  obtain ⟨F, oa, al, ρ, g, hK, hC, R, h⟩ := h
  refine tT_bind hK hC R h fun k g1 oa1 H1 st R1 h1 => ?_
  cases k with
  | true => rw [if_pos rfl] at h1; exact iteT (h1 oa1 H1 st)
  | false => exact iteF ⟨F, oa1, al, ρ, g1, hK, hC, R1, by rw [if_neg Bool.false_ne_true] at h1; exact h1.later st⟩
/-- as values -/
def asW (f : Env' → G → Res Bool) : Env' → G → Res W := fun ρ g => (f ρ g).bind fun k g1 => .ok (.d (.bool k)) g1
theorem Post.bl {F : Fm} {oa oa1 : OA} {al : List (Option Addr)} {σ : St} {H H1 : Hp} {Q : VK} {g1 : G} {k : Bool} (h : Post F oa al cls σ H Wx Q (.ok (.d (.bool k)) g1)) (st : Step F oa oa1 g1 H H1) : Q (.bl k) H1 := h oa1 _ H1 st (.bl k)
/-- a value that is the bool of a test -/
theorem asW_bind {F : Fm} {oa : OA} {al : List (Option Addr)} {ρ : Env'} {g : G} {σ : St} {H : Hp} {Q : VK} {k : Bool → G → Res W} {K : PySem.W.Frag} (hK : F.K = K) (hC : F.C = C) (R : Rel F oa al ρ g σ H)
    (h : Post F oa al cls σ H Wx Q ((tB' fa ρ g).bind k)) {Q' : VK}
    (go : ∀ c g1 oa1 H1, Step F oa oa1 g1 H H1 → Rel F oa1 al ρ g1 σ H1 → Post F oa al cls σ H Wx Q (k c g1) → Q' (.bl c) H1) : tE K C cls Wx fa σ H Q' := by
  refine ⟨F, oa, al, ρ, g, hK, hC, R, ?_⟩
  unfold tB' at h
  cases e : fa ρ g with
  | ok w g1 =>
    rw [e] at h
    intro oa1 v H1 st wo
    cases e2 : w.bl? with
    | none => simp only [bind_ok, e2] at h; exact h.elim
    | some c =>
      simp only [bind_ok, e2, of_some] at h
      obtain ⟨rfl, _⟩ := wo.bool e2
      exact go c g1 oa1 H1 st (R.step st) h
  | ex c g1 => rw [e] at h; exact h
  | no => rw [e] at h; exact h
def fandW (f : Env' → G → Res W) (f' : Env' → G → Res W) : Env' → G → Res W := fun ρ g => (tB' f ρ g).bind fun k g1 => if k = true then f' ρ g1 else .ok (.d (.bool false)) g1
def forW (f : Env' → G → Res W) (f' : Env' → G → Res W) : Env' → G → Res W := fun ρ g => (tB' f ρ g).bind fun k g1 => if k = true then .ok (.d (.bool true)) g1 else f' ρ g1
theorem fe_asBool (ha : PE X a (tE X.K C cls Wx fa)) : PE X a (tE X.K C cls Wx (asW (tB' fa))) := by
  refine PE.imp ha fun σ H Q h => ?_
  obtain ⟨F, oa, al, ρ, g, hK, hC, R, h⟩ := h
  exact asW_bind hK hC R h fun c g1 oa1 H1 st R1 h1 => h1.bl st
theorem fe_one {op pos} (ha : PE X a (tE X.K C cls Wx fa)) : PE X (.BoolOp op [a] pos) (tE X.K C cls Wx (asW (tB' fa))) := pe_one (fe_asBool ha)
theorem fe_and {rest : List Expr} {pos : Pos} (ha : PE X a (tE X.K C cls Wx fa)) (hb : PE X (.BoolOp .And (b :: rest) pos) (tE X.K C cls Wx fb)) : PE X (.BoolOp .And (a :: b :: rest) pos) (tE X.K C cls Wx (fandW fa fb)) := by
  refine PE.imp (pe_and ha hb) fun σ H Q h => ?_
  obtain ⟨F, oa, al, ρ, g, hK, hC, R, h⟩ := h
  refine asW_bind hK hC R h fun k g1 oa1 H1 st R1 h1 => ⟨k, rfl, ?_⟩
  cases k with
  | true => exact iteT ⟨F, oa1, al, ρ, g1, hK, hC, R1, by rw [if_pos rfl] at h1; exact h1.later st⟩
  | false => rw [if_neg Bool.false_ne_true] at h1; exact iteF (h1.bl st)
theorem fe_or {rest : List Expr} {pos : Pos} (ha : PE X a (tE X.K C cls Wx fa)) (hb : PE X (.BoolOp .Or (b :: rest) pos) (tE X.K C cls Wx fb)) : PE X (.BoolOp .Or (a :: b :: rest) pos) (tE X.K C cls Wx (forW fa fb)) := by
  refine PE.imp (pe_or ha hb) fun σ H Q h => ?_
  obtain ⟨F, oa, al, ρ, g, hK, hC, R, h⟩ := h
  refine asW_bind hK hC R h fun k g1 oa1 H1 st R1 h1 => ⟨k, rfl, ?_⟩
  cases k with
  | true => rw [if_pos rfl] at h1; exact iteT (h1.bl st)
  | false => exact iteF ⟨F, oa1, al, ρ, g1, hK, hC, R1, by rw [if_neg Bool.false_ne_true] at h1; exact h1.later st⟩
theorem fe_not {pos : Pos} (ha : PE X a (tE X.K C cls Wx fa)) : PE X (.UnaryOp .Not a pos) (tE X.K C cls Wx (asW (fnotB (tB' fa)))) := by
  refine PE.imp (pe_not ha) fun σ H Q h => ?_
  obtain ⟨F, oa, al, ρ, g, hK, hC, R, h⟩ := h
  have h' : Post F oa al cls σ H Wx Q ((tB' fa ρ g).bind fun k g1 => .ok (.d (.bool (!k))) g1) := by
    unfold asW fnotB at h
    cases e : tB' fa ρ g with
    | ok k g1 => rw [e] at h; exact h
    | ex c g1 => rw [e] at h; exact h
    | no => rw [e] at h; exact h
  exact asW_bind hK hC R h' fun k g1 oa1 H1 st R1 h1 => ⟨k, rfl, h1.bl st⟩
def fite (t : Env' → G → Res Bool) (f f' : Env' → G → Res W) : Env' → G → Res W := fun ρ g => (t ρ g).bind fun k g1 => if k = true then f ρ g1 else f' ρ g1
theorem Post.bindT {F : Fm} {oa : OA} {al : List (Option Addr)} {ρ : Env'} {g : G} {σ : St} {H : Hp} {Q : VK} {t : Env' → G → Res Bool} {k : Bool → G → Res W} {K : PySem.W.Frag} (hK : F.K = K) (hC : F.C = C) (R : Rel F oa al ρ g σ H)
    (h : Post F oa al cls σ H Wx Q ((t ρ g).bind k)) {Q' : Bool → Hp → Prop}
    (go : ∀ c g1 oa1 H1, Step F oa oa1 g1 H H1 → Rel F oa1 al ρ g1 σ H1 → Post F oa al cls σ H Wx Q (k c g1) → Q' c H1) : tT K C cls Wx t σ H Q' := by
  refine ⟨F, oa, al, ρ, g, hK, hC, R, ?_⟩
  cases e : t ρ g with
  | ok w g1 =>
    rw [e] at h
    exact fun oa1 H1 st => go w g1 oa1 H1 st (R.step st) h
  | ex c g1 => rw [e] at h; exact h
  | no => rw [e] at h; exact h
theorem fe_ite {pos : Pos} (hc : PT X c (tT X.K C cls Wx tc)) (ha : PE X a (tE X.K C cls Wx fa)) (hb : PE X b (tE X.K C cls Wx fb)) : PE X (.IfExp c a b pos) (tE X.K C cls Wx (fite tc fa fb)) := by
  refine PE.imp (pe_ifExp hc ha hb) fun σ H Q h => ?_
  obtain ⟨F, oa, al, ρ, g, hK, hC, R, h⟩ := h
  refine Post.bindT hK hC R h fun k g1 oa1 H1 st R1 h1 => ?_
  cases k with
  | true => exact iteT ⟨F, oa1, al, ρ, g1, hK, hC, R1, by rw [if_pos rfl] at h1; exact h1.later st⟩
  | false => exact iteF ⟨F, oa1, al, ρ, g1, hK, hC, R1, by rw [if_neg Bool.false_ne_true] at h1; exact h1.later st⟩
theorem fe_neg {pos : Pos} (ha : PE X a (tE X.K C cls Wx fa)) : PE X (.UnaryOp .USub a pos) (tE X.K C cls Wx (f1 (fun w => w.int?.map fun i => .d (.int (-i))) fa)) := by
  refine PE.imp (pe_un un_neg ha) fun σ H Q h => ?_
  refine one h fun F oa al ρ g H' x w z hK hC R wx e p => ?_
  cases e2 : w.int? with
  | none => rw [e2] at e; cases e
  | some i =>
    rw [e2] at e
    obtain rfl := Option.some.inj e
    obtain ⟨rfl, _⟩ := wx.int e2
    exact ⟨i, rfl, p.here R (.old (.int _))⟩
/-- a < b < c -/
def fchain (o p : O2) (fa fb fc : Env' → G → Res W) : Env' → G → Res W := fun ρ g => (fa ρ g).bind fun w g1 => (fb ρ g1).bind fun u g2 => (Res.of (bt (kD (binD o) w u)) g2).bind fun k g3 =>
  if k = true then (fc ρ g3).bind fun z g4 => .of (kD (binD p) u z) g4 else .ok (.d (.bool false)) g3
theorem bt_some {o : Option W} {k : Bool} (h : bt o = some k) : o = some (.d (.bool k)) := by
  unfold bt at h
  split at h
  · rename_i b
    obtain rfl := Option.some.inj h
    rfl
  · cases h
theorem Nw.blV {O : Addr → Prop} {H H' : Hp} {v : V} {k : Bool} (n : Nw O H v H' (.d (.bool k))) : v = .bl k ∧ H' = H := by
  cases n with
  | old h => cases h; exact ⟨rfl, rfl⟩
theorem tChain_of {o p : O2} {σ : St} {H : Hp} {Q : VK} (h : tE X.K C cls Wx (fchain o p fa fb fc) σ H Q) :
    tE X.K C cls Wx fa σ H fun x H1 => tE X.K C cls Wx fb σ H1 fun y H2 => rD (binD o) x y H2 fun z H3 => ∃ k, z = .bl k ∧ if k = true then tE X.K C cls Wx fc σ H3 fun w H4 => rD (binD p) y w H4 Q else Q (.bl false) H3 := by
  obtain ⟨F, oa, al, ρ, g, hK, hC, R, h⟩ := h
  refine Post.bind hK hC R h fun w g1 oa1 x H1 st1 R1 wo1 h1 => ?_
  refine Post.bind hK hC R1 (h1.later st1) fun u g2 oa2 y H2 st2 R2 wo2 h2 => ?_
  have h3 := h2.later st2
  cases e : bt (kD (binD o) w u) with
  | none => rw [e] at h3; exact h3.elim
  | some k =>
    rw [e] at h3
    simp only [of_some, bind_ok] at h3
    obtain ⟨dx, dy, e1, e2, e3⟩ := kD_some (bt_some e)
    refine ⟨_, dx, dy, _, (wo1.step R1 st2).rd e1, wo2.rd e2, e3, fun z H3 n => ?_⟩
    obtain ⟨rfl, rfl⟩ := n.blV
    refine ⟨k, rfl, ?_⟩
    cases k with
    | false => exact iteF (by rw [if_neg Bool.false_ne_true] at h3; exact h3.here R2 (.old (.bl _)))
    | true =>
      refine iteT ?_
      rw [if_pos rfl] at h3
      refine Post.bind hK hC R2 h3 fun z g4 oa4 zv H4 st4 R4 wo4 h4 => ?_
      obtain ⟨r, e, h5⟩ := Post.of (h4.later st4)
      obtain ⟨dx', dy', e1', e2', e3'⟩ := kD_some e
      exact ⟨_, dx', dy', r, (wo2.step R2 st4).rd e1', wo4.rd e2', e3', fun v H' n => h5.here R4 n⟩
theorem fe_chain {o p : O2} {op op' : CmpOp} {pos : Pos} (hu : X.A.units + 65 < cLine) (ho : cop? o = some op) (hp : cop? p = some op') (ha : PE X a (tE X.K C cls Wx fa)) (hb : PE X b (tE X.K C cls Wx fb)) (hc : PE X c (tE X.K C cls Wx fc))
    (hm : lastMarks [op, op'] [b, c] = false) : PE X (.Compare a [op, op'] [b, c] pos) (tE X.K C cls Wx (fchain o p fa fb fc)) :=
  PE.imp (pe_chain (opD_c hu ho) (opD_c hu hp) ha hb hc hm) fun σ H Q h => tChain_of h
end
end TP
/-! xs[::-1] of a list or a tuple. -/
namespace TP
open PySem PySem.Spec PyProof.Rows HT L2
section
variable {prog : Program} {w : World} {A : Around} {E : Value → Shared → Prop} {s : Shared}
theorem sliceApplied_rev {sl : Addr} {vl vu vs : Value} {n : Nat} {Q : Int × Int × Nat → Shared → Prop} (hs : s.heap.IsSliceOf sl vl vu vs) (pl : IsPart vl none) (pu : IsPart vu none) (ps : IsPart vs (some (-1)))
    (h : Q ((n : Int) - 1, -1, n) s) : wpAny (model prog w) A (Builtin.Slice.sliceApplied (.ref sl) (pure (n : Int))) Q E s := by
  obtain ⟨os, hos, hcs, hds⟩ := id hs
  unfold Builtin.Slice.sliceApplied Builtin.Slice.sliceFields
  refine wpAny_bind (wpAny_bind (wpAny_field hos hds (x := vl) rfl (wpAny_bind (wpAny_field hos hds (x := vu) rfl (wpAny_bind (wpAny_field hos hds (x := vs) rfl (wpAny_pure ?_)))))))
  refine wpAny_bind (slicePart_ ps ?_)
  show wpAny _ _ (if ((-1 : Int) == 0) = true then _ else _) _ _ s
  rw [if_neg (by decide)]
  refine wpAny_bind (slicePart_ pl (wpAny_bind (slicePart_ pu (wpAny_bind (wpAny_pure ?_)))))
  show wpAny _ _ (pure (((n : Int) - 1, (-1 : Int), Builtin.Slice.slicePlaces ((n : Int) - 1) (-1) (-1)))) _ _ s
  have e : Builtin.Slice.slicePlaces ((n : Int) - 1) (-1) (-1) = n := by
    unfold Builtin.Slice.slicePlaces
    rw [if_neg (by decide)]
    by_cases hn : n = 0
    · subst hn; rfl
    · rw [if_pos (by omega)]
      have : -(-1 : Int) = 1 := rfl
      rw [this, Int.ediv_one]
      omega
  rw [e]
  exact wpAny_pure h
theorem pick_rev (xs : Array Value) : ((List.range xs.size).filterMap fun (m : Nat) => xs[(((xs.size : Int) - 1) + (m : Int) * -1).toNat]?).toArray = xs.toList.reverse.toArray := by
  congr 1
  have e : (List.range xs.size).filterMap (fun (m : Nat) => xs[(((xs.size : Int) - 1) + (m : Int) * -1).toNat]?) = ((List.range xs.size).map fun m => xs.size - 1 - m).filterMap fun m => xs[m]? := by
    rw [List.filterMap_map]
    congr 1
    funext m
    show xs[(((xs.size : Int) - 1) + (m : Int) * -1).toNat]? = xs[xs.size - 1 - m]?
    rw [show (((xs.size : Int) - 1) + (m : Int) * -1).toNat = xs.size - 1 - m by omega]
  have e3 : ((List.range xs.size).map fun m => xs.size - 1 - m) = (List.range xs.size).reverse := by
    refine List.ext_getElem (by simp) fun i h1 h2 => ?_
    simp
  rw [e, e3, List.filterMap_reverse]
  congr 1
  have := pick_run xs 0 xs.size
  rw [List.filterMap_map] at this
  have e2 : ((fun x => xs[x]?) ∘ fun x => 0 + x) = fun m => xs[m]? := by
    funext m
    show xs[0 + m]? = _
    rw [Nat.zero_add]
  rw [e2] at this
  rw [this, List.drop_zero, ← Array.length_toList, List.take_length]
theorem getItem_tuple_rev {t sl : Addr} {items : Array Value} {vl vu vs : Value} {Q : Value → Shared → Prop} (ht : IsTup s.heap t items) (hs : s.heap.IsSliceOf sl vl vu vs) (pl : IsPart vl none) (pu : IsPart vu none) (ps : IsPart vs (some (-1)))
    (h : Q (.ref s.heap.objs.size) { s with heap := s.heap.push { cls := .type "tuple", data := .seq items.toList.reverse.toArray } })
    (hsz : items.size ≤ sizeLine) : wpAny (model prog w) A (getItem (.ref t) (.ref sl)) Q E s := by
  have htake : sizeOk (.seq items.toList.reverse.toArray) := by
    show items.toList.reverse.toArray.size ≤ sizeLine
    rw [List.size_toArray, List.length_reverse, Array.length_toList]
    exact hsz
  obtain ⟨os, hos, hcs, hds⟩ := id hs
  have hTs : s.TypeIs (.ref sl) "slice" := ⟨os, hos, hcs⟩
  unfold getItem
  try with_reducible refine wpAny_holding ?_
  first | refine wpAny_bind (wpAny_pure ?_) | skip
  refine wpAny_bind (wpAny_sequenceKey ht.typeIs (by decide) ?_)
  refine wpAny_bind (wpAny_callSpecial?_slot (name := Str.ofString "__getitem__") ht.typeIs PyProof.Rows.slot_tuple_getitem
    (wpAny_call_entry PyProof.Rows.slot_tuple_getitem ht.typeIs entry_tuple_getitem ?_ (args_tuple_getitem _ _)))
  show wpAny _ _ (Builtin.Tuple.tupleItemsOf (.ref t) >>= _) _ _ s
  refine wpAny_bind (tupleItemsOf_ ht ?_)
  refine wpAny_bind (wpAny_typeOf hTs ?_)
  rw [if_pos (by decide)]
  refine wpAny_bind (sliceApplied_rev hs pl pu ps ?_)
  have hno : ¬ ((((items.size : Int) - 1) == 0 && (-1 : Int) == 1 && items.size == items.size) = true) := by
    intro q
    rw [Bool.and_eq_true, Bool.and_eq_true] at q
    exact absurd q.1.2 (by decide)
  show wpAny _ _ (if (((items.size : Int) - 1) == 0 && (-1 : Int) == 1 && items.size == items.size) = true then _ else _) _ _ s
  rw [if_neg hno, pick_rev]
  first
    | exact wpAny_bind (m := Builtin.Tuple.tupleExact _) (wpAny_newObj_type (wpAny_pure ⟨_, rfl, wpAny_pure h⟩) htake)
    | exact wpAny_bind (m := Builtin.Tuple.tupleExact _) (wpAny_newObj_type (wpAny_bind (wpAny_pure (wpAny_pure ⟨_, rfl, wpAny_pure h⟩))) htake)
    | exact wpAny_bind (wpAny_bind (m := Builtin.Tuple.tupleExact _) (wpAny_newObj_type (wpAny_pure (wpAny_pure ⟨_, rfl, wpAny_pure h⟩)) htake))
    | exact wpAny_bind (wpAny_bind (m := Builtin.Tuple.tupleExact _) (wpAny_newObj_type (wpAny_pure ⟨_, rfl, wpAny_pure h⟩) htake))
end
section
variable {X : Cx}
def tRevX (K : PySem.W.Frag) (te : TE) : TE := fun σ H Q => te σ H fun x H1 => (∃ a xs, x = .ref a ∧ SqL K H1 a xs ∧ ∀ p, H1 p = none → Q (.ref p) (upd H1 p (.lst xs.reverse))) ∨ (∃ a xs, x = .ref a ∧ SqT K H1 a xs ∧ ∀ p, H1 p = none → Q (.ref p) (upd H1 p (.tup xs.reverse)))
theorem pe_revX {e : Expr} {te : TE} {k : Nat} {p1 p2 p3 pos : Pos} (he : PE X e te) : PE X (.Subscript e (.Slice none none (some (.UnaryOp .USub (.Constant (.int 1) k p1) p2)) p3) pos) (tRevX X.K te) := by
  refine ⟨fun pins s σ H Q I h => ?_⟩
  refine Subscript_ (thn (he.run pins s σ H _ I h) fun v s1 ⟨x, H1, I1, r1, q1⟩ => ?_)
  have hst : PO X (some (.UnaryOp .USub (.Constant (.int 1) k p1) p2)) (tPart (tUn (rU fun i => .int (-i)) (tC (.int 1)))) := po_some (pe_un un_neg pe_int)
  refine wpAny_Slice (thn (po_none.run pins s1 σ H1 (fun o H2 => o = none ∧ H2 = H1) I1 ⟨rfl, rfl⟩) fun vl s2 ⟨l, H2, I2, pl, el, e2⟩ => ?_)
  subst el e2
  refine thn (po_none.run pins s2 σ H2 (fun o H3 => o = none ∧ H3 = H2) I2 ⟨rfl, rfl⟩) fun vu s3 ⟨u, H3, I3, pu, eu, e3⟩ => ?_
  subst eu e3
  refine thn (hst.run pins s3 σ H3 (fun o H4 => o = some (-1) ∧ H4 = H3) I3 ⟨1, rfl, -1, rfl, rfl, rfl⟩) fun vs s4 ⟨o, H4, I4, ps, eo, e4⟩ => ?_
  subst eo e4
  have I5 : Inv X pins σ H4 { s4 with heap := s4.heap.push { cls := .type "slice", data := .fields #[vl, vu, vs] } } := I4.kept (t' := s4.toks) fun b ob q => Heap.get?_push_of_some _ q
  rcases q1 with ⟨a, xs, ex, hx, q⟩ | ⟨a, xs, ex, hx, q⟩
  · subst ex
    cases r1
    obtain ⟨its, r, ht, hz⟩ := I5.list hx
    have hlen := r.length
    show wpAny (model X.prog X.w) X.A (subscriptTail e (.Slice none none (some (.UnaryOp .USub (.Constant (.int 1) k p1) p2)) p3) (.ref a) (.ref s4.heap.objs.size)) (EP X pins σ Q) X.xe { s4 with heap := s4.heap.push { cls := .type "slice", data := .fields #[vl, vu, vs] } }
    refine tail_any (ops := [.ref a, .ref s4.heap.objs.size]) ht.isList.typeIs (PySem.slot_list_getitem.lookup) ?_ (by with_unfolding_all rfl)
    refine wpAny_getItem_list_slice ht.isList (Heap.IsSliceOf.new _ vl vu vs) pl pu ps (by decide) ?_ (by rw [List.size_toArray]; omega)
    rw [PySem.W.krv_pick]
    refine ⟨.ref _, _, I5.laid (t' := s4.toks) (o := .lst xs.reverse) (fun b ob q => Heap.get?_push_of_some _ q) (Nat.le_refl _) ?_, rfl, q _ (I5.hok.fresh (Nat.le_refl _))⟩
    exact ⟨by rw [List.length_reverse]; exact hz, _, 0, r.reverse, Heap.get?_push_size _ rfl⟩
  · subst ex
    cases r1
    obtain ⟨its, r, ht, hz⟩ := I5.tuple hx
    have hlen := r.length
    show wpAny (model X.prog X.w) X.A (subscriptTail e (.Slice none none (some (.UnaryOp .USub (.Constant (.int 1) k p1) p2)) p3) (.ref a) (.ref s4.heap.objs.size)) (EP X pins σ Q) X.xe { s4 with heap := s4.heap.push { cls := .type "slice", data := .fields #[vl, vu, vs] } }
    refine tail_any (ops := [.ref a, .ref s4.heap.objs.size]) ht.typeIs (PyProof.Rows.slot_tuple_getitem.lookup) ?_ (by with_unfolding_all rfl)
    refine getItem_tuple_rev ht (Heap.IsSliceOf.new _ vl vu vs) pl pu ps ?_ (by rw [List.size_toArray]; omega)
    refine ⟨.ref _, _, I5.laid (t' := s4.toks) (o := .tup xs.reverse) (fun b ob q => Heap.get?_push_of_some _ q) (Nat.le_refl _) ?_, rfl, q _ (I5.hok.fresh (Nat.le_refl _))⟩
    exact ⟨by rw [List.length_reverse]; exact hz, _, r.reverse, IsTup.new _ _⟩
end
end TP
/-! Arguments, displays, subscripts. -/
namespace TP
open PySem L2
def plainE : Expr → Bool
  | .Starred _ _ | .Slice _ _ _ _ | .Set _ _ _ => false
  | _ => true
theorem star_plain {e : Expr} (h : plainE e = true) (es : List Expr) (env : Env) : starEach (e :: es) env = (false, eval e env) :: starEach es env := by
  cases e <;> first | rfl | (simp [plainE] at h)
theorem star_any {pos : Pos} {env : Env} : ∀ {es : List Expr}, es.all plainE = true → (backTo pos (starEach es env)).any (·.1) = false
  | [], _ => rfl
  | e :: es, h => by
    simp only [List.all_cons, Bool.and_eq_true] at h
    rw [star_plain h.1]
    have ih := star_any (pos := pos) (env := env) h.2
    show ((false, _) :: backTo pos (starEach es env)).any (·.1) = false
    simp only [List.any_cons, Bool.false_or]
    exact ih
theorem plain_ix {b : Expr} (h : plainE b = true) : PlainIx b := by
  intro o i
  cases b <;> first | rfl | (simp [plainE] at h)
section
variable {X : Cx} {C : Addr} {cls : Nat → Addr} {Wx : WX}
variable {a b : Expr} {fa fb : Env' → G → Res W} {es : List Expr} {fs : Env' → G → Res (List W)}
theorem PostA.later {F : Fm} {oa oa1 : OA} {al : List (Option Addr)} {g1 : G} {σ : St} {H H1 : Hp} {Q : List V → Hp → Prop} {r : Res (List W)} (h : PostA F oa al cls σ H Wx Q r) (st : Step F oa oa1 g1 H H1) : PostA F oa1 al cls σ H1 Wx Q r := by
  cases r with
  | ok w g' =>
    refine fun oa' v H' st' wo => h oa' v H' (st.trans st') ?_
    have go : ∀ {vs : List V} {ws : List W}, WsOk F oa' al H1 H' vs ws → WsOk F oa' al H H' vs ws := by
      intro vs ws q
      induction q with
      | nil => exact .nil
      | cons q _ ih => exact .cons (q.earlier st.ext.dom) ih
    exact go wo
  | ex c g' => exact fun oa' H' st' => h oa' H' (st.trans st')
  | no => exact h
def fcons (fa : Env' → G → Res W) (fs : Env' → G → Res (List W)) : Env' → G → Res (List W) := fun ρ g => (fa ρ g).bind fun w g1 => (fs ρ g1).bind fun ws g2 => .ok (w :: ws) g2
theorem fa_nil : PA X [] (tA X.K C cls Wx fun _ g => .ok [] g) := by
  refine PA.imp pa_nil ?_
  rintro σ H Q ⟨F, oa, al, ρ, g, hK, hC, R, h⟩
  exact h oa [] H (Step.refl R.gr) .nil
theorem fa_cons (hp : plainE a = true) (ha : PE X a (tE X.K C cls Wx fa)) (hs : PA X es (tA X.K C cls Wx fs)) : PA X (a :: es) (tA X.K C cls Wx (fcons fa fs)) := by
  refine PA.imp (pa_cons ha hs (star_plain hp es X.env)) ?_
  rintro σ H Q ⟨F, oa, al, ρ, g, hK, hC, R, h⟩
  show tE X.K C cls Wx fa σ H _
  refine ⟨F, oa, al, ρ, g, hK, hC, R, ?_⟩
  unfold fcons at h
  cases e : fa ρ g with
  | ex c g1 => rw [e] at h; exact h
  | no => rw [e] at h; exact h
  | ok w g1 =>
    rw [e] at h
    simp only [bind_ok] at h
    intro oa1 x H1 st1 wo1
    have R1 := R.step st1
    refine ⟨F, oa1, al, ρ, g1, hK, hC, R1, ?_⟩
    cases e2 : fs ρ g1 with
    | ex c g2 => rw [e2] at h; exact fun oa' H' st' => h oa' H' (st1.trans st')
    | no => rw [e2] at h; exact h
    | ok ws g2 =>
      rw [e2] at h
      simp only [bind_ok] at h
      intro oa2 xs H2 st2 wo2
      refine h oa2 (x :: xs) H2 (st1.trans st2) (.cons (wo1.step R1 st2) ?_)
      have go : ∀ {vs : List V} {ws : List W}, WsOk F oa2 al H1 H2 vs ws → WsOk F oa2 al H H2 vs ws := by
        intro vs ws q
        induction q with
        | nil => exact .nil
        | cons q _ ih => exact .cons (q.earlier st1.ext.dom) ih
      exact go wo2
theorem WsOk.len {F : Fm} {oa : OA} {al : List (Option Addr)} {H0 H : Hp} {vs : List V} {ws : List W} (h : WsOk F oa al H0 H vs ws) : vs.length = ws.length := by
  induction h with
  | nil => rfl
  | cons _ _ ih => simp [ih]
theorem WsOk.fzs {F : Fm} {oa : OA} {al : List (Option Addr)} {H0 H : Hp} {vs : List V} {ws : List W} (h : WsOk F oa al H0 H vs ws) : ∀ {xs : List PyData}, fzs ws = some xs → DqAll (Own F oa al) H vs xs := by
  induction h with
  | nil => intro xs e; obtain rfl := Option.some.inj e; exact .nil
  | cons q _ ih =>
    intro xs e
    unfold TP.fzs at e
    split at e
    · rename_i x ys e1 e2
      obtain rfl := Option.some.inj e
      exact .cons (q.fz e1) (ih e2)
    · cases e
inductive DrAll (O : Addr → Prop) (H : Hp) : List V → List PyData → Prop
  | nil : DrAll O H [] []
  | cons {v : V} {vs : List V} {x : PyData} {xs : List PyData} : Dr O H v x → DrAll O H vs xs → DrAll O H (v :: vs) (x :: xs)
theorem WsOk.rds {F : Fm} {oa : OA} {al : List (Option Addr)} {H0 H : Hp} {vs : List V} {ws : List W} (h : WsOk F oa al H0 H vs ws) : ∀ {xs : List PyData}, rds ws = some xs → DrAll (Own F oa al) H vs xs := by
  induction h with
  | nil => intro xs e; obtain rfl := Option.some.inj e; exact .nil
  | cons q _ ih =>
    intro xs e
    unfold TP.rds at e
    split at e
    · rename_i x ys e1 e2
      obtain rfl := Option.some.inj e
      exact .cons (q.rd e1) (ih e2)
    · cases e
/-- values from arguments -/
def fA (k : List W → Option W) (fs : Env' → G → Res (List W)) : Env' → G → Res W := fun ρ g => (fs ρ g).bind fun ws g1 => .of (k ws) g1
theorem tA_of {σ : St} {H : Hp} {Q : VK} {k : List W → Option W} {R' : List V → Hp → Prop} (h : tE X.K C cls Wx (fA k fs) σ H Q)
    (go : ∀ F oa al ρ0 ρ g g0 H' xs ws z, F.K = X.K → F.C = C → Rel F oa al ρ g σ H' → WsOk F oa al H H' xs ws → fs ρ0 g0 = .ok ws g → k ws = some z → (∀ b, H' b = none → H b = none) → Post F oa al cls σ H' Wx Q (.ok z g) → R' xs H') :
    tA X.K C cls Wx fs σ H R' := by
  obtain ⟨F, oa, al, ρ, g, hK, hC, R, h⟩ := h
  refine ⟨F, oa, al, ρ, g, hK, hC, R, ?_⟩
  unfold fA at h
  cases e : fs ρ g with
  | ex c g1 => rw [e] at h; exact h
  | no => rw [e] at h; exact h
  | ok ws g1 =>
    rw [e] at h
    simp only [bind_ok] at h
    intro oa1 xs H1 st1 wo1
    obtain ⟨z, e2, h2⟩ := Post.of h
    exact go F oa1 al ρ ρ g1 g H1 xs ws z hK hC (R.step st1) wo1 e e2 st1.ext.dom (h2.later st1)
theorem fe_tup {x1 pos} (hl : ∀ ρ g ws g', fs ρ g = .ok ws g' → ws.length ≤ 1000) (hs : PA X es (tA X.K C cls Wx fs)) : PE X (.Tuple es x1 pos) (tE X.K C cls Wx (fA (fun ws => (fzs ws).map fun xs => .d (.tuple xs)) fs)) := by
  refine PE.imp (pe_tup hs) fun σ H Q h => ?_
  refine tA_of h fun F oa al ρ0 ρ g g0 H' xs ws z hK hC R wo e0 e dm p => ?_
  cases e2 : fzs ws with
  | none => rw [e2] at e; cases e
  | some ds =>
    rw [e2] at e
    obtain rfl := Option.some.inj e
    refine ⟨?_, fun q hq => p.here R (.tup hq (wo.fzs e2))⟩
    have := hl _ _ _ _ e0
    rw [wo.len, sizeLine_eq]
    omega
theorem fe_lst {pos} (hl : ∀ ρ g ws g', fs ρ g = .ok ws g' → ws.length ≤ 1000) (hs : PA X es (tA X.K C cls Wx fs)) : PE X (.List es pos) (tE X.K C cls Wx (fA (fun ws => (fzs ws).map fun xs => .own (.lst xs)) fs)) := by
  refine PE.imp (pe_lst hs) fun σ H Q h => ?_
  refine tA_of h fun F oa al ρ0 ρ g g0 H' xs ws z hK hC R wo e0 e dm p => ?_
  cases e2 : fzs ws with
  | none => rw [e2] at e; cases e
  | some ds =>
    rw [e2] at e
    obtain rfl := Option.some.inj e
    refine ⟨?_, fun q hq => p.here R (.lst hq (wo.fzs e2))⟩
    have := hl _ _ _ _ e0
    rw [wo.len, sizeLine_eq]
    omega
/-! ### subscripts -/
theorem atI_dq {O : Addr → Prop} {H : Hp} {vs : List V} {xs : List PyData} (r : DqAll O H vs xs) {i : Int} {x : PyData} (h : atI xs i = some x) : ∃ v, atI vs i = some v ∧ Dq O H v x := by
  unfold atI at *
  rw [r.len]
  cases e : ixN xs.length i with
  | none => rw [e] at h; cases h
  | some j =>
    rw [e] at h
    obtain ⟨v, h1, h2⟩ := r.get (show xs[j]? = some x from h)
    exact ⟨v, h1, h2⟩
theorem ixR_D : IxR X (rD fun x i => (ixD x i).map .d) := by
  intro value slice pins s σ H x y v u Q I rx ry ⟨O, dx, dy, w, hx, hy, e, q⟩ hs
  dsimp only at e
  cases e1 : ixD dx dy with
  | none => rw [e1] at e; cases e
  | some z =>
    rw [e1] at e
    obtain rfl := Option.some.inj e
    unfold ixD at e1
    split at e1
    · obtain ⟨p, vs, rfl, h1, r1⟩ := hx.list
      cases hy.int
      obtain ⟨zv, e2, hz⟩ := atI_dq r1 e1
      exact ix_list value slice pins s σ H _ _ v u Q I rx ry ⟨p, vs, _, zv, rfl, rfl, SqL.of h1, e2, q _ _ (.old hz)⟩ hs
    · obtain ⟨p, vs, rfl, h1, r1⟩ := hx.tuple
      cases hy.int
      obtain ⟨zv, e2, hz⟩ := atI_dq r1 e1
      exact ix_tup value slice pins s σ H _ _ v u Q I rx ry ⟨p, vs, _, zv, rfl, rfl, SqT.of h1, e2, q _ _ (.old hz)⟩ hs
    · cases e1
theorem fe_ix {pos : Pos} (hp : plainE b = true) (ha : PE X a (tE X.K C cls Wx fa)) (hb : PE X b (tE X.K C cls Wx fb)) : PE X (.Subscript a b pos) (tE X.K C cls Wx (f2 (kD fun x i => (ixD x i).map .d) fa fb)) :=
  PE.imp (pe_ix ixR_D ha hb (plain_ix hp)) fun _ _ _ h => tOp_of h
/-- a part of a slice -/
def PostO (F : Fm) (oa : OA) (al : List (Option Addr)) (cls : Nat → Addr) (σ : St) (H : Hp) (Wx : WX) (Q : Option Int → Hp → Prop) : Res (Option Int) → Prop
  | .ok w g' => ∀ oa' H', Step F oa oa' g' H H' → Q w H'
  | .ex c g' => ∀ oa' H', Step F oa oa' g' H H' → Wx (.ref (cls c)) none σ H'
  | .no => False
def tO (K : PySem.W.Frag) (C : Addr) (cls : Nat → Addr) (Wx : WX) (f : Env' → G → Res (Option Int)) : TO := fun σ H Q => ∃ F oa al ρ g, F.K = K ∧ F.C = C ∧ Rel F oa al ρ g σ H ∧ PostO F oa al cls σ H Wx Q (f ρ g)
theorem PO.imp {e : Option Expr} {t t' : TO} (h : PO X e t) (i : ∀ σ H Q, t' σ H Q → t σ H Q) : PO X e t' := ⟨fun pins s σ H Q I q => h.run pins s σ H Q I (i σ H Q q)⟩
theorem fo_none : PO X none (tO X.K C cls Wx fun _ g => .ok none g) := by
  refine PO.imp po_none ?_
  rintro σ H Q ⟨F, oa, al, ρ, g, hK, hC, R, h⟩
  exact h oa H (Step.refl R.gr)
def fsom (fa : Env' → G → Res W) : Env' → G → Res (Option Int) := fun ρ g => (fa ρ g).bind fun w g1 => .of (w.int?.map some) g1
theorem fo_some (ha : PE X a (tE X.K C cls Wx fa)) : PO X (some a) (tO X.K C cls Wx (fsom fa)) := by
  refine PO.imp (po_some ha) ?_
  rintro σ H Q ⟨F, oa, al, ρ, g, hK, hC, R, h⟩
  refine ⟨F, oa, al, ρ, g, hK, hC, R, ?_⟩
  unfold fsom at h
  cases e : fa ρ g with
  | ex c g1 => rw [e] at h; exact h
  | no => rw [e] at h; exact h
  | ok w g1 =>
    rw [e] at h
    simp only [bind_ok] at h
    intro oa1 x H1 st1 wo1
    cases e2 : w.int? with
    | none => rw [e2] at h; exact h.elim
    | some i =>
      rw [e2] at h
      obtain ⟨rfl, _⟩ := wo1.int e2
      exact ⟨i, rfl, h oa1 H1 st1⟩
def rSlD : V → Option Int → Option Int → Hp → VK → Prop := fun x lo hi H Q => ∃ O dx w, Dr O H x dx ∧ slD dx lo hi = some w ∧ ∀ v H', Nw O H v H' w → Q v H'
theorem cut_dq {O : Addr → Prop} {H : Hp} {vs : List V} {xs : List PyData} (r : DqAll O H vs xs) (lo hi : Option Int) : DqAll O H (cutV vs lo hi) (cutD xs lo hi) := by
  unfold cutV cutD
  rw [r.len]
  exact (r.drop _).take _
theorem slR_D : SlR X rSlD := by
  intro pins s σ H x v vl vu lo hi sl Q I rx hs pl pu ⟨O, dx, w, hx, e, q⟩
  unfold slD at e
  split at e
  · obtain rfl := Option.some.inj e
    obtain ⟨p, vs, rfl, h1, r1⟩ := hx.list
    exact sl_list pins s σ H _ v vl vu lo hi sl Q I rx hs pl pu ⟨p, vs, rfl, SqL.of h1, fun a ha => q _ _ (.lst ha (cut_dq r1 lo hi))⟩
  · rename_i xs
    obtain rfl := Option.some.inj e
    obtain ⟨p, vs, rfl, h1, r1⟩ := hx.tuple
    refine sl_tupA pins s σ H _ v vl vu lo hi sl Q I rx hs pl pu ⟨p, vs, rfl, SqT.of h1, fun hw => ?_, fun _ a ha => q _ _ (.tup ha (cut_dq r1 lo hi))⟩
    refine q _ _ (.old ?_)
    have e1 : cutD xs lo hi = xs := by
      unfold cutD
      rw [← r1.len, hw.1, hw.2, List.drop_zero, Nat.sub_zero, r1.len, List.take_length]
    rw [e1]
    exact .tup h1 r1
  · cases e
def fsl (fa : Env' → G → Res W) (fl fh : Env' → G → Res (Option Int)) : Env' → G → Res W := fun ρ g => (fa ρ g).bind fun w g1 => (fl ρ g1).bind fun l g2 => (fh ρ g2).bind fun h g3 => .of (do slD (← w.rd) l h) g3
theorem fe_sl {lo hi : Option Expr} {fl fh : Env' → G → Res (Option Int)} {p2 pos : Pos} (ha : PE X a (tE X.K C cls Wx fa)) (hl : PO X lo (tO X.K C cls Wx fl)) (hh : PO X hi (tO X.K C cls Wx fh)) : PE X (.Subscript a (.Slice lo hi none p2) pos) (tE X.K C cls Wx (fsl fa fl fh)) := by
  refine PE.imp (pe_slice slR_D ha hl hh) ?_
  rintro σ H Q ⟨F, oa, al, ρ, g, hK, hC, R, h⟩
  unfold fsl at h
  refine Post.bind hK hC R h fun w g1 oa1 x H1 st1 R1 wo1 h1 => ?_
  have h1' := h1.later st1
  refine ⟨F, oa1, al, ρ, g1, hK, hC, R1, ?_⟩
  cases e : fl ρ g1 with
  | ex c g2 => rw [e] at h1'; exact h1'
  | no => rw [e] at h1'; exact h1'
  | ok l g2 =>
    rw [e] at h1'
    simp only [bind_ok] at h1'
    intro oa2 H2 st2
    have R2 := R1.step st2
    have h2 := h1'.later st2
    refine ⟨F, oa2, al, ρ, g2, hK, hC, R2, ?_⟩
    cases e2 : fh ρ g2 with
    | ex c g3 => rw [e2] at h2; exact h2
    | no => rw [e2] at h2; exact h2
    | ok hv g3 =>
      rw [e2] at h2
      simp only [bind_ok] at h2
      intro oa3 H3 st3
      have R3 := R2.step st3
      obtain ⟨z, e3, h3⟩ := Post.of (h2.later st3)
      obtain ⟨dx, e4, e5⟩ := bindSome e3
      exact ⟨_, dx, z, ((wo1.step R1 st2).step R2 st3).rd e4, e5, fun v H' n => h3.here R3 n⟩
theorem fe_rev {k : Nat} {p1 p2 p3 pos : Pos} (ha : PE X a (tE X.K C cls Wx fa)) : PE X (.Subscript a (.Slice none none (some (.UnaryOp .USub (.Constant (.int 1) k p1) p2)) p3) pos) (tE X.K C cls Wx (f1 (fun w => do revD (← w.rd)) fa)) := by
  refine PE.imp (pe_revX ha) fun σ H Q h => ?_
  refine one h fun F oa al ρ g H' x w z hK hC R wx e p => ?_
  obtain ⟨dx, e1, e2⟩ := bindSome e
  unfold revD at e2
  split at e2
  · obtain rfl := Option.some.inj e2
    obtain ⟨p', vs, rfl, h1, r1⟩ := (wx.rd e1).list
    exact .inl ⟨p', vs, rfl, SqL.of h1, fun q hq => p.here R (.lst hq r1.rev)⟩
  · obtain rfl := Option.some.inj e2
    obtain ⟨p', vs, rfl, h1, r1⟩ := (wx.rd e1).tuple
    exact .inr ⟨p', vs, rfl, SqT.of h1, fun q hq => p.here R (.tup hq r1.rev)⟩
  · cases e2
/-- isinstance of data -/
theorem isi_D {t : Ty} {n : String} (ht : (match t with | .int => "int" | .bool => "bool" | .tuple => "tuple" | .str => "str") = n) :
    CallR X (.builtin "isinstance") fun xs H Q => ∃ O v x, xs = [v, .ty n] ∧ Dr O H v x ∧ Q (.bl (isiD t x)) H := by
  intro pins s σ H xs us Q I r ⟨O, v, x, e, hx, q⟩
  subst e
  obtain ⟨u1, u2, rfl, r1, r2⟩ := vals2 r
  cases r2
  obtain ⟨as, rd⟩ := Dp.reads I x v u1 hx.dp r1
  have fin : ∀ tk, EP X pins σ Q (.bool (isiD t x)) { s with toks := tk } := fun tk => ⟨.bl _, H, I.tok tk, rfl, q⟩
  subst ht
  cases t with
  | int => exact PySem.W.isinstance_int_data rd fun tk _ => by cases x <;> exact fin tk
  | bool => exact PySem.W.isinstance_bool_data rd fun tk _ => by cases x <;> exact fin tk
  | tuple => exact PySem.W.isinstance_tuple_data rd fun tk _ => by cases x <;> exact fin tk
  | str => exact PySem.W.isinstance_str_data rd fun tk _ => by cases x <;> exact fin tk
end
end TP
/-! sorted and min of data. -/
namespace TP
open PySem L2
section
open PySem.W PySem.Calls PyProof.Rows
variable {prog : Program} {w : World} {A : Around} {E : Value → Shared → Prop} {s : Shared}
theorem collect_tup {l : Addr} {vs : List Value} {Q : List Value → Shared → Prop} (hl : s.heap.IsTuple l vs.toArray)
    (h : Q vs { s with heap := (s.heap.push (seqObj "list" #[] 0)).update s.heap.objs.size (Obj.mapSeq (· ++ vs.toArray)) }) (hsz : vs.length ≤ sizeLine) :
    wpAny (model prog w) A (collect (.ref l)) Q E s := by
  obtain ⟨o, ho, hc, n, hd⟩ := id hl
  unfold collect
  refine wpAny_bind (wpAny_runValue (codeAny_builtin entry_proto_collect' ?_))
  show wpAny _ _ (do again (.builtin "list.__iadd__" ⟨[← newList [], .ref l], []⟩)) _ _ s
  refine wpAny_bind (wpAny_newList (wpAny_pure ⟨Code.quiet_builtin _ (by decide +kernel), codeAny_builtin entry_list_iadd' ?_⟩))
  show wpAny _ _ (Builtin.List.listExtendWith (.ref s.heap.objs.size) (.ref l) (.ref s.heap.objs.size)) _ _ { s with heap := s.heap.push (seqObj "list" #[] 0) }
  unfold Builtin.List.listExtendWith
  have ho' : (s.heap.push (seqObj "list" #[] 0)).get? l = some o := Heap.get?_push_of_some _ ho
  refine wpAny_bind (wpAny_typeOf (T := "tuple") ⟨o, ho', hc⟩ ?_)
  have ht : (Value.type "tuple" == Value.type "tuple") = true := by rfl
  rw [if_pos (by rw [ht]; simp)]
  refine wpAny_bind (listItems_at ho' hd ?_)
  refine wpAny_bind (listItems_at (xs := #[]) (n := 0) (Heap.get?_push_size _ rfl) rfl ?_)
  rw [if_neg (by simp)]
  refine wpAny_bind (listUpdate_at (xs := #[]) (n := 0) (Heap.get?_push_size _ rfl) rfl ?_ (Nat.zero_le _) (by show (#[] ++ vs.toArray).size ≤ sizeLine + 1; simp only [Array.size_append, List.size_toArray, List.length_nil]; omega))
  refine wpAny_pure ?_
  show wpAny (model prog w) A (do
      let o ← load s.heap.objs.size
      match o.data with
      | .seq xs _ => pure xs.toList
      | _ => unsupported "internal:collect") Q E { s with heap := (s.heap.push (seqObj "list" #[] 0)).update s.heap.objs.size (Obj.mapSeq (· ++ vs.toArray)) }
  refine wpAny_bind (wpAny_load (get?_update_seq (Heap.get?_push_size _ rfl) _) ?_)
  show wpAny _ _ (pure ((#[] : Array Value) ++ vs.toArray).toList) Q E _
  rw [show ((#[] : Array Value) ++ vs.toArray).toList = vs by simp]
  exact wpAny_pure h
theorem sorted_of_tup {l : Addr} {vs : List Value} {kw : List (Str × Value)} {Q : Value → Shared → Prop} (hl : s.heap.IsTuple l vs.toArray) (hL : vs.length ≤ sizeLine) (ha1 : argsOk "sorted" ⟨[.ref l], kw⟩) (ha2 : ∀ x, argsOk "list.sort" ⟨[.ref x], kw⟩)
    (body : ∀ E' : Value → Shared → Prop, wpAny (model prog w) A.in1.in1 (Builtin.«list.sort» ⟨[.ref (s.heap.objs.size + 1)], kw⟩) (fun f s' => f = .done (.ret .none) ∧ Q (.ref (s.heap.objs.size + 1)) s') E' { s with heap := copyHeap s.heap vs }) :
    wpAny (model prog w) A (call (.builtin "sorted") [.ref l] kw) Q E s := by
  refine call_function_entry_kw kind_sorted plain_sorted entry_sorted ha1 ?_
  unfold Builtin.«sorted»
  refine wpAny_bind (m := checkCount "sorted" 1 1 _) (wpAny_pure ?_)
  refine wpAny_bind (collect_tup hl ?_ hL)
  refine wpAny_bind (wpAny_newList ?_ hL)
  have hsz : ((s.heap.push (seqObj "list" #[] 0)).update s.heap.objs.size (Obj.mapSeq (· ++ vs.toArray))).objs.size = s.heap.objs.size + 1 := by
    rw [Heap.size_update, size_push']
  show wpAny _ _ _ _ _ { s with heap := copyHeap s.heap vs }
  rw [hsz]
  refine wpAny_bind (wpAny_holding (wpAny_call_entry_kw slot_list_sort ⟨_, copyHeap_at s.heap vs, rfl⟩ entry_list_sort ?body (ha2 _)))
  case body =>
    show wpAny (model prog w) A.in1.in1 (Builtin.«list.sort» ⟨[.ref (s.heap.objs.size + 1)], kw⟩) _ _ _
    refine wpAny_mono (body _) (fun f s' hf => ?_) fun _ _ e => e
    obtain ⟨rfl, hq⟩ := hf
    exact ⟨_, rfl, wpAny_pure ⟨_, rfl, hq⟩⟩
theorem sorted_tup_vals {κ : PyProof.Rows.KeyKind} {l : Addr} {vs : List Value} {Q : Value → Shared → Prop} (hl : s.heap.IsTuple l vs.toArray) (S : SortsAt prog w A.in1.in1 { s with heap := sortingHeap (copyHeap s.heap vs) (s.heap.objs.size + 1) vs } κ vs) (hL : vs.length ≤ sizeLine)
    (h : Q (.ref (s.heap.objs.size + 1)) { s with heap := sortedAll s.heap vs (sortVals κ false vs vs).toArray }) : wpAny (model prog w) A (call (.builtin "sorted") [.ref l]) Q E s :=
  sorted_of_tup hl hL (args_sorted1 _) (fun _ => args_list_sort _) fun _ => list_sort_vals (s := { s with heap := copyHeap s.heap vs }) (copyHeap_at s.heap vs) S hL ⟨rfl, h⟩
variable {β : Type} {R : Value → β → Prop} {enc : β → PyData} {vs : List Value} {bs : List β}
theorem sorted_tup_data {l : Addr} {Q : Value → Shared → Prop} (hl : s.heap.IsTuple l vs.toArray) (e : EachIs R vs bs) (er : EachIs (fun v b => ∃ as, Reads s.heap v (enc b) as) vs bs) (hal : AllAlike (bs.map enc)) (hk : Sortable (bs.map enc)) (hL : bs.length ≤ sizeLine)
    (hu : ∀ b, b ∈ bs → A.units + 2 + (enc b).depth < cLine) (h : ∀ out, out.length = bs.length → EachIs R out (bs.mergeSort (dataLe false enc)) → Q (.ref (s.heap.objs.size + 1)) { s with heap := sortedAll s.heap vs (List.toArray out) }) :
    wpAny (model prog w) A (call (.builtin "sorted") [.ref l]) Q E s := by
  have er' : EachIs (fun v b => ∃ as, Reads (sortingHeap (copyHeap s.heap vs) (s.heap.objs.size + 1) vs) v (enc b) as) vs bs := er.mono fun _ _ ⟨as, r⟩ => ⟨as, PyProof.Rows.Reads.keeps (fun _ _ => sorting_copy_old) r⟩
  exact sorted_tup_vals hl (SortsAt.data (s := { s with heap := sortingHeap (copyHeap s.heap vs) (s.heap.objs.size + 1) vs }) (each_map (R := fun v d => ∃ as, Reads (sortingHeap (copyHeap s.heap vs) (s.heap.objs.size + 1) vs) v d as) enc er') hal hk (bound_map hu)) (by rw [e.length]; exact hL)
    (h _ (by rw [sortVals_length false rfl]; exact e.length) (sortVals_data false e er' hal))
end
/-! ### the one sorted list -/
theorem ins_perm (x : PyData) : ∀ l : List PyData, (ins x l).Perm (x :: l)
  | [] => List.Perm.refl _
  | y :: r => by
    unfold ins
    split
    · exact ((ins_perm x r).cons y).trans (List.Perm.swap x y r)
    · exact List.Perm.refl _
theorem srt_perm : ∀ l : List PyData, (srt l).Perm l
  | [] => List.Perm.refl _
  | x :: r => (ins_perm x (srt r)).trans ((srt_perm r).cons x)
abbrev leD (a b : PyData) : Prop := lt b a = false
theorem ins_sorted (x : PyData) : ∀ l : List PyData, l.Pairwise leD → (ins x l).Pairwise leD
  | [], _ => List.pairwise_singleton _ _
  | y :: r, h => by
    obtain ⟨h1, h2⟩ := List.pairwise_cons.mp h
    unfold ins
    split
    · rename_i hy
      refine List.pairwise_cons.mpr ⟨fun z hz => ?_, ins_sorted x r h2⟩
      rcases List.mem_cons.mp ((ins_perm x r).mem_iff.mp hz) with rfl | hz
      · exact lt_asym hy
      · exact h1 z hz
    · rename_i hy
      have hy' : lt y x = false := by simpa using hy
      refine List.pairwise_cons.mpr ⟨fun z hz => ?_, h⟩
      rcases List.mem_cons.mp hz with rfl | hz
      · exact hy'
      · exact lt_tr hy' (h1 z hz)
theorem srt_sorted : ∀ l : List PyData, (srt l).Pairwise leD
  | [] => List.Pairwise.nil
  | x :: r => ins_sorted x _ (srt_sorted r)
theorem cmS_cm {xs : List PyData} (h : cmS xs = true) {x y : PyData} (hx : x ∈ xs) (hy : y ∈ xs) : cm x y = true := by
  have h1 := List.all_eq_true.mp (List.all_eq_true.mp h x hx) y hy
  exact (Bool.and_eq_true_iff.mp h1).1
theorem cmS_shaped {xs : List PyData} (h : cmS xs = true) {x : PyData} (hx : x ∈ xs) : SeqAt.shaped x = true := by
  have h1 := List.all_eq_true.mp (List.all_eq_true.mp h x hx) x hx
  exact (Bool.and_eq_true_iff.mp h1).2
theorem sorted_one {l m : List PyData} (p : l.Perm m) (hl : l.Pairwise leD) (hm : m.Pairwise leD) (hc : ∀ x ∈ l, ∀ y ∈ l, cm x y = true) : l = m := by
  induction l generalizing m with
  | nil => exact (List.Perm.nil_eq p)
  | cons x r ih =>
    cases m with
    | nil => exact absurd p.length_eq (by simp)
    | cons y t =>
      have e : x = y := by
        have hx : x ∈ y :: t := p.mem_iff.mp List.mem_cons_self
        have hy : y ∈ x :: r := p.mem_iff.mpr List.mem_cons_self
        rcases List.mem_cons.mp hx with e | hx
        · exact e
        · rcases List.mem_cons.mp hy with e | hy
          · exact e.symm
          · have h1 : lt x y = false := (List.pairwise_cons.mp hm).1 x hx
            have h2 : lt y x = false := (List.pairwise_cons.mp hl).1 y hy
            refine cm_same x y (hc x List.mem_cons_self y (List.mem_cons_of_mem _ hy)) ?_
            rw [lt_no] at h1 h2
            rw [← cmp3_swap x y] at h2
            cases q : cmp3 x y with
            | lt => exact absurd q h1
            | eq => rfl
            | gt => rw [q] at h2; exact absurd rfl h2
      subst e
      rw [ih ((List.perm_cons x).mp p) (List.pairwise_cons.mp hl).2 (List.pairwise_cons.mp hm).2 fun a ha b hb => hc a (List.mem_cons_of_mem _ ha) b (List.mem_cons_of_mem _ hb)]
theorem merge_srt {bs : List (V × PyData)} (h : cmS (bs.map (·.2)) = true) : (bs.mergeSort (PySem.W.dataLe false (·.2))).map (·.2) = srt (bs.map (·.2)) := by
  have p1 : (bs.mergeSort (PySem.W.dataLe false (·.2))).Perm bs := List.mergeSort_perm _ _
  have mem : ∀ b, b ∈ bs.mergeSort (PySem.W.dataLe false (·.2)) → b.2 ∈ bs.map (·.2) := fun b hb => List.mem_map.mpr ⟨b, p1.mem_iff.mp hb, rfl⟩
  refine sorted_one ((p1.map _).trans (srt_perm _).symm) ?_ (srt_sorted _) fun x hx y hy => ?_
  · have q := PySem.W.sort_pairwise (PySem.W.sortLe_total (PyProof.Rows.listOrd PyProof.Rows.itemOrd) false fun b : V × PyData => PySem.W.keyToks b.2) bs
    rw [List.pairwise_map]
    refine (List.Pairwise.and_mem.mp q).imp fun {a b} ⟨ha, hb, hab⟩ => ?_
    have e : (!PySem.W.dataLt b.2 a.2) = true := hab
    rw [dataLt_eq _ _ (cmS_cm h (mem b hb) (mem a ha))] at e
    show lt b.2 a.2 = false
    simpa using e
  · obtain ⟨a, ha, rfl⟩ := List.mem_map.mp hx
    obtain ⟨b, hb, rfl⟩ := List.mem_map.mp hy
    exact cmS_cm h (mem a ha) (mem b hb)
theorem srt_len (l : List PyData) : (srt l).length = l.length := (srt_perm l).length_eq
end TP
/-! Built-in functions of data. -/
namespace TP
open PySem L2
def rB (b : List PyData → Option W) : List V → Hp → VK → Prop := fun xs H Q => ∃ O dxs w, DrAll O H xs dxs ∧ b dxs = some w ∧ ∀ v H', Nw O H v H' w → Q v H'
theorem DrAll.one {O : Addr → Prop} {H : Hp} {vs : List V} {x : PyData} (h : DrAll O H vs [x]) : ∃ v, vs = [v] ∧ Dr O H v x := by
  cases h with
  | cons q r => cases r; exact ⟨_, rfl, q⟩
theorem DrAll.two {O : Addr → Prop} {H : Hp} {vs : List V} {x y : PyData} (h : DrAll O H vs [x, y]) : ∃ v u, vs = [v, u] ∧ Dr O H v x ∧ Dr O H u y := by
  cases h with
  | cons q r =>
    cases r with
    | cons q' r => cases r; exact ⟨_, _, rfl, q, q'⟩
theorem seq?_cases {x : PyData} {ys : List PyData} (h : seq? x = some ys) : x = .list ys ∨ x = .tuple ys := by
  cases x with
  | list l => obtain rfl := Option.some.inj h; exact .inl rfl
  | tuple l => obtain rfl := Option.some.inj h; exact .inr rfl
  | _ => cases h
/-- a list or a tuple that may be read -/
theorem Dr.seq {O : Addr → Prop} {H : Hp} {v : V} {x : PyData} {ys : List PyData} (h : Dr O H v x) (e : seq? x = some ys) : ∃ p vs, v = .ref p ∧ DqAll O H vs ys ∧ (H p = some (.lst vs) ∨ (H p = some (.tup vs) ∧ x = .tuple ys)) := by
  rcases seq?_cases e with rfl | rfl
  · obtain ⟨p, vs, rfl, h1, r⟩ := h.list
    exact ⟨p, vs, rfl, r, .inl h1⟩
  · obtain ⟨p, vs, rfl, h1, r⟩ := h.tuple
    exact ⟨p, vs, rfl, r, .inr ⟨h1, rfl⟩⟩
section
variable {X : Cx}
theorem crD_len : CallR X (.builtin "len") (rB bLen) := by
  intro pins s σ H xs us Q I r ⟨O, dxs, w, hx, e, q⟩
  unfold bLen at e
  split at e
  · obtain ⟨v, rfl, h⟩ := hx.one
    obtain rfl := Option.some.inj e
    obtain ⟨p, vs, rfl, h1, r1⟩ := h.list
    exact call_len_seq pins s σ H _ us Q I r ⟨p, vs, rfl, .inl (SqL.of h1), by rw [r1.len]; exact q _ _ (.old (.int _))⟩
  · obtain ⟨v, rfl, h⟩ := hx.one
    obtain rfl := Option.some.inj e
    obtain ⟨p, vs, rfl, h1, r1⟩ := h.tuple
    exact call_len_seq pins s σ H _ us Q I r ⟨p, vs, rfl, .inr (SqT.of h1), by rw [r1.len]; exact q _ _ (.old (.int _))⟩
  · obtain ⟨v, rfl, h⟩ := hx.one
    split at e
    · rename_i hl
      obtain rfl := Option.some.inj e
      cases h.str
      exact call_len_str pins s σ H _ us Q I r ⟨_, rfl, by rw [← lim_eq]; exact hl, q _ _ (.old (.int _))⟩
    · cases e
  · cases e
theorem crD_tup : CallR X (.type "tuple") (rB bTup) := by
  intro pins s σ H xs us Q I r ⟨O, dxs, w, hx, e, q⟩
  unfold bTup at e
  split at e
  · obtain ⟨v, rfl, h⟩ := hx.one
    obtain ⟨ys, e1, e2⟩ := Option.map_eq_some_iff.mp e
    obtain rfl := e2
    obtain ⟨p, vs, rfl, r1, h1⟩ := h.seq e1
    refine call_tuple_of pins s σ H _ us Q I r ⟨p, vs, rfl, ?_⟩
    rcases h1 with h1 | ⟨h1, rfl⟩
    · exact .inl ⟨SqL.of h1, fun l hl => q _ _ (.tup hl r1)⟩
    · exact .inr ⟨SqT.of h1, q _ _ (.old (.tup h1 r1))⟩
  · cases e
theorem crD_lst : CallR X (.type "list") (rB bLst) := by
  intro pins s σ H xs us Q I r ⟨O, dxs, w, hx, e, q⟩
  unfold bLst at e
  split at e
  · obtain ⟨v, rfl, h⟩ := hx.one
    obtain ⟨ys, e1, e2⟩ := Option.map_eq_some_iff.mp e
    obtain rfl := e2
    obtain ⟨p, vs, rfl, r1, h1⟩ := h.seq e1
    refine call_list_of pins s σ H _ us Q I r ⟨p, vs, rfl, ?_, fun l hl => q _ _ (.lst hl r1)⟩
    rcases h1 with h1 | ⟨h1, rfl⟩
    · exact .inl (SqL.of h1)
    · exact .inr (SqT.of h1)
  · cases e
theorem crD_all (hc : X.calm = true) : CallR X (.builtin "all") (rB bAll) := by
  intro pins s σ H xs us Q I r ⟨O, dxs, w, hx, e, q⟩
  unfold bAll at e
  split at e
  · obtain ⟨v, rfl, h⟩ := hx.one
    obtain ⟨bs, e1, rfl⟩ := Option.map_eq_some_iff.mp e
    obtain ⟨p, vs, rfl, h1, r1⟩ := h.list
    exact cr_all hc pins s σ H _ us Q I r ⟨p, bs, rfl, SqL.of (by rw [h1, r1.bools e1]), q _ _ (.old (.bl _))⟩
  · cases e
theorem crD_any (hc : X.calm = true) : CallR X (.builtin "any") (rB bAny) := by
  intro pins s σ H xs us Q I r ⟨O, dxs, w, hx, e, q⟩
  unfold bAny at e
  split at e
  · obtain ⟨v, rfl, h⟩ := hx.one
    obtain ⟨bs, e1, rfl⟩ := Option.map_eq_some_iff.mp e
    obtain ⟨p, vs, rfl, h1, r1⟩ := h.list
    exact cr_any hc pins s σ H _ us Q I r ⟨p, bs, rfl, SqL.of (by rw [h1, r1.bools e1]), q _ _ (.old (.bl _))⟩
  · cases e
theorem crD_min2 (hc : X.calm = true) : CallR X (.builtin "min") (rB bMin2) := by
  intro pins s σ H xs us Q I r ⟨O, dxs, w, hx, e, q⟩
  unfold bMin2 at e
  split at e
  · obtain ⟨v, u, rfl, h, h'⟩ := hx.two
    obtain rfl := Option.some.inj e
    cases h.int
    cases h'.int
    exact call_min2 hc pins s σ H _ us Q I r ⟨_, _, rfl, q _ _ (.old (.int _))⟩
  · cases e
theorem crD_max2 (hc : X.calm = true) : CallR X (.builtin "max") (rB bMax2) := by
  intro pins s σ H xs us Q I r ⟨O, dxs, w, hx, e, q⟩
  unfold bMax2 at e
  split at e
  · obtain ⟨v, u, rfl, h, h'⟩ := hx.two
    obtain rfl := Option.some.inj e
    cases h.int
    cases h'.int
    exact call_max2 hc pins s σ H _ us Q I r ⟨_, _, rfl, q _ _ (.old (.int _))⟩
  · cases e
theorem each_of {O : Addr → Prop} {H : Hp} {pins : List (Addr × Obj)} {s : Shared} {σ : St} (I : Inv X pins σ H s) : ∀ {vs : List V} {xs : List PyData} {us : List Value}, DqAll O H vs xs → Vals vs us →
    PySem.W.EachIs (fun (u : Value) (b : V × PyData) => RelV b.1 u) us (vs.zip xs) ∧ PySem.W.EachIs (fun (u : Value) (b : V × PyData) => ∃ as, Reads s.heap u b.2 as) us (vs.zip xs) ∧ (vs.zip xs).map (·.2) = xs ∧ ∀ b ∈ vs.zip xs, Dq O H b.1 b.2
  | _, _, _, .nil, .nil => ⟨.nil, .nil, rfl, fun _ h => absurd h (by simp)⟩
  | _, _, _, .cons d r, .cons v t => by
    obtain ⟨a, b, c, e⟩ := each_of I r t
    refine ⟨.cons v a, .cons (Dp.reads I _ _ _ d.dp v) b, by simp [c], fun z hz => ?_⟩
    rcases List.mem_cons.mp hz with rfl | hz
    · exact d
    · exact e z hz
theorem vals_of_each : ∀ {us : List Value} {bs : List (V × PyData)}, PySem.W.EachIs (fun (u : Value) (b : V × PyData) => RelV b.1 u) us bs → Vals (bs.map (·.1)) us
  | _, _, .nil => .nil
  | _, _, .cons h r => .cons h (vals_of_each r)
theorem dq_of_mem {O : Addr → Prop} {H : Hp} : ∀ {bs : List (V × PyData)}, (∀ b ∈ bs, Dq O H b.1 b.2) → DqAll O H (bs.map (·.1)) (bs.map (·.2))
  | [], _ => .nil
  | b :: r, h => .cons (h b List.mem_cons_self) (dq_of_mem fun c hc => h c (List.mem_cons_of_mem _ hc))
theorem srtable {xs : List PyData} (h : (xs.all isInt || xs.all isTup1 || xs.all isLst) = true) : PySem.W.Sortable xs := by
  simp only [Bool.or_eq_true] at h
  rcases h with (h | h) | h
  · refine .inr fun d hd => ?_
    have := List.all_eq_true.mp h d hd
    cases d <;> simp [isInt] at this <;> simp
  · refine .inl fun d hd => ?_
    have := List.all_eq_true.mp h d hd
    cases d <;> simp [isTup1] at this
    rename_i ys
    cases ys with
    | nil => simp at this
    | cons y r => exact ⟨y, r, rfl⟩
  · refine .inr fun d hd => ?_
    have := List.all_eq_true.mp h d hd
    cases d <;> simp [isLst] at this <;> simp
theorem crD_sorted (hu : X.A.units + 67 < cLine) : CallR X (.builtin "sorted") (rB bSorted) := by
  intro pins s σ H xs us Q I r ⟨O, dxs, w, hx, e, q⟩
  unfold bSorted at e
  split at e
  · obtain ⟨v, rfl, h⟩ := hx.one
    obtain ⟨ys, e1, e2⟩ := Option.bind_eq_some_iff.mp e
    split at e2
    · rename_i hs
      obtain rfl := Option.some.inj e2
      simp only [srtOk, Bool.and_eq_true, decide_eq_true_eq] at hs
      obtain ⟨⟨hs0, hs1⟩, hs2⟩ := hs
      obtain ⟨p, vs, rfl, r1, h1⟩ := h.seq e1
      obtain ⟨u, rfl, ru⟩ := vals1 r
      cases ru
      have hsl : ys.length ≤ sizeLine := by rw [← lim_eq]; exact hs0
      have main : ∀ its : List Value, Vals vs its → ((∀ {Q : Value → Shared → Prop}, True → True)) → PySem.W.EachIs (fun (u : Value) (b : V × PyData) => RelV b.1 u) its (vs.zip ys) ∧
          (∀ out : List Value, PySem.W.EachIs (fun (u : Value) (b : V × PyData) => RelV b.1 u) out ((vs.zip ys).mergeSort (PySem.W.dataLe false (·.2))) → EP X pins σ Q (.ref (s.heap.objs.size + 1)) { s with heap := PyProof.Rows.sortedAll s.heap its out.toArray }) := by
        intro its rv _
        obtain ⟨a1, a2, a3, a4⟩ := each_of I r1 rv
        refine ⟨a1, fun out ho => ?_⟩
        have hm := merge_srt (bs := vs.zip ys) (by rw [a3]; exact hs1)
        rw [a3] at hm
        have pm : ((vs.zip ys).mergeSort (PySem.W.dataLe false (·.2))).Perm (vs.zip ys) := List.mergeSort_perm _ _
        have hd := dq_of_mem (O := O) (H := H) (bs := (vs.zip ys).mergeSort (PySem.W.dataLe false (·.2))) fun b hb => a4 b (pm.mem_iff.mp hb)
        rw [hm] at hd
        have hv := vals_of_each ho
        have hlen : (((vs.zip ys).mergeSort (PySem.W.dataLe false (·.2))).map (·.1)).length ≤ sizeLine := by
          rw [hd.len, srt_len]; exact hsl
        obtain ⟨ep, he'⟩ := PyProof.Rows.sortedAll_at s.heap its out.toArray
        have hf : H (s.heap.objs.size + 1) = none := I.hok.fresh (Nat.le_succ _)
        exact ⟨.ref _, upd H (s.heap.objs.size + 1) (.lst _), I.laid (t' := s.toks) (fun _ _ => PyProof.Rows.sortedAll_old) (Nat.le_succ _) ⟨hlen, out, ep, hv, he'⟩, rfl, q _ _ (.lst hf hd)⟩
      have hroom : ∀ b, b ∈ vs.zip ys → X.A.units + 2 + (b.2).depth < cLine := fun b hb => by
        have hb2 : b.2 ∈ ys := (List.of_mem_zip (show (b.1, b.2) ∈ vs.zip ys from hb)).2
        have := SeqAt.depth_of_shaped (cmS_shaped hs1 hb2)
        omega
      have hzl : (vs.zip ys).length ≤ sizeLine := by rw [List.length_zip]; omega
      rcases h1 with h1 | ⟨h1, rfl⟩
      · obtain ⟨its, rv, pl, hz⟩ := I.list (SqL.of h1)
        obtain ⟨a1, a2, a3, a4⟩ := each_of I r1 rv
        refine PySem.W.sorted_data (enc := (·.2)) pl.isList a1 a2 (by rw [a3]; exact fun d hd d' hd' => cm_alike _ _ (cmS_cm hs1 hd hd')) (by rw [a3]; exact srtable (by simpa using hs2)) hzl hroom fun out _ ho => ?_
        exact (main its rv fun _ => trivial).2 out ho
      · obtain ⟨its, rv, pl, hz⟩ := I.tuple (SqT.of h1)
        obtain ⟨a1, a2, a3, a4⟩ := each_of I r1 rv
        refine sorted_tup_data (enc := (·.2)) pl a1 a2 (by rw [a3]; exact fun d hd d' hd' => cm_alike _ _ (cmS_cm hs1 hd hd')) (by rw [a3]; exact srtable (by simpa using hs2)) hzl hroom fun out _ ho => ?_
        exact (main its rv fun _ => trivial).2 out ho
    · cases e2
  · cases e
end
end TP
/-! Calls of defs. -/
namespace TP
open PySem L2
/-- what a def of value sem promises -/
def spOf (K : PySem.W.Frag) (C : Addr) (cls : Nat → Addr) (sem : Fn) (n : Nat) : Sp := fun vs H Q E => ∃ (F : Fm) (oa : OA) (ws : List W) (g : G), F.K = K ∧ F.C = C ∧ F.HE = H ∧ F.oaE = oa ∧ GRel F oa g H ∧ (∀ b, F.cb b → ∃ o, H b = some o) ∧
  WsOk F oa [] H H vs ws ∧ args? ws = some ws ∧ ws.length = n ∧
  match sem ws g with
  | .ok w g' => ∀ oa' v H', Step F oa oa' g' H H' → WOk F oa' [] H H' v w → Q v H'
  | .ex c g' => ∀ oa' H', Step F oa oa' g' H H' → E (.ref (cls c)) none H'
  | .no => False
theorem arg_idem {w x : W} (h : w.arg = some x) : x.arg = some x := by
  cases w with
  | own c => cases c <;> simp [W.arg] at h; subst h; rfl
  | pk c => cases c <;> simp [W.arg] at h; subst h; rfl
  | _ => simp [W.arg] at h; subst h; rfl
theorem args_idem : ∀ {ws xs : List W}, args? ws = some xs → args? xs = some xs
  | [], _, h => by obtain rfl := Option.some.inj h; rfl
  | w :: r, xs, h => by
    unfold args? at h
    split at h
    · rename_i x ys e1 e2
      obtain rfl := Option.some.inj h
      unfold args?
      rw [arg_idem e1, args_idem e2]
    · cases h
theorem args_len : ∀ {ws xs : List W}, args? ws = some xs → xs.length = ws.length
  | [], _, h => by obtain rfl := Option.some.inj h; rfl
  | w :: r, xs, h => by
    unfold args? at h
    split at h
    · rename_i x ys e1 e2
      obtain rfl := Option.some.inj h
      simp [args_len e2]
    · cases h
/-- the frame's data at a call; lend: variables' own lists are lent -/
def Fm.call (F : Fm) (H : Hp) (oa : OA) (al : List (Option Addr)) (lend : Bool) : Fm := { F with HE := H, oaE := oa, cb := fun b => Own F oa al b ∧ ¬ (lend = true ∧ some b ∈ al ∧ ¬ Mb F.tw oa b ∧ ¬ F.cb b) }
theorem GRel.fm {F F' : Fm} {oa : OA} {g : G} {H : Hp} (h : GRel F oa g H) (e1 : F'.K = F.K) (e2 : F'.tw = F.tw) (e3 : F'.sa = F.sa) (e4 : F'.C = F.C) : GRel F' oa g H := by
  obtain ⟨K, tw, sa, C, HE, oaE, cb⟩ := F
  obtain ⟨K', tw', sa', C', HE', oaE', cb'⟩ := F'
  cases e1; cases e2; cases e3; cases e4
  exact ⟨h.tw, h.sc, h.os, h.len, h.nd, h.nt⟩
theorem Step.fm {F F' : Fm} {oa oa' : OA} {g : G} {H H' : Hp} (h : Step F oa oa' g H H') (e1 : F'.K = F.K) (e2 : F'.tw = F.tw) (e3 : F'.sa = F.sa) (e4 : F'.C = F.C) : Step F' oa oa' g H H' :=
  ⟨by rw [e2]; exact h.ext, h.gr.fm e1 e2 e3 e4, by rw [e2]; exact h.new, h.le⟩
section
variable {F : Fm} {oa : OA} {al : List (Option Addr)} {ρ : Env'} {g : G} {σ : St} {H0 H : Hp}
theorem call_own {lend : Bool} {b : Addr} (h : Own (F.call H oa al lend) oa [] b) : Own F oa al b := by
  rcases h with h | h | h
  · exact .inl h
  · exact h.1
  · simp at h
theorem WOk.arg (R : Rel F oa al ρ g σ H) {v : V} {w x : W} {lend : Bool} (h : WOk F oa al H0 H v w) (e : w.arg = some x) (hl : w.isPk = true → lend = true) : WOk (F.call H oa al lend) oa [] H H v x := by
  have dm : ∀ {v : V} {z : PyData}, Dq (Own F oa al) H v z → Dq (Own (F.call H oa al lend) oa []) H v z := fun h => h.mono (fun a ys e n => ⟨e, fun z => n (call_own z)⟩) fun _ _ e => e
  have dmA : ∀ {v : List V} {z : List PyData}, DqAll (Own F oa al) H v z → DqAll (Own (F.call H oa al lend) oa []) H v z := fun h => h.mono (fun a ys e n => ⟨e, fun z => n (call_own z)⟩) fun _ _ e => e
  cases w with
  | d y => simp only [W.arg, Option.some.injEq] at e; subst e; exact dm h
  | own c =>
    cases c with
    | dct _ => simp [W.arg] at e
    | lst xs =>
      simp only [W.arg, Option.some.injEq] at e; subst e
      exact dm (WOk.fz h rfl)
  | pk c =>
    cases c with
    | dct _ => simp [W.arg] at e
    | lst xs =>
      simp only [W.arg, Option.some.injEq] at e; subst e
      obtain ⟨p, rfl, hp, vs, h1, r⟩ := h
      obtain ⟨f1, f2, f3, f4⟩ := R.fresh p hp
      refine .lst h1 (fun z => ?_) (dmA r)
      rcases z with z | z | z
      · exact f2 z
      · exact z.2 ⟨hl rfl, hp, f2, f3⟩
      · simp at z
  | twn => simp only [W.arg, Option.some.injEq] at e; subst e; exact h
  | scr => simp only [W.arg, Option.some.injEq] at e; subst e; exact h
  | obj j => simp only [W.arg, Option.some.injEq] at e; subst e; exact h
theorem WsOk.args (R : Rel F oa al ρ g σ H) {lend : Bool} : ∀ {vs : List V} {ws xs : List W}, WsOk F oa al H0 H vs ws → args? ws = some xs → (ws.any W.isPk = true → lend = true) → WsOk (F.call H oa al lend) oa [] H H vs xs
  | _, _, _, .nil, e, _ => by obtain rfl := Option.some.inj e; exact .nil
  | _, w :: ws, _, .cons h r, e, hl => by
    unfold args? at e
    split at e
    · rename_i x ys e1 e2
      obtain rfl := Option.some.inj e
      simp only [List.any_cons, Bool.or_eq_true] at hl
      exact .cons (h.arg R e1 fun z => hl (.inl z)) (WsOk.args R r e2 fun z => hl (.inr z))
    · cases e
/-- what came back -/
theorem WOk.back (R : Rel F oa al ρ g σ H) {lend : Bool} {oa' : OA} {H' : Hp} {g' : G} {v : V} {w : W} (h : WOk (F.call H oa al lend) oa' [] H H' v w) (st : Step F oa oa' g' H H') (hc : lend = false ∨ w.clean = true) : WOk F oa' al H H' v w := by
  have key : ∀ b, ¬ Own (F.call H oa al lend) oa' [] b → lend = false → ¬ Own F oa' al b := by
    intro b n hl z
    rcases z with z | z
    · exact n (.inl z)
    · refine n (.inr (.inl ⟨.inr z, fun q => ?_⟩))
      rw [hl] at q
      exact Bool.false_ne_true q.1
  cases w with
  | d x =>
    rcases hc with hc | hc
    · exact Dq.mono (fun a ys e n => ⟨e, key a n hc⟩) (fun _ _ e => e) h
    · exact Dq.noL (fun _ _ e => e) h hc
  | own c =>
    obtain ⟨p, rfl, e0, n, q⟩ := h
    have n' : ¬ Own F oa' al p := by
      rintro (z | z)
      · exact n (.inl z)
      · exact R.nown e0 (.inr z)
    refine ⟨p, rfl, e0, n', ?_⟩
    rcases hc with hc | hc
    · exact q.go (fun _ e => e) (fun a ys e m => ⟨e, fun z => by
        rcases z with z | z
        · exact key a (fun y => m (.inl y)) hc z
        · exact m (.inr z)⟩) fun _ _ e => e
    · cases c with
      | lst xs =>
        obtain ⟨vs, h1, r⟩ := q
        exact ⟨vs, h1, DqAll.noL (fun _ _ e => e) r hc⟩
      | dct _ => simp [W.clean] at hc
  | pk c =>
    obtain ⟨p, rfl, hp, q⟩ := h
    simp at hp
  | twn => exact h
  | scr => exact h
  | obj j => exact h
end
section
variable {X : Cx} {C : Addr} {cls : Nat → Addr} {Wx : WX} {k : Nat} {f : Addr} {fd : FuncData} {ps : List Str} {x : Str} {p pos : Pos} {e : Expr} {es : List Expr} {fs : Env' → G → Res (List W)} {sem : Fn}
def fcall (sem : Fn) (fs : Env' → G → Res (List W)) : Env' → G → Res W := fun ρ g => (fs ρ g).bind fun ws g1 => (Res.of (args? ws) g1).bind fun xs g2 => (sem xs g2).bind fun w g3 => if !ws.any W.isPk || w.clean then .ok w g3 else .no
theorem fe_call (G0 : FnOk X.prog X.w X.K X.mg X.base (L2.CX X.prog X.w) k f fd ps (spOf X.K C cls sem ps.length)) (hr : Room k X.A) (hg : Gl X x) (hm : X.mg x = some (.ref f)) (hk : PySem.W.keepIn X.K (.ref f) = true) (hb : Binds X.K fd ps []) (tk : Takes X Wx)
    (ha : PA X (e :: es) (tA X.K C cls Wx fs)) (hdb : (x == ("__debug__" : Str)) = false) (hp : (e :: es).all plainE = true) (hn : ∀ ρ g ws g', fs ρ g = .ok ws g' → ws.length = ps.length) : PE X (.Call (.Name x p) (e :: es) [] pos) (tE X.K C cls Wx (fcall sem fs)) := by
  have hp' : plainE e = true ∧ es.all plainE = true := by simpa using hp
  refine PE.imp (pe_callS G0 hr hg hm hk hb (fun σ => passAt tk σ) ha hdb (star_plain hp'.1 es X.env) (star_any hp'.2)) ?_
  rintro σ H Q ⟨F, oa, al, ρ, g, hK, hC, R, h⟩
  refine ⟨F, oa, al, ρ, g, hK, hC, R, ?_⟩
  unfold fcall at h
  cases e1 : fs ρ g with
  | ex c g1 => rw [e1] at h; exact h
  | no => rw [e1] at h; exact h
  | ok ws g1 =>
    rw [e1] at h
    simp only [bind_ok] at h
    intro oa1 vs H1 st1 wo1
    have R1 := R.step st1
    cases e2 : args? ws with
    | none => rw [e2] at h; exact h.elim
    | some xs =>
      rw [e2] at h
      simp only [of_some, bind_ok] at h
      refine ⟨F.call H1 oa1 al (ws.any W.isPk), oa1, xs, g1, hK, hC, rfl, rfl, R1.gr.fm rfl rfl rfl rfl, fun b hb => ?_, wo1.args R1 e2 fun z => z, args_idem e2, by rw [args_len e2, hn _ _ _ _ e1], ?_⟩
      · cases q : H1 b with
        | none => exact absurd hb.1 (R1.nown q)
        | some o => exact ⟨o, rfl⟩
      · cases e3 : sem xs g1 with
        | no => rw [e3] at h; exact h
        | ex c g2 => rw [e3] at h; exact fun oa' H' st' => h oa' H' (st1.trans (st'.fm rfl rfl rfl rfl))
        | ok w g2 =>
          rw [e3] at h
          simp only [bind_ok] at h
          intro oa' v H' st' wo'
          have st2 : Step F oa1 oa' g2 H1 H' := st'.fm rfl rfl rfl rfl
          split at h
          · rename_i hc
            have hc' : ws.any W.isPk = false ∨ w.clean = true := by simpa using hc
            exact h oa' v H' (st1.trans st2) ((WOk.back R1 wo' st2 hc').earlier st1.ext.dom)
          · exact h.elim
theorem pe_callS0 {sp : Sp} {E : L2.St → XK} (F : FnOk X.prog X.w X.K X.mg X.base (L2.CX X.prog X.w) k f fd ps sp) (hr : Room k X.A) (hg : Gl X x) (hm : X.mg x = some (.ref f)) (hk : PySem.W.keepIn X.K (.ref f) = true) (hb : Binds X.K fd ps []) (hx : ∀ σ, PassesAt (L2.CX X.prog X.w) X σ (E σ))
    (hdb : (x == ("__debug__" : Str)) = false) : PE X (.Call (.Name x p) [] [] pos) (fun σ H Q => sp [] H Q (E σ)) := by
  refine ⟨fun pins s σ H Q I h => ?_⟩
  refine wpAny_Call_Name_kw (ld_glob I hg hm ?_ hdb)
  exact PySem.W.callWith_K0 I.kIn hk (run_fnS (us := []) F hr hb (hx σ) I .nil h)
theorem fe_call0 (G0 : FnOk X.prog X.w X.K X.mg X.base (L2.CX X.prog X.w) k f fd ps (spOf X.K C cls sem ps.length)) (hr : Room k X.A) (hg : Gl X x) (hm : X.mg x = some (.ref f)) (hk : PySem.W.keepIn X.K (.ref f) = true) (hb : Binds X.K fd ps []) (tk : Takes X Wx)
    (hdb : (x == ("__debug__" : Str)) = false) (hn : ps.length = 0) : PE X (.Call (.Name x p) [] [] pos) (tE X.K C cls Wx (fcall sem fun _ g => .ok [] g)) := by
  refine PE.imp (pe_callS0 G0 hr hg hm hk hb (fun σ => passAt tk σ) hdb) ?_
  rintro σ H Q ⟨F, oa, al, ρ, g, hK, hC, R, h⟩
  unfold fcall at h
  simp only [bind_ok] at h
  refine ⟨F.call H oa al false, oa, [], g, hK, hC, rfl, rfl, R.gr.fm rfl rfl rfl rfl, fun b hb => ?_, .nil, rfl, hn.symm, ?_⟩
  · cases q : H b with
    | none => exact absurd hb.1 (R.nown q)
    | some o => exact ⟨o, rfl⟩
  · have h : Post F oa al cls σ H Wx Q ((sem [] g).bind fun w g3 => if !([] : List W).any W.isPk || w.clean then .ok w g3 else .no) := h
    cases e3 : sem [] g with
    | no => rw [e3] at h; exact h
    | ex c g2 => rw [e3] at h; exact fun oa' H' st' => h oa' H' (st'.fm rfl rfl rfl rfl)
    | ok w g2 =>
      rw [e3] at h
      intro oa' v H' st' wo'
      have st2 : Step F oa oa' g2 H H' := st'.fm rfl rfl rfl rfl
      exact h oa' v H' st2 (WOk.back R wo' st2 (.inl rfl))
end
end TP
/-! Statements. -/
namespace TP
open PySem L2
/-- what stays is more and more -/
structure Grow (O O' : Addr → Prop) (H H' : Hp) : Prop where
  ls : ∀ a xs, H a = some (.lst xs) → ¬ O a → H' a = some (.lst xs) ∧ ¬ O' a
  tu : ∀ a xs, H a = some (.tup xs) → H' a = some (.tup xs)
  dm : ∀ b, H' b = none → H b = none
theorem Grow.refl (O : Addr → Prop) (H : Hp) : Grow O O H H := ⟨fun _ _ e n => ⟨e, n⟩, fun _ _ e => e, fun _ e => e⟩
theorem Grow.trans {O O1 O2 : Addr → Prop} {H H1 H2 : Hp} (a : Grow O O1 H H1) (b : Grow O1 O2 H1 H2) : Grow O O2 H H2 :=
  ⟨fun x xs e n => let ⟨e1, n1⟩ := a.ls x xs e n; b.ls x xs e1 n1, fun x xs e => b.tu x xs (a.tu x xs e), fun x e => a.dm x (b.dm x e)⟩
theorem Grow.dq {O O' : Addr → Prop} {H H' : Hp} (h : Grow O O' H H') {v : V} {x : PyData} (d : Dq O H v x) : Dq O' H' v x := d.mono h.ls h.tu
theorem Grow.dqAll {O O' : Addr → Prop} {H H' : Hp} (h : Grow O O' H H') {v : List V} {x : List PyData} (d : DqAll O H v x) : DqAll O' H' v x := d.mono h.ls h.tu
theorem Step.grow {F : Fm} {oa oa' : OA} {al : List (Option Addr)} {g' : G} {H H' : Hp} (st : Step F oa oa' g' H H') : Grow (Own F oa al) (Own F oa' al) H H' :=
  ⟨fun a xs e n => ⟨st.ext.keep a _ e (.inl fun z => n (.inl z)), fun z => n (Own.of_step st e z)⟩, st.ext.tup, st.ext.dom⟩
section
variable {F : Fm} {oa : OA} {al : List (Option Addr)} {ρ : Env'} {g : G} {σ : St} {H : Hp}
theorem Rel.toStep (R : Rel F oa al ρ g σ H) : Step F F.oaE oa g F.HE H := ⟨R.ext, R.gr, R.new, R.le⟩
theorem own_set {i : Nat} {b : Addr} (h : Own F oa (al.set i none) b) : Own F oa al b := by
  rcases h with h | h | h
  · exact .inl h
  · exact .inr (.inl h)
  · refine .inr (.inr ?_)
    obtain ⟨j, hj, e⟩ := List.mem_iff_getElem.mp h
    rw [List.getElem_set] at e
    split at e
    · cases e
    · rw [← e]; exact List.getElem_mem _
theorem grow_set (i : Nat) : Grow (Own F oa al) (Own F oa (al.set i none)) H H := ⟨fun _ _ e n => ⟨e, fun z => n (own_set z)⟩, fun _ _ e => e, fun _ e => e⟩
/-- a slot forgets its own list and holds a value that stays -/
theorem Rel.setF (R : Rel F oa al ρ g σ H) {i : Nat} {o : Option W} {v : V} (hv : ∀ w, o = some w → VOk F oa (al.set i none) H i v w) (hn : ∀ w, o = some w → ∀ c, w ≠ .own c) : Rel F oa (al.set i none) (ρ.set i o) g (σ.set i (some v)) H := by
  have gs := grow_set (F := F) (oa := oa) (al := al) (H := H) i
  refine ⟨by simp [R.ls], by simpa using R.la, fun j w e => ?_, fun a b p e1 e2 => ?_, fun p hp => ?_, R.ext, R.gr, R.new, R.le, R.cbE⟩
  · by_cases hj : i = j
    · subst hj
      have hi : i < ρ.length := by
        cases Nat.lt_or_ge i ρ.length with
        | inl h => exact h
        | inr h => rw [List.getElem?_eq_none (by simpa using h)] at e; cases e
      rw [List.getElem?_set_self hi] at e
      have e' := Option.some.inj e
      exact ⟨v, List.getElem?_set_self (by rw [← R.ls]; exact hi), hv w e'⟩
    · rw [List.getElem?_set_ne hj] at e
      obtain ⟨u, e1, q⟩ := R.cell j w e
      refine ⟨u, by rw [List.getElem?_set_ne hj]; exact e1, ?_⟩
      cases w with
      | d x => exact gs.dq q
      | own c =>
        obtain ⟨p, rfl, e2, q⟩ := q
        exact ⟨p, rfl, by rw [List.getElem?_set_ne hj]; exact e2, q.go (fun _ e => e) gs.ls gs.tu⟩
      | pk c => exact q
      | twn => exact q
      | scr => exact q
      | obj k => exact q
  · have key : ∀ a : Nat, (al.set i none)[a]? = some (some p) → al[a]? = some (some p) := by
      intro a h
      by_cases ha : i = a
      · subst ha
        by_cases hl : i < al.length
        · rw [List.getElem?_set_self hl] at h; cases h
        · rw [List.getElem?_eq_none (by simpa using hl)] at h; cases h
      · rwa [List.getElem?_set_ne ha] at h
    exact R.inj a b p (key a e1) (key b e2)
  · refine R.fresh p ?_
    obtain ⟨j, hj, e⟩ := List.mem_iff_getElem.mp hp
    rw [List.getElem_set] at e
    split at e
    · cases e
    · rw [← e]; exact List.getElem_mem _
/-- a slot takes a new list or dict for its own -/
theorem Rel.setO (R : Rel F oa al ρ g σ H) {oa1 : OA} {g1 : G} {H1 : Hp} (st : Step F oa oa1 g1 H H1) {i : Nat} {c : Con} {p : Addr} (hi : i < ρ.length) (h0 : H p = none) (n1 : ¬ Own F oa1 al p) (hc : ConOk (fun b => Own F oa1 al b ∨ b = p) H1 p c) :
    Rel F oa1 (al.set i (some p)) (ρ.set i (some (.own c))) g1 (σ.set i (some (.ref p))) H1 ∧ Grow (Own F oa al) (Own F oa1 (al.set i (some p))) H H1 := by
  have R1 := R.step st
  have np := R.nown h0
  obtain ⟨o1, eo1, _⟩ := hc.some
  have own1 : ∀ b, Own F oa1 (al.set i (some p)) b → Own F oa1 al b ∨ b = p := by
    rintro b (h | h | h)
    · exact .inl (.inl h)
    · exact .inl (.inr (.inl h))
    · obtain ⟨j, hj, e⟩ := List.mem_iff_getElem.mp h
      rw [List.getElem_set] at e
      split at e
      · exact .inr (Option.some.inj e).symm
      · exact .inl (.inr (.inr (by rw [← e]; exact List.getElem_mem _)))
  have gr : Grow (Own F oa al) (Own F oa1 (al.set i (some p))) H H1 := by
    refine ⟨fun a xs e n => ⟨st.ext.keep a _ e (.inl fun z => n (.inl z)), fun z => ?_⟩, st.ext.tup, st.ext.dom⟩
    rcases own1 a z with z | z
    · exact n (Own.of_step st e z)
    · rw [z, h0] at e; cases e
  have hil : i < al.length := Nat.lt_of_lt_of_le hi R.la
  refine ⟨⟨by simp [R.ls], by simpa using R.la, fun j w e => ?_, fun a b q e1 e2 => ?_, fun q hq => ?_, R1.ext, R1.gr, R1.new, R1.le, R1.cbE⟩, gr⟩
  · by_cases hj : i = j
    · subst hj
      rw [List.getElem?_set_self hi] at e
      have e' : W.own c = w := by simpa using e
      subst e'
      refine ⟨.ref p, List.getElem?_set_self (by rw [← R.ls]; exact hi), p, rfl, List.getElem?_set_self hil, hc.go (fun _ e => e) (fun a xs e m => ⟨e, fun z => m (own1 a z)⟩) fun _ _ e => e⟩
    · rw [List.getElem?_set_ne hj] at e
      obtain ⟨u, e1, q⟩ := R.cell j w e
      refine ⟨u, by rw [List.getElem?_set_ne hj]; exact e1, ?_⟩
      cases w with
      | d x => exact gr.dq q
      | own c =>
        obtain ⟨r, rfl, e2, q⟩ := q
        exact ⟨r, rfl, by rw [List.getElem?_set_ne hj]; exact e2, q.go (fun o z => st.ext.keep r o z (.inl (R.fresh r (List.mem_of_getElem? e2)).2.1)) gr.ls gr.tu⟩
      | pk c => exact q
      | twn => exact q
      | scr => exact q
      | obj k =>
        obtain ⟨t, e2, rfl⟩ := q
        obtain ⟨l, e3⟩ := st.le k t e2
        exact ⟨_, e3, rfl⟩
  · have key : ∀ a : Nat, (al.set i (some p))[a]? = some (some q) → (a = i ∧ q = p) ∨ (a ≠ i ∧ al[a]? = some (some q)) := by
      intro a h
      by_cases ha : i = a
      · subst ha
        rw [List.getElem?_set_self hil] at h
        exact .inl ⟨rfl, (Option.some.inj (Option.some.inj h)).symm⟩
      · rw [List.getElem?_set_ne ha] at h
        exact .inr ⟨fun z => ha z.symm, h⟩
    have no : ∀ a : Nat, al[a]? = some (some q) → q ≠ p := fun a h z => by
      obtain ⟨_, _, _, o, ho⟩ := R.fresh q (List.mem_of_getElem? h)
      rw [z, h0] at ho; cases ho
    rcases key a e1 with ⟨h1, h2⟩ | ⟨h1, h2⟩
    · rcases key b e2 with ⟨h3, h4⟩ | ⟨h3, h4⟩
      · rw [h1, h3]
      · exact absurd h2 (no b h4)
    · rcases key b e2 with ⟨h3, h4⟩ | ⟨h3, h4⟩
      · exact absurd h4 (no a h2)
      · exact R.inj a b q h2 h4
  · obtain ⟨j, hj, e⟩ := List.mem_iff_getElem.mp hq
    rw [List.getElem_set] at e
    split at e
    · have e' : p = q := Option.some.inj e
      subst e'
      exact ⟨R.ext.dom p h0, fun z => n1 (.inl z), fun z => np (.inr (.inl z)), o1, eo1⟩
    · exact R1.fresh q (by rw [← e]; exact List.getElem_mem _)
/-- a variable's own list or dict is changed -/
theorem Rel.setC (R : Rel F oa al ρ g σ H) {i : Nat} {c c' : Con} {p : Addr} {o : HO} (hi : ρ[i]? = some (some (.own c))) (hp : al[i]? = some (some p)) (hm : Mut (H p)) (hc : ConOk (Own F oa al) (upd H p o) p c') :
    Rel F oa al (ρ.set i (some (.own c'))) g σ (upd H p o) ∧ Grow (Own F oa al) (Own F oa al) H (upd H p o) := by
  obtain ⟨f1, f2, f3, f4⟩ := R.fresh p (List.mem_of_getElem? hp)
  have ow : Own F oa al p := .inr (.inr (List.mem_of_getElem? hp))
  have gr : Grow (Own F oa al) (Own F oa al) H (upd H p o) := by
    refine ⟨fun a xs e n => ⟨?_, n⟩, fun a xs e => ?_, fun b e => ?_⟩
    · rw [upd_ne (fun z => n (by rw [z]; exact ow))]; exact e
    · rw [upd_ne (fun z => by subst z; rw [e] at hm; exact hm)]; exact e
    · by_cases hb : b = p
      · subst hb; rw [upd_same] at e; cases e
      · rw [upd_ne hb] at e; exact e
  have hil : i < ρ.length := (List.getElem?_eq_some_iff.mp hi).1
  have tne : ∀ b u, Mb F.tw oa b → H b = some u → upd H p o b = some u := fun b u hb e => by rw [upd_ne (fun z => f2 (by rw [← z]; exact hb))]; exact e
  refine ⟨⟨by simp [R.ls], by simpa using R.la, fun j w e => ?_, R.inj, fun q hq => ?_, ⟨fun b u e n => ?_, fun b e => R.ext.dom b (gr.dm b e)⟩, ?_, R.new, R.le, R.cbE⟩, gr⟩
  · by_cases hj : i = j
    · subst hj
      rw [List.getElem?_set_self hil] at e
      have e' : W.own c' = w := by simpa using e
      subst e'
      obtain ⟨v, e1, q⟩ := R.cell i _ hi
      obtain ⟨p', rfl, e2, q⟩ := q
      rw [hp] at e2
      obtain rfl := Option.some.inj (Option.some.inj e2)
      exact ⟨_, e1, p, rfl, hp, hc⟩
    · rw [List.getElem?_set_ne hj] at e
      obtain ⟨u, e1, q⟩ := R.cell j w e
      refine ⟨u, e1, ?_⟩
      cases w with
      | d x => exact gr.dq q
      | own d =>
        obtain ⟨r, rfl, e2, q⟩ := q
        have hne : r ≠ p := fun z => by subst z; exact hj (R.inj i j r hp e2)
        exact ⟨r, rfl, e2, q.go (fun u z => by rw [upd_ne hne]; exact z) gr.ls gr.tu⟩
      | pk c => exact q
      | twn => exact q
      | scr => exact q
      | obj k => exact q
  · obtain ⟨h1, h2, h3, u, h4⟩ := R.fresh q hq
    refine ⟨h1, h2, h3, ?_⟩
    by_cases hb : q = p
    · subst hb; exact ⟨_, upd_same⟩
    · exact ⟨u, by rw [upd_ne hb]; exact h4⟩
  · have e1 := R.ext.keep b u e n
    rw [upd_ne (fun z => by subst z; rw [f1] at e; cases e)]
    exact e1
  · refine ⟨tne _ _ (.inl rfl) R.gr.tw, ?_, fun j og e => ?_, R.gr.len, R.gr.nd, R.gr.nt⟩
    · rcases R.gr.sc with ⟨u, hu⟩ | hu
      · exact .inl ⟨u, by rw [upd_ne (fun z => by subst z; rw [hu] at hm; exact hm)]; exact hu⟩
      · exact .inr hu
    · obtain ⟨t, h1, h2, h3, vs, h4, h5⟩ := R.gr.os j og e
      have ht : t ∈ oa := List.mem_of_getElem? h1
      exact ⟨t, h1, tne _ _ (.inr ⟨t, ht, .inl rfl⟩) h2, tne _ _ (.inr ⟨t, ht, .inr (.inl rfl)⟩) h3, vs, tne _ _ (.inr ⟨t, ht, .inr (.inr rfl)⟩) h4, h5.mono (fun a xs _ n => absurd trivial n) gr.tu⟩
/-- a temporary list is nobody else's: it is registered -/
theorem Rel.reg (R : Rel F oa al ρ g σ H) {oa1 : OA} {g1 : G} {H1 : Hp} (st : Step F oa oa1 g1 H H1) {p : Addr} (h0 : H p = none) (n1 : ¬ Own F oa1 al p) (h1 : ∃ o, H1 p = some o) : Rel F oa1 (al ++ [some p]) ρ g1 σ H1 ∧ Grow (Own F oa al) (Own F oa1 (al ++ [some p])) H H1 := by
  have R1 := R.step st
  have np := R.nown h0
  have own1 : ∀ b, Own F oa1 (al ++ [some p]) b → Own F oa1 al b ∨ b = p := by
    rintro b (h | h | h)
    · exact .inl (.inl h)
    · exact .inl (.inr (.inl h))
    · rcases List.mem_append.mp h with h | h
      · exact .inl (.inr (.inr h))
      · simp at h; exact .inr h
  have gr : Grow (Own F oa al) (Own F oa1 (al ++ [some p])) H H1 := by
    refine ⟨fun a xs e n => ⟨st.ext.keep a _ e (.inl fun z => n (.inl z)), fun z => ?_⟩, st.ext.tup, st.ext.dom⟩
    rcases own1 a z with z | z
    · exact n (Own.of_step st e z)
    · rw [z, h0] at e; cases e
  have atl : ∀ (j : Nat) (q : Addr), (al ++ [some p])[j]? = some (some q) → (j < al.length ∧ al[j]? = some (some q)) ∨ (j = al.length ∧ q = p) := by
    intro j q h
    by_cases hj : j < al.length
    · rw [List.getElem?_append_left hj] at h; exact .inl ⟨hj, h⟩
    · rw [List.getElem?_append_right (by omega)] at h
      have : j - al.length = 0 := by
        by_cases z : j - al.length = 0
        · exact z
        · rw [List.getElem?_eq_none (by simp; omega)] at h; cases h
      rw [this] at h
      simp at h
      exact .inr ⟨by omega, h.symm⟩
  have no : ∀ q, some q ∈ al → q ≠ p := fun q h z => by
    obtain ⟨_, _, _, o, ho⟩ := R.fresh q h
    rw [z, h0] at ho; cases ho
  refine ⟨⟨R1.ls, by have := R1.la; simp; omega, fun j w e => ?_, fun a b q e1 e2 => ?_, fun q hq => ?_, R1.ext, R1.gr, R1.new, R1.le, R1.cbE⟩, gr⟩
  · obtain ⟨u, e1, q⟩ := R.cell j w e
    refine ⟨u, e1, ?_⟩
    cases w with
    | d x => exact gr.dq q
    | own c =>
      obtain ⟨r, rfl, e2, q⟩ := q
      have hj : j < al.length := (List.getElem?_eq_some_iff.mp e2).1
      exact ⟨r, rfl, by rw [List.getElem?_append_left hj]; exact e2, q.go (fun o z => st.ext.keep r o z (.inl (R.fresh r (List.mem_of_getElem? e2)).2.1)) gr.ls gr.tu⟩
    | pk c => exact q
    | twn => exact q
    | scr => exact q
    | obj k =>
      obtain ⟨t, e2, rfl⟩ := q
      obtain ⟨l, e3⟩ := st.le k t e2
      exact ⟨_, e3, rfl⟩
  · rcases atl a q e1 with ⟨h1, h2⟩ | ⟨h1, h2⟩
    · rcases atl b q e2 with ⟨h3, h4⟩ | ⟨h3, h4⟩
      · exact R.inj a b q h2 h4
      · exact absurd h4 (no q (List.mem_of_getElem? h2))
    · rcases atl b q e2 with ⟨h3, h4⟩ | ⟨h3, h4⟩
      · exact absurd h2 (no q (List.mem_of_getElem? h4))
      · omega
  · rcases List.mem_append.mp hq with h | h
    · exact R1.fresh q h
    · have : q = p := by simpa using h
      subst this
      exact ⟨R.ext.dom q h0, fun z => n1 (.inl z), fun z => np (.inr (.inl z)), h1⟩
/-- a registered list becomes a slot's own -/
theorem Rel.take {p : Addr} {k i : Nat} {c : Con} (R : Rel F oa al ρ g σ H) (hk : al[k]? = some (some p)) (hkl : ρ.length ≤ k) (hi : i < ρ.length) (hc : ConOk (Own F oa al) H p c) :
    Rel F oa ((al.set k none).set i (some p)) (ρ.set i (some (.own c))) g (σ.set i (some (.ref p))) H ∧ Grow (Own F oa al) (Own F oa ((al.set k none).set i (some p))) H H := by
  have hkl' : k < al.length := (List.getElem?_eq_some_iff.mp hk).1
  have ow : Own F oa al p := .inr (.inr (List.mem_of_getElem? hk))
  have own1 : ∀ b, Own F oa ((al.set k none).set i (some p)) b → Own F oa al b := by
    rintro b (h | h | h)
    · exact .inl h
    · exact .inr (.inl h)
    · obtain ⟨j, hj, e⟩ := List.mem_iff_getElem.mp h
      rw [List.getElem_set] at e
      split at e
      · rw [← Option.some.inj e]; exact ow
      · rw [List.getElem_set] at e
        split at e
        · cases e
        · exact .inr (.inr (by rw [← e]; exact List.getElem_mem _))
  have gr : Grow (Own F oa al) (Own F oa ((al.set k none).set i (some p))) H H := ⟨fun _ _ e n => ⟨e, fun z => n (own1 _ z)⟩, fun _ _ e => e, fun _ e => e⟩
  have hil : i < al.length := Nat.lt_of_lt_of_le hi R.la
  have hki : k ≠ i := by omega
  have key : ∀ (j : Nat) (q : Addr), ((al.set k none).set i (some p))[j]? = some (some q) → (j = i ∧ q = p) ∨ (j ≠ i ∧ j ≠ k ∧ al[j]? = some (some q)) := by
    intro j q h
    by_cases hj : i = j
    · subst hj
      rw [List.getElem?_set_self (by simpa using hil)] at h
      exact .inl ⟨rfl, (Option.some.inj (Option.some.inj h)).symm⟩
    · rw [List.getElem?_set_ne hj] at h
      by_cases hk2 : k = j
      · subst hk2
        rw [List.getElem?_set_self hkl'] at h; cases h
      · rw [List.getElem?_set_ne hk2] at h
        exact .inr ⟨fun z => hj z.symm, fun z => hk2 z.symm, h⟩
  refine ⟨⟨by simp [R.ls], by simpa using R.la, fun j w e => ?_, fun a b q e1 e2 => ?_, fun q hq => ?_, R.ext, R.gr, R.new, R.le, R.cbE⟩, gr⟩
  · by_cases hj : i = j
    · subst hj
      rw [List.getElem?_set_self hi] at e
      have e' : W.own c = w := by simpa using e
      subst e'
      exact ⟨.ref p, List.getElem?_set_self (by rw [← R.ls]; exact hi), p, rfl, List.getElem?_set_self (by simpa using hil), hc.go (fun _ e => e) gr.ls gr.tu⟩
    · rw [List.getElem?_set_ne hj] at e
      obtain ⟨u, e1, q⟩ := R.cell j w e
      refine ⟨u, by rw [List.getElem?_set_ne hj]; exact e1, ?_⟩
      cases w with
      | d x => exact gr.dq q
      | own c =>
        obtain ⟨r, rfl, e2, q⟩ := q
        have hjl : j < ρ.length := (List.getElem?_eq_some_iff.mp e).1
        exact ⟨r, rfl, by rw [List.getElem?_set_ne hj, List.getElem?_set_ne (by omega)]; exact e2, q.go (fun _ e => e) gr.ls gr.tu⟩
      | pk c => exact q
      | twn => exact q
      | scr => exact q
      | obj k => exact q
  · rcases key a q e1 with ⟨h1, h2⟩ | ⟨h1, h1', h2⟩
    · rcases key b q e2 with ⟨h3, h4⟩ | ⟨h3, h3', h4⟩
      · rw [h1, h3]
      · rw [h2] at h4; exact absurd (R.inj b k p h4 hk) h3'
    · rcases key b q e2 with ⟨h3, h4⟩ | ⟨h3, h3', h4⟩
      · rw [h4] at h2; exact absurd (R.inj a k p h2 hk) h1'
      · exact R.inj a b q h2 h4
  · obtain ⟨j, hj⟩ := List.mem_iff_getElem?.mp hq
    rcases key j q hj with ⟨h1, h2⟩ | ⟨_, _, h2⟩
    · rw [h2]; exact R.fresh p (List.mem_of_getElem? hk)
    · exact R.fresh q (List.mem_of_getElem? h2)
/-- a slot is forgotten -/
theorem Rel.forget (R : Rel F oa al ρ g σ H) (i : Nat) : Rel F oa al (ρ.set i none) g σ H := by
  refine ⟨by simp [R.ls], by simpa using R.la, fun j w e => ?_, R.inj, R.fresh, R.ext, R.gr, R.new, R.le, R.cbE⟩
  by_cases hj : i = j
  · subst hj
    by_cases hl : i < ρ.length
    · rw [List.getElem?_set_self hl] at e; cases e
    · rw [List.getElem?_eq_none (by simpa using hl)] at e; cases e
  · rw [List.getElem?_set_ne hj] at e; exact R.cell j w e
theorem Rel.weak {ρ' : Env'} (R : Rel F oa al ρ g σ H) (hl : ρ'.length = ρ.length) (h : ∀ (i : Nat) (w : W), ρ'[i]? = some (some w) → ρ[i]? = some (some w)) : Rel F oa al ρ' g σ H :=
  ⟨hl.trans R.ls, by rw [hl]; exact R.la, fun j w e => R.cell j w (h j w e), R.inj, R.fresh, R.ext, R.gr, R.new, R.le, R.cbE⟩
theorem mask_len : ∀ (a b : Env'), (mask a b).length = b.length
  | [], [] => rfl
  | none :: a, _ :: b => by simp [mask, mask_len a b]
  | some _ :: a, _ :: b => by simp [mask, mask_len a b]
  | [], _ :: _ => rfl
  | none :: _, [] => rfl
  | some _ :: _, [] => rfl
theorem mask_get : ∀ (a b : Env') (i : Nat) (w : W), (mask a b)[i]? = some (some w) → b[i]? = some (some w)
  | none :: a, x :: b, 0, w, h => by simp [mask] at h
  | none :: a, x :: b, i + 1, w, h => by simpa using mask_get a b i w (by simpa [mask] using h)
  | some _ :: a, x :: b, 0, w, h => by simpa [mask] using h
  | some _ :: a, x :: b, i + 1, w, h => by simpa using mask_get a b i w (by simpa [mask] using h)
  | [], b, i, w, h => by cases b <;> exact h
  | none :: _, [], i, w, h => by simp [mask] at h
  | some _ :: _, [], i, w, h => by simp [mask] at h
end
/-! ### the judgement -/
/-- what is wanted behind a statement -/
def PostS (F : Fm) (cls : Nat → Addr) (O : Addr → Prop) (H : Hp) (Wx : WX) (D : Ends) : Out → Prop
  | .nx ρ' g' => ∀ oa' al' σ' H', Rel F oa' al' ρ' g' σ' H' → Grow O (Own F oa' al') H H' → D.nx σ' H'
  | .rt w g' => ∀ oa' v H', Step F F.oaE oa' g' F.HE H' → WOk F oa' [] F.HE H' v w → D.rt v H'
  | .ex c g' => ∀ oa' σ' H', Step F F.oaE oa' g' F.HE H' → Wx (.ref (cls c)) none σ' H'
  | .no => False
def tS (K : PySem.W.Frag) (C : Addr) (cls : Nat → Addr) (Wx : WX) (f : Env' → G → Out) : TS := fun D σ H => ∃ F oa al ρ g, F.K = K ∧ F.C = C ∧ Rel F oa al ρ g σ H ∧ PostS F cls (Own F oa al) H Wx D (f ρ g)
section
variable {X : Cx} {C : Addr} {cls : Nat → Addr} {Wx : WX} {f f' : Env' → G → Out} {st : Stmt} {sts : List Stmt}
theorem PostS.later {F : Fm} {O O1 : Addr → Prop} {H H1 : Hp} {D : Ends} {o : Out} (h : PostS F cls O H Wx D o) (gw : Grow O O1 H H1) : PostS F cls O1 H1 Wx D o := by
  cases o with
  | nx ρ g => exact fun oa' al' σ' H' R g2 => h oa' al' σ' H' R (gw.trans g2)
  | rt w g => exact h
  | ex c g => exact h
  | no => exact h
/-- an expression ahead of a statement -/
theorem PostS.bind {K : PySem.W.Frag} {F : Fm} {oa : OA} {al : List (Option Addr)} {ρ : Env'} {g : G} {σ : St} {H : Hp} {D : Ends} {fe : Env' → G → Res W} {k : W → G → Out} (hK : F.K = K) (hC : F.C = C) (R : Rel F oa al ρ g σ H) (h : PostS F cls (Own F oa al) H Wx D ((fe ρ g).out k)) {Q' : VK}
    (go : ∀ w g1 oa1 v H1, Step F oa oa1 g1 H H1 → Rel F oa1 al ρ g1 σ H1 → WOk F oa1 al H H1 v w → PostS F cls (Own F oa al) H Wx D (k w g1) → Q' v H1) : tE K C cls Wx fe σ H Q' := by
  refine ⟨F, oa, al, ρ, g, hK, hC, R, ?_⟩
  cases e : fe ρ g with
  | ok w g1 => rw [e] at h; exact fun oa1 v H1 st wo => go w g1 oa1 v H1 st (R.step st) wo h
  | ex c g1 => rw [e] at h; exact fun oa1 H1 st => h oa1 σ H1 (R.toStep.trans st)
  | no => rw [e] at h; exact h
theorem PostS.of {F : Fm} {O : Addr → Prop} {H : Hp} {D : Ends} {α : Type} {o : Option α} {g : G} {k : α → G → Out} (h : PostS F cls O H Wx D ((Res.of o g).out k)) : ∃ a, o = some a ∧ PostS F cls O H Wx D (k a g) := by
  cases o with
  | none => exact h.elim
  | some a => exact ⟨a, rfl, h⟩
def fseq (f f' : Env' → G → Out) : Env' → G → Out := fun ρ g => (f ρ g).then fun ρ' g' => f' ρ' g'
theorem fs_nil : PSs X [] (tS X.K C cls Wx fun ρ g => .nx ρ g) := by
  refine PSs.imp pss_nil ?_
  rintro D σ H ⟨F, oa, al, ρ, g, hK, hC, R, h⟩
  exact h oa al σ H R (Grow.refl _ _)
theorem fs_cons (h1 : PS X st (tS X.K C cls Wx f)) (h2 : PSs X sts (tS X.K C cls Wx f')) : PSs X (st :: sts) (tS X.K C cls Wx (fseq f f')) := by
  refine PSs.imp (pss_cons h1 h2) ?_
  rintro D σ H ⟨F, oa, al, ρ, g, hK, hC, R, h⟩
  refine ⟨F, oa, al, ρ, g, hK, hC, R, ?_⟩
  unfold fseq at h
  cases e : f ρ g with
  | no => rw [e] at h; exact h
  | rt w g' => rw [e] at h; exact h
  | ex c g' => rw [e] at h; exact h
  | nx ρ' g' =>
    rw [e] at h
    simp only [then_nx] at h
    exact fun oa' al' σ' H' R' gw => ⟨F, oa', al', ρ', g', hK, hC, R', h.later gw⟩
end
end TP
/-! Assignments, lists that change. -/
namespace TP
open PySem L2
/-! ### a value is stored -/
theorem put_lt {ρ ρ' : Env'} {i : Nat} {o : Bool} {w : W} (h : put ρ i o w = some ρ') : i < ρ.length := by
  unfold put at h
  split at h
  · assumption
  · cases h
theorem put_own {ρ ρ' : Env'} {i : Nat} {c : Con} (h : put ρ i true (.own c) = some ρ') : ρ' = ρ.set i (some (.own c)) := by
  have hi := put_lt h
  simp only [put, if_pos hi, if_true, Option.some.injEq] at h
  exact h.symm
theorem put_other {ρ ρ' : Env'} {i : Nat} {o : Bool} {w : W} (h : put ρ i o w = some ρ') (n : ¬ (o = true ∧ ∃ c, w = .own c)) : ∃ w', ρ' = ρ.set i (some w') ∧ (∀ c, w' ≠ .own c) ∧ (∀ c, w' ≠ .pk c) ∧ (w = w' ∨ ∃ xs, w = .own (.lst xs) ∧ w' = .d (.list xs)) := by
  have hi := put_lt h
  simp only [put, if_pos hi] at h
  cases w with
  | d x => exact ⟨.d x, (Option.some.inj h).symm, by simp, by simp, .inl rfl⟩
  | own c =>
    have o' : o = false := by
      cases o with
      | false => rfl
      | true => exact absurd ⟨rfl, c, rfl⟩ n
    subst o'
    cases c with
    | lst xs =>
      simp at h
      exact ⟨.d (.list xs), h.symm, by simp, by simp, .inr ⟨xs, rfl, rfl⟩⟩
    | dct _ => simp at h
  | pk c => cases h
  | twn => cases h
  | scr => cases h
  | obj j => exact ⟨.obj j, (Option.some.inj h).symm, by simp, by simp, .inl rfl⟩
theorem put_len {ρ ρ' : Env'} {i : Nat} {o : Bool} {w : W} (h : put ρ i o w = some ρ') : ρ'.length = ρ.length := by
  by_cases n : o = true ∧ ∃ c, w = .own c
  · obtain ⟨rfl, c, rfl⟩ := n
    rw [put_own h]; simp
  · obtain ⟨w', rfl, _⟩ := put_other h n
    simp
section
variable {F : Fm} {oa : OA} {al : List (Option Addr)} {ρ ρ' : Env'} {g : G} {σ : St} {H0 H : Hp}
theorem WOk.stay {oa2 : OA} {al2 : List (Option Addr)} {H2 : Hp} {i : Nat} {v : V} {w w' : W} (wo : WOk F oa al H0 H v w) (hw : w = w' ∨ ∃ xs, w = .own (.lst xs) ∧ w' = .d (.list xs)) (n : ∀ c, w' ≠ .own c) (np : ∀ c, w' ≠ .pk c)
    (gw : Grow (Own F oa al) (Own F oa2 al2) H H2) (le : OaLe oa oa2) : VOk F oa2 al2 H2 i v w' := by
  rcases hw with rfl | ⟨xs, rfl, rfl⟩
  · cases w with
    | d x => exact gw.dq wo
    | own c => exact absurd rfl (n c)
    | pk c => exact absurd rfl (np c)
    | twn => exact wo
    | scr => exact wo
    | obj j =>
      obtain ⟨t, e2, rfl⟩ := wo
      obtain ⟨l, e3⟩ := le j t e2
      exact ⟨_, e3, rfl⟩
  · exact gw.dq (wo.fz rfl)
theorem Rel.put (R : Rel F oa al ρ g σ H) {oa1 : OA} {g1 : G} {H1 : Hp} (st : Step F oa oa1 g1 H H1) {i : Nat} {o : Bool} {v : V} {w : W} (wo : WOk F oa1 al H H1 v w) (e : TP.put ρ i o w = some ρ') :
    ∃ al', Rel F oa1 al' ρ' g1 (σ.set i (some v)) H1 ∧ Grow (Own F oa al) (Own F oa1 al') H H1 ∧ ∀ k, k ≠ i → al'[k]? = al[k]? := by
  by_cases n : o = true ∧ ∃ c, w = .own c
  · obtain ⟨rfl, c, rfl⟩ := n
    have hi := put_lt e
    obtain rfl := put_own e
    obtain ⟨p, rfl, h0, n1, hc⟩ := wo
    obtain ⟨R', gw⟩ := R.setO st hi h0 n1 hc
    exact ⟨_, R', gw, fun k hk => List.getElem?_set_ne (Ne.symm hk)⟩
  · obtain ⟨w', rfl, h1, h2, h3⟩ := put_other e n
    refine ⟨al.set i none, (R.step st).setF (fun w0 e0 => ?_) (fun w0 e0 c z => ?_), st.grow.trans (grow_set i), fun k hk => List.getElem?_set_ne (Ne.symm hk)⟩
    · obtain rfl := Option.some.inj e0
      exact wo.stay h3 h1 h2 (grow_set i) (OaLe.refl _)
    · obtain rfl := Option.some.inj e0
      exact h1 c z
theorem own_app {p b : Addr} (h : Own F oa (al ++ [some p]) b) : Own F oa al b ∨ b = p := by
  rcases h with h | h | h
  · exact .inl (.inl h)
  · exact .inl (.inr (.inl h))
  · rcases List.mem_append.mp h with h | h
    · exact .inl (.inr (.inr h))
    · simp at h; exact .inr h
/-- a value that a slot of a lot of variables takes, as it goes out of the def -/
theorem WOk.out {oa1 : OA} {v : V} {w w' : W} (R : Rel F oa1 al ρ g σ H) (h0 : ∀ b, H0 b = none → F.HE b = none) (wo : WOk F oa1 al H0 H v w) (hw : w' = w ∨ ∃ c, w = .pk c ∧ w' = .own c) (np : ∀ c, w' ≠ .pk c) : WOk F oa1 [] F.HE H v w' := by
  have ow : ∀ b, Own F oa1 [] b → Own F oa1 al b := by
    rintro b (h | h | h)
    · exact .inl h
    · exact .inr (.inl h)
    · simp at h
  rcases hw with rfl | ⟨c, rfl, rfl⟩
  · cases w' with
    | d x => exact Dq.mono (fun a xs e n => ⟨e, fun z => n (ow a z)⟩) (fun _ _ e => e) wo
    | own c =>
      obtain ⟨p, rfl, e0, n, q⟩ := wo
      exact ⟨p, rfl, h0 _ e0, fun z => n (ow p z), q.go (fun _ e => e) (fun a xs e m => ⟨e, fun z => m (z.elim (fun z => .inl (ow a z)) .inr)⟩) fun _ _ e => e⟩
    | pk c => exact absurd rfl (np c)
    | twn => exact wo
    | scr => exact wo
    | obj j => exact wo
  · obtain ⟨p, rfl, hp, q⟩ := wo
    obtain ⟨f1, f2, f3, f4⟩ := R.fresh p hp
    refine ⟨p, rfl, f1, ?_, q.go (fun _ e => e) (fun a xs e m => ⟨e, ?_⟩) fun _ _ e => e⟩
    · rintro (z | z | z)
      · exact f2 z
      · exact f3 z
      · simp at z
    · rintro (z | z)
      · exact m (ow a z)
      · subst z; exact m (.inr (.inr hp))
end
section
variable {X : Cx} {C : Addr} {cls : Nat → Addr} {Wx : WX} {fa fb : Env' → G → Res W} {a b e : Expr} {pos : Pos}
/-! ### name = e -/
def fasg (i : Nat) (o : Bool) (fe : Env' → G → Res W) : Env' → G → Out := fun ρ g => (fe ρ g).out fun w g1 => (Res.of (put ρ i o w) g1).out fun ρ' g2 => .nx ρ' g2
theorem asg_of {i : Nat} {o : Bool} {D : Ends} {σ : St} {H : Hp} (h : tS X.K C cls Wx (fasg i o fa) D σ H) : tAsg (tE X.K C cls Wx fa) (gName i) D σ H := by
  obtain ⟨F, oa, al, ρ, g, hK, hC, R, h⟩ := h
  refine PostS.bind hK hC R h fun w g1 oa1 v H1 st R1 wo h1 => ?_
  obtain ⟨ρ', e, h2⟩ := PostS.of h1
  obtain ⟨al', R', gw, _⟩ := R.put st wo e
  exact h2 _ _ _ _ R' gw
def notLc : Expr → Bool
  | .ListComp _ _ _ _ | .SetComp _ _ _ _ | .DictComp _ _ _ _ _ => false
  | _ => true
theorem sw_false {e : Expr} (h : notLc e = true) (t : Option Expr) (l : Nat) (env : Env) : swapsWith e t l env = pure false := by
  cases e <;> first | rfl | (simp [notLc] at h)
theorem fs_asg {i : Nat} {o : Bool} {x : Str} {pos' : Pos} (hN : X.N.Nodup) (hi : X.N[i]? = some x) (hx : Loc X.env.scope x) (hf : X.fn x = true ∨ X.env.scope.names.lookup x = some .local) (ha : PE X a (tE X.K C cls Wx fa)) (hs : swapsWith a (some (.Name x pos')) pos.line X.env = pure false) :
    PS X (.Assign [.Name x pos'] a pos) (tS X.K C cls Wx (fasg i o fa)) :=
  PS.imp (ps_set hN hi hx ha hs hf) fun _ _ _ h => asg_of h
/-- name = a name that had a list of its own -/
def fmov (i j : Nat) : Env' → G → Out := fun ρ g => match ρ[j]? with
    | some (some (.own (.lst xs))) => .nx ((ρ.set j (some (.d (.list xs)))).set i (some (.d (.list xs)))) g
    | some (some (.d x)) => .nx (ρ.set i (some (.d x))) g
    | _ => .no
theorem set_self {α : Type} {l : List α} {j : Nat} {v : α} (h : l[j]? = some v) : l.set j v = l := by
  apply List.ext_getElem?
  intro k
  by_cases hk : j = k
  · subst hk
    rw [List.getElem?_set_self (List.getElem?_eq_some_iff.mp h).1, h]
  · rw [List.getElem?_set_ne hk]
theorem fs_mov {i j : Nat} {x y : Str} {pos' pos2 : Pos} (hN : X.N.Nodup) (hi : X.N[i]? = some x) (hx : Loc X.env.scope x) (hf : X.fn x = true ∨ X.env.scope.names.lookup x = some .local)
    (hj : X.N[j]? = some y) (hv : Vis X.env.scope y) (hd : (y == ("__debug__" : Str)) = false) (hcd : (y == ("__classdict__" : Str)) = false) :
    PS X (.Assign [.Name x pos'] (.Name y pos2) pos) (tS X.K C cls Wx (fmov i j)) := by
  refine PS.imp (ps_set hN hi hx (pe_var hj hv hd hcd) rfl hf) ?_
  rintro D σ H ⟨F, oa, al, ρ, g, hK, hC, R, h⟩
  unfold fmov at h
  split at h
  · rename_i xs e
    obtain ⟨v, e1, p, rfl, e2, vs, h1, r⟩ := R.cell j _ e
    refine ⟨.ref p, e1, ?_⟩
    have ow : ∀ b, Own F oa (al.set j none) b → Own F oa al b := fun b => own_set
    have np : ¬ Own F oa (al.set j none) p := by
      obtain ⟨f1, f2, f3, f4⟩ := R.fresh p (List.mem_of_getElem? e2)
      rintro (z | z | z)
      · exact f2 z
      · exact f3 z
      · obtain ⟨k, hk⟩ := List.mem_iff_getElem?.mp z
        by_cases hkj : j = k
        · subst hkj
          by_cases hl : j < al.length
          · rw [List.getElem?_set_self hl] at hk; cases hk
          · rw [List.getElem?_eq_none (by simpa using hl)] at hk; cases hk
        · rw [List.getElem?_set_ne hkj] at hk
          exact hkj (R.inj j k p e2 hk)
    have dq : Dq (Own F oa (al.set j none)) H (.ref p) (.list xs) := .lst h1 np ((grow_set j).dqAll r)
    have R1 := R.setF (i := j) (o := some (.d (.list xs))) (v := .ref p) (fun w e => by obtain rfl := Option.some.inj e; exact dq) (fun w e c z => by obtain rfl := Option.some.inj e; cases z)
    rw [set_self e1] at R1
    have R2 := R1.setF (i := i) (o := some (.d (.list xs))) (v := .ref p) (fun w e => by obtain rfl := Option.some.inj e; exact (grow_set i).dq dq) (fun w e c z => by obtain rfl := Option.some.inj e; cases z)
    exact h oa _ _ H R2 ((grow_set j).trans (grow_set i))
  · rename_i x e
    obtain ⟨v, e1, q⟩ := R.cell j _ e
    refine ⟨v, e1, ?_⟩
    have R2 := R.setF (i := i) (o := some (.d x)) (v := v) (fun w e => by obtain rfl := Option.some.inj e; exact (grow_set i).dq q) (fun w e c z => by obtain rfl := Option.some.inj e; cases z)
    exact h oa _ _ H R2 (grow_set i)
  · exact h.elim
/-! ### a, b = x, y -/
def fasg2 (i j : Nat) (oi oj : Bool) (fa fb : Env' → G → Res W) : Env' → G → Out := fun ρ g => (fa ρ g).out fun w g1 => (fb ρ g1).out fun u g2 => (Res.of (do put (← put ρ j oj u) i oi w) g2).out fun ρ' g3 => .nx ρ' g3
theorem asg2_of {i j : Nat} {oi oj : Bool} (hij : i ≠ j) {D : Ends} {σ : St} {H : Hp} (h : tS X.K C cls Wx (fasg2 i j oi oj fa fb) D σ H) :
    tCons (tE X.K C cls Wx fa) (tCons (tE X.K C cls Wx fb) tNil) σ H fun vs H' => ∃ v w, vs = [v, w] ∧ D.nx ((σ.set i (some v)).set j (some w)) H' ∧ ∀ p o, H' p = none → D.nx ((σ.set i (some v)).set j (some w)) (upd H' p o) := by
  obtain ⟨F, oa, al, ρ, g, hK, hC, R, h⟩ := h
  have fin : ∀ {O : Addr → Prop} {H1 : Hp} {oa2 : OA} {al2 : List (Option Addr)} {ρ2 : Env'} {g2 : G} {H2 : Hp} {x y : V}, PostS F cls O H1 Wx D (.nx ρ2 g2) → Rel F oa2 al2 ρ2 g2 ((σ.set j (some y)).set i (some x)) H2 → Grow O (Own F oa2 al2) H1 H2 →
      ∃ v w, [x, y] = [v, w] ∧ D.nx ((σ.set i (some v)).set j (some w)) H2 ∧ ∀ p o, H2 p = none → D.nx ((σ.set i (some v)).set j (some w)) (upd H2 p o) := by
    intro O H1 oa2 al2 ρ2 g2 H2 x y h R2 gw
    rw [List.set_comm _ _ (Ne.symm hij)] at R2
    refine ⟨x, y, rfl, h _ _ _ _ R2 gw, fun p o hp => ?_⟩
    have st := Step.upd (o := o) R2.gr hp
    exact h _ _ _ _ (R2.step st) (gw.trans st.grow)
  refine PostS.bind hK hC R h fun w g1 oa1 x H1 st1 R1 wo1 h1 => ?_
  by_cases n : oi = true ∧ ∃ c, w = .own c
  · obtain ⟨rfl, c, rfl⟩ := n
    obtain ⟨p, rfl, h0, n1, hc⟩ := wo1
    obtain ⟨o1, eo1, _⟩ := hc.some
    obtain ⟨Rr, gr1⟩ := R.reg st1 h0 n1 ⟨o1, eo1⟩
    refine PostS.bind hK hC Rr (h1.later gr1) fun u g2 oa2 y H2 st2 R2 wo2 h2 => ?_
    obtain ⟨ρ', e, h3⟩ := PostS.of h2
    obtain ⟨ρ1, e1, e2⟩ := bindSome e
    obtain ⟨al2, R3, gw2, hal⟩ := Rr.put st2 wo2 e1
    have hi := put_lt e2
    obtain rfl := put_own e2
    have hl1 := put_len e1
    have hj := put_lt e1
    have hla := R.la
    have hk : al2[al.length]? = some (some p) := by
      rw [hal al.length (by omega), List.getElem?_append_right (Nat.le_refl _)]
      simp
    have hc2 : ConOk (Own F oa2 al2) H2 p c := hc.go (fun o z => st2.ext.keep p o z (.inl fun z => n1 (.inl z))) (fun a xs e m => gw2.ls a xs e fun z => m (own_app z)) st2.ext.tup
    obtain ⟨R4, gw4⟩ := R3.take (p := p) (k := al.length) (i := i) hk (by omega) hi hc2
    exact fin h3 R4 (gw2.trans gw4)
  · refine PostS.bind hK hC R1 (h1.later st1.grow) fun u g2 oa2 y H2 st2 R2 wo2 h2 => ?_
    obtain ⟨ρ', e, h3⟩ := PostS.of h2
    obtain ⟨ρ1, e1, e2⟩ := bindSome e
    obtain ⟨al2, R3, gw2, hal⟩ := R1.put st2 wo2 e1
    obtain ⟨w', rfl, q1, q2, q3⟩ := put_other e2 n
    have h3' : PostS F cls (Own F oa1 al) H1 Wx D (.nx (ρ1.set i (some w')) g2) := h3
    have R4 := R3.setF (i := i) (o := some w') (v := x) (fun w0 e0 => by
      obtain rfl := Option.some.inj e0
      exact wo1.stay q3 q1 q2 (gw2.trans (grow_set i)) st2.le) (fun w0 e0 c z => by obtain rfl := Option.some.inj e0; exact q1 c z)
    exact fin h3' R4 (gw2.trans (grow_set i))
end
end TP
/-! Assignments of pairs, lists and dicts that change, return, if, raise. -/
namespace TP
open PySem L2
section
variable {X : Cx} {C : Addr} {cls : Nat → Addr} {Wx : WX} {fa fb : Env' → G → Res W} {a b e : Expr} {pos : Pos}
theorem pa2 (pa : plainE a = true) (pb : plainE b = true) {ta tb : TE} (ha : PE X a ta) (hb : PE X b tb) : PA X [a, b] (tCons ta (tCons tb tNil)) := pa_cons ha (pa_cons hb pa_nil (star_plain pb [] X.env)) (star_plain pa [b] X.env)
def notStar : Expr → Bool
  | .Starred _ _ => false
  | _ => true
theorem sw_some {x y : Str} {px py kt pt k2 pt2} {env : Env} (hk : env.scope.kind = .function) (hx : env.scope.names.lookup x = some .local) (hy : env.scope.names.lookup y = some .local) (hl : (py.line == px.line) = true) (hxy : (x == y) = false) (hyx : (y == x) = false) (pa : notStar a = true) (pb : notStar b = true)
    (hf : [a, b].all (foldedForSure 8) = false) (hcn : [a, b].all (constantsAlone 8) = false) : swappedStores [.Tuple [.Name x px, .Name y py] kt pt] (.Tuple [a, b] k2 pt2) env = pure (some [x, y]) := by
  have kx : env.kindOf x = some .local := hx
  have ky : env.kindOf y = some .local := hy
  have hb : env.blockKind = .function := by unfold Env.blockKind; rw [hk]; rfl
  have hs : ([a, b].any fun | .Starred .. => true | _ => false) = false := by
    simp only [List.any_cons, List.any_nil, Bool.or_false]
    cases a <;> cases b <;> first | rfl | (simp [notStar] at pa pb)
  have hl' : py.line = px.line := by simpa using hl
  have hxy' : x ≠ y := by simpa using hxy
  have hyx' : y ≠ x := by simpa using hyx
  unfold swappedStores
  dsimp only
  refine (if_neg (by simp [hb])).trans ?_
  refine (if_neg (fun h => Bool.false_ne_true (hs.symm.trans h))).trans ?_
  simp only [List.filterMap_cons, List.filterMap_nil, List.head?_cons, Option.map_some, Option.getD_some, Expr.pos, kx, ky, hl', beq_self_eq_true, Bool.and_self, if_true, hf, hcn]
  have h1 : ([x, y] : List Str).eraseDups = [x, y] := by
    simp [List.eraseDups_cons, hyx', hxy', List.filter_cons]
  rw [h1]
  rfl
theorem sw_none {x y : Str} {px py kt pt k2 pt2} {env : Env} (h : (env.scope.names.lookup x == some .local && env.scope.names.lookup y == some .local) = false) : swappedStores [.Tuple [.Name x px, .Name y py] kt pt] (.Tuple [a, b] k2 pt2) env = pure none := by
  have e : ∀ z, env.kindOf z = env.scope.names.lookup z := fun _ => rfl
  unfold swappedStores
  dsimp only
  split
  · rfl
  · split
    · rfl
    · simp only [List.filterMap_cons, List.filterMap_nil, List.head?_cons, Option.map_some, Option.getD_some, Expr.pos, e]
      have hl : ∀ c d : Bool, (env.scope.names.lookup x == some .local) = c → (env.scope.names.lookup y == some .local) = d → (c && d) = false → True := fun _ _ _ _ _ => trivial
      cases h1 : (env.scope.names.lookup x == some NameKind.local)
      · cases h2 : (env.scope.names.lookup y == some NameKind.local && py.line == px.line) <;> simp
      · rw [h1] at h
        simp only [Bool.true_and] at h
        simp [h]
theorem nodupIx {N : List Str} (hN : N.Nodup) {i j : Nat} {x y : Str} (hi : N[i]? = some x) (hj : N[j]? = some y) (hxy : (x == y) = false) : i ≠ j := by
  rintro rfl
  rw [hi] at hj
  obtain rfl := Option.some.inj hj
  simp at hxy
theorem fs_asg2p {i j : Nat} {oi oj : Bool} {x y : Str} {px py pt pt2 : Pos} {kt k2 : Nat} (hc : X.calm = true) (hN : X.N.Nodup) (hi : X.N[i]? = some x) (hj : X.N[j]? = some y) (hk : X.env.scope.kind = .function) (hx : X.env.scope.names.lookup x = some .local) (hy : X.env.scope.names.lookup y = some .local) (hl : (py.line == px.line) = true) (hxy : (x == y) = false) (hyx : (y == x) = false)
    (pa : notStar a = true) (pb : notStar b = true) (qa : plainE a = true) (qb : plainE b = true) (hf : [a, b].all (foldedForSure 8) = false) (hcn : [a, b].all (constantsAlone 8) = false) (ha : PE X a (tE X.K C cls Wx fa)) (hb : PE X b (tE X.K C cls Wx fb)) :
    PS X (.Assign [.Tuple [.Name x px, .Name y py] kt pt] (.Tuple [a, b] k2 pt2) pos) (tS X.K C cls Wx (fasg2 i j oi oj fa fb)) := by
  have hij := nodupIx hN hi hj hxy
  refine PS.imp (ps_par hc hN hi hj hij hx hy (pa2 qa qb ha hb) (sw_some hk hx hy hl hxy hyx pa pb hf hcn) rfl) fun D σ H h => ?_
  have h2 := asg2_of hij h
  obtain ⟨F, oa, al, ρ, g, hK, hC, R, h3⟩ := h2
  show tE X.K C cls Wx fa σ H _
  refine ⟨F, oa, al, ρ, g, hK, hC, R, ?_⟩
  cases e : fa ρ g with
  | no => rw [e] at h3; exact h3
  | ex c g1 => rw [e] at h3; exact h3
  | ok w g1 =>
    rw [e] at h3
    intro oa1 v H1 st wo
    obtain ⟨F', oa', al', ρ', g', hK', hC', R', h4⟩ := h3 oa1 v H1 st wo
    refine ⟨F', oa', al', ρ', g', hK', hC', R', ?_⟩
    cases e2 : fb ρ' g' with
    | no => rw [e2] at h4; exact h4
    | ex c g2 => rw [e2] at h4; exact h4
    | ok u g2 =>
      rw [e2] at h4
      intro oa2 y H2 st2 wo2
      obtain ⟨v', w', e3, q, _⟩ := h4 oa2 y H2 st2 wo2
      exact ⟨v', w', e3, q⟩
theorem fs_asg2t {i j : Nat} {oi oj : Bool} {x y : Str} {px py pt pt2 : Pos} {kt k2 : Nat} (hc : X.calm = true) (hN : X.N.Nodup) (hi : X.N[i]? = some x) (hj : X.N[j]? = some y) (hx : Loc X.env.scope x) (hy : Loc X.env.scope y) (fx : X.fn x = true ∨ X.env.scope.names.lookup x = some .local) (fy : X.fn y = true ∨ X.env.scope.names.lookup y = some .local) (hxy : (x == y) = false)
    (h : (X.env.scope.names.lookup x == some .local && X.env.scope.names.lookup y == some .local) = false) (qa : plainE a = true) (qb : plainE b = true) (ha : PE X a (tE X.K C cls Wx fa)) (hb : PE X b (tE X.K C cls Wx fb)) :
    PS X (.Assign [.Tuple [.Name x px, .Name y py] kt pt] (.Tuple [a, b] k2 pt2) pos) (tS X.K C cls Wx (fasg2 i j oi oj fa fb)) := by
  have hij := nodupIx hN hi hj hxy
  refine PS.imp (ps_asg (pe_tup (pa2 qa qb ha hb)) (pg_tup (n := 2) hc (pgs_cons (pg_name hN hi hx fx) (pgs_cons (pg_name hN hj hy fy) pgs_nil))) rfl (sw_none h)) fun D σ H h => ?_
  obtain ⟨F, oa, al, ρ, g, hK, hC, R, h3⟩ := asg2_of hij h
  show tE X.K C cls Wx fa σ H _
  refine ⟨F, oa, al, ρ, g, hK, hC, R, ?_⟩
  cases e : fa ρ g with
  | no => rw [e] at h3; exact h3
  | ex c g1 => rw [e] at h3; exact h3
  | ok w g1 =>
    rw [e] at h3
    intro oa1 v H1 st wo
    obtain ⟨F', oa', al', ρ', g', hK', hC', R', h4⟩ := h3 oa1 v H1 st wo
    refine ⟨F', oa', al', ρ', g', hK', hC', R', ?_⟩
    cases e2 : fb ρ' g' with
    | no => rw [e2] at h4; exact h4
    | ex c g2 => rw [e2] at h4; exact h4
    | ok u g2 =>
      rw [e2] at h4
      intro oa2 y H2 st2 wo2
      obtain ⟨v', w', e3, _, q⟩ := h4 oa2 y H2 st2 wo2
      cases e3
      refine ⟨by rw [sizeLine_eq]; show 2 ≤ _; decide, fun p hp => ⟨p, [v, y], rfl, SqT.of upd_same, rfl, v, [y], rfl, y, [], rfl, rfl, ?_⟩⟩
      exact q p _ hp
/-! ### targets -/
def gTg (K : PySem.W.Frag) : Tg → TG
  | .one i => gName i
  | .two i j => gTup K 2 (gCons (gName i) (gCons (gName j) gNil))
  | .three i j k => gTup K 3 (gCons (gName i) (gCons (gName j) (gCons (gName k) gNil)))
def Tg.slots : Tg → List Nat
  | .one i => [i]
  | .two i j => [i, j]
  | .three i j k => [i, j, k]
section
variable {F : Fm} {oa : OA} {al : List (Option Addr)} {ρ ρ' : Env'} {g : G} {σ : St} {H : Hp}
/-- a slot takes a value that stays; what is registered stays so -/
theorem Rel.setK (R : Rel F oa al ρ g σ H) {i : Nat} {v : V} {w : W} (hv : VOk F oa al H i v w) : Rel F oa al (ρ.set i (some w)) g (σ.set i (some v)) H := by
  refine ⟨by simp [R.ls], by simpa using R.la, fun j w' e => ?_, R.inj, R.fresh, R.ext, R.gr, R.new, R.le, R.cbE⟩
  by_cases hj : i = j
  · subst hj
    have hi : i < ρ.length := by
      cases Nat.lt_or_ge i ρ.length with
      | inl h => exact h
      | inr h => rw [List.getElem?_eq_none (by simpa using h)] at e; cases e
    rw [List.getElem?_set_self hi] at e
    obtain rfl := Option.some.inj (Option.some.inj e)
    exact ⟨v, List.getElem?_set_self (by rw [← R.ls]; exact hi), hv⟩
  · rw [List.getElem?_set_ne hj] at e
    obtain ⟨u, e1, q⟩ := R.cell j w' e
    exact ⟨u, by rw [List.getElem?_set_ne hj]; exact e1, q⟩
def SameBut' (vs : List Nat) (σ σ' : St) : Prop := σ'.length = σ.length ∧ ∀ k, k ∉ vs → σ'[k]? = σ[k]?
theorem gTg_of {K : PySem.W.Frag} {t : Tg} {v : V} {x : PyData} (R : Rel F oa al ρ g σ H) (q : Dq (Own F oa al) H v x) (e : bindT t x ρ = some ρ') {Q : St → Hp → Prop} (go : ∀ σ', SameBut' t.slots σ σ' → Rel F oa al ρ' g σ' H → Q σ' H) : gTg K t v σ H Q := by
  cases t with
  | one i =>
    obtain rfl := Option.some.inj e
    exact go _ ⟨by simp, fun k hk => List.getElem?_set_ne (fun z => hk (by simp [Tg.slots, z]))⟩ (R.setK (w := .d x) q)
  | two i j =>
    unfold bindT at e
    dsimp only at e
    split at e
    · rename_i a b
      obtain rfl := Option.some.inj e
      cases q with
      | tup h r =>
        rename_i p vs
        cases r with
        | cons q1 r =>
          rename_i v1 vs1
          cases r with
          | cons q2 r =>
            rename_i v2 vs2
            cases r
            refine ⟨p, [v1, v2], rfl, SqT.of h, rfl, v1, [v2], rfl, v2, [], rfl, rfl, ?_⟩
            refine go _ ⟨by simp, fun k hk => ?_⟩ ((R.setK (i := i) (v := v1) (w := .d a) q1).setK (i := j) (v := v2) (w := .d b) q2)
            rw [List.getElem?_set_ne (fun z => hk (by simp [Tg.slots, z])), List.getElem?_set_ne (fun z => hk (by simp [Tg.slots, z]))]
    · cases e
  | three i j k =>
    unfold bindT at e
    dsimp only at e
    split at e
    · rename_i a b c
      obtain rfl := Option.some.inj e
      cases q with
      | tup h r =>
        rename_i p vs
        cases r with
        | cons q1 r =>
          rename_i v1 vs1
          cases r with
          | cons q2 r =>
            rename_i v2 vs2
            cases r with
            | cons q3 r =>
              rename_i v3 vs3
              cases r
              refine ⟨p, [v1, v2, v3], rfl, SqT.of h, rfl, v1, [v2, v3], rfl, v2, [v3], rfl, v3, [], rfl, rfl, ?_⟩
              refine go _ ⟨by simp, fun m hm => ?_⟩ (((R.setK (i := i) (v := v1) (w := .d a) q1).setK (i := j) (v := v2) (w := .d b) q2).setK (i := k) (v := v3) (w := .d c) q3)
              rw [List.getElem?_set_ne (fun z => hm (by simp [Tg.slots, z])), List.getElem?_set_ne (fun z => hm (by simp [Tg.slots, z])), List.getElem?_set_ne (fun z => hm (by simp [Tg.slots, z]))]
    · cases e
end
/-- what a target of names says -/
def TgIs (X : Cx) (t : Tg) (tg : Expr) : Prop := PG X tg (gTg X.K t)
theorem tg_one {i : Nat} {x : Str} {p : Pos} (hN : X.N.Nodup) (hi : X.N[i]? = some x) (hx : Loc X.env.scope x) (hf : X.fn x = true ∨ X.env.scope.names.lookup x = some .local) : TgIs X (.one i) (.Name x p) := pg_name hN hi hx hf
theorem tg_two {i j : Nat} {x y : Str} {p p' p2 : Pos} {k : Nat} (hc : X.calm = true) (hN : X.N.Nodup) (hi : X.N[i]? = some x) (hx : Loc X.env.scope x) (hf : X.fn x = true ∨ X.env.scope.names.lookup x = some .local)
    (hj : X.N[j]? = some y) (hy : Loc X.env.scope y) (hfy : X.fn y = true ∨ X.env.scope.names.lookup y = some .local) : TgIs X (.two i j) (.Tuple [.Name x p, .Name y p'] k p2) := pg_tup hc (pgs_cons (pg_name hN hi hx hf) (pgs_cons (pg_name hN hj hy hfy) pgs_nil))
theorem tg_three {i j l : Nat} {x y z : Str} {p p' p'' p2 : Pos} {k : Nat} (hc : X.calm = true) (hN : X.N.Nodup) (hi : X.N[i]? = some x) (hx : Loc X.env.scope x) (hf : X.fn x = true ∨ X.env.scope.names.lookup x = some .local)
    (hj : X.N[j]? = some y) (hy : Loc X.env.scope y) (hfy : X.fn y = true ∨ X.env.scope.names.lookup y = some .local) (hl : X.N[l]? = some z) (hz : Loc X.env.scope z) (hfz : X.fn z = true ∨ X.env.scope.names.lookup z = some .local) :
    TgIs X (.three i j l) (.Tuple [.Name x p, .Name y p', .Name z p''] k p2) := pg_tup hc (pgs_cons (pg_name hN hi hx hf) (pgs_cons (pg_name hN hj hy hfy) (pgs_cons (pg_name hN hl hz hfz) pgs_nil)))
def fasgT (t : Tg) (fe : Env' → G → Res W) : Env' → G → Out := fun ρ g => (fe ρ g).out fun w g1 => (Res.of (do bindT t (← w.fz) ρ) g1).out fun ρ' g2 => .nx ρ' g2
def notTup : Expr → Bool
  | .Tuple _ _ _ => false
  | _ => true
theorem sw_no {e tg : Expr} {env : Env} (h : notTup e = true) : swappedStores [tg] e env = pure none := by
  cases tg <;> cases e <;> first | rfl | (simp [notTup] at h)
theorem asgStore {tg : Expr} {env : Env} (h : notStar tg = true) : (assignEach [tg] env).map (·.2) = [assign tg env] := by
  cases tg <;> first | rfl | (simp [notStar] at h)
theorem fs_asgT {t : Tg} {tg : Expr} (hg : TgIs X t tg) (hst : notStar tg = true) (hl : notLc a = true) (ht : notTup a = true) (ha : PE X a (tE X.K C cls Wx fa)) : PS X (.Assign [tg] a pos) (tS X.K C cls Wx (fasgT t fa)) := by
  refine PS.imp (ps_asg ha hg (sw_false hl _ _ _) (sw_no ht) (asgStore hst)) ?_
  rintro D σ H ⟨F, oa, al, ρ, g, hK, hC, R, h⟩
  refine PostS.bind hK hC R h fun w g1 oa1 v H1 st R1 wo h1 => ?_
  obtain ⟨ρ', e, h2⟩ := PostS.of h1
  obtain ⟨x, e1, e2⟩ := bindSome e
  exact gTg_of R1 (wo.fz e1) e2 fun σ' _ R' => h2 _ _ _ _ R' st.grow
/-- x, y = l.pop() -/
def fpopT (t : Tg) (l : Nat) : Env' → G → Out := fun ρ g => match ρ[l]? with
    | some (some (.own (.lst xs))) => match xs.getLast? with
      | some x => match bindT t x (ρ.set l (some (.own (.lst xs.dropLast)))) with
        | some ρ' => .nx ρ' g
        | none => .no
      | none => .no
    | _ => .no
theorem pe_own {i : Nat} {x : Str} {p : Pos} (hN : X.N[i]? = some x) (hv : Vis X.env.scope x) (hd : (x == ("__debug__" : Str)) = false) (hcd : (x == ("__classdict__" : Str)) = false) : PE X (.Name x p) (tVar i) := pe_var hN hv hd hcd
theorem base_name {y : Str} {m : Str} {p : Pos} {env : Env} : attributeBase (.Name y p) m env (eval (.Name y p) env) = eval (.Name y p) env := rfl
theorem own_upd {F : Fm} {oa : OA} {al : List (Option Addr)} {H : Hp} {p : Addr} {o : HO} (hp : some p ∈ al) (hm : Mut (H p)) : (∀ a xs, H a = some (.lst xs) → ¬ Own F oa al a → upd H p o a = some (.lst xs) ∧ ¬ Own F oa al a) ∧ ∀ a xs, H a = some (.tup xs) → upd H p o a = some (.tup xs) := by
  have ow : Own F oa al p := .inr (.inr hp)
  refine ⟨fun a xs e n => ⟨?_, n⟩, fun a xs e => ?_⟩
  · rw [upd_ne (fun z => n (by rw [z]; exact ow))]; exact e
  · rw [upd_ne (fun z => by subst z; rw [e] at hm; exact hm)]; exact e
theorem fs_popT {t : Tg} {tg : Expr} {l : Nat} {y m : Str} {p apos cpos : Pos} (hm : (m == ("pop" : Str)) = true) (hg : TgIs X t tg) (hst : notStar tg = true) (hN : X.N[l]? = some y) (hv : Vis X.env.scope y) (hd : (y == ("__debug__" : Str)) = false) (hcd : (y == ("__classdict__" : Str)) = false)
    (hline : (apos.endLine == cpos.line) = true) : PS X (.Assign [tg] (.Call (.Attribute (.Name y p) m apos) [] [] cpos) pos) (tS X.K C cls Wx (fpopT t l)) := by
  obtain rfl : m = "pop" := by simpa using hm
  refine PS.imp (ps_asg (pe_bm0 PySem.F.plainAttrs_list PySem.F.slot_list_pop PySem.F.type_list_pop mt_pop (pe_var hN hv hd hcd) rfl hline) hg rfl (sw_no rfl) (asgStore hst)) ?_
  rintro D σ H ⟨F, oa, al, ρ, g, hK, hC, R, h⟩
  unfold fpopT at h
  split at h
  · rename_i xs e
    split at h
    · rename_i x ex
      split at h
      · rename_i ρ' eb
        obtain ⟨v, e1, q, rfl, e2, vs, h1, r⟩ := R.cell l _ e
        have hp := List.mem_of_getElem? e2
        have mu : Mut (H q) := by rw [h1]; exact trivial
        have ex' : xs[xs.length - 1]? = some x := by rw [← List.getLast?_eq_getElem?]; exact ex
        obtain ⟨vx, ev1, qx⟩ := r.get ex'
        have k := own_upd (F := F) (oa := oa) (o := .lst vs.dropLast) hp mu
        obtain ⟨R', gw⟩ := R.setC (c' := .lst xs.dropLast) (o := .lst vs.dropLast) e e2 mu ⟨_, upd_same, (r.dropLast).mono k.1 k.2⟩
        refine ⟨.ref q, e1, .inl ⟨rfl, _, SqL.of h1⟩, q, vs, vx, rfl, rfl, h1, by rw [r.len]; exact ev1, ?_⟩
        exact gTg_of R' (qx.mono k.1 k.2) eb fun σ' _ R2 => h _ _ _ _ R2 gw
      · exact h.elim
    · exact h.elim
  · exact h.elim
end
end TP
/-! Lists and dicts that change, if, return, raise. -/
namespace TP
open PySem L2
section
open PySem.AutoSeq1
theorem extend_tup (l : Addr) (items : Array Value) (n : Nat) (b : Addr) (items2 : Array Value) (n2 : Nat) (dd : Option Addr) (sl : Array (Option Value)) (hs0 : ¬(!items.isEmpty && Builtin.List.listTooLong (items.size + items2.size)) = true) (hs1 : items.size ≤ sizeLine) (hs2 : items.size + items2.size ≤ sizeLine + 1 := by seq_fits) :
    Meets (Builtin.«list.extend» ⟨[.ref l, .ref b], []⟩) (fun _ R s => s.heap.get? l = some { cls := .type "list", dict := none, data := .seq items n, slots := #[] } ∧ s.heap.get? b = some { cls := .type "tuple", dict := dd, data := .seq items2 n2, slots := sl } ∧ R (.ok (.ret Value.none)) { s with heap := s.heap.update l (Obj.mapSeq fun x => x ++ items2), toks := s.toks }) :=
  .of_wp fun prog w A R s h => by
    obtain ⟨hp, g, d, tk, os⟩ := s; obtain ⟨hl, hb, h⟩ := h; have f1 := idx_int; have f2 := sub_tuple_tuple; have f3 := sub_list_list; have f4 := sub_tuple_list; have f5 := sub_list_tuple;
    have hz' : (items ++ items2).size ≤ sizeLine + 1 := by rw [Array.size_append]; exact hs2
    wp_walk using (wpAny_updateSeq hl rfl (hz := hs1) (_hz' := hz')), wpAny_loadPart' hl, wpAny_loadPart' hb; exact ⟨_, rfl, h⟩
end
section
variable {X : Cx} {C : Addr} {cls : Nat → Addr} {Wx : WX} {fa fb fc : Env' → G → Res W} {a b e : Expr} {pos : Pos}
/-! ### n += e -/
def faug (i : Nat) (fe : Env' → G → Res W) : Env' → G → Out := fun ρ g => match get ρ i with
    | some (.d (.int x)) => (fe ρ g).out fun w g1 => match w.int? with
      | some y => .nx (ρ.set i (some (.d (.int (x + y))))) g1
      | none => .no
    | _ => .no
theorem get_int {ρ : Env'} {i : Nat} {n : Int} (h : get ρ i = some (.d (.int n))) : ρ[i]? = some (some (.d (.int n))) := by
  unfold get at h
  split at h
  · rename_i u e
    rw [e]
    cases u with
    | d x => cases x <;> first | (cases h; rfl) | cases h
    | own c => cases h
    | pk c => cases h
    | twn => cases h
    | scr => cases h
    | obj j => cases h
  · cases h
theorem fs_aug {i : Nat} {x : Str} {p : Pos} (hN : X.N.Nodup) (hi : X.N[i]? = some x) (hx : Loc X.env.scope x) (hf : X.fn x = true ∨ X.env.scope.names.lookup x = some .local) (ha : PE X a (tE X.K C cls Wx fa)) : PS X (.AugAssign (.Name x p) .Add a pos) (tS X.K C cls Wx (faug i fa)) := by
  refine PS.imp (ps_aug hN hi hx ha ip_add hf) ?_
  rintro D σ H ⟨F, oa, al, ρ, g, hK, hC, R, h⟩
  unfold faug at h
  split at h
  · rename_i n hn
    obtain ⟨v, e1, q⟩ := R.cell i _ (get_int hn)
    cases q
    refine ⟨_, e1, PostS.bind hK hC R h fun w g1 oa1 y H1 st R1 wo h1 => ?_⟩
    split at h1
    · rename_i m e4
      obtain ⟨rfl, _⟩ := wo.int e4
      exact ⟨n, m, rfl, rfl, h1 _ _ _ _ (R1.setK (w := .d (.int (n + m))) (.int _)) st.grow⟩
    · exact h1.elim
  · exact h.elim
/-! ### x.append(e) -/
def fapp (i : Nat) (fe : Env' → G → Res W) : Env' → G → Out := fun ρ g => match ρ[i]? with
    | some (some (.own (.lst xs))) => (fe ρ g).out fun w g1 => match w.fz with
      | some x => if xs.length < lim then .nx (ρ.set i (some (.own (.lst (xs ++ [x]))))) g1 else .no
      | none => .no
    | _ => .no
theorem plain1 (qa : plainE a = true) {env : Env} : starEach (a :: []) env = (false, eval a env) :: starEach [] env := star_plain qa [] env
theorem few1 (qa : plainE a = true) {env : Env} {cpos : Pos} : ((backTo cpos (starEach (a :: []) env)).all (fun x => !x.1) && (backToKw cpos (keywordEach [] env)).all (fun x => x.1.isSome)
      && decide ((a :: []).length + ([] : List Keyword).length + (if ([] : List Keyword).isEmpty then 0 else 1) < 30)) = true := by
  rw [star_plain qa [] env]
  rfl
theorem fs_app {i : Nat} {y m : Str} {p apos cpos : Pos} (hm : (m == ("append" : Str)) = true) (hN : X.N[i]? = some y) (hv : Vis X.env.scope y) (hd : (y == ("__debug__" : Str)) = false) (hcd : (y == ("__classdict__" : Str)) = false) (hline : (apos.endLine == cpos.line) = true)
    (qa : plainE a = true) (ha : PE X a (tE X.K C cls Wx fa)) : PS X (.Expr (.Call (.Attribute (.Name y p) m apos) [a] [] cpos) pos) (tS X.K C cls Wx (fapp i fa)) := by
  obtain rfl : m = "append" := by simpa using hm
  refine PS.imp (ps_expr (pe_bm PySem.F.plainAttrs_list PySem.F.slot_list_append PySem.F.type_list_append mt_append (pe_var hN hv hd hcd) (pa_cons ha pa_nil (plain1 qa)) rfl (few1 qa) hline (plain1 qa) rfl) rfl) ?_
  rintro D σ H ⟨F, oa, al, ρ, g, hK, hC, R, h⟩
  unfold fapp at h
  split at h
  · rename_i xs ex
    obtain ⟨v0, e1, q, rfl, e2, vs, hv1, r⟩ := R.cell i _ ex
    refine ⟨.ref q, e1, .inl ⟨rfl, _, SqL.of hv1⟩, PostS.bind hK hC R h fun w g1 oa1 v H1 st R1 wo h1 => ?_⟩
    split at h1
    · rename_i x e3
      split at h1
      · rename_i hlt
        obtain ⟨v1, e4, q1, e5, e6, vs1, h3, r1⟩ := R1.cell i _ ex
        have : v1 = .ref q := by rw [e1] at e4; cases e4; rfl
        subst this
        cases e5
        have hp := List.mem_of_getElem? e2
        have mu : Mut (H1 q) := by rw [h3]; exact trivial
        have k := own_upd (F := F) (oa := oa1) (o := .lst (vs1 ++ [v])) hp mu
        obtain ⟨R', gw⟩ := R1.setC (c' := .lst (xs ++ [x])) (o := .lst (vs1 ++ [v])) ex e2 mu ⟨_, upd_same, (r1.append (.cons (wo.fz e3) .nil)).mono k.1 k.2⟩
        refine ⟨q, vs1, v, rfl, rfl, h3, by rw [r1.len, sizeLine_eq]; exact hlt, ?_⟩
        exact h1 _ _ _ _ R' (st.grow.trans gw)
      · exact h1.elim
    · exact h1.elim
  · exact h.elim
/-! ### x.extend(e) -/
def fext (i : Nat) (fe : Env' → G → Res W) : Env' → G → Out := fun ρ g => match ρ[i]? with
    | some (some (.own (.lst xs))) => (fe ρ g).out fun w g1 => match w.fz with
      | some x => match seq? x with
        | some ys => if xs.length + ys.length ≤ lim then .nx (ρ.set i (some (.own (.lst (xs ++ ys))))) g1 else .no
        | none => .no
      | none => .no
    | _ => .no
def rExtD (K : PySem.W.Frag) : V → List V → Hp → VK → Prop := fun x vs H Q => ∃ l b xs zs, x = .ref l ∧ vs = [.ref b] ∧ H l = some (.lst xs) ∧ (H b = some (.lst zs) ∨ H b = some (.tup zs)) ∧ xs.length + zs.length ≤ sizeLine ∧ Q .non (upd H l (.lst (xs ++ zs)))
theorem mt_extD : MtR X "list.extend" (rExtD X.K) := by
  intro pins s σ H x vs v us Q I rx rv h
  obtain ⟨l, b, xs, zs, rfl, rfl, hH, hB | hB, hz, q⟩ := h
  · exact mt_extend pins s σ H _ _ v us Q I rx rv ⟨l, b, xs, zs, rfl, rfl, hH, hB, hz, q⟩
  · cases rx
    obtain ⟨u, rfl, ru⟩ := rv.one
    cases ru
    obtain ⟨z, its, n, r, hl, e⟩ := I.lstM hH
    obtain ⟨its2, r2, ht, hz2⟩ := I.tuple (SqT.of hB)
    obtain ⟨ob, h1, h2, n2, h3⟩ := ht
    have hl2 := r2.length
    have hlong : ¬ (!its.toArray.isEmpty && Builtin.List.listTooLong (its.toArray.size + its2.toArray.size)) = true := by
      rw [notLongL (by rw [List.size_toArray, List.size_toArray]; omega), Bool.and_false]
      exact Bool.false_ne_true
    refine call_meets PySem.F.slot_list_extend ⟨_, e, rfl⟩ PySem.F.entry_list_extend (PySem.F.args_list_extend_2 _ _)
      (extend_tup l its.toArray n b its2.toArray n2 ob.dict ob.slots hlong (by rw [List.size_toArray]; omega) (by rw [List.size_toArray, List.size_toArray]; omega)) ⟨e, ?_, ?_⟩
    · rw [h1]
      obtain ⟨c, d, dt, sl⟩ := ob
      simp only at h2 h3
      subst h2 h3
      rfl
    · refine ⟨.non, _, I.lset (its' := its ++ its2) hH e (by simp) (r.append r2) ?_, rfl, q⟩
      rw [List.length_append]
      omega
theorem fs_ext {i : Nat} {y m : Str} {p apos cpos : Pos} (hm : (m == ("extend" : Str)) = true) (hN : X.N[i]? = some y) (hv : Vis X.env.scope y) (hd : (y == ("__debug__" : Str)) = false) (hcd : (y == ("__classdict__" : Str)) = false) (hline : (apos.endLine == cpos.line) = true)
    (qa : plainE a = true) (ha : PE X a (tE X.K C cls Wx fa)) : PS X (.Expr (.Call (.Attribute (.Name y p) m apos) [a] [] cpos) pos) (tS X.K C cls Wx (fext i fa)) := by
  obtain rfl : m = "extend" := by simpa using hm
  refine PS.imp (ps_expr (pe_bm PySem.F.plainAttrs_list PySem.F.slot_list_extend PySem.F.type_list_extend mt_extD (pe_var hN hv hd hcd) (pa_cons ha pa_nil (plain1 qa)) rfl (few1 qa) hline (plain1 qa) rfl) rfl) ?_
  rintro D σ H ⟨F, oa, al, ρ, g, hK, hC, R, h⟩
  unfold fext at h
  split at h
  · rename_i xs ex
    obtain ⟨v0, e1, q, rfl, e2, vs, hv1, r⟩ := R.cell i _ ex
    refine ⟨.ref q, e1, .inl ⟨rfl, _, SqL.of hv1⟩, PostS.bind hK hC R h fun w g1 oa1 v H1 st R1 wo h1 => ?_⟩
    split at h1
    · rename_i x e3
      split at h1
      · rename_i ys ey
        split at h1
        · rename_i hlt
          obtain ⟨v1, e4, q1, e5, e6, vs1, h3, r1⟩ := R1.cell i _ ex
          have : v1 = .ref q := by rw [e1] at e4; cases e4; rfl
          subst this
          cases e5
          have hp := List.mem_of_getElem? e2
          have mu : Mut (H1 q) := by rw [h3]; exact trivial
          have dx := wo.fz e3
          have key : ∃ b zs, v = .ref b ∧ (H1 b = some (.lst zs) ∨ H1 b = some (.tup zs)) ∧ DqAll (Own F oa1 al) H1 zs ys := by
            cases x with
            | list l => cases ey; cases dx with | lst h n r => exact ⟨_, _, rfl, .inl h, r⟩
            | tuple l => cases ey; cases dx with | tup h r => exact ⟨_, _, rfl, .inr h, r⟩
            | none => cases ey
            | bool _ => cases ey
            | int _ => cases ey
            | str _ => cases ey
            | dict _ => cases ey
          obtain ⟨b, zs, rfl, hb, rz⟩ := key
          have k := own_upd (F := F) (oa := oa1) (o := .lst (vs1 ++ zs)) hp mu
          obtain ⟨R', gw⟩ := R1.setC (c' := .lst (xs ++ ys)) (o := .lst (vs1 ++ zs)) ex e2 mu ⟨_, upd_same, (r1.append rz).mono k.1 k.2⟩
          refine ⟨q, b, vs1, zs, rfl, rfl, h3, hb, by rw [r1.len, rz.len, sizeLine_eq]; exact hlt, ?_⟩
          exact h1 _ _ _ _ R' (st.grow.trans gw)
        · exact h1.elim
      · exact h1.elim
    · exact h1.elim
  · exact h.elim
/-! ### x.remove(e) -/
def frem (i : Nat) (fe : Env' → G → Res W) : Env' → G → Out := fun ρ g => match ρ[i]? with
    | some (some (.own (.lst xs))) => (fe ρ g).out fun w g1 => match w.fz with
      | some x => if sameShape x (.list xs) then (match idxOf? x xs with
        | some j => .nx (ρ.set i (some (.own (.lst (xs.eraseIdx j))))) g1
        | none => .no) else .no
      | none => .no
    | _ => .no
theorem idxOf_spec {y : PyData} : ∀ {xs : List PyData} {j : Nat}, idxOf? y xs = some j → ∃ z, xs[j]? = some z ∧ PyData.eqv z y = true ∧ ∀ (m : Nat) (z' : PyData), m < j → xs[m]? = some z' → PyData.eqv z' y = false
  | x :: r, j, h => by
    unfold idxOf? at h
    split at h
    · rename_i e
      obtain rfl := Option.some.inj h
      exact ⟨x, rfl, e, fun m z' hm => absurd hm (Nat.not_lt_zero _)⟩
    · rename_i e
      simp only [Option.map_eq_some_iff] at h
      obtain ⟨k, h1, rfl⟩ := h
      obtain ⟨z, a, b, c⟩ := idxOf_spec h1
      refine ⟨z, by simpa using a, b, fun m z' hm hz => ?_⟩
      cases m with
      | zero => simp at hz; subst hz; simpa using e
      | succ m => exact c m z' (by omega) (by simpa using hz)
def rRemD (K : PySem.W.Frag) : V → List V → Hp → VK → Prop := fun x vs H Q => ∃ (l : Addr) (xs : List V) (y : V) (d : PyData) (ds : List PyData) (j : Nat), x = .ref l ∧ vs = [y] ∧ H l = some (.lst xs) ∧ DpAll K H xs ds ∧ Dp K H y d ∧
  SeqAt.shaped (.list ds) = true ∧ SeqAt.shaped d = true ∧ idxOf? d ds = some j ∧ Q .non (upd H l (.lst (xs.eraseIdx j)))
theorem mt_removeD (hu : X.A.units + 65 < cLine) : MtR X "list.remove" (rRemD X.K) := by
  intro pins s σ H x xs v us Q I rx rxs h
  obtain ⟨a, xv, y, d, ds, j, rfl, rfl, hH, ha, hy, sl, sd, hidx, q⟩ := h
  obtain ⟨z, hz, hzj, hno⟩ := idxOf_spec hidx
  cases rx
  cases rxs with
  | cons ry rt =>
    rename_i uy ut
    cases rt
    obtain ⟨bs, r1⟩ := Dp.reads I d y uy hy ry
    have hxs : PyData.canLayAll0 ds = true := SeqAt.canLay_of_shaped sl
    have hroom : X.A.units + 1 + min (PyData.depthAll ds) d.depth < cLine := PyProof.Rows.room_in_shaped sd hu
    obtain ⟨zl, its, n, rv, hl, ho⟩ := I.lstM hH
    obtain ⟨as, h4⟩ := Dp.readsAll I ds _ its ha rv
    have hn : its.length = ds.length := SeqAt.ReadsAll.length ds its as h4
    have hmap : its.map (SeqAt.readOf s.heap) = ds := SeqAt.readsAll_map ds its as hxs h4
    have hsl := sizeLine_eq
    obtain ⟨hjd, _⟩ := List.getElem?_eq_some_iff.mp hz
    have hjl : j < its.length := by omega
    have hj : j < its.toArray.size := by simpa using hjl
    have at_ : ∀ (m : Nat) (hm : m < its.toArray.size) (z' : PyData), ds[m]? = some z' → SeqAt.readOf s.heap its.toArray[m] = z' := by
      intro m hm z' hz'
      have hml : m < its.length := by simpa using hm
      rw [← hmap, List.getElem?_map, List.getElem?_eq_getElem hml] at hz'
      have e1 : SeqAt.readOf s.heap its[m] = z' := Option.some.inj (show some (SeqAt.readOf s.heap its[m]) = some z' from hz')
      simpa using e1
    refine call_meets PySem.F.slot_list_remove ⟨_, ho, rfl⟩ PySem.F.entry_list_remove (PySem.F.args_list_remove_2 _ _)
      (SeqAt.list_removeAt a its.toArray n none #[] uy (fun u => PyData.eqv (SeqAt.readOf s.heap u) d) j hj ?_ ?_ (by simp only [List.size_toArray]; omega)) ⟨ho, SeqAt.items_eqAt (vs := its.toArray) (show ReadsAll s.heap its.toArray.toList ds as from h4) r1 hxs (SeqAt.canLay_of_shaped sd) hroom, ?_⟩
    · show PyData.eqv (SeqAt.readOf s.heap its.toArray[j]) d = true
      rw [at_ j hj z hz]
      exact hzj
    · intro m hm hmj
      have hmd : m < ds.length := by omega
      have hz' : ds[m]? = some ds[m] := List.getElem?_eq_getElem hmd
      show PyData.eqv (SeqAt.readOf s.heap its.toArray[m]) d = false
      rw [at_ m hm _ hz']
      exact hno m _ hmj hz'
    · refine ⟨.non, _, I.lset (its' := its.eraseIdx j) (ys := xv.eraseIdx j) (f := fun ys => ys.eraseIdxIfInBounds j) (t' := s.toks) hH ho ?_ (rv.eraseIdx j) ?_, rfl, q⟩
      · show its.toArray.eraseIdxIfInBounds j = (its.eraseIdx j).toArray
        rw [List.eraseIdxIfInBounds_toArray]
      · have := len_erase xv j
        omega
theorem fs_rem {i : Nat} {y m : Str} {p apos cpos : Pos} (hu : X.A.units + 65 < cLine) (hm : (m == ("remove" : Str)) = true) (hN : X.N[i]? = some y) (hv : Vis X.env.scope y) (hd : (y == ("__debug__" : Str)) = false) (hcd : (y == ("__classdict__" : Str)) = false) (hline : (apos.endLine == cpos.line) = true)
    (qa : plainE a = true) (ha : PE X a (tE X.K C cls Wx fa)) : PS X (.Expr (.Call (.Attribute (.Name y p) m apos) [a] [] cpos) pos) (tS X.K C cls Wx (frem i fa)) := by
  obtain rfl : m = "remove" := by simpa using hm
  refine PS.imp (ps_expr (pe_bm PySem.F.plainAttrs_list PySem.F.slot_list_remove PySem.F.type_list_remove (mt_removeD hu) (pe_var hN hv hd hcd) (pa_cons ha pa_nil (plain1 qa)) rfl (few1 qa) hline (plain1 qa) rfl) rfl) ?_
  rintro D σ H ⟨F, oa, al, ρ, g, hK, hC, R, h⟩
  unfold frem at h
  split at h
  · rename_i xs ex
    obtain ⟨v0, e1, q, rfl, e2, vs, hv1, r⟩ := R.cell i _ ex
    refine ⟨.ref q, e1, .inl ⟨rfl, _, SqL.of hv1⟩, PostS.bind hK hC R h fun w g1 oa1 v H1 st R1 wo h1 => ?_⟩
    split at h1
    · rename_i x e3
      split at h1
      · rename_i hs
        split at h1
        · rename_i j ej
          obtain ⟨v1, e4, q1, e5, e6, vs1, h3, r1⟩ := R1.cell i _ ex
          have : v1 = .ref q := by rw [e1] at e4; cases e4; rfl
          subst this
          cases e5
          have hp := List.mem_of_getElem? e2
          have mu : Mut (H1 q) := by rw [h3]; exact trivial
          have k := own_upd (F := F) (oa := oa1) (o := .lst (vs1.eraseIdx j)) hp mu
          obtain ⟨R', gw⟩ := R1.setC (c' := .lst (xs.eraseIdx j)) (o := .lst (vs1.eraseIdx j)) ex e2 mu ⟨_, upd_same, (r1.eraseIdx j).mono k.1 k.2⟩
          unfold sameShape at hs
          simp only [Bool.and_eq_true] at hs
          refine ⟨q, vs1, v, x, xs, j, rfl, rfl, h3, r1.dp, (wo.fz e3).dp, hs.2, hs.1, ej, ?_⟩
          exact h1 _ _ _ _ R' (st.grow.trans gw)
        · exact h1.elim
      · exact h1.elim
    · exact h1.elim
  · exact h.elim
/-! ### dicts -/
def fdnew (i : Nat) : Env' → G → Out := fun ρ g => if i < ρ.length then .nx (ρ.set i (some (.own (.dct [])))) g else .no
theorem fs_dnew {i : Nat} {x : Str} {p p2 : Pos} (hN : X.N.Nodup) (hi : X.N[i]? = some x) (hx : Loc X.env.scope x) (hf : X.fn x = true ∨ X.env.scope.names.lookup x = some .local) : PS X (.Assign [.Name x p] (.Dict [] [] p2) pos) (tS X.K C cls Wx (fdnew i)) := by
  refine PS.imp (ps_set hN hi hx pe_dnewK rfl hf) ?_
  rintro D σ H ⟨F, oa, al, ρ, g, hK, hC, R, h⟩
  unfold fdnew at h
  split at h
  · rename_i hl
    intro q hq
    have st : Step F oa oa g H (upd H q (.dK [])) := Step.upd R.gr hq
    obtain ⟨R', gw⟩ := R.setO (c := .dct []) st hl hq (R.nown hq) ⟨[], upd_same, .nil⟩
    exact h _ _ _ _ R' gw
  · exact h.elim
def fdset (i : Nat) (fk fv : Env' → G → Res W) : Env' → G → Out := fun ρ g => match ρ[i]? with
    | some (some (.own (.dct kvs))) => (fv ρ g).out fun w g1 => (fk ρ g1).out fun u g2 => match w, u.int? with
      | .d x, some n => if noL x = true ∧ kvs.length < 1000 then .nx (ρ.set i (some (.own (.dct (putK kvs n x))))) g2 else .no
      | _, _ => .no
    | _ => .no
theorem paired_any {β γ : Type} {R : Key × V → Int × PyData → Prop} (hR : ∀ a b, R a b → a.1 = Sum.inl b.1) {n : Int} : ∀ {es : List (Key × V)} {kvs : List (Int × PyData)}, PySem.Paired R es kvs → (es.any fun kv => decide (kv.1 = Sum.inl n)) = kvs.any fun p => decide (p.1 = n)
  | _, _, .nil => rfl
  | _, _, .cons h r => by
    simp only [List.any_cons]
    rw [paired_any (β := β) (γ := γ) hR r, hR _ _ h]
    congr 1
    simp
theorem paired_map {O : V → PyData → Prop} {n : Int} {v : V} {x : PyData} (hv : O v x) : ∀ {es : List (Key × V)} {kvs : List (Int × PyData)}, PySem.Paired (fun (e : Key × V) (q : Int × PyData) => e.1 = Sum.inl q.1 ∧ O e.2 q.2) es kvs →
    PySem.Paired (fun (e : Key × V) (q : Int × PyData) => e.1 = Sum.inl q.1 ∧ O e.2 q.2) (es.map fun kv => if kv.1 = Sum.inl n then (kv.1, v) else kv) (kvs.map fun p => if p.1 = n then (p.1, x) else p)
  | _, _, .nil => .nil
  | _, _, .cons (a := a) (b := b) h r => by
    refine .cons ?_ (paired_map hv r)
    dsimp only
    by_cases e : b.1 = n
    · rw [if_pos (by rw [h.1, e]), if_pos e]
      exact ⟨h.1, hv⟩
    · rw [if_neg (by rw [h.1]; simpa using e), if_neg e]
      exact h
theorem paired_snoc {α β : Type} {R : α → β → Prop} {a : α} {b : β} (hv : R a b) : ∀ {es : List α} {kvs : List β}, PySem.Paired R es kvs → PySem.Paired R (es ++ [a]) (kvs ++ [b])
  | _, _, .nil => .cons hv .nil
  | _, _, .cons h r => .cons h (paired_snoc hv r)
theorem paired_put {O : V → PyData → Prop} {n : Int} {v : V} {x : PyData} (hv : O v x) : ∀ {es : List (Key × V)} {kvs : List (Int × PyData)}, PySem.Paired (fun (e : Key × V) (q : Int × PyData) => e.1 = Sum.inl q.1 ∧ O e.2 q.2) es kvs →
    PySem.Paired (fun (e : Key × V) (q : Int × PyData) => e.1 = Sum.inl q.1 ∧ O e.2 q.2) (L2.putK es (Sum.inl n) v) (TP.putK kvs n x) := by
  intro es kvs r
  have hany := paired_any (β := Unit) (γ := Unit) (n := n) (fun a b (z : a.1 = Sum.inl b.1 ∧ O a.2 b.2) => z.1) r
  unfold L2.putK TP.putK
  rw [hany]
  split
  · exact paired_map hv r
  · exact paired_snoc ⟨rfl, hv⟩ r
theorem fs_dset {i : Nat} {y : Str} {p p' : Pos} (hu : X.A.units + 65 < cLine) (hN : X.N[i]? = some y) (hv : Vis X.env.scope y) (hd : (y == ("__debug__" : Str)) = false) (hcd : (y == ("__classdict__" : Str)) = false) (qa : plainE a = true) (hl : notLc b = true)
    (ha : PE X a (tE X.K C cls Wx fa)) (hb : PE X b (tE X.K C cls Wx fb)) : PS X (.Assign [.Subscript (.Name y p) a p'] b pos) (tS X.K C cls Wx (fdset i fa fb)) := by
  refine PS.imp (ps_dput (by omega) (pe_var hN hv hd hcd) ha hb (sw_false hl _ _ _)) ?_
  rintro D σ H ⟨F, oa, al, ρ, g, hK, hC, R, h⟩
  unfold fdset at h
  split at h
  · rename_i kvs ex
    refine PostS.bind hK hC R h fun w g1 oa1 v H1 st R1 wo h1 => ?_
    obtain ⟨v1, e1, q, rfl, e2, es, h3, r1⟩ := R1.cell i _ ex
    refine ⟨.ref q, e1, PostS.bind hK hC R1 (h1.later st.grow) fun u g2 oa2 k H2 st2 R2 wo2 h2 => ?_⟩
    split at h2
    · rename_i x n en
      split at h2
      · rename_i hc
        obtain ⟨rfl, _⟩ := wo2.int en
        obtain ⟨v2, e4, q2, e5, e6, es2, h4, r2⟩ := R2.cell i _ ex
        have : v2 = .ref q := by rw [e1] at e4; cases e4; rfl
        subst this
        cases e5
        have mu : Mut (H2 q) := by rw [h4]; exact trivial
        have hp := List.mem_of_getElem? e2
        have k2 := own_upd (F := F) (oa := oa2) (o := .dK (L2.putK es2 (Sum.inl n) v)) hp mu
        have dx : Dq (fun _ => True) H2 v x := Dq.noL st2.ext.tup wo hc.1
        have pr := paired_put (O := fun v x => Dq (fun _ => True) H2 v x) (n := n) dx r2
        obtain ⟨R', gw⟩ := R2.setC (c' := .dct (TP.putK kvs n x)) (o := .dK (L2.putK es2 (Sum.inl n) v)) ex e2 mu ⟨_, upd_same, PairedImp (fun a b z => ⟨z.1, z.2.mono (fun a xs _ n => absurd trivial n) k2.2⟩) pr⟩
        have hlen : es2.length = kvs.length := PySem.Paired.length r2
        refine ⟨q, _, rfl, DPut.k (k := Sum.inl n) h4 (by rw [sizeLine_eq]; omega), ?_⟩
        exact h2 _ _ _ _ R' (st2.grow.trans gw)
      · exact h2.elim
    · exact h2.elim
  · exact h.elim
/-! ### if, return, an expression, raise -/
def fife (fc : Env' → G → Res W) (f f' : Env' → G → Out) : Env' → G → Out := fun ρ g => (fc ρ g).out fun w g1 => match w.bl? with
    | some k => if k then f ρ g1 else f' ρ g1
    | none => .no
theorem fs_if {f f' : Env' → G → Out} {st st' : List Stmt} (hc : PT X a (tT X.K C cls Wx (tB' fa))) (h1 : PSs X st (tS X.K C cls Wx f)) (h2 : PSs X st' (tS X.K C cls Wx f')) : PS X (.If a st st' pos) (tS X.K C cls Wx (fife fa f f')) := by
  refine PS.imp (ps_if hc h1 h2) ?_
  rintro D σ H ⟨F, oa, al, ρ, g, hK, hC, R, h⟩
  unfold fife at h
  refine ⟨F, oa, al, ρ, g, hK, hC, R, ?_⟩
  unfold tB'
  cases e : fa ρ g with
  | no => rw [e] at h; exact h
  | ex c g1 => rw [e] at h; exact fun oa1 H1 st => h oa1 σ H1 (R.toStep.trans st)
  | ok w g1 =>
    rw [e] at h
    simp only [out_ok, bind_ok] at h ⊢
    cases e2 : w.bl? with
    | none => rw [e2] at h; exact h
    | some k =>
      rw [e2] at h
      simp only [of_some] at h ⊢
      intro oa1 H1 st
      have R1 := R.step st
      cases k with
      | true => exact iteT ⟨F, oa1, al, ρ, g1, hK, hC, R1, PostS.later h st.grow⟩
      | false => exact iteF ⟨F, oa1, al, ρ, g1, hK, hC, R1, PostS.later h st.grow⟩
def fret (fe : Env' → G → Res W) : Env' → G → Out := fun ρ g => (fe ρ g).out fun w g1 => match w with
    | .pk c => .rt (.own c) g1
    | w => .rt w g1
theorem fs_ret (ha : PE X a (tE X.K C cls Wx fa)) : PS X (.Return (some a) pos) (tS X.K C cls Wx (fret fa)) := by
  refine PS.imp (ps_ret ha) ?_
  rintro D σ H ⟨F, oa, al, ρ, g, hK, hC, R, h⟩
  refine PostS.bind hK hC R h fun w g1 oa1 v H1 st R1 wo h1 => ?_
  have st' := R.toStep.trans st
  cases w with
  | pk c => exact h1 oa1 v H1 st' (wo.out R1 R.ext.dom (.inr ⟨c, rfl, rfl⟩) (fun c e => by cases e))
  | d x => exact h1 oa1 v H1 st' (wo.out R1 R.ext.dom (.inl rfl) (fun c e => by cases e))
  | own c => exact h1 oa1 v H1 st' (wo.out R1 R.ext.dom (.inl rfl) (fun c e => by cases e))
  | twn => exact h1 oa1 v H1 st' (wo.out R1 R.ext.dom (.inl rfl) (fun c e => by cases e))
  | scr => exact h1 oa1 v H1 st' (wo.out R1 R.ext.dom (.inl rfl) (fun c e => by cases e))
  | obj j => exact h1 oa1 v H1 st' (wo.out R1 R.ext.dom (.inl rfl) (fun c e => by cases e))
def fex (fe : Env' → G → Res W) : Env' → G → Out := fun ρ g => (fe ρ g).out fun _ g1 => .nx ρ g1
theorem fs_ex (hl : notLc a = true) (ha : PE X a (tE X.K C cls Wx fa)) : PS X (.Expr a pos) (tS X.K C cls Wx (fex fa)) := by
  refine PS.imp (ps_expr ha (sw_false hl _ _ _)) ?_
  rintro D σ H ⟨F, oa, al, ρ, g, hK, hC, R, h⟩
  refine PostS.bind hK hC R h fun w g1 oa1 v H1 st R1 wo h1 => ?_
  exact h1 _ _ _ _ R1 st.grow
theorem fs_doc {x : Str} {j} {p pos : Pos} : PS X (.Expr (.Constant (.str x) j p) pos) (tS X.K C cls Wx fun ρ g => .nx ρ g) := by
  refine PS.imp ps_doc ?_
  rintro D σ H ⟨F, oa, al, ρ, g, hK, hC, R, h⟩
  exact h oa al σ H R (Grow.refl _ _)
theorem fs_raise {c : Nat} {e : Expr} (hc : X.calm = true) (tk : Takes X Wx) (hm : PMk X e fun _ H Q => Q (.ref (cls c)) none H) : PS X (.Raise (some e) none pos) (tS X.K C cls Wx fun _ g => .ex c g) := by
  refine PS.imp (ps_raise hc tk hm) ?_
  rintro D σ H ⟨F, oa, al, ρ, g, hK, hC, R, h⟩
  exact h oa σ H R.toStep
end
end TP
/-! What a loop walks. -/
namespace TP
open PySem L2
/-- what has been the case since -/
def Keep (z : Bool) (F : Fm) (oa : OA) (al : List (Option Addr)) (H : Hp) (O : Addr → Prop) (H2 : Hp) : Prop := Grow (Own F oa al) O H H2 ∧ (z = false → ∀ p o, H p = some o → ¬ Mb F.tw oa p → H2 p = some o)
/-- J yields the items of xs -/
def Feeds (z : Bool) (F : Fm) (oa : OA) (al : List (Option Addr)) (H : Hp) (J : It) (xs : List PyData) : Prop := ∀ O H2, Keep z F oa al H O H2 → (∀ i, xs.length ≤ i → J.stop i H2) ∧
  ∀ i x, xs[i]? = some x → J.go i H2 ∧ ∀ v H3, J.yld i H2 v H3 → (H3 = H2 ∨ ∃ p vs, H2 p = none ∧ H3 = upd H2 p (.tup vs)) ∧ Dq O H3 v x
def PostI (z : Bool) (F : Fm) (oa : OA) (al : List (Option Addr)) (cls : Nat → Addr) (σ : St) (H : Hp) (Wx : WX) (R : It → Hp → Prop) : Res (List PyData) → Prop
  | .ok xs g' => ∀ oa' H' J, Step F oa oa' g' H H' → Feeds z F oa' al H' J xs → R J H'
  | .ex c g' => ∀ oa' H', Step F oa oa' g' H H' → Wx (.ref (cls c)) none σ H'
  | .no => False
def tI (z : Bool) (K : PySem.W.Frag) (C : Addr) (cls : Nat → Addr) (Wx : WX) (f : Env' → G → Res (List PyData)) : TI := fun σ H R => ∃ F oa al ρ g, F.K = K ∧ F.C = C ∧ Rel F oa al ρ g σ H ∧ PostI z F oa al cls σ H Wx R (f ρ g)
theorem seq_some {x : PyData} {xs : List PyData} (h : seq? x = some xs) : x = .list xs ∨ x = .tuple xs := by
  cases x <;> first | (cases h; exact .inl rfl) | (cases h; exact .inr rfl) | cases h
/-- a list or tuple that is walked -/
def SeqSt (z : Bool) (F : Fm) (oa : OA) (al : List (Option Addr)) (H : Hp) (v : V) (xs : List PyData) : Prop := ∃ p vs, v = .ref p ∧ DqAll (Own F oa al) H vs xs ∧ ((H p = some (.lst vs) ∧ (z = true → ¬ Own F oa al p) ∧ ¬ Mb F.tw oa p) ∨ H p = some (.tup vs))
section
variable {F : Fm} {oa : OA} {al : List (Option Addr)} {ρ : Env'} {g : G} {σ : St} {H0 H : Hp}
theorem WOk.seq {z : Bool} {v : V} {w : W} {x : PyData} {xs : List PyData} (R : Rel F oa al ρ g σ H) (wo : WOk F oa al H0 H v w) (e : w.see z = some x) (e2 : seq? x = some xs) : SeqSt z F oa al H v xs := by
  have stay : ∀ {v : V} {x : PyData}, Dq (Own F oa al) H v x → seq? x = some xs → SeqSt z F oa al H v xs := by
    intro v x q e2
    rcases seq_some e2 with rfl | rfl
    · cases q with
      | lst h n r => exact ⟨_, _, rfl, r, .inl ⟨h, fun _ => n, fun z => n (.inl z)⟩⟩
    · cases q with
      | tup h r => exact ⟨_, _, rfl, r, .inr h⟩
  cases z with
  | true => exact stay (wo.fz e) e2
  | false =>
    have e' : w.rd = some x := e
    cases w with
    | d y => obtain rfl := Option.some.inj e'; exact stay wo e2
    | own c => exact stay (wo.fz (x := x) (by cases c <;> first | exact e' | cases e')) e2
    | pk c =>
      cases c with
      | lst ys =>
        obtain rfl := Option.some.inj e'
        obtain rfl := Option.some.inj e2
        obtain ⟨p, rfl, hp, vs, h1, r⟩ := wo
        exact ⟨p, vs, rfl, r, .inl ⟨h1, fun z => absurd z Bool.false_ne_true, (R.fresh p hp).2.1⟩⟩
      | dct _ => cases e'
    | twn => cases e'
    | scr => cases e'
    | obj _ => cases e'
theorem SeqSt.keep {z : Bool} {v : V} {xs : List PyData} (h : SeqSt z F oa al H v xs) {O : Addr → Prop} {H2 : Hp} (k : Keep z F oa al H O H2) : ∃ p vs, v = .ref p ∧ DqAll O H2 vs xs ∧ (H p = some (.lst vs) ∧ H2 p = some (.lst vs) ∨ H p = some (.tup vs) ∧ H2 p = some (.tup vs)) := by
  obtain ⟨p, vs, rfl, r, h | h⟩ := h
  · refine ⟨p, vs, rfl, k.1.dqAll r, .inl ⟨h.1, ?_⟩⟩
    cases z with
    | true => exact (k.1.ls _ _ h.1 (h.2.1 rfl)).1
    | false => exact k.2 rfl _ _ h.1 h.2.2
  · exact ⟨p, vs, rfl, k.1.dqAll r, .inr ⟨h, k.1.tu _ _ h⟩⟩
/-- a list -/
theorem feeds_list {z : Bool} {p : Addr} {vs : List V} {xs : List PyData} {K : PySem.W.Frag} (h : SeqSt z F oa al H (.ref p) xs) (hl : H p = some (.lst vs)) : Feeds z F oa al H (Itl K p) xs := by
  intro O H2 k
  obtain ⟨p', vs', e, r, q⟩ := h.keep k
  cases e
  have q2 : H2 p = some (.lst vs') := by
    rcases q with q | q
    · exact q.2
    · rw [hl] at q; cases q.1
  refine ⟨fun i hi => ⟨vs', SqL.of q2, by rw [r.len]; exact hi⟩, fun i x hx => ?_⟩
  obtain ⟨v, hv, dv⟩ := r.get hx
  refine ⟨⟨vs', v, SqL.of q2, hv⟩, ?_⟩
  rintro v' H3 ⟨rfl, y⟩
  have := y vs' (SqL.of q2)
  rw [hv] at this
  cases this
  exact ⟨.inl rfl, dv⟩
theorem feeds_tup {z : Bool} {p : Addr} {vs : List V} {xs : List PyData} {K : PySem.W.Frag} (h : SeqSt z F oa al H (.ref p) xs) (hl : H p = some (.tup vs)) : Feeds z F oa al H (Itt K p) xs := by
  intro O H2 k
  obtain ⟨p', vs', e, r, q⟩ := h.keep k
  cases e
  have q2 : H2 p = some (.tup vs') := by
    rcases q with q | q
    · rw [hl] at q; cases q.1
    · exact q.2
  refine ⟨fun i hi => ⟨vs', SqT.of q2, by rw [r.len]; exact hi⟩, fun i x hx => ?_⟩
  obtain ⟨v, hv, dv⟩ := r.get hx
  refine ⟨⟨vs', v, SqT.of q2, hv⟩, ?_⟩
  rintro v' H3 ⟨rfl, y⟩
  have := y vs' (SqT.of q2)
  rw [hv] at this
  cases this
  exact ⟨.inl rfl, dv⟩
theorem enumL_len : ∀ (xs : List PyData) (n : Nat), (enumL n xs).length = xs.length
  | [], _ => rfl
  | x :: r, n => by simp [enumL, enumL_len r]
theorem enumL_get : ∀ (xs : List PyData) (n i : Nat) (x : PyData), (enumL n xs)[i]? = some x → ∃ y, xs[i]? = some y ∧ x = .tuple [.int ((n + i : Nat) : Int), y]
  | [], _, _, _, h => by simp [enumL] at h
  | y :: r, n, 0, x, h => by
    simp [enumL] at h
    exact ⟨y, rfl, by rw [← h]; rfl⟩
  | y :: r, n, i + 1, x, h => by
    obtain ⟨z, h1, h2⟩ := enumL_get r (n + 1) i x (by simpa [enumL] using h)
    refine ⟨z, by simpa using h1, ?_⟩
    rw [h2, show n + 1 + i = n + (i + 1) from by omega]
theorem updTup {O : Addr → Prop} {H : Hp} {p : Addr} {vs : List V} {xs : List PyData} (hp : H p = none) (r : DqAll O H vs xs) : Dq O (upd H p (.tup vs)) (.ref p) (.tuple xs) :=
  .tup upd_same (r.mono (fun a ys e n => ⟨by rw [upd_ne (ne_of_none e hp)]; exact e, n⟩) fun a ys e => by rw [upd_ne (ne_of_none e hp)]; exact e)
theorem feeds_enum {z : Bool} {p : Addr} {vs : List V} {xs : List PyData} {K : PySem.W.Frag} (h : SeqSt z F oa al H (.ref p) xs) (hl : H p = some (.lst vs)) : Feeds z F oa al H (Ite K p) (enumL 0 xs) := by
  intro O H2 k
  obtain ⟨p', vs', e, r, q⟩ := h.keep k
  cases e
  have q2 : H2 p = some (.lst vs') := by
    rcases q with q | q
    · exact q.2
    · rw [hl] at q; cases q.1
  refine ⟨fun i hi => ⟨vs', SqL.of q2, by rw [r.len, ← enumL_len xs 0]; exact hi⟩, fun i x hx => ?_⟩
  obtain ⟨y, hy, rfl⟩ := enumL_get xs 0 i x hx
  obtain ⟨v, hv, dv⟩ := r.get hy
  refine ⟨⟨vs', v, SqL.of q2, hv⟩, ?_⟩
  rintro v' H3 ⟨T, w, rfl, hT, rfl, y'⟩
  have := y' vs' (SqL.of q2)
  rw [hv] at this
  cases this
  refine ⟨.inr ⟨T, _, hT, rfl⟩, updTup hT (.cons ?_ (.cons dv .nil))⟩
  rw [Nat.zero_add]
  exact .int _
theorem zipL_stop : ∀ (xs ys : List PyData) (i : Nat), (zipL xs ys).length ≤ i → xs.length ≤ i ∨ ys.length ≤ i
  | [], _, i, _ => .inl (Nat.zero_le _)
  | _ :: _, [], i, _ => .inr (Nat.zero_le _)
  | _ :: xs, _ :: ys, 0, h => by simp [zipL] at h
  | _ :: xs, _ :: ys, i + 1, h => by
    have := zipL_stop xs ys i (by simpa [zipL] using h)
    simpa using this
theorem zipL_get : ∀ (xs ys : List PyData) (i : Nat) (x : PyData), (zipL xs ys)[i]? = some x → ∃ a b, xs[i]? = some a ∧ ys[i]? = some b ∧ x = .tuple [a, b]
  | [], _, i, _, h => by simp [zipL] at h
  | _ :: _, [], i, _, h => by simp [zipL] at h
  | a :: xs, b :: ys, 0, x, h => ⟨a, b, rfl, rfl, by simpa [zipL] using h.symm⟩
  | a :: xs, b :: ys, i + 1, x, h => by
    obtain ⟨c, d, h1, h2, h3⟩ := zipL_get xs ys i x (by simpa [zipL] using h)
    exact ⟨c, d, by simpa using h1, by simpa using h2, h3⟩
theorem feeds_zipT {z : Bool} {p q : Addr} {vs ws : List V} {xs ys : List PyData} {K : PySem.W.Frag} (h : SeqSt z F oa al H (.ref p) xs) (hl : H p = some (.tup vs)) (h' : SeqSt z F oa al H (.ref q) ys) (hl' : H q = some (.tup ws)) : Feeds z F oa al H (RZ.ItzT K p q) (zipL xs ys) := by
  intro O H2 k
  obtain ⟨p', vs', e, r, hq⟩ := h.keep k
  cases e
  obtain ⟨q', ws', e, r', hq'⟩ := h'.keep k
  cases e
  have q2 : H2 p = some (.tup vs') := by
    rcases hq with q | q
    · rw [hl] at q; cases q.1
    · exact q.2
  have q3 : H2 q = some (.tup ws') := by
    rcases hq' with q | q
    · rw [hl'] at q; cases q.1
    · exact q.2
  refine ⟨fun i hi => ⟨vs', ws', SqT.of q2, SqT.of q3, by rw [r.len, r'.len]; exact zipL_stop xs ys i hi⟩, fun i x hx => ?_⟩
  obtain ⟨a, b, ha, hb, rfl⟩ := zipL_get xs ys i x hx
  obtain ⟨v, hv, dv⟩ := r.get ha
  obtain ⟨w, hw, dw⟩ := r'.get hb
  refine ⟨⟨vs', ws', v, w, SqT.of q2, SqT.of q3, hv, hw⟩, ?_⟩
  rintro v' H3 ⟨T, a', b', rfl, hT, rfl, y1, y2⟩
  have t1 := y1 vs' (SqT.of q2)
  rw [hv] at t1
  cases t1
  have t2 := y2 ws' (SqT.of q3)
  rw [hw] at t2
  cases t2
  exact ⟨.inr ⟨T, _, hT, rfl⟩, updTup hT (.cons dv (.cons dw .nil))⟩
theorem feeds_zipL {z : Bool} {p q : Addr} {vs ws : List V} {xs ys : List PyData} {K : PySem.W.Frag} (h : SeqSt z F oa al H (.ref p) xs) (hl : H p = some (.lst vs)) (h' : SeqSt z F oa al H (.ref q) ys) (hl' : H q = some (.lst ws)) : Feeds z F oa al H (Itz K p q) (zipL xs ys) := by
  intro O H2 k
  obtain ⟨p', vs', e, r, hq⟩ := h.keep k
  cases e
  obtain ⟨q', ws', e, r', hq'⟩ := h'.keep k
  cases e
  have q2 : H2 p = some (.lst vs') := by
    rcases hq with q | q
    · exact q.2
    · rw [hl] at q; cases q.1
  have q3 : H2 q = some (.lst ws') := by
    rcases hq' with q | q
    · exact q.2
    · rw [hl'] at q; cases q.1
  refine ⟨fun i hi => ⟨vs', ws', SqL.of q2, SqL.of q3, by rw [r.len, r'.len]; exact zipL_stop xs ys i hi⟩, fun i x hx => ?_⟩
  obtain ⟨a, b, ha, hb, rfl⟩ := zipL_get xs ys i x hx
  obtain ⟨v, hv, dv⟩ := r.get ha
  obtain ⟨w, hw, dw⟩ := r'.get hb
  refine ⟨⟨vs', ws', v, w, SqL.of q2, SqL.of q3, hv, hw⟩, ?_⟩
  rintro v' H3 ⟨T, a', b', rfl, hT, rfl, y1, y2⟩
  have t1 := y1 vs' (SqL.of q2)
  rw [hv] at t1
  cases t1
  have t2 := y2 ws' (SqL.of q3)
  rw [hw] at t2
  cases t2
  exact ⟨.inr ⟨T, _, hT, rfl⟩, updTup hT (.cons dv (.cons dw .nil))⟩
theorem feeds_range {z : Bool} {lo hi : Int} : Feeds z F oa al H (Itr lo (hi - lo).toNat) (rngL lo hi) := by
  intro O H2 k
  refine ⟨fun i h => by show (hi - lo).toNat ≤ i; simpa [rngL] using h, fun i x h => ?_⟩
  unfold rngL at h
  rw [List.getElem?_map] at h
  cases e : (List.range (hi - lo).toNat)[i]? with
  | none => rw [e] at h; cases h
  | some j =>
    rw [e] at h
    obtain ⟨h1, h2⟩ := List.getElem?_eq_some_iff.mp e
    have hi' := h1
    rw [List.length_range] at hi'
    simp at h2
    subst h2
    obtain rfl := Option.some.inj h
    refine ⟨hi', ?_⟩
    rintro v' H3 ⟨rfl, rfl⟩
    exact ⟨.inl rfl, .int _⟩
theorem feeds_rangeD {z : Bool} {lo hi : Int} : Feeds z F oa al H (Itc lo (-1) (lo - hi).toNat) ((List.range (lo - hi).toNat).map fun j => .int (lo - (j : Nat))) := by
  intro O H2 k
  refine ⟨fun i h => by show (lo - hi).toNat ≤ i; simpa using h, fun i x h => ?_⟩
  rw [List.getElem?_map] at h
  cases e : (List.range (lo - hi).toNat)[i]? with
  | none => rw [e] at h; cases h
  | some j =>
    rw [e] at h
    obtain ⟨h1, h2⟩ := List.getElem?_eq_some_iff.mp e
    have hi' := h1
    rw [List.length_range] at hi'
    simp at h2
    subst h2
    obtain rfl := Option.some.inj h
    refine ⟨hi', ?_⟩
    rintro v' H3 ⟨rfl, hv⟩
    have e2 : v' = .int (lo - (i : Nat)) := by rw [hv]; congr 1; omega
    rw [e2]
    exact ⟨.inl rfl, .int _⟩
end
section
variable {X : Cx} {C : Addr} {cls : Nat → Addr} {Wx : WX} {fa fb fc : Env' → G → Res W} {a b c e : Expr} {pos : Pos} {z : Bool}
/-- over a list or a tuple -/
def iSeq (K : PySem.W.Frag) (tl : TE) : TI := fun σ H R => tl σ H fun x H1 => ∃ a, x = .ref a ∧ (((∃ xs, SqL K H1 a xs) ∧ R (Itl K a) H1) ∨ ((∃ xs, SqT K H1 a xs) ∧ R (Itt K a) H1))
theorem pi_seq {tg l : Expr} {tl : TE} (hl : PE X l tl) : PI X tg l (iSeq X.K tl) := by
  refine ⟨fun pins s σ H R I h => ?_⟩
  refine thn (hl.run pins s σ H _ I h) fun v s1 ⟨x, H1, I1, r1, q1⟩ => ?_
  obtain ⟨a, e, ⟨⟨xs, hq⟩, q⟩ | ⟨⟨xs, hq⟩, q⟩⟩ := q1
  · subst e
    cases r1
    obtain ⟨its, rv, p, hz⟩ := I1.list hq
    refine wpAny_pyIter_list p.isList ?_
    refine ⟨s1.heap.objs.size, [s1.heap.objs.size], _, _, H1, rfl, I1.kept (t' := s1.toks) fun b o e => Heap.get?_push_of_some _ e, turn_list a _, ⟨_, Heap.get?_push_size _ rfl, rfl, rfl⟩, fun b hb => ?_, q⟩
    have e : b = s1.heap.objs.size := by simpa using hb
    subst e
    exact I1.fpOk (Nat.le_refl _) (I1.hok.fresh (Nat.le_refl _))
  · subst e
    cases r1
    obtain ⟨its, rv, p, hz⟩ := I1.tuple hq
    refine PySem.wpAny_pyIter_tuple (show s1.heap.IsTuple a its.toArray from p) ?_
    refine ⟨s1.heap.objs.size, [s1.heap.objs.size], _, _, H1, rfl, I1.kept (t' := s1.toks) fun b o e => Heap.get?_push_of_some _ e, turn_tuple a _, ⟨_, Heap.get?_push_size _ rfl, rfl, rfl⟩, fun b hb => ?_, q⟩
    have e : b = s1.heap.objs.size := by simpa using hb
    subst e
    exact I1.fpOk (Nat.le_refl _) (I1.hok.fresh (Nat.le_refl _))
def fiseq (z : Bool) (fa : Env' → G → Res W) : Env' → G → Res (List PyData) := fun ρ g => (fa ρ g).bind fun w g1 => .of (do seq? (← w.see z)) g1
theorem PostI.bind {K : PySem.W.Frag} {F : Fm} {oa : OA} {al : List (Option Addr)} {ρ : Env'} {g : G} {σ : St} {H : Hp} {R' : It → Hp → Prop} {f : Env' → G → Res W} {k : W → G → Res (List PyData)} (hK : F.K = K) (hC : F.C = C) (R : Rel F oa al ρ g σ H)
    (h : PostI z F oa al cls σ H Wx R' ((f ρ g).bind k)) {Q' : VK}
    (go : ∀ w g1 oa1 v H1, Step F oa oa1 g1 H H1 → Rel F oa1 al ρ g1 σ H1 → WOk F oa1 al H H1 v w → PostI z F oa al cls σ H Wx R' (k w g1) → Q' v H1) : tE K C cls Wx f σ H Q' := by
  refine ⟨F, oa, al, ρ, g, hK, hC, R, ?_⟩
  cases e : f ρ g with
  | ok w g1 =>
    rw [e] at h
    exact fun oa1 v H1 st wo => go w g1 oa1 v H1 st (R.step st) wo h
  | ex c g1 => rw [e] at h; exact h
  | no => rw [e] at h; exact h
theorem PostI.later {F : Fm} {oa oa1 : OA} {al : List (Option Addr)} {g1 : G} {σ : St} {H H1 : Hp} {R' : It → Hp → Prop} {r : Res (List PyData)} (h : PostI z F oa al cls σ H Wx R' r) (st : Step F oa oa1 g1 H H1) : PostI z F oa1 al cls σ H1 Wx R' r := by
  cases r with
  | ok w g' => exact fun oa' v J st' fd => h oa' v J (st.trans st') fd
  | ex c g' => exact fun oa' H' st' => h oa' H' (st.trans st')
  | no => exact h
theorem PostI.of {F : Fm} {oa : OA} {al : List (Option Addr)} {σ : St} {H : Hp} {R' : It → Hp → Prop} {o : Option (List PyData)} {g : G} (h : PostI z F oa al cls σ H Wx R' (Res.of o g)) : ∃ w, o = some w ∧ PostI z F oa al cls σ H Wx R' (.ok w g) := by
  cases o with
  | none => exact h.elim
  | some w => exact ⟨w, rfl, h⟩
theorem fi_seq {tg : Expr} (ha : PE X a (tE X.K C cls Wx fa)) : PI X tg a (tI z X.K C cls Wx (fiseq z fa)) := by
  refine PI.imp (pi_seq ha) ?_
  rintro σ H R' ⟨F, oa, al, ρ, g, hK, hC, R, h⟩
  refine PostI.bind hK hC R h fun w g1 oa1 v H1 st R1 wo h1 => ?_
  obtain ⟨xs, e, h2⟩ := PostI.of h1
  obtain ⟨x, e1, e2⟩ := bindSome e
  have ss := wo.seq R1 e1 e2
  obtain ⟨p, vs, rfl, r, q | q⟩ := id ss
  · exact ⟨p, rfl, .inl ⟨⟨vs, SqL.of q.1⟩, h2 _ _ _ st (feeds_list ss q.1)⟩⟩
  · exact ⟨p, rfl, .inr ⟨⟨vs, SqT.of q⟩, h2 _ _ _ st (feeds_tup ss q)⟩⟩
def firng1 (fa : Env' → G → Res W) : Env' → G → Res (List PyData) := fun ρ g => (fa ρ g).bind fun w g1 => .of (do rngD 0 (← w.int?)) g1
def firng2 (fa fb : Env' → G → Res W) : Env' → G → Res (List PyData) := fun ρ g => (fa ρ g).bind fun w g1 => (fb ρ g1).bind fun u g2 => .of (do rngD (← w.int?) (← u.int?)) g2
def firng3 (fa fb fc : Env' → G → Res W) : Env' → G → Res (List PyData) := fun ρ g => (fa ρ g).bind fun w g1 => (fb ρ g1).bind fun u g2 => (fc ρ g2).bind fun z g3 => .of (do rngD3 (← w.int?) (← u.int?) (← z.int?)) g3
theorem rngD_one {a b : Int} {xs : List PyData} (h : rngD a b = some xs) : (-(2 ^ 30) ≤ a ∧ a < 2 ^ 30 ∧ -(2 ^ 30) ≤ b ∧ b < 2 ^ 30) ∧ xs = rngL a b := by
  unfold rngD at h
  split at h
  · rename_i hb
    exact ⟨hb, (Option.some.inj h).symm⟩
  · cases h
theorem fi_rng1 {tg : Expr} {p : Pos} (hg : Gl X "range") (hm : X.mg "range" = none) (qa : plainE a = true) (ha : PE X a (tE X.K C cls Wx fa)) : PI X tg (.Call (.Name "range" p) [a] [] pos) (tI z X.K C cls Wx (firng1 fa)) := by
  refine PI.imp (pi_range1 hg hm (pa_cons ha pa_nil (plain1 qa)) (plain1 qa)) ?_
  rintro σ H R' ⟨F, oa, al, ρ, g, hK, hC, R, h⟩
  refine PostI.bind hK hC R h fun w g1 oa1 v H1 st R1 wo h1 => ?_
  obtain ⟨xs, e, h2⟩ := PostI.of h1
  obtain ⟨j, e1, e2⟩ := bindSome e
  obtain ⟨⟨b1, b2, b3, b4⟩, rfl⟩ := rngD_one e2
  obtain ⟨rfl, _⟩ := wo.int e1
  refine ⟨j, rfl, by omega, by omega, h2 _ _ _ st ?_⟩
  have := feeds_range (z := z) (F := F) (oa := oa1) (al := al) (H := H1) (lo := 0) (hi := j)
  rwa [Int.sub_zero] at this
theorem fi_rng2 {tg : Expr} {p : Pos} (hg : Gl X "range") (hm : X.mg "range" = none) (qa : plainE a = true) (qb : plainE b = true) (ha : PE X a (tE X.K C cls Wx fa)) (hb : PE X b (tE X.K C cls Wx fb)) : PI X tg (.Call (.Name "range" p) [a, b] [] pos) (tI z X.K C cls Wx (firng2 fa fb)) := by
  refine PI.imp (pi_range2 hg hm (pa2 qa qb ha hb) (by rw [star_plain qa, star_plain qb]; rfl) (plain1 qb)) ?_
  rintro σ H R' ⟨F, oa, al, ρ, g, hK, hC, R, h⟩
  refine PostI.bind hK hC R h fun w g1 oa1 v H1 st R1 wo h1 => ?_
  refine PostI.bind hK hC R1 (h1.later st) fun u g2 oa2 y H2 st2 R2 wo2 h2 => ?_
  obtain ⟨xs, e, h3⟩ := PostI.of h2
  obtain ⟨i, e1, e⟩ := bindSome e
  obtain ⟨j, e2, e⟩ := bindSome e
  obtain ⟨⟨b1, b2, b3, b4⟩, rfl⟩ := rngD_one e
  obtain ⟨rfl, _⟩ := wo.int e1
  obtain ⟨rfl, _⟩ := wo2.int e2
  exact ⟨i, j, rfl, by omega, h3 _ _ _ st2 feeds_range⟩
theorem fi_rng3 {tg : Expr} {p : Pos} (hg : Gl X "range") (hm : X.mg "range" = none) (qa : plainE a = true) (qb : plainE b = true) (qc : plainE c = true) (ha : PE X a (tE X.K C cls Wx fa)) (hb : PE X b (tE X.K C cls Wx fb)) (hc : PE X c (tE X.K C cls Wx fc)) :
    PI X tg (.Call (.Name "range" p) [a, b, c] [] pos) (tI z X.K C cls Wx (firng3 fa fb fc)) := by
  refine PI.imp (pi_range3 hg hm (pa_cons ha (pa_cons hb (pa_cons hc pa_nil (star_plain qc _ _)) (star_plain qb _ _)) (star_plain qa _ _)) (star_plain qa _ _) (star_any (by simp [qb, qc]))) ?_
  rintro σ H R' ⟨F, oa, al, ρ, g, hK, hC, R, h⟩
  refine PostI.bind hK hC R h fun w g1 oa1 v H1 st R1 wo h1 => ?_
  refine PostI.bind hK hC R1 (h1.later st) fun u g2 oa2 y H2 st2 R2 wo2 h2 => ?_
  refine PostI.bind hK hC R2 (h2.later st2) fun u3 g3 oa3 y3 H3 st3 R3 wo3 h3 => ?_
  obtain ⟨xs, e, h4⟩ := PostI.of h3
  obtain ⟨i, e1, e⟩ := bindSome e
  obtain ⟨j, e2, e⟩ := bindSome e
  obtain ⟨k, e3, e⟩ := bindSome e
  obtain ⟨rfl, _⟩ := wo.int e1
  obtain ⟨rfl, _⟩ := wo2.int e2
  obtain ⟨rfl, _⟩ := wo3.int e3
  unfold rngD3 at e
  split at e
  · rename_i hb
    obtain ⟨hb, rfl⟩ := hb
    obtain rfl := Option.some.inj e
    exact ⟨i, j, -1, _, rfl, RgC.neg (by omega) (by omega) (by omega) (by omega), h4 _ _ _ st3 feeds_rangeD⟩
  · cases e
theorem see_dr {F : Fm} {oa : OA} {al : List (Option Addr)} {H0 H : Hp} {v : V} {w : W} {x : PyData} (wo : WOk F oa al H0 H v w) (e : w.see z = some x) : Dr (Own F oa al) H v x := by
  cases z with
  | true => exact .st (wo.fz e)
  | false => exact wo.rd e
theorem see_list {F : Fm} {oa : OA} {al : List (Option Addr)} {ρ : Env'} {g : G} {σ : St} {H0 H : Hp} {p : Addr} {w : W} {xs : List PyData} {vs : List V} (R : Rel F oa al ρ g σ H) (wo : WOk F oa al H0 H (.ref p) w) (e : w.see z = some (.list xs)) : ¬ H p = some (.tup vs) := by
  obtain ⟨p', vs', e1, h, _⟩ := (see_dr wo e).list
  cases e1
  rw [h]
  intro q
  cases q
theorem see_tup {F : Fm} {oa : OA} {al : List (Option Addr)} {ρ : Env'} {g : G} {σ : St} {H0 H : Hp} {p : Addr} {w : W} {xs : List PyData} {vs : List V} (R : Rel F oa al ρ g σ H) (wo : WOk F oa al H0 H (.ref p) w) (e : w.see z = some (.tuple xs)) : ¬ H p = some (.lst vs) := by
  obtain ⟨p', vs', e1, h, _⟩ := (see_dr wo e).tuple
  cases e1
  rw [h]
  intro q
  cases q
def fizip (z : Bool) (fa fb : Env' → G → Res W) : Env' → G → Res (List PyData) := fun ρ g => (fa ρ g).bind fun w g1 => (fb ρ g1).bind fun u g2 => .of (do zipD (← w.see z) (← u.see z)) g2
theorem fi_zip {elts : List Expr} {kk : Nat} {tpos p : Pos} (hg : Gl X "zip") (hm : X.mg "zip" = none) (qa : plainE a = true) (qb : plainE b = true) (ha : PE X a (tE X.K C cls Wx fa)) (hb : PE X b (tE X.K C cls Wx fb)) :
    PI X (.Tuple elts kk tpos) (.Call (.Name "zip" p) [a, b] [] pos) (tI z X.K C cls Wx (fizip z fa fb)) := by
  refine PI.imp (RZ.pi_zipA hg hm (pa2 qa qb ha hb) (star_plain qa _ _) (star_any (by simp [qb]))) ?_
  rintro σ H R' ⟨F, oa, al, ρ, g, hK, hC, R, h⟩
  refine PostI.bind hK hC R h fun w g1 oa1 v H1 st R1 wo h1 => ?_
  refine PostI.bind hK hC R1 (h1.later st) fun u g2 oa2 y H2 st2 R2 wo2 h2 => ?_
  obtain ⟨zs, e, h3⟩ := PostI.of h2
  obtain ⟨dx, e1, e⟩ := bindSome e
  obtain ⟨dy, e2, e⟩ := bindSome e
  have wo' := wo.step R1 st2
  unfold zipD at e
  split at e
  · obtain rfl := Option.some.inj e
    have s1 := wo'.seq R2 e1 rfl
    have s2 := wo2.seq R2 e2 rfl
    obtain ⟨p, vs, rfl, r, q | q⟩ := id s1
    · obtain ⟨p2, ws, rfl, r2, q2 | q2⟩ := id s2
      · exact ⟨p, p2, vs, ws, rfl, .inl ⟨SqL.of q.1, SqL.of q2.1, h3 _ _ _ st2 (feeds_zipL s1 q.1 s2 q2.1)⟩⟩
      · exact absurd q2 (see_list R2 wo2 e2)
    · exact absurd q (see_list R2 wo' e1)
  · obtain rfl := Option.some.inj e
    have s1 := wo'.seq R2 e1 rfl
    have s2 := wo2.seq R2 e2 rfl
    obtain ⟨p, vs, rfl, r, q | q⟩ := id s1
    · exact absurd q.1 (see_tup R2 wo' e1)
    · obtain ⟨p2, ws, rfl, r2, q2 | q2⟩ := id s2
      · exact absurd q2.1 (see_tup R2 wo2 e2)
      · exact ⟨p, p2, vs, ws, rfl, .inr ⟨SqT.of q, SqT.of q2, h3 _ _ _ st2 (feeds_zipT s1 q s2 q2)⟩⟩
  · cases e
def fienm (z : Bool) (fa : Env' → G → Res W) : Env' → G → Res (List PyData) := fun ρ g => (fa ρ g).bind fun w g1 => .of (do enmD (← w.see z)) g1
theorem fi_enm {elts : List Expr} {kk : Nat} {tpos p : Pos} (hg : Gl X "enumerate") (hm : X.mg "enumerate" = none) (qa : plainE a = true) (ha : PE X a (tE X.K C cls Wx fa)) :
    PI X (.Tuple elts kk tpos) (.Call (.Name "enumerate" p) [a] [] pos) (tI z X.K C cls Wx (fienm z fa)) := by
  refine PI.imp (pi_enum hg hm (pa_cons ha pa_nil (plain1 qa)) (plain1 qa)) ?_
  rintro σ H R' ⟨F, oa, al, ρ, g, hK, hC, R, h⟩
  refine PostI.bind hK hC R h fun w g1 oa1 v H1 st R1 wo h1 => ?_
  obtain ⟨zs, e, h3⟩ := PostI.of h1
  obtain ⟨dx, e1, e⟩ := bindSome e
  unfold enmD at e
  split at e
  · obtain rfl := Option.some.inj e
    have s1 := wo.seq R1 e1 rfl
    obtain ⟨p, vs, rfl, r, q | q⟩ := id s1
    · exact ⟨p, vs, rfl, SqL.of q.1, h3 _ _ _ st (feeds_enum s1 q.1)⟩
    · exact absurd q (see_list R1 wo e1)
  · cases e
end
end TP
/-! Loops. -/
namespace TP
open PySem L2
section
variable {F : Fm} {oa : OA} {al : List (Option Addr)} {ρ : Env'} {g : G} {σ : St} {H : Hp}
/-- a variable's own list becomes data -/
theorem Rel.frz1 (R : Rel F oa al ρ g σ H) {j : Nat} {xs : List PyData} (e : ρ[j]? = some (some (.own (.lst xs)))) : ∃ al', Rel F oa al' (ρ.set j (some (.d (.list xs)))) g σ H ∧ Grow (Own F oa al) (Own F oa al') H H := by
  obtain ⟨v, e1, p, rfl, e2, vs, h1, r⟩ := R.cell j _ e
  have np : ¬ Own F oa (al.set j none) p := by
    obtain ⟨f1, f2, f3, f4⟩ := R.fresh p (List.mem_of_getElem? e2)
    rintro (z | z | z)
    · exact f2 z
    · exact f3 z
    · obtain ⟨k, hk⟩ := List.mem_iff_getElem?.mp z
      by_cases hkj : j = k
      · subst hkj
        by_cases hl : j < al.length
        · rw [List.getElem?_set_self hl] at hk; cases hk
        · rw [List.getElem?_eq_none (by simpa using hl)] at hk; cases hk
      · rw [List.getElem?_set_ne hkj] at hk
        exact hkj (R.inj j k p e2 hk)
  have dq : Dq (Own F oa (al.set j none)) H (.ref p) (.list xs) := .lst h1 np ((grow_set j).dqAll r)
  have R1 := R.setF (i := j) (o := some (.d (.list xs))) (v := .ref p) (fun w e => by obtain rfl := Option.some.inj e; exact dq) (fun w e c z => by obtain rfl := Option.some.inj e; cases z)
  rw [set_self e1] at R1
  exact ⟨_, R1, grow_set j⟩
theorem Rel.frz : ∀ (is : List Nat) {al : List (Option Addr)} {ρ : Env'}, Rel F oa al ρ g σ H → ∃ al', Rel F oa al' (TP.frz is ρ) g σ H ∧ Grow (Own F oa al) (Own F oa al') H H
  | [], al, ρ, R => ⟨al, R, Grow.refl _ _⟩
  | i :: r, al, ρ, R => by
    unfold TP.frz
    split
    · rename_i xs e
      obtain ⟨al1, R1, g1⟩ := R.frz1 e
      obtain ⟨al2, R2, g2⟩ := Rel.frz r R1
      exact ⟨al2, R2, g1.trans g2⟩
    · exact Rel.frz r R
end
section
variable {X : Cx} {C : Addr} {cls : Nat → Addr} {Wx : WX} {fa fb fc : Env' → G → Res W} {a b c e : Expr} {pos : Pos}
def ffor (fz : List Nat) (t : Tg) (fi : Env' → G → Res (List PyData)) (fb : Env' → G → Out) : Env' → G → Out := fun ρ g => (fi (frz fz ρ) g).out fun xs g1 => forL fb t xs (frz fz ρ) g1
theorem Keep.grow {F : Fm} {oa : OA} {al : List (Option Addr)} {H H2 : Hp} {O : Addr → Prop} (gw : Grow (Own F oa al) O H H2) : Keep true F oa al H O H2 := ⟨gw, fun z => absurd z (by decide)⟩
theorem step_yld {F : Fm} {oa : OA} {al : List (Option Addr)} {ρ : Env'} {g : G} {σ : St} {H2 H3 : Hp} (R : Rel F oa al ρ g σ H2) (h : H3 = H2 ∨ ∃ p vs, H2 p = none ∧ H3 = upd H2 p (.tup vs)) : Step F oa oa g H2 H3 := by
  rcases h with rfl | ⟨p, vs, hp, rfl⟩
  · exact Step.refl R.gr
  · exact Step.upd R.gr hp
theorem fs_for {fz : List Nat} {t : Tg} {tg iter : Expr} {fi : Env' → G → Res (List PyData)} {body : List Stmt} {fb : Env' → G → Out} (hp : PassesOwn (model X.prog X.w) X.A X.env X.xe) (hc : X.calm = true) (hi : PI X tg iter (tI true X.K C cls Wx fi)) (hg : TgIs X t tg) (hb : PSs X body (tS X.K C cls Wx fb))
    (hs : ∀ x, foldedSetIterable iter X.env x = pure x) : PS X (.For tg iter body [] pos) (tS X.K C cls Wx (ffor fz t fi fb)) := by
  refine PS.imp (ps_for hp hc hi hg hb hs) ?_
  rintro D σ H ⟨F, oa, al, ρ, g, hK, hC, R, h⟩
  obtain ⟨al0, R0, g0⟩ := Rel.frz fz R
  unfold ffor at h
  generalize frz fz ρ = ρ0 at h R0
  refine ⟨F, oa, al0, ρ0, g, hK, hC, R0, ?_⟩
  have h := h.later g0
  cases e : fi ρ0 g with
  | no => rw [e] at h; exact h
  | ex c g1 => rw [e] at h; exact fun oa1 H1 st => h oa1 σ H1 (R0.toStep.trans st)
  | ok xs g1 =>
    rw [e] at h
    intro oa1 H1 J st fd
    refine ⟨fun i m σ H => m = xs.length - i ∧ i ≤ xs.length ∧ ∃ oa2 al2 ρ2 g2, Rel F oa2 al2 ρ2 g2 σ H ∧ Grow (Own F oa1 al0) (Own F oa2 al2) H1 H ∧ PostS F cls (Own F oa2 al2) H Wx D (forL fb t (xs.drop i) ρ2 g2), ⟨xs.length, by simp, Nat.zero_le _, oa1, al0, ρ0, g1, R0.step st, Grow.refl _ _, ?_⟩, ?_⟩
    · exact PostS.later h st.grow
    · rintro i m σ2 H2 ⟨rfl, hi, oa2, al2, ρ2, g2, R2, gw, h2⟩
      obtain ⟨f1, f2⟩ := fd _ _ (Keep.grow gw)
      by_cases hlt : i < xs.length
      · refine .inr ⟨(f2 i xs[i] (List.getElem?_eq_getElem hlt)).1, fun σ' H' => i + 1 ≤ xs.length ∧ ∃ oa2 al2 ρ2 g2, Rel F oa2 al2 ρ2 g2 σ' H' ∧ Grow (Own F oa1 al0) (Own F oa2 al2) H1 H' ∧ PostS F cls (Own F oa2 al2) H' Wx D (forL fb t (xs.drop (i + 1)) ρ2 g2),
          fun σ' H' w => ⟨xs.length - (i + 1), by omega, rfl, w.1, w.2⟩, fun x H3 y => ?_⟩
        obtain ⟨y1, y2⟩ := (f2 i xs[i] (List.getElem?_eq_getElem hlt)).2 x H3 y
        have st3 := step_yld R2 y1
        have R3 := R2.step st3
        rw [List.drop_eq_getElem_cons hlt] at h2
        unfold forL at h2
        split at h2
        · exact h2.elim
        · rename_i ρ3 eb
          refine gTg_of (K := X.K) R3 y2 eb fun σ4 _ R4 => ⟨F, oa2, al2, ρ3, g2, hK, hC, R4, ?_⟩
          have h3 := h2.later st3.grow
          cases e4 : fb ρ3 g2 with
          | no => rw [e4] at h3; exact h3
          | rt w g5 => rw [e4] at h3; exact h3
          | ex c g5 => rw [e4] at h3; exact h3
          | nx ρ5 g5 =>
            rw [e4] at h3
            simp only [then_nx] at h3
            intro oa5 al5 σ5 H5 R5 gw5
            refine ⟨hlt, oa5, al5, mask ρ2 ρ5, g5, R5.weak (mask_len _ _) (mask_get _ _), gw.trans (st3.grow.trans gw5), h3.later gw5⟩
      · have e : i = xs.length := by omega
        subst e
        rw [List.drop_length] at h2
        exact .inl ⟨f1 _ (Nat.le_refl _), h2 _ _ _ _ R2 (Grow.refl _ _)⟩
def fwh (fc : Env' → G → Res W) (fb : Env' → G → Out) : Env' → G → Out := fun ρ g => whileL (tB' fc) fb fuel ρ g
theorem fs_while {body : List Stmt} {fb : Env' → G → Out} (hp : PassesOwn (model X.prog X.w) X.A X.env X.xe) (hc : PT X c (tT X.K C cls Wx (tB' fc))) (hb : PSs X body (tS X.K C cls Wx fb)) : PS X (.While c body [] pos) (tS X.K C cls Wx (fwh fc fb)) := by
  refine PS.imp (ps_while hp hc hb) ?_
  rintro D σ H ⟨F, oa, al, ρ, g, hK, hC, R, h⟩
  refine ⟨fun m σ H => ∃ oa al ρ g, Rel F oa al ρ g σ H ∧ PostS F cls (Own F oa al) H Wx D (whileL (tB' fc) fb m ρ g), ⟨fuel, oa, al, ρ, g, R, h⟩, ?_⟩
  rintro m σ1 H1 ⟨oa1, al1, ρ1, g1, R1, h1⟩
  refine ⟨F, oa1, al1, ρ1, g1, hK, hC, R1, ?_⟩
  cases m with
  | zero => exact h1.elim
  | succ m =>
    unfold whileL at h1
    cases e : tB' fc ρ1 g1 with
    | no => rw [e] at h1; exact h1
    | ex c g2 => rw [e] at h1; exact fun oa2 H2 st => h1 oa2 σ1 H2 (R1.toStep.trans st)
    | ok k g2 =>
      rw [e] at h1
      intro oa2 H2 st
      have R2 := R1.step st
      have h2 := PostS.later h1 st.grow
      cases k with
      | false => exact iteF (h2 _ _ _ _ R2 (Grow.refl _ _))
      | true =>
        refine iteT ⟨fun σ' H' => ∃ oa al ρ g, Rel F oa al ρ g σ' H' ∧ PostS F cls (Own F oa al) H' Wx D (whileL (tB' fc) fb m ρ g), fun σ' H' w => ⟨m, Nat.lt_succ_self _, w⟩, F, oa2, al1, ρ1, g2, hK, hC, R2, ?_⟩
        simp only [out_ok, if_true] at h2
        cases e4 : fb ρ1 g2 with
        | no => rw [e4] at h2; exact h2
        | rt w g5 => rw [e4] at h2; exact h2
        | ex c g5 => rw [e4] at h2; exact h2
        | nx ρ5 g5 =>
          rw [e4] at h2
          simp only [then_nx] at h2
          intro oa5 al5 σ5 H5 R5 gw5
          exact ⟨oa5, al5, mask ρ1 ρ5, g5, R5.weak (mask_len _ _) (mask_get _ _), h2.later gw5⟩
end
end TP
/-! Comprehensions. -/
namespace TP
open PySem L2
def wipeE (ρ : Env') : List Nat → Env'
  | [] => ρ
  | v :: vs => (wipeE ρ vs).set v none
theorem wipe_get {σ : St} : ∀ {vs : List Nat} {k : Nat}, (wipe σ vs)[k]? = if k ∈ vs then (if k < σ.length then some none else none) else σ[k]?
  | [], k => by simp [wipe]
  | v :: vs, k => by
    unfold wipe
    by_cases hk : v = k
    · subst hk
      rw [if_pos (by simp)]
      by_cases hl : v < σ.length
      · rw [List.getElem?_set_self (by rw [wipe_length]; exact hl), if_pos hl]
      · rw [if_neg hl, List.getElem?_eq_none (by simp [wipe_length]; omega)]
    · rw [List.getElem?_set_ne hk, wipe_get]
      by_cases hm : k ∈ vs
      · rw [if_pos hm, if_pos (List.mem_cons_of_mem _ hm)]
      · rw [if_neg hm, if_neg (by simp [hm, Ne.symm hk])]
theorem wipe_same {σ σ2 : St} {vs : List Nat} (h : SameBut' vs (wipe σ vs) σ2) : wipe σ2 vs = wipe σ vs := by
  obtain ⟨hl, h⟩ := h
  rw [wipe_length] at hl
  apply List.ext_getElem?
  intro k
  rw [wipe_get, wipe_get, hl]
  by_cases hm : k ∈ vs
  · rw [if_pos hm, if_pos hm]
  · rw [if_neg hm, if_neg hm, h k hm, wipe_get, if_neg hm]
section
variable {F : Fm} {oa : OA} {al : List (Option Addr)} {ρ : Env'} {g : G} {σ : St} {H : Hp}
theorem Rel.wipe (R : Rel F oa al ρ g σ H) : ∀ vs : List Nat, Rel F oa al (wipeE ρ vs) g (wipe σ vs) H
  | [] => R
  | v :: vs => by
    have R1 := R.wipe vs
    unfold wipeE L2.wipe
    refine ⟨by simp [R1.ls], by simpa using R1.la, fun j w e => ?_, R1.inj, R1.fresh, R1.ext, R1.gr, R1.new, R1.le, R1.cbE⟩
    by_cases hj : v = j
    · subst hj
      by_cases hl : v < (wipeE ρ vs).length
      · rw [List.getElem?_set_self hl] at e; cases e
      · rw [List.getElem?_eq_none (by simpa using hl)] at e; cases e
    · rw [List.getElem?_set_ne hj] at e
      rw [List.getElem?_set_ne hj]
      exact R1.cell j w e
theorem set2 {i j : Nat} {a b : Option W} : (((ρ.set j none).set i none).set i a).set j b = (ρ.set i a).set j b := by
  apply List.ext_getElem?
  intro m
  simp only [List.getElem?_set, List.length_set]
  by_cases h1 : i = m <;> by_cases h2 : j = m <;> simp [h1, h2]
theorem set3 {i j k : Nat} {a b c : Option W} : (((((ρ.set k none).set j none).set i none).set i a).set j b).set k c = ((ρ.set i a).set j b).set k c := by
  apply List.ext_getElem?
  intro m
  simp only [List.getElem?_set, List.length_set]
  by_cases h1 : i = m <;> by_cases h2 : j = m <;> by_cases h3 : k = m <;> simp [h1, h2, h3]
theorem bindT_wipe (t : Tg) (x : PyData) (ρ : Env') : bindT t x (wipeE ρ t.slots) = bindT t x ρ := by
  cases t with
  | one i => simp [bindT, Tg.slots, wipeE, List.set_set]
  | two i j =>
    unfold bindT
    dsimp only
    split
    · simp only [Tg.slots, wipeE]
      rw [set2]
    · rfl
  | three i j k =>
    unfold bindT
    dsimp only
    split
    · simp only [Tg.slots, wipeE]
      rw [set3]
    · rfl
/-- a new list is filled -/
theorem Step.fill {oa1 : OA} {g1 : G} {H1 : Hp} {D : Addr} {o : HO} (st : Step F oa oa1 g1 H H1) (h0 : H D = none) (hm : ¬ Mb F.tw oa1 D) (hs : D ≠ F.sa ∨ Mut (H1 D)) (mu : Mut (H1 D)) : Step F oa oa1 g1 H (L2.upd H1 D o) := by
  have tne : ∀ b u, Mb F.tw oa1 b → H1 b = some u → L2.upd H1 D o b = some u := fun b u hb e => by rw [upd_ne (fun z => hm (by rw [← z]; exact hb))]; exact e
  have tup : ∀ b xs, H1 b = some (.tup xs) → L2.upd H1 D o b = some (.tup xs) := fun b xs e => by rw [upd_ne (fun z => by subst z; rw [e] at mu; exact mu)]; exact e
  refine ⟨⟨fun b u e n => ?_, fun b e => st.ext.dom b ?_⟩, ⟨tne _ _ (.inl rfl) st.gr.tw, ?_, fun j og e => ?_, st.gr.len, st.gr.nd, st.gr.nt⟩, st.new, st.le⟩
  · rw [upd_ne (fun z => by subst z; rw [h0] at e; cases e)]
    exact st.ext.keep b u e n
  · by_cases hb : b = D
    · subst hb; rw [upd_same] at e; cases e
    · rw [upd_ne hb] at e; exact e
  · rcases st.gr.sc with ⟨u, hu⟩ | hu
    · exact .inl ⟨u, by rw [upd_ne (fun z => by subst z; rw [hu] at mu; exact mu)]; exact hu⟩
    · exact .inr hu
  · obtain ⟨t, h1, h2, h3, vs, h4, h5⟩ := st.gr.os j og e
    have ht : t ∈ oa1 := List.mem_of_getElem? h1
    exact ⟨t, h1, tne _ _ (.inr ⟨t, ht, .inl rfl⟩) h2, tne _ _ (.inr ⟨t, ht, .inr (.inl rfl)⟩) h3, vs, tne _ _ (.inr ⟨t, ht, .inr (.inr rfl)⟩) h4, h5.mono (fun a xs _ n => absurd trivial n) tup⟩
theorem app_own {D b : Addr} (h : Own F oa al b ∨ b = D) : Own F oa (al ++ [some D]) b := by
  rcases h with (h | h | h) | h
  · exact .inl h
  · exact .inr (.inl h)
  · exact .inr (.inr (List.mem_append_left _ h))
  · exact .inr (.inr (by rw [h]; simp))
end
section
variable {X : Cx} {C : Addr} {cls : Nat → Addr} {Wx : WX} {fi : Env' → G → Res (List PyData)} {fcd : Env' → G → Res Bool} {fe : Env' → G → Res W} {t : Tg}
abbrev Wx0 : WX := fun _ _ _ _ => False
def fturn (t : Tg) (fcd : Env' → G → Res Bool) (fe : Env' → G → Res W) (ρ : Env') : PyData → G → Res (Option PyData) := fun x g => ((Res.of (bindT t x ρ) g).bind fun ρ' g => (fcd ρ' g).bind fun k g => if k then (fe ρ' g).bind fun w g => .of (w.fz.map some) g else .ok none g).nox
def fcomp (t : Tg) (fi : Env' → G → Res (List PyData)) (fcd : Env' → G → Res Bool) (fe : Env' → G → Res W) : Env' → G → Res W := fun ρ g => (fi ρ g).bind fun xs g1 => if xs.length ≤ lim then (each (fturn t fcd fe ρ) xs g1).bind fun ys g2 => .ok (.own (.lst ys)) g2 else .no
theorem comp_of {σ : St} {H : Hp} {Q : VK} (h : tE X.K C cls Wx (fcomp t fi fcd fe) σ H Q) : tLc (tI false X.K C cls Wx fi) (gTg X.K t) (tT X.K C cls Wx0 fcd) (tE X.K C cls Wx0 fe) t.slots σ H Q := by
  obtain ⟨F, oa, al, ρ, g, hK, hC, R, h⟩ := h
  refine ⟨F, oa, al, ρ, g, hK, hC, R, ?_⟩
  unfold fcomp at h
  cases e : fi ρ g with
  | no => rw [e] at h; exact h
  | ex c g1 => rw [e] at h; exact h
  | ok xs g1 =>
    rw [e] at h
    simp only [bind_ok] at h
    intro oa1 H1 J st1 fd
    have R1 := R.step st1
    split at h
    · rename_i hlim
      intro D hD
      have nD1 : ¬ Own F oa1 al D := R1.nown hD
      let PC : Res (List PyData) → List PyData → Prop := fun r ys => Post F oa al cls σ H Wx Q (r.bind fun zs g2 => .ok (.own (.lst (ys ++ zs))) g2)
      refine ⟨fun i m H2 => m = xs.length - i ∧ i ≤ xs.length ∧ ∃ oa2 g2 acc ys, Step F oa1 oa2 g2 H1 H2 ∧ H2 D = some (.lst acc) ∧ ¬ Own F oa2 al D ∧ DqAll (Own F oa2 (al ++ [some D])) H2 acc ys ∧ acc.length ≤ i ∧ PC (each (fturn t fcd fe ρ) (xs.drop i) g2) ys,
        ⟨xs.length, by simp, Nat.zero_le _, oa1, g1, [], [], Step.upd R1.gr hD, upd_same, nD1, .nil, Nat.zero_le _, ?_⟩, ?_⟩
      · simp only [PC, List.drop_zero, List.nil_append]
        exact h
      · rintro i m H2 ⟨rfl, hi, oa2, g2, acc, ys, st2, hD2, nD2, r2, hacc, pc⟩
        have mu : Mut (H2 D) := by rw [hD2]; exact trivial
        obtain ⟨Rr, gr⟩ := R1.reg st2 hD nD2 ⟨_, hD2⟩
        have kp : Keep false F oa1 al H1 (Own F oa2 (al ++ [some D])) H2 := ⟨gr, fun _ p o e n => st2.ext.keep p o e (.inl n)⟩
        obtain ⟨f1, f2⟩ := fd _ _ kp
        by_cases hlt : i < xs.length
        · have hx := List.getElem?_eq_getElem hlt
          refine .inr ⟨(f2 i xs[i] hx).1, fun H' => i + 1 ≤ xs.length ∧ ∃ oa2 g2 acc ys, Step F oa1 oa2 g2 H1 H' ∧ H' D = some (.lst acc) ∧ ¬ Own F oa2 al D ∧ DqAll (Own F oa2 (al ++ [some D])) H' acc ys ∧ acc.length ≤ i + 1 ∧ PC (each (fturn t fcd fe ρ) (xs.drop (i + 1)) g2) ys,
            fun H' w => ⟨xs.length - (i + 1), by omega, rfl, w.1, w.2⟩, fun x H3 y => ?_⟩
          obtain ⟨y1, y2⟩ := (f2 i xs[i] hx).2 x H3 y
          have st3 : Step F oa2 oa2 g2 H2 H3 := step_yld Rr y1
          have R3 := (Rr.step st3).wipe t.slots
          rw [List.drop_eq_getElem_cons hlt] at pc
          unfold each at pc
          cases eb : bindT t xs[i] ρ with
          | none =>
            have e0 : fturn t fcd fe ρ xs[i] g2 = .no := by unfold fturn; rw [eb]; rfl
            rw [e0] at pc
            exact pc.elim
          | some ρ3 =>
            have e1 : bindT t xs[i] (wipeE ρ t.slots) = some ρ3 := by rw [bindT_wipe]; exact eb
            refine gTg_of (K := X.K) R3 y2 e1 fun σ4 sb R4 => ⟨wipe_same sb, F, oa2, al ++ [some D], ρ3, g2, hK, hC, R4, ?_⟩
            have e2 : fturn t fcd fe ρ xs[i] g2 = ((fcd ρ3 g2).bind fun k g => if k then (fe ρ3 g).bind fun w g => .of (w.fz.map some) g else .ok none g).nox := by unfold fturn; rw [eb]; rfl
            rw [e2] at pc
            have go : ∀ {oa5 : OA} {g5 : G} {H5 : Hp}, Step F oa2 oa5 g5 H3 H5 → Step F oa1 oa5 g5 H1 H5 ∧ H5 D = some (.lst acc) ∧ ¬ Own F oa5 al D ∧ DqAll (Own F oa5 (al ++ [some D])) H5 acc ys := by
              intro oa5 g5 H5 st5
              have s25 := st3.trans st5
              refine ⟨st2.trans s25, s25.ext.keep D _ hD2 (.inl fun z => nD2 (.inl z)), fun z => nD2 (Own.of_step s25 hD2 z), DqAll.step s25 r2⟩
            cases e3 : fcd ρ3 g2 with
            | no => rw [e3] at pc; exact pc.elim
            | ex c g5 => rw [e3] at pc; exact pc.elim
            | ok k g5 =>
              rw [e3] at pc
              intro oa5 H5 st5
              have R5 := R4.step st5
              obtain ⟨s15, hD5, nD5, r5⟩ := go st5
              cases k with
              | false =>
                simp only [bind_ok, nox_ok, Bool.false_eq_true, if_false] at pc
                refine iteF ⟨hlt, oa5, g5, acc, ys, s15, hD5, nD5, r5, by omega, ?_⟩
                show Post F oa al cls σ H Wx Q ((each (fturn t fcd fe ρ) (xs.drop (i + 1)) g5).bind _)
                have pc : Post F oa al cls σ H Wx Q (((each (fturn t fcd fe ρ) (xs.drop (i + 1)) g5).bind fun zs g2 => .ok zs g2).bind fun zs g2 => .ok (.own (.lst (ys ++ zs))) g2) := pc
                cases e8 : each (fturn t fcd fe ρ) (xs.drop (i + 1)) g5 with
                | no => rw [e8] at pc; exact pc.elim
                | ex c g8 => rw [e8] at pc; exact pc
                | ok zs g8 => rw [e8] at pc; exact pc
              | true =>
                simp only [bind_ok, if_true] at pc
                refine iteT ⟨F, oa5, al ++ [some D], ρ3, g5, hK, hC, R5, ?_⟩
                cases e6 : fe ρ3 g5 with
                | no => rw [e6] at pc; exact pc.elim
                | ex c g6 => rw [e6] at pc; exact pc.elim
                | ok w g6 =>
                  rw [e6] at pc
                  simp only [bind_ok] at pc
                  intro oa6 v H6 st6 wo
                  obtain ⟨s16, hD6, nD6, r6⟩ := go (st5.trans st6)
                  cases e7 : w.fz with
                  | none => rw [e7] at pc; exact pc.elim
                  | some d =>
                    rw [e7] at pc
                    simp only [Option.map_some, of_some, nox_ok, bind_ok] at pc
                    have mu6 : Mut (H6 D) := by rw [hD6]; exact trivial
                    have k6 := own_upd (F := F) (oa := oa6) (al := al ++ [some D]) (H := H6) (p := D) (o := .lst (acc ++ [v])) (by simp) mu6
                    refine ⟨acc, hD6, by rw [sizeLine_eq]; unfold lim at hlim; omega, hlt, oa6, g6, acc ++ [v], ys ++ [d], s16.fill hD (fun z => nD6 (.inl z)) (.inr mu6) mu6, upd_same, nD6, (r6.append (.cons (wo.fz e7) .nil)).mono k6.1 k6.2, by simp; omega, ?_⟩
                    show Post F oa al cls σ H Wx Q ((each (fturn t fcd fe ρ) (xs.drop (i + 1)) g6).bind _)
                    have pc : Post F oa al cls σ H Wx Q (((each (fturn t fcd fe ρ) (xs.drop (i + 1)) g6).bind fun zs g2 => .ok (d :: zs) g2).bind fun zs g2 => .ok (.own (.lst (ys ++ zs))) g2) := pc
                    cases e8 : each (fturn t fcd fe ρ) (xs.drop (i + 1)) g6 with
                    | no => rw [e8] at pc; exact pc.elim
                    | ex c g8 => rw [e8] at pc; exact pc
                    | ok zs g8 =>
                      rw [e8] at pc
                      simp only [bind_ok, List.append_assoc, List.singleton_append] at pc ⊢
                      exact pc
        · have e : i = xs.length := by omega
          subst e
          rw [List.drop_length] at pc
          refine .inl ⟨f1 _ (Nat.le_refl _), ?_⟩
          have pc' : Post F oa al cls σ H Wx Q (.ok (.own (.lst (ys ++ []))) g2) := pc
          rw [List.append_nil] at pc'
          exact pc' oa2 (.ref D) H2 (st1.trans st2) ⟨D, rfl, st1.ext.dom D hD, nD2, acc, hD2, r2.mono (fun a zs e m => ⟨e, fun z => m (app_own z)⟩) fun _ _ e => e⟩
    · exact h.elim
theorem fe_comp {elt tg iter : Expr} {ifs : List Expr} {scope : Scope} {own : List (Str × Nat)} {pos : Pos} (hc : X.calm = true) (hN : X.N.Nodup) (hi : PI X tg iter (tI false X.K C cls Wx fi)) (ok : BlkOk X.N X.env.scope scope own) (ho : own.map (·.2) = t.slots)
    (hg : ∀ (s : Shared) (H : Hp) (D : Addr) (cl : List (Str × Addr)) (fp : List Addr), TgIs (X.blk s H scope (compEnvC scope cl D X.env) fp) t tg)
    (ht : ∀ (s : Shared) (H : Hp) (D : Addr) (cl : List (Str × Addr)) (fp : List Addr), PTs (X.blk s H scope (compEnvC scope cl D X.env) fp) ifs (tT X.K C cls Wx0 fcd))
    (he : ∀ (s : Shared) (H : Hp) (D : Addr) (cl : List (Str × Addr)) (fp : List Addr), PE (X.blk s H scope (compEnvC scope cl D X.env) fp) elt (tE X.K C cls Wx0 fe)) (hs : ∀ x, foldedSetIterable iter X.env x = pure x) :
    PE X (.ListComp elt [⟨tg, iter, ifs, 0⟩] scope pos) (tE X.K C cls Wx (fcomp t fi fcd fe)) :=
  PE.imp (pe_lc (g := gTg X.K t) hc hN hi ok hg ht he hs) fun σ H Q h => by rw [ho]; exact comp_of h
theorem fs_setLc {i : Nat} {o : Bool} {y : Str} {py : Pos} {elt tg iter : Expr} {ifs : List Expr} {scope : Scope} {own : List (Str × Nat)} {pos spos : Pos} (hc : X.calm = true) (hN : X.N.Nodup) (hy : X.N[i]? = some y) (hyl : X.env.scope.names.lookup y = some .local)
    (hsw : swapsWith (.ListComp elt [⟨tg, iter, ifs, 0⟩] scope pos) (some (.Name y py)) spos.line X.env = pure true) (hi : PI X tg iter (tI false X.K C cls Wx fi)) (ok : BlkOk X.N X.env.scope scope own) (ho : own.map (·.2) = t.slots)
    (hg : ∀ (s : Shared) (H : Hp) (D : Addr) (cl : List (Str × Addr)) (fp : List Addr), TgIs (X.blk s H scope (compEnvC scope cl D X.env) fp) t tg)
    (ht : ∀ (s : Shared) (H : Hp) (D : Addr) (cl : List (Str × Addr)) (fp : List Addr), PTs (X.blk s H scope (compEnvC scope cl D X.env) fp) ifs (tT X.K C cls Wx0 fcd))
    (he : ∀ (s : Shared) (H : Hp) (D : Addr) (cl : List (Str × Addr)) (fp : List Addr), PE (X.blk s H scope (compEnvC scope cl D X.env) fp) elt (tE X.K C cls Wx0 fe)) (hs : ∀ x, foldedSetIterable iter X.env x = pure x) :
    PS X (.Assign [.Name y py] (.ListComp elt [⟨tg, iter, ifs, 0⟩] scope pos) spos) (tS X.K C cls Wx (fasg i o (fcomp t fi fcd fe))) :=
  PS.imp (ps_setLc (g := gTg X.K t) hc hN hy hyl hsw hi ok hg ht he hs) fun D σ H h => by
    rw [ho]
    exact comp_of (asg_of h)
theorem pts_non : PTs X [] (tT X.K C cls Wx fun _ g => .ok true g) := by
  refine ⟨fun pins s σ H Q I hw => pts_nil.run pins s σ H Q I ?_⟩
  obtain ⟨F, oa, al, ρ, g, hK, hC, R, h⟩ := hw
  exact h oa H (Step.refl R.gr)
end
end TP
/-! Calls of built-ins. -/
namespace TP
open PySem L2
section
variable {X : Cx} {C : Addr} {cls : Nat → Addr} {Wx : WX} {fa fb fc : Env' → G → Res W} {a b c e : Expr} {es : List Expr} {fs : Env' → G → Res (List W)} {pos : Pos} {bb : List PyData → Option W}
def fblt (bb : List PyData → Option W) (fs : Env' → G → Res (List W)) : Env' → G → Res W := fun ρ g => (fs ρ g).bind fun ws g1 => .of (do bb (← rds ws)) g1
theorem blt_of {σ : St} {H : Hp} {Q : VK} (h : tE X.K C cls Wx (fblt bb fs) σ H Q) : tCB (rB bb) (tA X.K C cls Wx fs) σ H Q :=
  tA_of (k := fun ws => do bb (← rds ws)) h fun F oa al ρ0 ρ g g0 H' xs ws z hK hC R wo _ e _ p => by
    obtain ⟨dxs, e1, e2⟩ := bindSome e
    exact ⟨_, dxs, z, wo.rds e1, e2, fun v H2 n => p.here R n⟩
theorem fe_callB {x id : String} {y : Str} {p : Pos} (hc : CallR X (.builtin id) (rB bb)) (hg : Gl X y) (hm : X.mg y = none) (hv : bootBuiltins y = some (.builtin id)) (hn : y ≠ "__name__") (hdb : (y == ("__debug__" : Str)) = false) (hp : (e :: es).all plainE = true)
    (ha : PA X (e :: es) (tA X.K C cls Wx fs)) : PE X (.Call (.Name y p) (e :: es) [] pos) (tE X.K C cls Wx (fblt bb fs)) := by
  have hp' : plainE e = true ∧ es.all plainE = true := by simpa using hp
  exact PE.imp (pe_callB hc hg hm hv ha hn hdb (star_plain hp'.1 es X.env) (star_any hp'.2)) fun _ _ _ h => blt_of h
theorem fe_callTy {T : String} {y : Str} {p : Pos} (hc : CallR X (.type T) (rB bb)) (hg : Gl X y) (hm : X.mg y = none) (hv : bootBuiltins y = some (.type T)) (hn : y ≠ "__name__") (hdb : (y == ("__debug__" : Str)) = false) (hp : (e :: es).all plainE = true)
    (ha : PA X (e :: es) (tA X.K C cls Wx fs)) : PE X (.Call (.Name y p) (e :: es) [] pos) (tE X.K C cls Wx (fblt bb fs)) := by
  have hp' : plainE e = true ∧ es.all plainE = true := by simpa using hp
  exact PE.imp (pe_callTy hc hg hm hv ha hn hdb (star_plain hp'.1 es X.env) (star_any hp'.2)) fun _ _ _ h => blt_of h
/-- isinstance(a, T) -/
def fisi (t : Ty) (fa : Env' → G → Res W) : Env' → G → Res W := fun ρ g => (fa ρ g).bind fun w g1 => .of (w.rd.map fun x => .d (.bool (isiD t x))) g1
def tyName : Ty → String
  | .int => "int" | .bool => "bool" | .tuple => "tuple" | .str => "str"
theorem fe_isi {t : Ty} {y z : Str} {p p2 : Pos} (hg : Gl X y) (hm : X.mg y = none) (hy : (y == ("isinstance" : Str)) = true) (hz : (z == (Str.ofString (tyName t))) = true) (hg2 : Gl X z) (hm2 : X.mg z = none) (qa : plainE a = true)
    (ha : PE X a (tE X.K C cls Wx fa)) : PE X (.Call (.Name y p) [a, .Name z p2] [] pos) (tE X.K C cls Wx (fisi t fa)) := by
  obtain rfl : y = "isinstance" := by simpa using hy
  obtain rfl : z = Str.ofString (tyName t) := by simpa using hz
  have hv : bootBuiltins (Str.ofString (tyName t)) = some (.type (tyName t)) := by cases t <;> decide +kernel
  have hn : (Str.ofString (tyName t)) ≠ "__name__" := by cases t <;> decide
  have hdb : (Str.ofString (tyName t) == ("__debug__" : Str)) = false := by cases t <;> decide
  have pt : PE X (.Name (Str.ofString (tyName t)) p2) (tC (.ty (tyName t))) := pe_bltn hg2 hm2 hv rfl hn hdb
  refine PE.imp (pe_callB (id := "isinstance") (isi_D (t := t) (n := tyName t) (by cases t <;> rfl)) hg hm (by decide +kernel) (pa2 qa rfl ha pt) (by decide) (by decide) (star_plain qa _ _) rfl) fun σ H Q h => ?_
  refine one (k := fun w => w.rd.map fun x => .d (.bool (isiD t x))) h fun F oa al ρ g H' x w z hK hC R wx e p => ?_
  cases e1 : w.rd with
  | none => rw [e1] at e; cases e
  | some d =>
    rw [e1] at e
    obtain rfl := Option.some.inj e
    exact ⟨_, x, d, rfl, wx.rd e1, p.here R (.old (.bl _))⟩
/-! ### len(set(xs)) of tuples of ints -/
theorem tupInts_dq {O : Addr → Prop} {H : Hp} {v : V} {x : PyData} {n : List Int} (q : Dq O H v x) (e : tupInts? x = some n) : ∃ p, v = .ref p ∧ H p = some (.tup (n.map V.int)) := by
  cases q with
  | tup h r =>
    have := r.ints (show ints? _ = some n from e)
    subst this
    exact ⟨_, rfl, h⟩
  | _ => cases e
theorem tupsInts_dq {O : Addr → Prop} {H : Hp} : ∀ {xs : List PyData} {vs : List V} {ns : List (List Int)}, DqAll O H vs xs → tupsInts? xs = some ns → ∃ ks : List (Addr × List Int), vs = (ks.map fun p => V.ref p.1) ∧ ks.map (·.2) = ns ∧ ∀ p ∈ ks, H p.1 = some (.tup (p.2.map V.int))
  | [], _, ns, .nil, e => by
    obtain rfl := Option.some.inj e
    exact ⟨[], rfl, rfl, fun p h => absurd h (by simp)⟩
  | x :: r, _, ns, .cons q s, e => by
    unfold tupsInts? at e
    split at e
    · rename_i n ms e1 e2
      obtain rfl := Option.some.inj e
      obtain ⟨p, rfl, hp⟩ := tupInts_dq q e1
      obtain ⟨ks, rfl, rfl, hk⟩ := tupsInts_dq s e2
      refine ⟨(p, n) :: ks, rfl, rfl, fun z hz => ?_⟩
      rcases List.mem_cons.mp hz with rfl | hz
      · exact hp
      · exact hk z hz
    · cases e
theorem mem_dd {x : List Int} : ∀ {l : List (List Int)}, x ∈ dd l ↔ x ∈ l
  | [] => by simp [dd]
  | y :: r => by
    unfold dd
    split
    · rename_i h
      rw [mem_dd, List.mem_cons]
      exact ⟨.inr, fun z => z.elim (fun e => by rw [e]; exact h) id⟩
    · rw [List.mem_cons, List.mem_cons, mem_dd]
theorem nodup_dd : ∀ l : List (List Int), (dd l).Nodup
  | [] => by simp [dd]
  | y :: r => by
    unfold dd
    split
    · exact nodup_dd r
    · rename_i h
      exact List.nodup_cons.mpr ⟨fun z => h (mem_dd.mp z), nodup_dd r⟩
theorem same_len {l m : List (List Int)} (h1 : l.Nodup) (h2 : m.Nodup) (h : ∀ x, x ∈ l ↔ x ∈ m) : l.length = m.length :=
  ((List.perm_ext_iff_of_nodup h1 h2).mpr h).length_eq
open PySem.Spec in
theorem fe_lenset {p p2 q : Pos} {y z : Str} (hy : (y == ("len" : Str)) = true) (hz : (z == ("set" : Str)) = true) (hc : X.calm = true) (hu : X.A.units + 65 < cLine) (hg : Gl X y) (hm : X.mg y = none) (hg2 : Gl X z) (hm2 : X.mg z = none) (qa : plainE a = true) (ha : PE X a (tE X.K C cls Wx fa)) :
    PE X (.Call (.Name y p) [.Call (.Name z p2) [a] [] q] [] pos) (tE X.K C cls Wx (f1 (fun w => do bLenset [← w.rd]) fa)) := by
  obtain rfl : y = "len" := by simpa using hy
  obtain rfl : z = "set" := by simpa using hz
  refine ⟨fun pins s σ H Q I h => ?_⟩
  refine PyProof.Rows.Call_ (ld_blt I hg hm PySem.boot_len ?_)
  refine PyProof.Rows.callWith_builtin1 (PyProof.Rows.args_cons ?_ rfl) rfl rfl
  refine PyProof.Rows.Call_ (ld_blt I hg2 hm2 PyProof.Rows.boot_set ?_)
  have h2 := one (R1' := fun x H' => ∃ (l : Addr) (ks : List (Addr × List Int)), x = V.ref l ∧ H' l = some (.lst (ks.map fun p => V.ref p.1)) ∧ (∀ p ∈ ks, H' p.1 = some (.tup (p.2.map V.int))) ∧ ks.length < 64 ∧ Q (.int (dd (ks.map (·.2))).length) H') h fun F oa al ρ g H' x w z hK hC R wx e p => by
    obtain ⟨dx, e1, e2⟩ := bindSome e
    unfold bLenset at e2
    split at e2
    · rename_i ys ex
      cases ex
      split at e2
      · rename_i hl
        rw [Option.map_eq_some_iff] at e2
        obtain ⟨ns, e3, rfl⟩ := e2
        obtain ⟨l, vs, rfl, hl1, r⟩ := (wx.rd e1).list
        obtain ⟨ks, rfl, rfl, hk⟩ := tupsInts_dq r e3
        have hlen : ks.length < 64 := by rw [← r.len, List.length_map] at hl; exact hl
        exact ⟨l, ks, rfl, hl1, hk, hlen, p.here R (.old (.int _))⟩
      · cases e2
    · cases e2
  refine PyProof.Rows.callWith_type1 (PyProof.Rows.args_cons (thn (ha.run pins s σ H _ I h2) fun v s1 ⟨x, H1, I1, r1, q1⟩ => PyProof.Rows.args_nil ?_) (plain1 qa)) (plain1 qa) rfl
  obtain ⟨l, ks, rfl, hl, hk, hf, q1⟩ := q1
  cases r1
  obtain ⟨its, rv, pl, hz⟩ := I1.list (SqL.of hl)
  refine call_set_tups (P := X.prog) (w := X.w) ks (I1.ok.hd hc) pl.isList (by simpa using refs_of_vals rv) (fun p hp => I1.isT (SqT.of (hk p hp))) hf (by omega) fun h' tk L es ep t R g k => ?_
  refine PyProof.Rows.args_nil ?_
  have I2 : Inv X pins σ H1 { s1 with heap := h', toks := tk } := I1.kept k
  obtain ⟨o, ho, hex, hd⟩ := R.ob
  have hlen : L.length = (dd (ks.map (·.2))).length := by
    rw [← List.length_map (f := (·.2)) (as := L)]
    refine same_len R.nd (nodup_dd _) fun x => ?_
    rw [mem_dd]
    constructor
    · intro hx
      obtain ⟨p, hp, rfl⟩ := List.mem_map.mp hx
      exact List.mem_map.mpr ⟨p, List.mem_of_mem_take (g.sub p hp), rfl⟩
    · intro hx
      obtain ⟨p, hp, rfl⟩ := List.mem_map.mp hx
      exact g.all p (by rw [List.take_length]; exact hp)
  have hsz := SetTR.size (s := { s1 with heap := h', toks := tk }) R
  have hll := g.len
  refine call_len_set ho hex hd (SetTR.fits (s := { s1 with heap := h', toks := tk }) R) (by omega) ⟨.int _, H1, I2.tok _, ⟨_, rfl⟩, ?_⟩
  rw [hsz, hlen]
  exact q1
end
end TP
/-! The script and the town. -/
namespace TP
open PySem L2
section
variable {X : Cx} {C : Addr} {cls : Nat → Addr} {Wx : WX} {fa fb fc : Env' → G → Res W} {a b c e : Expr} {pos : Pos}
def fsix (i : Nat) (fb : Env' → G → Res W) : Env' → G → Res W := fun ρ g => match get ρ i with
    | some .scr => (fb ρ g).bind fun w g1 => .of (do (atI g1.ns (← w.int?)).map fun n => .d (.int n)) g1
    | _ => .no
theorem atI_map {ns : List Int} {j n : Int} (h : atI ns j = some n) : atI (ns.map V.int) j = some (.int n) := by
  unfold atI at *
  rw [List.length_map]
  cases e : ixN ns.length j with
  | none => rw [e] at h; cases h
  | some k =>
    rw [e] at h
    show (ns.map V.int)[k]? = _
    rw [List.getElem?_map]
    have h' : ns[k]? = some n := h
    rw [h']
    rfl
theorem fe_six {i : Nat} {x : Str} {p : Pos} (hN : X.N[i]? = some x) (hv : Vis X.env.scope x) (hd : (x == ("__debug__" : Str)) = false) (hcd : (x == ("__classdict__" : Str)) = false) (qb : plainE b = true) (hb : PE X b (tE X.K C cls Wx fb)) : PE X (.Subscript (.Name x p) b pos) (tE X.K C cls Wx (fsix i fb)) := by
  refine PE.imp (pe_ix ix_list (pe_var hN hv hd hcd) hb (plain_ix qb)) ?_
  rintro σ H Q ⟨F, oa, al, ρ, g, hK, hC, R, h⟩
  unfold fsix at h
  split at h
  · rename_i e
    obtain ⟨v, e1, wo⟩ := R.look e
    have hv : v = .ref F.sa := wo
    subst hv
    refine ⟨_, e1, Post.bind hK hC R h fun w g1 oa1 y H1 st R1 wo h1 => ?_⟩
    obtain ⟨z, e2, h2⟩ := Post.of (h1.later st)
    obtain ⟨j, e3, e4⟩ := bindSome e2
    rw [Option.map_eq_some_iff] at e4
    obtain ⟨n, e5, rfl⟩ := e4
    obtain ⟨rfl, _⟩ := wo.int e3
    refine ⟨F.sa, _, j, _, rfl, rfl, by rw [← hK]; exact R1.gr.sc.sq, atI_map e5, h2.here R1 (.old (.int _))⟩
  · exact h.elim
def fslen (i : Nat) : Env' → G → Res W := fun ρ g => match get ρ i with
    | some .scr => .ok (.d (.int g.ns.length)) g
    | _ => .no
theorem fe_slen {i : Nat} {x y : Str} {p p2 : Pos} (hy : (y == ("len" : Str)) = true) (hN : X.N[i]? = some x) (hv : Vis X.env.scope x) (hd : (x == ("__debug__" : Str)) = false) (hcd : (x == ("__classdict__" : Str)) = false) (hg : Gl X y) (hm : X.mg y = none) : PE X (.Call (.Name y p2) [.Name x p] [] pos) (tE X.K C cls Wx (fslen i)) := by
  obtain rfl : y = "len" := by simpa using hy
  refine PE.imp (pe_callB (id := "len") call_len_seq hg hm (by decide +kernel) (pa_cons (pe_var hN hv hd hcd) pa_nil)) ?_
  rintro σ H Q ⟨F, oa, al, ρ, g, hK, hC, R, h⟩
  unfold fslen at h
  split at h
  · rename_i e
    obtain ⟨v, e1, wo⟩ := R.look e
    have hv : v = .ref F.sa := wo
    subst hv
    refine ⟨_, e1, F.sa, _, rfl, .inl (by rw [← hK]; exact R.gr.sc.sq), ?_⟩
    rw [List.length_map]
    exact h.here R (.old (.int _))
  · exact h.elim
def ftlen (i : Nat) : Env' → G → Res W := fun ρ g => match get ρ i with
    | some .twn => .ok (.d (.int g.k)) g
    | _ => .no
theorem fe_tlen {i : Nat} {x y : Str} {p p2 : Pos} (hy : (y == ("len" : Str)) = true) (hN : X.N[i]? = some x) (hv : Vis X.env.scope x) (hd : (x == ("__debug__" : Str)) = false) (hcd : (x == ("__classdict__" : Str)) = false) (hg : Gl X y) (hm : X.mg y = none) : PE X (.Call (.Name y p2) [.Name x p] [] pos) (tE X.K C cls Wx (ftlen i)) := by
  obtain rfl : y = "len" := by simpa using hy
  refine PE.imp (pe_callB (id := "len") call_len_seq hg hm (by decide +kernel) (pa_cons (pe_var hN hv hd hcd) pa_nil)) ?_
  rintro σ H Q ⟨F, oa, al, ρ, g, hK, hC, R, h⟩
  unfold ftlen at h
  split at h
  · rename_i e
    obtain ⟨v, e1, wo⟩ := R.look e
    have hv : v = .ref F.tw := wo
    subst hv
    refine ⟨_, e1, F.tw, _, rfl, .inl (SqL.of R.gr.tw), ?_⟩
    rw [List.length_replicate]
    exact h.here R (.old (.int _))
  · exact h.elim
def fsemp (i : Nat) : Env' → G → Res W := fun ρ g => match get ρ i with
    | some .scr => .ok (.d (.bool g.ns.isEmpty)) g
    | _ => .no
theorem dpAll_ints {K : PySem.W.Frag} {H : Hp} : ∀ ns : List Int, DpAll K H (ns.map V.int) (ns.map PyData.int)
  | [] => .nil
  | _ :: r => .cons (.int _) (dpAll_ints r)
theorem shaped_ints (ns : List Int) : SeqAt.shaped (.list (ns.map PyData.int)) = true := by
  have h1 : ∀ l : List Int, PyData.canLayAll0 (l.map PyData.int) = true := by
    intro l
    induction l with
    | nil => simp [PyData.canLayAll0]
    | cons a r ih => simp [PyData.canLayAll0, PyData.canLay0, ih]
  have h2 : ∀ l : List Int, PyData.depthAll (l.map PyData.int) = 0 := by
    intro l
    induction l with
    | nil => simp [PyData.depthAll]
    | cons a r ih => simp [PyData.depthAll, PyData.depth, ih]
  show (PyData.canLay0 (.list (ns.map PyData.int)) && decide (PyData.depth (.list (ns.map PyData.int)) ≤ 64)) = true
  simp [PyData.canLay0, h1, PyData.depth, h2]
theorem semp_of {i : Nat} {σ : St} {H : Hp} {Q : VK} (h : tE X.K C cls Wx (fsemp i) σ H Q) : tOp (fun x y H Q => ∃ d e, Dp X.K H x d ∧ Dp X.K H y e ∧ SeqAt.shaped d = true ∧ SeqAt.shaped e = true ∧ Q (.bl (PyData.eqv d e)) H) (tVar i) (tLst tNil) σ H Q := by
  obtain ⟨F, oa, al, ρ, g, hK, hC, R, h⟩ := h
  unfold fsemp at h
  split at h
  · rename_i e
    obtain ⟨v, e1, wo⟩ := R.look e
    have hv : v = .ref F.sa := wo
    subst hv
    refine ⟨_, e1, by rw [sizeLine_eq]; exact Nat.zero_le _, fun q hq => ?_⟩
    have st : Step F oa oa g H (upd H q (.lst [])) := Step.upd R.gr hq
    refine ⟨.list (g.ns.map PyData.int), .list [], .lst (by rw [← hK]; exact st.gr.sc.sq) (dpAll_ints _), .lst (SqL.of upd_same) .nil, shaped_ints _, by decide, ?_⟩
    have eq : PyData.eqv (.list (g.ns.map PyData.int)) (.list []) = g.ns.isEmpty := by
      cases g.ns with
      | nil => simp [PyData.eqv, PyData.eqvAll]
      | cons a r => simp [PyData.eqv, PyData.eqvAll]
    rw [eq]
    exact h oa _ _ st (.bl _)
  · exact h.elim
theorem fe_semp {i : Nat} {x : Str} {p p2 : Pos} (hu : X.A.units + 65 < cLine) (hN : X.N[i]? = some x) (hv : Vis X.env.scope x) (hd : (x == ("__debug__" : Str)) = false) (hcd : (x == ("__classdict__" : Str)) = false) : PE X (.Compare (.Name x p) [.Eq] [.List [] p2] pos) (tE X.K C cls Wx (fsemp i)) :=
  PE.imp (pe_cmpR (op_eqD (by omega)) (pe_var hN hv hd hcd) (pe_lst pa_nil) rfl) fun _ _ _ h => semp_of h
theorem ft_semp {i : Nat} {x : Str} {p p2 : Pos} (hu : X.A.units + 65 < cLine) (hN : X.N[i]? = some x) (hv : Vis X.env.scope x) (hd : (x == ("__debug__" : Str)) = false) (hcd : (x == ("__classdict__" : Str)) = false) : PT X (.Compare (.Name x p) [.Eq] [.List [] p2] pos) (tT X.K C cls Wx (tB' (fsemp i))) :=
  PT.imp (pt_cmpR (op_eqD (by omega)) (pe_var hN hv hd hcd) (pe_lst pa_nil) rfl) fun _ _ _ h => semp_of (tB_of h)
def ftapp (i : Nat) : Env' → G → Out := fun ρ g => match get ρ i with
    | some .twn => if g.k < lim then .nx ρ { g with k := g.k + 1 } else .no
    | _ => .no
theorem fs_tapp {i : Nat} {y m : Str} {p p2 apos cpos : Pos} {j : Nat} (hm : (m == ("append" : Str)) = true) (hN : X.N[i]? = some y) (hv : Vis X.env.scope y) (hd : (y == ("__debug__" : Str)) = false) (hcd : (y == ("__classdict__" : Str)) = false) (hline : (apos.endLine == cpos.line) = true) :
    PS X (.Expr (.Call (.Attribute (.Name y p) m apos) [.Constant (.int 0) j p2] [] cpos) pos) (tS X.K C cls Wx (ftapp i)) := by
  obtain rfl : m = "append" := by simpa using hm
  refine PS.imp (ps_expr (pe_bm PySem.F.plainAttrs_list PySem.F.slot_list_append PySem.F.type_list_append mt_append (pe_var hN hv hd hcd) (pa_cons pe_int pa_nil) rfl rfl hline) rfl) ?_
  rintro D σ H ⟨F, oa, al, ρ, g, hK, hC, R, h⟩
  unfold ftapp at h
  split at h
  · rename_i e
    obtain ⟨v, e1, wo⟩ := R.look e
    have hv : v = .ref F.tw := wo
    subst hv
    split at h
    · rename_i hl
      have tw := R.gr.tw
      refine ⟨_, e1, .inl ⟨rfl, _, SqL.of tw⟩, F.tw, _, .int 0, rfl, rfl, tw, by rw [List.length_replicate, sizeLine_eq]; exact hl, ?_⟩
      have mu : Mut (H F.tw) := by rw [tw]; exact trivial
      have e2 : List.replicate g.k (V.int 0) ++ [.int 0] = List.replicate (g.k + 1) (V.int 0) := by rw [List.replicate_succ']
      rw [e2]
      have ntw : ∀ b, ¬ Mb F.tw oa b → ∀ u, H b = some u → upd H F.tw (.lst (List.replicate (g.k + 1) (V.int 0))) b = some u := fun b hb u e => by rw [upd_ne (fun z => hb (.inl z))]; exact e
      have st : Step F oa oa { g with k := g.k + 1 } H (upd H F.tw (.lst (List.replicate (g.k + 1) (V.int 0)))) := by
        have tup : ∀ b xs, H b = some (.tup xs) → upd H F.tw (.lst (List.replicate (g.k + 1) (V.int 0))) b = some (.tup xs) := fun b xs e => by rw [upd_ne (fun z => by subst z; rw [e] at mu; exact mu)]; exact e
        refine ⟨⟨fun b u e n => ?_, fun b e => ?_⟩, ⟨upd_same, ?_, fun j og e => ?_, R.gr.len, R.gr.nd, R.gr.nt⟩, fun b z => .inl z, OaLe.refl _⟩
        · rcases n with n | n
          · exact ntw b n u e
          · rw [upd_ne (fun z => by subst z; rw [tw] at e; cases e; exact n trivial)]; exact e
        · by_cases hb : b = F.tw
          · subst hb; rw [upd_same] at e; cases e
          · rw [upd_ne hb] at e; exact e
        · rcases R.gr.sc with ⟨u, hu⟩ | hu
          · exact .inl ⟨u, by rw [upd_ne (fun z => by rw [z, tw] at hu; cases hu)]; exact hu⟩
          · exact .inr hu
        · obtain ⟨t, h1, h2, h3, vs, h4, h5⟩ := R.gr.os j og e
          have ht : t ∈ oa := List.mem_of_getElem? h1
          have n4 : t.2.2 ≠ F.tw := fun z => R.gr.nt (by rw [← z]; exact List.mem_map.mpr ⟨t, ht, rfl⟩)
          refine ⟨t, h1, ?_, ?_, vs, ?_, h5.mono (fun a xs _ n => absurd trivial n) tup⟩
          · rw [upd_ne (fun z => by rw [z, tw] at h2; cases h2)]; exact h2
          · rw [upd_ne (fun z => by rw [z, tw] at h3; cases h3)]; exact h3
          · rw [upd_ne n4]; exact h4
      exact h _ _ _ _ (R.step st) st.grow
    · exact h.elim
  · exact h.elim
end
end TP
/-! list(range(n)), index, count. -/
namespace TP
open PySem L2
section
variable {X : Cx} {C : Addr} {cls : Nat → Addr} {Wx : WX} {fa fb fc : Env' → G → Res W} {a b c e : Expr} {pos : Pos}
theorem dq_rng {O : Addr → Prop} {H : Hp} (n : Int) : DqAll O H (rgV 0 n) (rngL 0 n) := by
  unfold rgV rngL
  generalize List.range (n - 0).toNat = l
  induction l with
  | nil => exact .nil
  | cons i r ih => exact .cons (.int _) ih
theorem fe_lrng {p p2 q : Pos} {y z : Str} (hy : (y == ("list" : Str)) = true) (hz : (z == ("range" : Str)) = true) (hc : X.calm = true) (hg : Gl X y) (hm : X.mg y = none) (hg2 : Gl X z) (hm2 : X.mg z = none) (qa : plainE a = true) (ha : PE X a (tE X.K C cls Wx fa)) :
    PE X (.Call (.Name y p) [.Call (.Name z p2) [a] [] q] [] pos) (tE X.K C cls Wx (f1 (fun w => do bLrng [← w.rd]) fa)) := by
  obtain rfl : y = "list" := by simpa using hy
  obtain rfl : z = "range" := by simpa using hz
  refine PE.imp (pe_listRg hc hg hm (prg_1 hg2 hm2 ha (plain1 qa)) rfl) fun σ H Q h => ?_
  refine one h fun F oa al ρ g H' x w z hK hC R wx e p => ?_
  obtain ⟨dx, e1, e2⟩ := bindSome e
  unfold bLrng at e2
  split at e2
  · rename_i n ex
    cases ex
    split at e2
    · obtain rfl := Option.some.inj e2
      cases (wx.rd e1).int
      exact ⟨n, rfl, ⟨by decide, by decide, by omega, by omega, by omega⟩, fun q hq => p.here R (.lst hq (dq_rng n))⟩
    · cases e2
  · cases e2
theorem fe_trng {p p2 q : Pos} {y z : Str} (hy : (y == ("tuple" : Str)) = true) (hz : (z == ("range" : Str)) = true) (hc : X.calm = true) (hg : Gl X y) (hm : X.mg y = none) (hg2 : Gl X z) (hm2 : X.mg z = none) (qa : plainE a = true) (ha : PE X a (tE X.K C cls Wx fa)) :
    PE X (.Call (.Name y p) [.Call (.Name z p2) [a] [] q] [] pos) (tE X.K C cls Wx (f1 (fun w => do bTrng [← w.rd]) fa)) := by
  obtain rfl : y = "tuple" := by simpa using hy
  obtain rfl : z = "range" := by simpa using hz
  refine PE.imp (pe_tupRg hc hg hm (prg_1 hg2 hm2 ha (plain1 qa)) rfl) fun σ H Q h => ?_
  refine one h fun F oa al ρ g H' x w z hK hC R wx e p => ?_
  obtain ⟨dx, e1, e2⟩ := bindSome e
  unfold bTrng at e2
  split at e2
  · rename_i n ex
    cases ex
    split at e2
    · obtain rfl := Option.some.inj e2
      cases (wx.rd e1).int
      exact ⟨n, rfl, ⟨by decide, by decide, by omega, by omega, by omega⟩, fun q hq => p.here R (.tup hq (dq_rng n))⟩
    · cases e2
  · cases e2
/-- l.index(x), l.count(x) -/
def flidx (fa fb : Env' → G → Res W) : Env' → G → Res W := fun ρ g => (fa ρ g).bind fun w g1 => match w.rd with
    | some (.list xs) => (fb ρ g1).bind fun u g2 => .of (do bIndex [.list xs, ← u.rd]) g2
    | _ => .no
def flcnt (fa fb : Env' → G → Res W) : Env' → G → Res W := fun ρ g => (fa ρ g).bind fun w g1 => match w.rd with
    | some (.list xs) => (fb ρ g1).bind fun u g2 => .of (do bCount [.list xs, ← u.rd]) g2
    | _ => .no
theorem fe_lidx {y m : Str} {p apos cpos : Pos} (hu : X.A.units + 65 < cLine) (hm : (m == ("index" : Str)) = true) (hline : (apos.endLine == cpos.line) = true) (qb : plainE b = true) (ha : PE X (.Name y p) (tE X.K C cls Wx fa)) (hb : PE X b (tE X.K C cls Wx fb)) :
    PE X (.Call (.Attribute (.Name y p) m apos) [b] [] cpos) (tE X.K C cls Wx (flidx fa fb)) := by
  obtain rfl : m = "index" := by simpa using hm
  refine PE.imp (pe_bm PySem.F.plainAttrs_list PySem.F.slot_list_index PySem.F.type_list_index (mt_indexD hu) ha (pa_cons hb pa_nil (plain1 qb)) rfl (few1 qb) hline (plain1 qb) rfl) ?_
  rintro σ H Q ⟨F, oa, al, ρ, g, hK, hC, R, h⟩
  refine Post.bind hK hC R h fun w g1 oa1 x H1 st1 R1 wo1 h1 => ?_
  split at h1
  · rename_i xs ex
    obtain ⟨q, vs, rfl, hq, r⟩ := (wo1.rd ex).list
    refine ⟨.inl ⟨rfl, _, SqL.of hq⟩, Post.bind hK hC R1 (h1.later st1) fun u g2 oa2 v H2 st2 R2 wo2 h2 => ?_⟩
    obtain ⟨z, e, h3⟩ := Post.of (h2.later st2)
    obtain ⟨d, e1, e2⟩ := bindSome e
    have e2 : (if sameShape (.list xs) d then (idxOf? d xs).map fun j => W.d (.int (j : Nat)) else none) = some z := e2
    split at e2
    · rename_i hs
      rw [Option.map_eq_some_iff] at e2
      obtain ⟨j, ej, rfl⟩ := e2
      obtain ⟨zv, hz, hzj, hno⟩ := idxOf_spec ej
      unfold sameShape at hs
      simp only [Bool.and_eq_true] at hs
      exact ⟨q, v, d, xs, j, zv, rfl, rfl, ((wo1.step R1 st2).rd ex).dp, (wo2.rd e1).dp, hs.1, hs.2, hz, hzj, hno, h3.here R2 (.old (.int _))⟩
    · cases e2
  · exact h1.elim
def rCountD (K : PySem.W.Frag) : V → List V → Hp → VK → Prop := fun x vs H Q => ∃ (l : Addr) (y : V) (d : PyData) (ds : List PyData), x = .ref l ∧ vs = [y] ∧ Dp K H (.ref l) (.list ds) ∧ Dp K H y d ∧
  SeqAt.shaped (.list ds) = true ∧ SeqAt.shaped d = true ∧ Q (.int (ds.countP fun z => PyData.eqv z d : Nat)) H
theorem count_at' {h : Heap} {its : Array Value} {ds : List PyData} {as : List Addr} {d : PyData} (rs : ReadsAll h its.toList ds as) (hxs : PyData.canLayAll0 ds = true) : its.toList.countP (fun y => PyData.eqv (SeqAt.readOf h y) d) = ds.countP fun y => PyData.eqv y d := by
  rw [← SeqAt.readsAll_map ds its.toList as hxs rs, List.countP_map]
  rfl
theorem mt_countD (hu : X.A.units + 65 < cLine) : MtR X "list.count" (rCountD X.K) := by
  intro pins s σ H x xs v us Q I rx rxs h
  obtain ⟨a, y, d, ds, rfl, rfl, hl, hy, sl, sd, q⟩ := h
  cases rx
  cases rxs with
  | cons ry rt =>
    rename_i uy ut
    cases rt
    obtain ⟨bs, r1⟩ := Dp.reads I d y uy hy ry
    have hxs : PyData.canLayAll0 ds = true := SeqAt.canLay_of_shaped sl
    have hroom : X.A.units + 1 + min (PyData.depthAll ds) d.depth < cLine := PyProof.Rows.room_in_shaped sd hu
    cases hl with
    | lst hs ha =>
      obtain ⟨its, rv, ⟨⟨cls, dd, data, sls⟩, n, ho, hc, hdn, hdt⟩, hlen⟩ := I.list hs
      simp only at hc hdt
      subst hc hdt
      obtain ⟨as, h4⟩ := Dp.readsAll I ds _ its ha rv
      refine call_meets PySem.F.slot_list_count ⟨_, ho, rfl⟩ PySem.F.entry_list_count (PySem.F.args_list_count_2 _ _) (SeqAt.list_countAt a its.toArray n dd sls uy (fun u => PyData.eqv (SeqAt.readOf s.heap u) d))
        ⟨ho, SeqAt.items_eqAt (vs := its.toArray) (show ReadsAll s.heap its.toArray.toList ds as from h4) r1 hxs (SeqAt.canLay_of_shaped sd) hroom, ?_⟩
      rw [count_at' (its := its.toArray) (show ReadsAll s.heap its.toArray.toList ds as from h4) hxs]
      exact ⟨.int _, H, I.tok _, ⟨_, rfl⟩, q⟩
theorem fe_lcnt {y m : Str} {p apos cpos : Pos} (hu : X.A.units + 65 < cLine) (hm : (m == ("count" : Str)) = true) (hline : (apos.endLine == cpos.line) = true) (qb : plainE b = true) (ha : PE X (.Name y p) (tE X.K C cls Wx fa)) (hb : PE X b (tE X.K C cls Wx fb)) :
    PE X (.Call (.Attribute (.Name y p) m apos) [b] [] cpos) (tE X.K C cls Wx (flcnt fa fb)) := by
  obtain rfl : m = "count" := by simpa using hm
  refine PE.imp (pe_bm PySem.F.plainAttrs_list PySem.F.slot_list_count PySem.F.type_list_count (mt_countD hu) ha (pa_cons hb pa_nil (plain1 qb)) rfl (few1 qb) hline (plain1 qb) rfl) ?_
  rintro σ H Q ⟨F, oa, al, ρ, g, hK, hC, R, h⟩
  refine Post.bind hK hC R h fun w g1 oa1 x H1 st1 R1 wo1 h1 => ?_
  split at h1
  · rename_i xs ex
    obtain ⟨q, vs, rfl, hq, r⟩ := (wo1.rd ex).list
    refine ⟨.inl ⟨rfl, _, SqL.of hq⟩, Post.bind hK hC R1 (h1.later st1) fun u g2 oa2 v H2 st2 R2 wo2 h2 => ?_⟩
    obtain ⟨z, e, h3⟩ := Post.of (h2.later st2)
    obtain ⟨d, e1, e2⟩ := bindSome e
    have e2 : (if sameShape (.list xs) d then some (W.d (.int (xs.countP fun y => PyData.eqv y d : Nat))) else none) = some z := e2
    split at e2
    · rename_i hs
      obtain rfl := Option.some.inj e2
      unfold sameShape at hs
      simp only [Bool.and_eq_true] at hs
      exact ⟨q, v, d, xs, rfl, rfl, ((wo1.step R1 st2).rd ex).dp, (wo2.rd e1).dp, hs.1, hs.2, h3.here R2 (.old (.int _))⟩
    · cases e2
  · exact h1.elim
end
end TP
/-! Dicts that are read. -/
namespace TP
open PySem L2
section
variable {X : Cx} {C : Addr} {cls : Nat → Addr} {Wx : WX} {fa fb fc : Env' → G → Res W} {a b c e : Expr} {pos : Pos}
def fdsort (i : Nat) : Env' → G → Res W := fun ρ g => match ρ[i]? with
    | some (some (.own (.dct kvs))) => if kvs.length < 64 then .ok (.own (.lst (srt (kvs.map fun p => .int p.1)))) g else .no
    | _ => .no
theorem keys_of {O : V → PyData → Prop} : ∀ {es : List (Key × V)} {kvs : List (Int × PyData)}, PySem.Paired (fun (e : Key × V) (q : Int × PyData) => e.1 = Sum.inl q.1 ∧ O e.2 q.2) es kvs → es.map (·.1) = (kvs.map (·.1)).map Sum.inl
  | _, _, .nil => rfl
  | _, _, .cons h r => by simp [h.1, keys_of r]
theorem dq_ints {O : Addr → Prop} {H : Hp} : ∀ ns : List Int, DqAll O H (ns.map V.int) (ns.map PyData.int)
  | [] => .nil
  | _ :: r => .cons (.int _) (dq_ints r)
theorem srt_ints {ys ks : List Int} (hp : ys.Perm ks) (hs : ys.Pairwise (· ≤ ·)) : ys.map PyData.int = srt (ks.map PyData.int) := by
  refine sorted_one ((hp.map _).trans (srt_perm _).symm) ?_ (srt_sorted _) fun x hx y hy => ?_
  · rw [List.pairwise_map]
    refine hs.imp fun {a b} h => ?_
    show lt (.int b) (.int a) = false
    show (compare b a == Ordering.lt) = false
    rw [cmpI_lt]
    simpa using h
  · obtain ⟨a, _, rfl⟩ := List.mem_map.mp hx
    obtain ⟨b, _, rfl⟩ := List.mem_map.mp hy
    rfl
theorem fe_dsort {i : Nat} {x y : Str} {p p2 : Pos} (hy : (y == ("sorted" : Str)) = true) (hc : X.calm = true) (hN : X.N[i]? = some x) (hv : Vis X.env.scope x) (hd : (x == ("__debug__" : Str)) = false) (hcd : (x == ("__classdict__" : Str)) = false) (hg : Gl X y) (hm : X.mg y = none) : PE X (.Call (.Name y p2) [.Name x p] [] pos) (tE X.K C cls Wx (fdsort i)) := by
  obtain rfl : y = "sorted" := by simpa using hy
  refine PE.imp (pe_callB (id := "sorted") (call_sortedDI hc) hg hm (by decide +kernel) (pa_cons (pe_var hN hv hd hcd) pa_nil)) ?_
  rintro σ H Q ⟨F, oa, al, ρ, g, hK, hC, R, h⟩
  unfold fdsort at h
  split at h
  · rename_i kvs e
    obtain ⟨v, e1, q, rfl, e2, es, h3, r⟩ := R.cell i _ e
    split at h
    · rename_i hl
      refine ⟨_, e1, q, es, kvs.map (·.1), rfl, .inl h3, keys_of r, by simpa using hl, fun ys p hp hs hn => ?_⟩
      refine h oa _ _ (Step.upd R.gr hn) ?_
      have e3 : srt (kvs.map fun p => PyData.int p.1) = ys.map PyData.int := by
        rw [srt_ints hp hs, List.map_map]
        rfl
      rw [e3]
      exact WOk.newLst (dq_ints ys) hn hn (R.nown hn)
    · exact h.elim
  · exact h.elim
def fdget (i : Nat) (fk : Env' → G → Res W) : Env' → G → Res W := fun ρ g => match ρ[i]? with
    | some (some (.own (.dct kvs))) => (fk ρ g).bind fun w g1 => match w.int? with
      | some n => .of ((kvs.find? fun p => decide (p.1 = n)).map fun p => .d p.2) g1
      | none => .no
    | _ => .no
theorem find_of {O : V → PyData → Prop} {n : Int} {x : PyData} : ∀ {es : List (Key × V)} {kvs : List (Int × PyData)}, PySem.Paired (fun (e : Key × V) (q : Int × PyData) => e.1 = Sum.inl q.1 ∧ O e.2 q.2) es kvs → ((kvs.find? fun p => decide (p.1 = n)).map fun p => W.d p.2) = some (.d x) → ∃ v, valV es (Sum.inl n) = some v ∧ O v x
  | _, _, .nil, h => by simp at h
  | _, _, .cons (a := a) (b := b) q r, h => by
    by_cases e : b.1 = n
    · rw [valV_pos (by rw [q.1, e])]
      simp [List.find?_cons, e] at h
      exact ⟨a.2, rfl, by rw [← h]; exact q.2⟩
    · rw [valV_neg (by rw [q.1]; simpa using e)]
      refine find_of r ?_
      simpa [List.find?_cons, e] using h
theorem noSl {b : Expr} (h : plainE b = true) : NoSl b := plain_ix h
theorem fe_dget {i : Nat} {x : Str} {p : Pos} (hu : X.A.units + 65 < cLine) (hN : X.N[i]? = some x) (hv : Vis X.env.scope x) (hd : (x == ("__debug__" : Str)) = false) (hcd : (x == ("__classdict__" : Str)) = false) (qb : plainE b = true) (hb : PE X b (tE X.K C cls Wx fb)) : PE X (.Subscript (.Name x p) b pos) (tE X.K C cls Wx (fdget i fb)) := by
  refine PE.imp (pe_dget (by omega) (pe_var hN hv hd hcd) hb (noSl qb)) ?_
  rintro σ H Q ⟨F, oa, al, ρ, g, hK, hC, R, h⟩
  unfold fdget at h
  split at h
  · rename_i kvs e
    obtain ⟨v, e1, q, rfl, e2, es, h3, r⟩ := R.cell i _ e
    refine ⟨_, e1, Post.bind hK hC R h fun w g1 oa1 y H1 st R1 wo h1 => ?_⟩
    split at h1
    · rename_i n hn
      obtain ⟨z, ez, h2⟩ := Post.of (h1.later st)
      obtain ⟨rfl, _⟩ := wo.int hn
      obtain ⟨v1, e4, q1, e5, e6, es1, h4, r1⟩ := R1.cell i _ e
      have : v1 = .ref q := by rw [e1] at e4; cases e4; rfl
      subst this
      cases e5
      cases z with
      | d x =>
        obtain ⟨vv, hvv, dv⟩ := find_of r1 ez
        refine ⟨q, vv, rfl, ?_, h2.here R1 (.old (dqTrue dv))⟩
        rw [← hvv]
        exact DGet.k (k := Sum.inl n) h4
      | _ =>
        cases e9 : kvs.find? (fun p => decide (p.1 = n)) with
        | none => rw [e9] at ez; cases ez
        | some _ => rw [e9] at ez; cases ez
    · exact h1.elim
  · exact h.elim
end
end TP
/-! min of a list. -/
namespace TP
open PySem L2
section
variable {X : Cx}
theorem minD_least : ∀ (r : List PyData) (y : PyData), (∀ x ∈ y :: r, ∀ z ∈ y :: r, cm x z = true) → PySem.W.minD y r = least y r
  | [], y, _ => rfl
  | x :: r, y, h => by
    have e : PySem.W.dataLt x y = lt x y := dataLt_eq x y (h x (by simp) y (by simp))
    show PySem.W.minD (if PySem.W.dataLt x y then x else y) r = least y (x :: r)
    rw [e]
    unfold least
    split
    · exact minD_least r x fun a ha b hb => h a (List.mem_cons_of_mem _ ha) b (List.mem_cons_of_mem _ hb)
    · refine minD_least r y fun a ha b hb => h a ?_ b ?_
      · rcases List.mem_cons.mp ha with rfl | ha
        · exact List.mem_cons_self
        · exact List.mem_cons_of_mem _ (List.mem_cons_of_mem _ ha)
      · rcases List.mem_cons.mp hb with rfl | hb
        · exact List.mem_cons_self
        · exact List.mem_cons_of_mem _ (List.mem_cons_of_mem _ hb)
theorem least_mem : ∀ (r : List PyData) (y : PyData), least y r ∈ y :: r
  | [], y => by simp [least]
  | x :: r, y => by
    unfold least
    split
    · exact List.mem_cons_of_mem _ (least_mem r x)
    · rcases List.mem_cons.mp (least_mem r y) with h | h
      · rw [h]; exact List.mem_cons_self
      · exact List.mem_cons_of_mem _ (List.mem_cons_of_mem _ h)
theorem depthAll_le {n : Nat} : ∀ {xs : List PyData}, (∀ x ∈ xs, x.depth ≤ n) → PyData.depthAll xs ≤ n
  | [], _ => by simp [PyData.depthAll]
  | x :: r, h => by
    unfold PyData.depthAll
    exact Nat.max_le.mpr ⟨h x List.mem_cons_self, depthAll_le fun y hy => h y (List.mem_cons_of_mem _ hy)⟩
theorem crD_min1 (hc : X.calm = true) (hu : X.A.units + 67 < cLine) : CallR X (.builtin "min") (rB bMin1) := by
  intro pins s σ H xs us Q I r ⟨O, dxs, w, hx, e, q⟩
  unfold bMin1 at e
  split at e
  · rename_i y ys
    obtain ⟨v, rfl, h⟩ := hx.one
    split at e
    · rename_i hs
      obtain rfl := Option.some.inj e
      obtain ⟨p, vs, rfl, h1, r1⟩ := h.list
      obtain ⟨u, rfl, ru⟩ := vals1 r
      cases ru
      obtain ⟨its, rv, pl, hz⟩ := I.list (SqL.of h1)
      obtain ⟨as, hr⟩ := Dp.readsAll I (y :: ys) vs its r1.dp rv
      have hcm : ∀ x ∈ y :: ys, ∀ z ∈ y :: ys, cm x z = true := fun x hx z hz => cmS_cm hs hx hz
      have hd : PyData.depthAll (y :: ys) ≤ 64 := depthAll_le fun x hx => SeqAt.depth_of_shaped (cmS_shaped hs hx)
      refine PySem.W.min_list_data (I.ok.hd hc) pl.isList (by simpa using hr) ⟨fun x hx z hz => cm_alike _ _ (hcm x hx z hz), fun x hx => cm_none (hcm x hx x hx)⟩ (by omega) fun i v h' tk bs hv hrd k => ?_
      rw [minD_least ys y hcm] at hrd
      have hv' : its[i]? = some v := by simpa using hv
      obtain ⟨bs2, g1, g2, g3, g4⟩ := PySem.W.readsAll_at hr i v hv'
      have hmem := least_mem ys y
      have e1 : least y ys = (y :: ys).getD i .none := PySem.W.alike_unique _ _ _ _ _ (cm_alike _ _ (hcm _ hmem _ g3)) hrd (PySem.W.reads_keeps k g1)
      have hi : i < vs.length := by rw [r1.len]; exact g2
      obtain ⟨uv, hu1, hu2⟩ := rv.get (List.getElem?_eq_getElem hi)
      rw [hv'] at hu1
      obtain rfl := Option.some.inj hu1
      obtain ⟨x', hx', dx⟩ := r1.getV (List.getElem?_eq_getElem hi)
      have e2 : x' = least y ys := by
        rw [e1, List.getD_eq_getElem?_getD, hx']
        rfl
      rw [e2] at dx
      exact ⟨vs[i], H, I.kept (t' := tk) k, hu2, q _ _ (.old dx)⟩
    · cases e
  · cases e
end
end TP
/-! A displayed dict of ints, read at once; one of some defs, called at once. -/
namespace TP
open PySem L2
/-- its entries, where all are ints and the keys are apart -/
def dspL : List (Option Expr) → List Expr → Option (List (Int × Int))
  | [], [] => some []
  | some (.Constant (.int k) _ _) :: ks, .Constant (.int v) _ _ :: vs => (dspL ks vs).bind fun r => if r.any (fun q => decide (q.1 = k)) then none else some ((k, v) :: r)
  | _, _ => none
def kvK (r : List (Int × Int)) : List (Key × V) := r.map fun q => (Sum.inl q.1, V.int q.2)
theorem kvK_find (n : Int) : ∀ (r : List (Int × Int)) (acc : List (Key × V)), (r.map (·.1)).Nodup → valV (mergeK acc (kvK r)) (Sum.inl n) = match r.find? (fun q => decide (q.1 = n)) with | some q => some (V.int q.2) | none => valV acc (Sum.inl n)
  | [], acc, _ => rfl
  | q :: r, acc, h => by
    have h' : q.1 ∉ r.map (·.1) ∧ (r.map (·.1)).Nodup := by simpa using h
    have ih := kvK_find n r (L2.putK acc (Sum.inl q.1) (V.int q.2)) h'.2
    show valV (mergeK (L2.putK acc (Sum.inl q.1) (V.int q.2)) (kvK r)) (Sum.inl n) = _
    rw [ih]
    by_cases e : q.1 = n
    · have e2 : r.find? (fun q => decide (q.1 = n)) = none := by
        rw [List.find?_eq_none]
        intro x hx z
        have : x.1 = n := by simpa using z
        exact h'.1 (List.mem_map.mpr ⟨x, hx, by rw [this, e]⟩)
      rw [e2, List.find?_cons]
      simp only [decide_eq_true e]
      rw [valV_put, if_pos (by rw [e])]
    · rw [List.find?_cons]
      simp only [decide_eq_false e]
      cases r.find? (fun q => decide (q.1 = n)) with
      | some p => rfl
      | none =>
        simp only
        rw [valV_put, if_neg (fun z => e (by injection z with z; exact z.symm))]
section
variable {X : Cx} {C : Addr} {cls : Nat → Addr} {Wx : WX} {fa fb fc : Env' → G → Res W} {a b c e : Expr} {pos : Pos}
def trK (r : List (Int × Int)) : List (TE × TE) := r.map fun q => (tC (.int q.1), tC (.int q.2))
theorem dsp_pps {p : Pos} : ∀ {ks : List (Option Expr)} {vs : List Expr} {r : List (Int × Int)}, dspL ks vs = some r → PPs X p ks vs (trK r) ∧ ks.all (·.isSome) = true ∧ ks.length = r.length ∧ vs.length = r.length ∧ (r.map (·.1)).Nodup
  | [], [], r, h => by
    obtain rfl := Option.some.inj h
    exact ⟨pps_nil, rfl, rfl, rfl, .nil⟩
  | some (.Constant (.int k) _ _) :: ks, .Constant (.int v) _ _ :: vs, r, h => by
    unfold dspL at h
    obtain ⟨r', h1, h2⟩ := Option.bind_eq_some_iff.mp h
    split at h2
    · cases h2
    · rename_i hn
      obtain rfl := Option.some.inj h2
      obtain ⟨q1, q2, q3, q4, q5⟩ := dsp_pps (p := p) h1
      refine ⟨pps_cons pe_int pe_int q1, by simpa using q2, by simp [q3], by simp [q4], ?_⟩
      rw [List.map_cons, List.nodup_cons]
      refine ⟨fun z => hn ?_, q5⟩
      obtain ⟨x, hx, e⟩ := List.mem_map.mp z
      exact List.any_eq_true.mpr ⟨x, hx, by simpa using e⟩
  | [], _ :: _, r, h => by simp [dspL] at h
  | none :: _, _, r, h => by simp [dspL] at h
  | some e :: ks, [], r, h => by simp [dspL] at h
theorem dsp_pairs {σ : St} {H : Hp} {Q : List (V × V) → Hp → Prop} : ∀ {r : List (Int × Int)}, Q (r.map fun q => (V.int q.1, V.int q.2)) H → tPairs (trK r) σ H Q
  | [], h => h
  | q :: r, h => by
    show tC (.int q.1) σ H fun x H1 => tC (.int q.2) σ H1 fun y H2 => tPairs (trK r) σ H2 fun ps H3 => Q ((x, y) :: ps) H3
    exact dsp_pairs (r := r) (Q := fun ps H3 => Q ((V.int q.1, V.int q.2) :: ps) H3) h
def fdsp (kvs : List (Int × Int)) (fk : Env' → G → Res W) : Env' → G → Res W := fun ρ g => (fk ρ g).bind fun w g1 => match w.int? with
    | some n => .of ((kvs.find? fun p => decide (p.1 = n)).map fun p => .d (.int p.2)) g1
    | none => .no
theorem fe_dsp {ks : List (Option Expr)} {vs : List Expr} {r : List (Int × Int)} {p : Pos} (hu : X.A.units + 65 < cLine) (hd : dspL ks vs = some r) (h0 : r ≠ []) (h15 : r.length ≤ 15) (qb : plainE b = true) (hb : PE X b (tE X.K C cls Wx fb)) : PE X (.Subscript (.Dict ks vs p) b pos) (tE X.K C cls Wx (fdsp r fb)) := by
  obtain ⟨q1, q2, q3, q4, q5⟩ := dsp_pps (X := X) (p := p) hd
  refine PE.imp (pe_dget (by omega) (pe_disp q1 q2 (by rw [q3, q4]) (fun z => h0 (by rw [z] at q3; exact List.eq_nil_of_length_eq_zero q3.symm)) (by omega)) hb (noSl qb)) ?_
  rintro σ H Q ⟨F, oa, al, ρ, g, hK, hC, R, h⟩
  intro d hd0
  refine dsp_pairs ?_
  refine ⟨upd_same, kvK r, by simp [kvK, kV], by simpa [kvK] using h15, ?_⟩
  rw [upd_upd]
  have st0 : Step F oa oa g H (upd H d (.dK (mergeK [] (kvK r)))) := Step.upd R.gr hd0
  refine Post.bind hK hC (R.step st0) (h.later st0) fun w g1 oa1 y H1 st R1 wo h1 => ?_
  split at h1
  · rename_i n hn
    obtain ⟨z, ez, h2⟩ := Post.of (h1.later st)
    obtain ⟨rfl, _⟩ := wo.int hn
    have hd1 : H1 d = some (.dK (mergeK [] (kvK r))) := st.ext.keep d _ upd_same (.inl fun z => R.nown hd0 (.inl z))
    cases e9 : r.find? (fun p => decide (p.1 = n)) with
    | none => rw [e9] at ez; cases ez
    | some q =>
      rw [e9] at ez
      obtain rfl := Option.some.inj ez
      refine ⟨d, V.int q.2, rfl, ?_, h2.here R1 (.old (.int _))⟩
      have := DGet.k (k := Sum.inl n) hd1
      rw [kvK_find n r [] q5, e9] at this
      exact this
  · exact h1.elim
end
end TP
/-! What is caught, and told. -/
namespace TP
open PySem L2
/-- isinstance of the exception that is pinned -/
theorem call_isP {X : Cx} {a D : Addr} {oe : Obj} (hp : (a, oe) ∈ X.pn) (C : ExcC X.K D) (hz : Zc (.ref D) none oe) (hf : ∃ vs, oe.data = .fields vs) : CallR X (.builtin "isinstance") (rIsE X.K D a) := by
  rintro pins s σ H xs us Q I r ⟨c, cv, b, rfl, hcv, e, q⟩
  obtain ⟨u1, u2, rfl, r1, r2⟩ := vals2 r
  cases r1
  have ec := hcv _ r2
  subst ec
  have hget := (I.pin (a, oe) (List.mem_append_left _ hp)).1
  obtain ⟨vs, hv⟩ := hf
  obtain ⟨oc, od, oda, osl⟩ := oe
  obtain ⟨h1, h2⟩ := hz
  dsimp only at h1 h2 hv
  subst h1 h2 hv
  have J : PySem.W.InstAt s.heap a ⟨.ref D, none, .fields vs, osl⟩ D none := ⟨hget, rfl, rfl, trivial⟩
  exact PySem.W.kia_one (PySem.W.handS_kitx_exc C.hg C.hk C.hs C.hd C.ha C.hn C.ht C.hm) I.kIn J e (fun z => nomatch z) fun tk => ⟨.bl b, H, I.tok tk, rfl, q⟩
section
open PySem.Spec PyProof.Rows
/-- a def called where an exception is handled: the object that is handled is known to its body -/
theorem run_pin {CX : CXT} {P : Program} {w : World} {K : PySem.W.Frag} {mg : Str → Option Value} {base : Heap} {k : Nat} {f : Addr} {name qual : Str} {params : Arguments} {body : List Stmt} {scope : Scope} {dV kV doc pm cdv ct oc : Value} {an od : Option Addr}
    {osl : Array (Option Value)} {N ps : List Str} {A : Around} {outer : List Env} {s : Shared} {H : Hp} {args : Args} {us : List Value} {vs : List V} {Q : VK} {E : XK} {p : Addr × Obj} {t : TS}
    (lk : K.lookup f = some ⟨oc, od, .func (PySem.W.fnOf name qual params body scope dV kV doc pm an cdv ct), osl⟩) (hcd : PySem.W.codeIn K cdv qual = true) (S : FnScope N ps scope) (hl : vs.length = ps.length)
    (hr : L2H.RoomH (k + 1) A) (hpin : L2H.PinOk outer H s p) (e0 : Env0 P w K mg base A outer s H) (hb : BindsTo s (PySem.W.fnOf name qual params body scope dV kV doc pm an cdv ct) args (ps.zip us)) (r : Vals vs us)
    (hbody : PSs (L2H.cxH CX P w K mg base N qual scope f cdv A outer s H E p) body t) (hq : t { nx := fun _ H' => Q .non H', rt := Q } (L2.start N vs) H) : codeAny (model P w) A (.call (.ref f) args) (CR CX outer P w H s Q E) s := by
  have kx : K.In s.heap := e0.mod.kin.keeps fun b o e => (e0.bs b o e).1
  have nl : s.heap.NoLimit := e0.mod.nolimit.keeps fun b o e => (e0.bs b o e).1
  refine codeAny_call_function hr.depth (kx _ _ lk) rfl S.co S.gen rfl (PySem.W.codeRec_of kx hcd) (hb _ _ _ _ (wpAny_newFunctionEnv_cells S.kind (fun y hy => ?_) fun env he s1 x => ?_))
  · obtain ⟨n, v⟩ := y
    cases S.par n (List.of_mem_zip hy).1 with
    | inl q => exact .inl q
    | inr q => exact .inr ⟨q, PySem.W.cellsFrom_some _ _ _ (.inl q)⟩
  subst he
  refine ⟨nl.keeps x.toInCall.keep, codeAny_func ?_⟩
  have I := L2H.inv_startH (E := E) (CX := CX) S hpin e0 hl r x
  have out : ∀ {σ' : L2.St} {H' : Hp} {v : V} {u : Value} {s' : Shared}, Inv (L2H.cxH CX P w K mg base N qual scope f cdv A outer s H E p) [] σ' H' s' → RelV v u → Q v H' → L2.CE outer P w H s Q u s' := fun {σ' H' v u s'} J rv q => ⟨v, H', J.os, J.bare, J.base, J.hok, rv, q⟩
  refine wpAny_mono (hbody.run [] s1 (L2.start N vs) H _ I hq) (fun fl s' h => ?_) fun _ _ h => h
  cases fl with
  | ret u => obtain ⟨v, σ', H', J, rv, q⟩ := h; exact out J rv q
  | next => obtain ⟨σ', H', J, q⟩ := h; exact out (v := V.non) (u := Value.none) J rfl q
  | brk => obtain ⟨_, _, _, q⟩ := h; exact q.elim
  | cont => obtain ⟨_, _, _, q⟩ := h; exact q.elim
end
end TP
/-! _law_which. -/
namespace TP
open PySem L2
/-- what the body of _law_which needs to know: b j says whether the exception is of the j-th class -/
structure WhichCx (Y : Cx) (a D : Addr) (Es : Nat → Addr) (c : Nat) : Prop where
  N0 : Y.N[0]? = some ("_law_e" : Str)
  N1 : Y.N[1]? = some ("_law_own" : Str)
  nd : Y.N.Nodup
  l0 : Y.env.scope.names.lookup ("_law_e" : Str) = some .local
  l1 : Y.env.scope.names.lookup ("_law_own" : Str) = some .local
  isi : CallR Y (.builtin "isinstance") (rIsE Y.K D a)
  gI : Gl Y "isinstance"
  mI : Y.mg "isinstance" = none
  gV : Gl Y "ValueError"
  mV : Y.mg "ValueError" = none
  kV : PySem.W.kitOne Y.K (.ref D) (.type "ValueError") = some true
  kE : ∀ j, j < 11 → PySem.W.kitOne Y.K (.ref D) (.ref (Es j)) = some (decide (j = c))
  gE : ∀ x j, (x, j) ∈ [(("InvalidPlayers" : Str), 0), ("InvalidThree", 1), ("InvalidPlan", 2), ("InvalidPlayer", 3), ("InvalidFour", 4), ("InvalidNames", 5), ("NoPlan", 6), ("NoDays", 7), ("MetAlready", 8), ("NothingToUndo", 9), ("ParseError", 10)] → Gl Y x ∧ Y.mg x = some (.ref (Es j))
  hu : Y.A.units + 65 < cLine
section
variable {Y : Cx} {a D : Addr} {Es : Nat → Addr} {c : Nat}
def tIs (a : Addr) (b : Bool) : TE := fun σ H Q => σ[0]? = some (some (.ref a)) ∧ Q (.bl b) H
theorem wh_is (W : WhichCx Y a D Es c) {x : Str} {j : Nat} (h : (x, j) ∈ [(("InvalidPlayers" : Str), 0), ("InvalidThree", 1), ("InvalidPlan", 2), ("InvalidPlayer", 3), ("InvalidFour", 4), ("InvalidNames", 5), ("NoPlan", 6), ("NoDays", 7), ("MetAlready", 8), ("NothingToUndo", 9), ("ParseError", 10)]) (hj : j < 11) (hd : (x == ("__debug__" : Str)) = false)
    {p1 p2 p3 pos : Pos} : PE Y (.Call (.Name "isinstance" p1) [.Name "_law_e" p2, .Name x p3] [] pos) (tIs a (decide (j = c))) := by
  obtain ⟨g, m⟩ := W.gE x j h
  refine PE.imp (pe_callB (id := "isinstance") W.isi W.gI W.mI (by decide +kernel) (pa2 rfl rfl (pe_var W.N0 (.inl W.l0)) (pe_glob (v := .ref (Es j)) g m rfl hd))) ?_
  rintro σ H Q ⟨h0, q⟩
  exact ⟨_, h0, .ref (Es j), .ref (Es j), _, rfl, fun u r => r, W.kE j hj, q⟩
theorem wh_val (W : WhichCx Y a D Es c) {p1 p2 p3 pos : Pos} : PE Y (.Call (.Name "isinstance" p1) [.Name "_law_e" p2, .Name "ValueError" p3] [] pos) (tIs a true) := by
  refine PE.imp (pe_callB (id := "isinstance") W.isi W.gI W.mI (by decide +kernel) (pa2 rfl rfl (pe_var W.N0 (.inl W.l0)) (pe_bltn (v := .ty "ValueError") (u := .type "ValueError") W.gV W.mV (by decide +kernel) rfl))) ?_
  rintro σ H Q ⟨h0, q⟩
  exact ⟨_, h0, .ty "ValueError", .type "ValueError", _, rfl, fun u r => r, W.kV, q⟩
/-- what is told of the class -/
def whOwn (c : Nat) (n : Nat) : List V := (List.range n).map fun j => .bl (decide (j = c))
theorem wh_dp {K : PySem.W.Frag} {H : Hp} : ∀ bs : List Bool, DpAll K H (bs.map V.bl) (bs.map PyData.bool)
  | [] => .nil
  | _ :: r => .cons (.bl _) (wh_dp r)
def Keeps (H H' : Hp) : Prop := (∀ b o, H b = some o → H' b = some o) ∧ ∀ b, H' b = none → H b = none
def tWh (a : Addr) (c : Nat) : TS := fun D σ H => σ = [some (.ref a), none] ∧ ∀ p H', Keeps H H' → H p = none → H' p = some (.tup [.str "raised", .int (c : Nat)]) → D.rt (.ref p) H'
theorem wh_ext {H Hc : Hp} {q q2 : Addr} {L Z : List V} (h1 : Hc q = some (.lst L)) (k : Keeps H Hc) (hq : H q = none) (h2 : Hc q2 = none) :
    upd Hc q2 (.lst Z) q = some (.lst L) ∧ upd (upd Hc q2 (.lst Z)) q (.lst (L ++ Z)) q = some (.lst (L ++ Z)) ∧ Keeps H (upd (upd Hc q2 (.lst Z)) q (.lst (L ++ Z))) := by
  have n : q ≠ q2 := ne_of_none h1 h2
  refine ⟨by rw [upd_ne n]; exact h1, upd_same, fun b o e => ?_, fun b e => ?_⟩
  · rw [upd_ne (ne_of_none e hq), upd_ne (ne_of_none (k.1 b o e) h2)]
    exact k.1 b o e
  · by_cases hb : b = q
    · subst hb; rw [upd_same] at e; cases e
    · rw [upd_ne hb] at e
      by_cases hb2 : b = q2
      · subst hb2; rw [upd_same] at e; cases e
      · rw [upd_ne hb2] at e
        exact k.2 b e
theorem wh_count : ∀ c : Nat, c < 11 → (((List.range 11).map fun j => PyData.bool (decide (j = c))).countP fun z => PyData.eqv z (.bool true)) = 1 := by decide
theorem wh_find : ∀ c : Nat, c < 11 → ((List.range 11).map fun j => PyData.bool (decide (j = c)))[c]? = some (.bool true) ∧ ∀ m, m < c → ∀ z', ((List.range 11).map fun j => PyData.bool (decide (j = c)))[m]? = some z' → PyData.eqv z' (.bool true) = false := by
  intro c hc
  refine ⟨by rw [List.getElem?_map, List.getElem?_range hc]; simp, fun m hm z' hz => ?_⟩
  rw [List.getElem?_map, List.getElem?_range (by omega)] at hz
  obtain rfl := Option.some.inj hz
  show PyData.eqv (.bool (decide (m = c))) (.bool true) = false
  rw [decide_eq_false (by omega)]
  rfl
theorem wh_shaped (c : Nat) (hc : c < 11) : SeqAt.shaped (.list ((List.range 11).map fun j => PyData.bool (decide (j = c)))) = true := by
  revert c
  decide
theorem which_body (W : WhichCx Y a D Es c) (hc : c < 11) {p1 p2 p3 p4 p5 p6 p7 p8 p9 p10 p11 p12 p13 p14 p15 p16 p17 p18 p19 p20 p21 p22 p23 p24 p25 p26 p27 p28 p29 p30 p31 p32 p33 p34 p35 p36 p37 p38 p39 p40 p41 p42 p43 p44 p45 p46 p47 p48 p49 p50 p51 p52 p53 p54 p55 p56 p57 p58 p59 p60 p61 p62 p63 p64 p65 p66 p67 p68 p69 p70 p71 p72 p73 p74 p75 p76 p77 p78 p79 p80 p81 p82 p83 p84 p85 p86 p87 : Pos} {j1 j2 j3 j4 j5 j6 : Nat} {kk1 kk2 : Nat}
    (e1 : (p17.endLine == p31.line) = true) (e2 : (p34.endLine == p48.line) = true) (e3 : (p51.endLine == p61.line) = true) (e4 : (p64.endLine == p66.line) = true) (e5 : (p83.endLine == p85.line) = true) :
    PSs Y [.Assign [.Name "_law_own" p1] (.List [.Call (.Name "isinstance" p2) [.Name "_law_e" p3, .Name "InvalidPlayers" p4] [] p5, .Call (.Name "isinstance" p6) [.Name "_law_e" p7, .Name "InvalidThree" p8] [] p9, .Call (.Name "isinstance" p10) [.Name "_law_e" p11, .Name "InvalidPlan" p12] [] p13] p14) p15,
      .Expr (.Call (.Attribute (.Name "_law_own" p16) "extend" p17) [.List [.Call (.Name "isinstance" p18) [.Name "_law_e" p19, .Name "InvalidPlayer" p20] [] p21, .Call (.Name "isinstance" p22) [.Name "_law_e" p23, .Name "InvalidFour" p24] [] p25, .Call (.Name "isinstance" p26) [.Name "_law_e" p27, .Name "InvalidNames" p28] [] p29] p30] [] p31) p32,
      .Expr (.Call (.Attribute (.Name "_law_own" p33) "extend" p34) [.List [.Call (.Name "isinstance" p35) [.Name "_law_e" p36, .Name "NoPlan" p37] [] p38, .Call (.Name "isinstance" p39) [.Name "_law_e" p40, .Name "NoDays" p41] [] p42, .Call (.Name "isinstance" p43) [.Name "_law_e" p44, .Name "MetAlready" p45] [] p46] p47] [] p48) p49,
      .Expr (.Call (.Attribute (.Name "_law_own" p50) "extend" p51) [.List [.Call (.Name "isinstance" p52) [.Name "_law_e" p53, .Name "NothingToUndo" p54] [] p55, .Call (.Name "isinstance" p56) [.Name "_law_e" p57, .Name "ParseError" p58] [] p59] p60] [] p61) p62,
      .If (.BoolOp .Or [.Compare (.Call (.Attribute (.Name "_law_own" p63) "count" p64) [.Constant (.bool true) j1 p65] [] p66) [.NotEq] [.Constant (.int 1) j2 p67] p68, .UnaryOp .Not (.Call (.Name "isinstance" p69) [.Name "_law_e" p70, .Name "ValueError" p71] [] p72) p73] p74) [.Return (some (.Tuple [.Constant (.str "raised") j3 p75, .UnaryOp .USub (.Constant (.int 1) j4 p76) p77] kk1 p78)) p79] [] p80,
      .Return (some (.Tuple [.Constant (.str "raised") j5 p81, .Call (.Attribute (.Name "_law_own" p82) "index" p83) [.Constant (.bool true) j6 p84] [] p85] kk2 p86)) p87] (tWh a c) := by
  have own : ∀ {p : Pos}, PE Y (.Name "_law_own" p) (tVar 1) := pe_var W.N1 (.inl W.l1)
  have is : ∀ {x : Str} {j : Nat} (h : (x, j) ∈ [(("InvalidPlayers" : Str), 0), ("InvalidThree", 1), ("InvalidPlan", 2), ("InvalidPlayer", 3), ("InvalidFour", 4), ("InvalidNames", 5), ("NoPlan", 6), ("NoDays", 7), ("MetAlready", 8), ("NothingToUndo", 9), ("ParseError", 10)]) (hj : j < 11) (hd : (x == ("__debug__" : Str)) = false) {p1 p2 p3 pos : Pos}, PE Y (.Call (.Name "isinstance" p1) [.Name "_law_e" p2, .Name x p3] [] pos) (tIs a (decide (j = c))) := wh_is W
  refine PSs.imp (pss_cons (ps_set (i := 1) W.nd W.N1 (.inl W.l1) (pe_lst (pa_cons (is (j := 0) (by simp) (by decide) (by decide)) (pa_cons (is (j := 1) (by simp) (by decide) (by decide)) (pa_cons (is (j := 2) (by simp) (by decide) (by decide)) pa_nil)))) rfl (.inr W.l1))
    (pss_cons (ps_expr (pe_bm PySem.F.plainAttrs_list PySem.F.slot_list_extend PySem.F.type_list_extend mt_extend own (pa_cons (pe_lst (pa_cons (is (j := 3) (by simp) (by decide) (by decide)) (pa_cons (is (j := 4) (by simp) (by decide) (by decide)) (pa_cons (is (j := 5) (by simp) (by decide) (by decide)) pa_nil)))) pa_nil) rfl rfl e1))
    (pss_cons (ps_expr (pe_bm PySem.F.plainAttrs_list PySem.F.slot_list_extend PySem.F.type_list_extend mt_extend own (pa_cons (pe_lst (pa_cons (is (j := 6) (by simp) (by decide) (by decide)) (pa_cons (is (j := 7) (by simp) (by decide) (by decide)) (pa_cons (is (j := 8) (by simp) (by decide) (by decide)) pa_nil)))) pa_nil) rfl rfl e2))
    (pss_cons (ps_expr (pe_bm PySem.F.plainAttrs_list PySem.F.slot_list_extend PySem.F.type_list_extend mt_extend own (pa_cons (pe_lst (pa_cons (is (j := 9) (by simp) (by decide) (by decide)) (pa_cons (is (j := 10) (by simp) (by decide) (by decide)) pa_nil))) pa_nil) rfl rfl e3))
    (pss_cons (ps_if (pw_or (pt_cmpR op_ne (pe_bm PySem.F.plainAttrs_list PySem.F.slot_list_count PySem.F.type_list_count (mt_countD W.hu) own (pa_cons pe_bl pa_nil) rfl rfl e4) pe_int rfl) (pw_or1 (pt_not (pt_val (wh_val W) fun _ => rfl)))).pt (pss_one ps_never) pss_nil)
    (pss_one (ps_ret (pe_tup (pa_cons pe_str (pa_cons (pe_bm PySem.F.plainAttrs_list PySem.F.slot_list_index PySem.F.type_list_index (mt_indexD W.hu) own (pa_cons pe_bl pa_nil) rfl rfl e5) pa_nil)))))))))) ?_
  rintro D σ H ⟨rfl, fin⟩
  refine ⟨rfl, rfl, rfl, by rw [sizeLine_eq]; show 3 ≤ _; decide, fun q hq => ?_⟩
  have k0 : Keeps H (upd H q (.lst [.bl (decide (0 = c)), .bl (decide (1 = c)), .bl (decide (2 = c))])) := ⟨fun b o e => by rw [upd_ne (ne_of_none e hq)]; exact e, fun b e => by
    by_cases hb : b = q
    · subst hb; exact hq
    · rw [upd_ne hb] at e; exact e⟩
  have h0 : upd H q (.lst [.bl (decide (0 = c)), .bl (decide (1 = c)), .bl (decide (2 = c))]) q = some (.lst [.bl (decide (0 = c)), .bl (decide (1 = c)), .bl (decide (2 = c))]) := upd_same
  generalize upd H q (.lst [.bl (decide (0 = c)), .bl (decide (1 = c)), .bl (decide (2 = c))]) = H0 at *
  refine ⟨.ref q, rfl, .inl ⟨rfl, _, SqL.of h0⟩, ⟨rfl, rfl, rfl, by rw [sizeLine_eq]; show 3 ≤ _; decide, fun q2 hq2 => ?_⟩⟩
  obtain ⟨x1, h1, k1⟩ := wh_ext (Z := [.bl (decide (3 = c)), .bl (decide (4 = c)), .bl (decide (5 = c))]) h0 k0 hq hq2
  refine ⟨q, q2, _, _, rfl, rfl, x1, upd_same, by rw [sizeLine_eq]; show 6 ≤ _; decide, ?_⟩
  generalize upd (upd H0 q2 _) q _ = H1 at *
  refine ⟨.ref q, rfl, .inl ⟨rfl, _, SqL.of h1⟩, ⟨rfl, rfl, rfl, by rw [sizeLine_eq]; show 3 ≤ _; decide, fun q3 hq3 => ?_⟩⟩
  obtain ⟨x2, h2, k2⟩ := wh_ext (Z := [.bl (decide (6 = c)), .bl (decide (7 = c)), .bl (decide (8 = c))]) h1 k1 hq hq3
  refine ⟨q, q3, _, _, rfl, rfl, x2, upd_same, by rw [sizeLine_eq]; show 9 ≤ _; decide, ?_⟩
  generalize upd (upd H1 q3 _) q _ = H2 at *
  refine ⟨.ref q, rfl, .inl ⟨rfl, _, SqL.of h2⟩, ⟨rfl, rfl, by rw [sizeLine_eq]; show 2 ≤ _; decide, fun q4 hq4 => ?_⟩⟩
  obtain ⟨x3, h3, k3⟩ := wh_ext (Z := [.bl (decide (9 = c)), .bl (decide (10 = c))]) h2 k2 hq hq4
  refine ⟨q, q4, _, _, rfl, rfl, x3, upd_same, by rw [sizeLine_eq]; show 11 ≤ _; decide, ?_⟩
  generalize upd (upd H2 q4 _) q _ = H3 at *
  have d3 : Dp Y.K H3 (.ref q) (.list ((List.range 11).map fun j => PyData.bool (decide (j = c)))) := .lst (SqL.of h3) (wh_dp [decide (0 = c), decide (1 = c), decide (2 = c), decide (3 = c), decide (4 = c), decide (5 = c), decide (6 = c), decide (7 = c), decide (8 = c), decide (9 = c), decide (10 = c)])
  refine ⟨.ref q, rfl, .inl ⟨rfl, _, SqL.of h3⟩, q, .bl true, .bool true, _, rfl, rfl, d3, .bl true, wh_shaped c hc, by decide, ?_⟩
  rw [wh_count c hc]
  refine ⟨rfl, false, rfl, iteF ?_⟩
  refine ⟨rfl, true, rfl, iteF ?_⟩
  obtain ⟨f1, f2⟩ := wh_find c hc
  refine ⟨.ref q, rfl, .inl ⟨rfl, _, SqL.of h3⟩, q, .bl true, .bool true, _, c, .bool true, rfl, rfl, d3, .bl true, wh_shaped c hc, by decide, f1, by decide, (fun m z hm hz => f2 m hm z hz), ?_⟩
  refine ⟨by rw [sizeLine_eq]; show 2 ≤ _; decide, fun p hp => fin p _ ⟨fun b o e => ?_, fun b e => ?_⟩ (k3.2 p hp) upd_same⟩
  · rw [upd_ne (ne_of_none (k3.1 b o e) hp)]
    exact k3.1 b o e
  · by_cases hb : b = p
    · subst hb; rw [upd_same] at e; cases e
    · rw [upd_ne hb] at e
      exact k3.2 b e
end
end TP
/-! try: .. except PlanError as e: return _law_which(e). -/
namespace TP
open PySem L2
def exNames : List (Str × Nat) := [("InvalidPlayers", 0), ("InvalidThree", 1), ("InvalidPlan", 2), ("InvalidPlayer", 3), ("InvalidFour", 4), ("InvalidNames", 5), ("NoPlan", 6), ("NoDays", 7), ("MetAlready", 8), ("NothingToUndo", 9), ("ParseError", 10)]
structure WhTxt (K : PySem.W.Frag) (mg : Str → Option Value) (cls : Nat → Addr) (f PE : Addr) (st : Stmt) : Prop where
  mf : mg "_law_which" = some (.ref f)
  fn : ∃ fd, Fun K "_law_which" "_law_which" st f fd ∧ Binds K fd ["_law_e"] []
  sc : FnScope ["_law_e", "_law_own"] ["_law_e"] (defScope st)
  l0 : (defScope st).names.lookup ("_law_e" : Str) = some .local
  l1 : (defScope st).names.lookup ("_law_own" : Str) = some .local
  gI : (defScope st).names.lookup ("isinstance" : Str) = some .globalImplicit
  gV : (defScope st).names.lookup ("ValueError" : Str) = some .globalImplicit
  gE : ∀ x j, (x, j) ∈ exNames → (defScope st).names.lookup x = some .globalImplicit ∧ mg x = some (.ref (cls j))
  mI : mg "isinstance" = none
  mV : mg "ValueError" = none
  mP : mg "PlanError" = some (.ref PE)
  kV : ∀ c, c < 11 → PySem.W.kitOne K (.ref (cls c)) (.type "ValueError") = some true
  kE : ∀ c j, c < 11 → j < 11 → PySem.W.kitOne K (.ref (cls c)) (.ref (cls j)) = some (decide (j = c))
  ex : ∀ c, c < 11 → ExcC K (cls c)
  xm : ∀ c, c < 11 → PySem.W.exmOne K (.ref (cls c)) (.ref PE) = some true
  bd : ∀ (Y : Cx) (a D : Addr) (Es : Nat → Addr) (c : Nat), WhichCx Y a D Es c → c < 11 → PSs Y (defBody st) (tWh a c)
section
variable {X : Cx} {cls : Nat → Addr} {f PE : Addr} {st : Stmt}
def tWhC (i : Nat) (a : Addr) (c : Nat) : TE := fun σ H Q => σ[i]? = some (some (.ref a)) ∧ ∀ p H', Keeps H H' → H p = none → H' p = some (.tup [.str "raised", .int (c : Nat)]) → Q (.ref p) H'
open PySem.Spec PyProof.Rows in
theorem which_pe {a : Addr} {oe : Obj} {pn : List (Addr × Obj)} {c i : Nat} {en : Str} {q p3 p4 : Pos} (T : WhTxt X.K X.mg cls f PE st) (hc : c < 11) (hz : Zc (.ref (cls c)) none oe) (hf : ∃ vs : Array Value, oe.data = .fields vs) (hr : Room 1 X.A)
    (hg : Gl X "_law_which") (hN : X.N[i]? = some en) (hv : Vis X.env.scope en) (hd : (en == ("__debug__" : Str)) = false) (hcd' : (en == ("__classdict__" : Str)) = false) :
    L2.PE (X.suite a ((a, oe) :: pn)) (.Call (.Name "_law_which" q) [.Name en p3] [] p4) (tWhC i a c) := by
  refine ⟨fun pins s σ H Q I h => ?_⟩
  obtain ⟨h0, hq⟩ := h
  obtain ⟨fd, F, hb⟩ := T.fn
  obtain ⟨oc, od, kV, doc, pm, an, cdv, ct, osl, rfl, lk, hcd⟩ := F.ex
  refine wpAny_Call_Name_kw (ld_glob I hg T.mf ?_ (by decide))
  have ha : PA (X.suite a ((a, oe) :: pn)) [.Name en p3] (tCons (tVar i) tNil) := pa_cons (pe_var hN hv hd hcd') pa_nil
  refine PySem.W.callWith_K (h₀ := X.base) I.ok.mod.kin F.kp (thn (ha.run p4 pins s σ H (fun vs H1 => vs = [V.ref a] ∧ H1 = H) I ⟨_, h0, rfl, rfl⟩) fun us s1 ⟨vs, H1, I1, r, e1, e2⟩ => ⟨I1.kIn, ?_⟩) rfl rfl
  subst e1
  subst e2
  have hl : us.length = 1 := by rw [← r.length]; rfl
  have b := hb s1 us I1.kIn (by rw [List.append_nil]; exact hl)
  rw [List.append_nil] at b
  have pin := I1.pin (a, oe) (List.mem_append_left _ List.mem_cons_self)
  obtain ⟨av, hd1⟩ := hf
  have hpin : L2H.PinOk X.stack H1 s1 (a, oe) := ⟨pin.1, pin.2.1, fun hm => (List.mem_cons.mp (I1.stkSub a hm)).elim pin.2.2.1 pin.2.2.2.1, pin.2.2.2.2⟩
  refine wpAny_call (codeAny_mono (run_pin (k := 0) (CX := L2.CX X.prog X.w) (E := E0) (p := (a, oe)) (vs := [V.ref a]) (N := ["_law_e", "_law_own"]) (t := tWh a c) (Q := Q) lk hcd T.sc rfl ⟨hr.dp, hr.un⟩ hpin I1.env0 b r ?_ ?_) fun res s' h => ?_)
  · refine T.bd _ a (cls c) cls c ?_ hc
    exact
      { N0 := rfl, N1 := rfl, nd := T.sc.nd, l0 := T.l0, l1 := T.l1
        isi := call_isP (X := L2H.cxH _ _ _ _ _ _ _ _ _ _ _ _ _ _ _ _ _) (List.mem_singleton.mpr rfl) (T.ex c hc) hz ⟨av, hd1⟩
        gI := T.gI, mI := T.mI, gV := T.gV, mV := T.mV, kV := T.kV c hc, kE := fun j hj => T.kE c j hc hj, gE := fun x j h => T.gE x j h
        hu := by have := hr.un; show X.A.units + 3 + 65 < _; omega }
  · exact ⟨rfl, hq⟩
  · cases res with
    | error e =>
      obtain ⟨_, _, _, _, _, _, _, _, _, _, _, _, z⟩ := h
      exact z.elim
    | ok fl =>
      cases fl with
      | ret u => exact I1.after h
      | next => exact h.elim
      | brk => exact h.elim
      | cont => exact h.elim
/-- grown -/
theorem GRel.grown {F : Fm} {oa : OA} {g : G} {H H' : Hp} (gr : GRel F oa g H) (k : Keeps H H') : GRel F oa g H' := by
  refine ⟨k.1 _ _ gr.tw, ?_, fun i og e => ?_, gr.len, gr.nd, gr.nt⟩
  · rcases gr.sc with ⟨u, hu⟩ | hu
    · exact .inl ⟨u, k.1 _ _ hu⟩
    · exact .inr hu
  · obtain ⟨t, h1, h2, h3, vs, h4, h5⟩ := gr.os i og e
    exact ⟨t, h1, k.1 _ _ h2, k.1 _ _ h3, vs, k.1 _ _ h4, h5.mono (fun a xs _ n => absurd trivial n) fun a xs e => k.1 _ _ e⟩
theorem Step.grown {F : Fm} {oa oa' : OA} {g' : G} {H H1 H' : Hp} (st : Step F oa oa' g' H H1) (k : Keeps H1 H') : Step F oa oa' g' H H' :=
  ⟨⟨fun b o e n => k.1 _ _ (st.ext.keep b o e n), fun b e => st.ext.dom b (k.2 b e)⟩, st.gr.grown k, st.new, st.le⟩
/-- the slots are as many as the names -/
abbrev WL (n : Nat) (W : WX) : WX := fun cls d σ H => σ.length = n → W cls d σ H
theorem takes_len {X : Cx} {W : WX} (tk : Takes X W) : Takes X (WL X.N.length W) := fun u s' ⟨a, B, sI, pins, σ, H, cls, d, e, I, nb, up, sky, na, os, ag, w⟩ =>
  tk u s' ⟨a, B, sI, pins, σ, H, cls, d, e, I, nb, up, sky, na, os, ag, w I.len⟩
def ftry (fb : Env' → G → Out) : Env' → G → Out := fun ρ g => match fb ρ g with
    | .ex c g1 => if c < 11 then .rt (.d (told c)) g1 else .no
    | o => o
theorem fs_try {C : Addr} {Wx : WX} {fb : Env' → G → Out} {body : List Stmt} {en : Str} {i : Nat} {np pos pos' q p3 p4 p5 : Pos} (T : WhTxt X.K X.mg cls f PE st) (hs : X.stack = X.env :: X.outer) (hfr : X.env.frame = some X.env.locals) (hr : Room 1 X.A)
    (hNn : X.N.Nodup) (hi : X.N[i]? = some en) (hln : X.env.scope.names.lookup en = some .local) (hd : (en == ("__debug__" : Str)) = false) (hcd : (en == ("__classdict__" : Str)) = false) (hgP : Gl X "PlanError") (hgW : Gl X "_law_which") (tk : Takes X Wx)
    (hb : ∀ (W : WX) (pn : List (Addr × Obj)) (xe : Value → Shared → Prop), Takes (X.tr pn xe) W → PassesOwn (model X.prog X.w) X.A X.env xe → PSs (X.tr pn xe) body (tS X.K C cls W fb)) :
    PS X (.Try body [.ExceptHandler (some (.Name "PlanError" np)) (some en) [.Return (some (.Call (.Name "_law_which" q) [.Name en p3] [] p4)) p5] pos'] [] [] pos) (tS X.K C cls Wx (ftry fb)) := by
  refine PS.imp (ps_try_as (tb := fun W => tS X.K C cls (WL X.N.length W) fb) (ts := fun a cv d D σ H => ∃ c, c < 11 ∧ cv = .ref (cls c) ∧ d = none ∧ tRet (tWhC i a c) D σ H) (c := .ref PE) hs hfr hNn hi hln ⟨hgP, by decide, .inl T.mP⟩ tk (fun W pn xe tkW ps => hb _ pn xe (takes_len tkW) ps) fun a oe cv d pn hz hf => ?_) ?_
  · refine ⟨fun pins s σ H D I h => ?_⟩
    obtain ⟨c, hc, rfl, rfl, h⟩ := h
    exact (pss_one (ps_ret (which_pe T hc hz hf hr hgW hi (.inl hln) hd hcd))).run pins s σ H D I h
  · rintro D σ H ⟨F, oa, al, ρ, g, hK, hC, R, h⟩
    refine ⟨F, oa, al, ρ, g, hK, hC, R, ?_⟩
    unfold ftry at h
    cases e : fb ρ g with
    | no => rw [e] at h; exact h
    | nx ρ' g' => rw [e] at h; exact h
    | rt w g' => rw [e] at h; exact h
    | ex c g1 =>
      rw [e] at h
      dsimp only at h
      split at h
      · rename_i hc
        intro oa' σ' H' st hlen
        refine ⟨true, T.xm c hc, fun _ a ha => ⟨c, hc, rfl, rfl, ?_⟩, fun z => absurd z (by decide)⟩
        have hil : i < σ'.length := by
          rw [hlen]
          exact (List.getElem?_eq_some_iff.mp hi).1
        refine ⟨List.getElem?_set_self hil, fun p H2 k hp e2 => ?_⟩
        exact h oa' _ H2 (st.grown k) (.tup e2 (.cons (.str _) (.cons (.int _) .nil)))
      · exact h.elim
end
end TP
/-! From the Python text to the small Python. -/
namespace TP
open PySem L2
structure Sc where
  N : List Str
  scope : Scope
  wr : List (Str × NameKind)
  own : List Str
  dct : List Str
  fs : List (Str × Nat × Nat)
  cs : List (Str × Nat)
  gs : List (Str × Str)
  scr : Str
  twn : Str
  tr : Bool
/-- a block's scope: what is free there and a cell outside is a cell -/
def relS (s p : Scope) : Scope := { s with names := s.names.map fun (n, k) => if (k == NameKind.free && p.kind == .function && p.names.lookup n == some .cell) then (n, NameKind.cell) else (n, k) }
def Sc.blk (sc : Sc) (s : Scope) : Sc := { sc with scope := relS s sc.scope, wr := s.names, tr := false }
def findIx (x : Str) : List Str → Nat → Option Nat
  | [], _ => none
  | y :: r, k => if x == y then some k else findIx x r (k + 1)
theorem findIx_get {x : Str} : ∀ {l : List Str} {k i : Nat}, findIx x l k = some i → ∃ j, i = k + j ∧ l[j]? = some x
  | y :: r, k, i, h => by
    unfold findIx at h
    split at h
    · rename_i e
      obtain rfl := Option.some.inj h
      obtain rfl : x = y := by simpa using e
      exact ⟨0, rfl, rfl⟩
    · obtain ⟨j, rfl, h2⟩ := findIx_get h
      exact ⟨j + 1, by omega, by simpa using h2⟩
def Sc.ix (sc : Sc) (x : Str) : Option Nat := findIx x sc.N 0
theorem Sc.ix_get {sc : Sc} {x : Str} {i : Nat} (h : sc.ix x = some i) : sc.N[i]? = some x := by
  obtain ⟨j, rfl, h2⟩ := findIx_get h
  simpa using h2
def Sc.vis (sc : Sc) (x : Str) : Bool := match sc.scope.names.lookup x with
  | some .local => true
  | some .cell => true
  | some .free => true
  | _ => false
def Sc.loc (sc : Sc) (x : Str) : Bool := match sc.scope.names.lookup x with
  | some .local => true
  | some .cell => sc.wr.lookup x == some .cell
  | _ => false
def Sc.isL (sc : Sc) (x : Str) : Bool := match sc.scope.names.lookup x with
  | some .local => true
  | _ => false
def Sc.gl (sc : Sc) (x : Str) : Bool := match sc.scope.names.lookup x with
  | some .globalImplicit => true
  | _ => false
def okN (x : Str) : Bool := !(x == ("__debug__" : Str)) && !(x == ("__classdict__" : Str)) && !(x == ("__name__" : Str))
def opOf : Operator → Option O2
  | .Add => some .add | .Sub => some .sub | .Mult => some .mul | .FloorDiv => some .fdiv | .Mod => some .mod | .Pow => some .pow
  | _ => none
def cOf : CmpOp → Option O2
  | .Eq => some .eq | .NotEq => some .ne | .Lt => some .lt | .LtE => some .le | .Gt => some .gt | .GtE => some .ge | .Is => some .is | .IsNot => some .isnt | .In => some .inn | .NotIn => some .notin
theorem opOf_ok {op : Operator} {o : O2} (h : opOf op = some o) : bop? o = some op := by
  cases op <;> first | (cases h; rfl) | cases h
theorem cOf_ok {op : CmpOp} {o : O2} (h : cOf op = some o) : cop? o = some op := by
  cases op <;> first | (cases h; rfl) | cases h
def nB (x : Str) : Option Bl :=
  if x == ("len" : Str) then some .len else if x == ("tuple" : Str) then some .tup else if x == ("list" : Str) then some .lst else if x == ("all" : Str) then some .all else if x == ("any" : Str) then some .any
  else if x == ("min" : Str) then some .min2 else if x == ("max" : Str) then some .max2 else if x == ("sorted" : Str) then some .sorted else none
def nT (x : Str) : Option Ty := if x == ("int" : Str) then some .int else if x == ("bool" : Str) then some .bool else if x == ("tuple" : Str) then some .tuple else if x == ("str" : Str) then some .str else none
/-! ### compiling -/
abbrev CE := Expr → Option E
def compL (f : CE) : List Expr → Option EL
  | [] => some .nil
  | e :: r => (f e).bind fun t => (compL f r).bind fun ts => some (.cons t ts)
def compO (f : CE) : Option Expr → Option OE
  | none => some .non
  | some e => (f e).bind fun t => some (.som t)
def cName (sc : Sc) (x : Str) : Option E := if okN x then (if sc.vis x then (sc.ix x).bind fun i => some (.v i) else if sc.gl x then (sc.gs.lookup x).bind fun z => some (.gs x z) else none) else none
def cConst : Const → Option E
  | .int i => some (.c (.int i))
  | .bool b => some (.c (.bool b))
  | .none => some (.c .none)
  | .str s => some (.c (.str s))
  | _ => none
def isTn : Nat → Expr → Bool
  | 0, _ => false
  | n + 1, e => match e with
    | .IfExp _ _ _ _ => false
    | .Compare _ [_] _ _ => true
    | .Compare _ _ _ _ => false
    | .BoolOp _ es _ => es.all (isTn n)
    | _ => true
theorem isTn_succ : ∀ (n : Nat) (e : Expr), isTn n e = true → isTn (n + 1) e = true
  | 0, e, h => by cases h
  | n + 1, e, h => by
    unfold isTn at h ⊢
    split at h
    · cases h
    · rfl
    · cases h
    · rw [List.all_eq_true] at h ⊢
      exact fun x hx => isTn_succ n x (h x hx)
    · rfl
/-- may be compiled as a test -/
def isT : Expr → Bool := isTn 6
theorem isT_bool {op : BoolOp} {es : List Expr} {p : Pos} (h : isT (.BoolOp op es p) = true) : es.all isT = true := by
  have h : es.all (isTn 5) = true := h
  rw [List.all_eq_true] at h ⊢
  exact fun x hx => isTn_succ 5 x (h x hx)
def cCmp (f : CE) (a : Expr) : List CmpOp → List Expr → Option E
  | [op], [b] => if behindInMarks op b then none else (cOf op).bind fun o => (f a).bind fun ta => (f b).bind fun tb => some (.o2 o ta tb)
  | [op, op'], [b, c] => if lastMarks [op, op'] [b, c] then none else (cOf op).bind fun o => (cOf op').bind fun p => (f a).bind fun ta => (f b).bind fun tb => (f c).bind fun tc => some (.chain o p ta tb tc)
  | _, _ => none
def cSub (f : CE) (a : Expr) : Expr → Option E
  | .Slice lo hi none _ => (f a).bind fun ta => (compO f lo).bind fun tl => (compO f hi).bind fun th => some (.sl ta tl th)
  | .Slice none none (some (.UnaryOp .USub (.Constant (.int 1) _ _) _)) _ => (f a).bind fun ta => some (.rev ta)
  | b => (f a).bind fun ta => (f b).bind fun tb => some (.ix ta tb)
def elLen : EL → Nat
  | .nil => 0
  | .cons _ r => elLen r + 1
/-- len(set(a)) -/
def asSet : List Expr → Option (Str × Expr)
  | [.Call (.Name z _) [a] [] _] => if z == ("set" : Str) then some (z, a) else none
  | _ => none
/-- isinstance(a, T) -/
def asIsi : List Expr → Option (Expr × Str)
  | [a, .Name z _] => some (a, z)
  | _ => none
def cCall (sc : Sc) (f : CE) (x : Str) (args : List Expr) : Option E :=
  if sc.gl x && okN x then
    match sc.fs.lookup x with
    | some (i, n) => (compL f args).bind fun ts => if elLen ts = n then some (.call i ts) else none
    | none =>
      if x == ("isinstance" : Str) then (asIsi args).bind fun p => (nT p.2).bind fun t => if sc.gl p.2 then (f p.1).bind fun ta => some (.isi t ta) else none
      else match asSet args with
        | some (z, a) => if x == ("len" : Str) && sc.gl z then (f a).bind fun ta => some (.blt .lenset (.cons ta .nil)) else none
        | none => (nB x).bind fun b => (compL f args).bind fun ts => if elLen ts = 0 then none else if b = .min2 ∧ elLen ts = 1 then some (.blt .min1 ts) else some (.blt b ts)
  else none
def cTg (sc : Sc) : Expr → Option Tg
  | .Name x _ => if sc.loc x then (sc.ix x).bind fun i => some (.one i) else none
  | .Tuple [.Name x _, .Name y _] _ _ => if sc.loc x && sc.loc y then (sc.ix x).bind fun i => (sc.ix y).bind fun j => some (.two i j) else none
  | .Tuple [.Name x _, .Name y _, .Name z _] _ _ => if sc.loc x && sc.loc y && sc.loc z then (sc.ix x).bind fun i => (sc.ix y).bind fun j => (sc.ix z).bind fun k => some (.three i j k) else none
  | _ => none
def isTup : Expr → Bool
  | .Tuple _ _ _ => true
  | _ => false
def cIter (sc : Sc) (f : CE) (tg : Expr) (it : Expr) : Option I := match it with
  | .Call (.Name x _) args [] _ =>
    if sc.gl x && x == ("range" : Str) then (match args with
      | [a] => (f a).bind fun ta => some (.rng1 ta)
      | [a, b] => (f a).bind fun ta => (f b).bind fun tb => some (.rng2 ta tb)
      | [a, b, c] => (f a).bind fun ta => (f b).bind fun tb => (f c).bind fun tc => some (.rng3 ta tb tc)
      | _ => none)
    else if sc.gl x && x == ("zip" : Str) && isTup tg then (match args with
      | [a, b] => (f a).bind fun ta => (f b).bind fun tb => some (.zip ta tb)
      | _ => none)
    else if sc.gl x && x == ("enumerate" : Str) && isTup tg then (match args with
      | [a] => (f a).bind fun ta => some (.enm ta)
      | _ => none)
    else (f it).bind fun t => some (.seq t)
  | e => (f e).bind fun t => some (.seq t)
/-- the names that a block has for its own, by the target -/
def tgOwn : Tg → Expr → List (Str × Nat)
  | .one i, .Name x _ => [(x, i)]
  | .two i j, .Tuple [.Name x _, .Name y _] _ _ => [(x, i), (y, j)]
  | .three i j k, .Tuple [.Name x _, .Name y _, .Name z _] _ _ => [(x, i), (y, j), (z, k)]
  | _, _ => []
def cIf (f : CE) : List Expr → Option OE
  | [] => some .non
  | [a] => if isT a then (f a).bind fun t => some (.som t) else none
  | _ => none
/-- f: outside; g: in the block -/
def cComp (sc : Sc) (f : CE) (g : CE) (elt : Expr) (gs : List Comprehension) (scope : Scope) : Option E := match gs with
  | [⟨tg, it, ifs, 0⟩] => (cTg (sc.blk scope) tg).bind fun t => if (tgOwn t tg).map (·.2) = t.slots ∧ blkC sc.N sc.scope scope (tgOwn t tg) = true then
      (cIter sc f tg it).bind fun s => (cIf g ifs).bind fun cd => (g elt).bind fun e => some (.comp e t s cd) else none
  | _ => none
/-- defs by their names -/
def pickN (sc : Sc) (n : Nat) : List Expr → Option (List Nat)
  | [] => some []
  | .Name x _ :: r => if sc.gl x && okN x then (sc.fs.lookup x).bind fun p => if p.2 = n then (pickN sc n r).bind fun q => some (p.1 :: q) else none else none
  | _ :: _ => none
/-- the script, the town -/
def cSpec (sc : Sc) (f : CE) : Expr → Option E
  | .Subscript (.Name x _) k _ => if (x == sc.scr || sc.dct.contains x) && sc.vis x && okN x then (sc.ix x).bind fun i => (f k).bind fun t => (if x == sc.scr then some (.six i t) else some (.dget i t)) else none
  | .Call (.Name y _) [.Name x _] [] _ => if y == ("sorted" : Str) && sc.dct.contains x && sc.gl y && sc.vis x && okN x then (sc.ix x).bind fun i => some (.dsort i) else if y == ("len" : Str) && sc.gl y && sc.vis x && okN x then (if x == sc.scr then (sc.ix x).bind fun i => some (.slen i) else if x == sc.twn then (sc.ix x).bind fun i => some (.tlen i) else none) else none
  | .Call (.Name y _) [.Call (.Name z _) [a] [] _] [] _ => if z == ("range" : Str) && sc.gl z && sc.gl y then (f a).bind fun t => (if y == ("list" : Str) then some (.blt .lrng (.cons t .nil)) else if y == ("tuple" : Str) then some (.blt .trng (.cons t .nil)) else none) else none
  | .Call (.Attribute (.Name y p) m ap) [b] [] cp => if ap.endLine == cp.line then (f (.Name y p)).bind fun ta => (f b).bind fun tb => (if m == ("index" : Str) then some (.lidx ta tb) else if m == ("count" : Str) then some (.lcnt ta tb) else none) else none
  | .Compare (.Name x _) [.Eq] [.List [] _] _ => if x == sc.scr && sc.vis x && okN x then (sc.ix x).bind fun i => some (.semp i) else none
  | .Subscript (.Dict ks vs _) k _ => (dspL ks vs).bind fun r => (f k).bind fun t => if r ≠ [] ∧ r.length ≤ 15 then some (.dsp r t) else none
  | .Call (.Subscript (.List ns _) i _) args [] _ => (compL f args).bind fun ts => (pickN sc (elLen ts) ns).bind fun q => (f i).bind fun ti => if q.length ≤ 1000 ∧ elLen ts ≠ 0 then some (.pick q ti ts) else none
  | _ => none
def compE : Nat → Sc → Expr → Option E
  | 0, _, _ => none
  | n + 1, sc, e => match cSpec sc (compE n sc) e with
   | some t => some t
   | none => match e with
    | .Name x _ => cName sc x
    | .Constant c _ _ => cConst c
    | .BinOp a op b _ => (opOf op).bind fun o => (compE n sc a).bind fun ta => (compE n sc b).bind fun tb => some (.o2 o ta tb)
    | .UnaryOp op a _ => match op with
      | .Not => if isT a then (compE n sc a).bind fun t => some (.bno t) else none
      | .USub => (compE n sc a).bind fun t => some (.neg t)
      | _ => none
    | .Compare a ops bs _ => cCmp (compE n sc) a ops bs
    | .BoolOp op es _ => (compL (compE n sc) es).bind fun ts => if elLen ts = 0 then none else match op with
      | .And => some (.ban ts)
      | .Or => some (.bor ts)
    | .IfExp c a b _ => if isT c then (compE n sc c).bind fun tc => (compE n sc a).bind fun ta => (compE n sc b).bind fun tb => some (.ite tc ta tb) else none
    | .Tuple es _ _ => (compL (compE n sc) es).bind fun ts => if elLen ts ≤ 1000 then some (.tup ts) else none
    | .List es _ => (compL (compE n sc) es).bind fun ts => if elLen ts ≤ 1000 then some (.lst ts) else none
    | .Subscript a b _ => cSub (compE n sc) a b
    | .Call (.Name x _) args [] _ => cCall sc (compE n sc) x args
    | .ListComp elt gs scope _ => cComp sc (compE n sc) (compE n (sc.blk scope)) elt gs scope
    | _ => none
end TP
/-! The compiled expression says what the text does. -/
namespace TP
open PySem L2
structure FnAt (P : Program) (w : World) (K : PySem.W.Frag) (mg : Str → Option Value) (base : Heap) (C : Addr) (cls : Nat → Addr) (L : Nat) (x : Str) (n : Nat) (sem : Fn) : Prop where
  ex : ∃ f fd ps, FnOk P w K mg base (L2.CX P w) L f fd ps (spOf K C cls sem ps.length) ∧ ps.length = n ∧ mg x = some (.ref f) ∧ PySem.W.keepIn K (.ref f) = true ∧ Binds K fd ps []
/-- an exception class of the program -/
structure ExAt (K : PySem.W.Frag) (mg : Str → Option Value) (x : Str) (C : Addr) : Prop where
  made : ∀ (X : Cx), X.K = K → X.mg = mg → Gl X x → ∀ (m : Str) (j : Nat) (p p2 pos : Pos), PMk X (.Call (.Name x p) [.Constant (.str m) j p2] [] pos) fun _ H Q => Q (.ref C) none H
def bnames : List Str := ["range", "zip", "enumerate", "len", "set", "tuple", "list", "all", "any", "min", "max", "sorted", "int", "bool", "str", "isinstance"]
/-- what holds of a def's context and of its blocks -/
structure CtxOk (sc : Sc) (X : Cx) (C : Addr) (cls : Nat → Addr) (Φ : Nat → Fn) (L : Nat) (Wx : WX) : Prop where
  N : X.N = sc.N
  scope : X.env.scope = sc.scope
  nd : sc.N.Nodup
  calm : X.calm = true
  room : Room L X.A
  tk : Takes X Wx
  fn : ∀ x, (sc.wr.lookup x == some .cell) = true → X.fn x = true
  kind : sc.scope.kind = .function
  fs : ∀ x i n, sc.fs.lookup x = some (i, n) → FnAt X.prog X.w X.K X.mg X.base C cls L x n (Φ i)
  bl : ∀ x ∈ bnames, X.mg x = none
  cs : ∀ x c, sc.cs.lookup x = some c → ExAt X.K X.mg x (cls c)
  gs : ∀ x z, sc.gs.lookup x = some z → ∃ u, X.mg x = some u ∧ RelV (.str z) u
  pass : PassesOwn (model X.prog X.w) X.A X.env X.xe
  tryOk : sc.tr = true → X.stack = X.env :: X.outer ∧ X.env.frame = some X.env.locals ∧ 1 ≤ L ∧ ∃ f PE st, WhTxt X.K X.mg cls f PE st
section
variable {sc : Sc} {X : Cx} {C : Addr} {cls : Nat → Addr} {Φ : Nat → Fn} {L : Nat} {Wx : WX}
theorem CtxOk.hu (c : CtxOk sc X C cls Φ L Wx) : X.A.units + 67 < cLine := by have := c.room.un; omega
theorem CtxOk.vis (c : CtxOk sc X C cls Φ L Wx) {x : Str} (h : sc.vis x = true) : Vis X.env.scope x := by
  unfold Vis
  rw [c.scope]
  unfold Sc.vis at h
  split at h
  · exact .inl (by assumption)
  · exact .inr (.inl (by assumption))
  · exact .inr (.inr (by assumption))
  · cases h
theorem CtxOk.loc (c : CtxOk sc X C cls Φ L Wx) {x : Str} (h : sc.loc x = true) : L2.Loc X.env.scope x ∧ (X.fn x = true ∨ X.env.scope.names.lookup x = some .local) := by
  unfold L2.Loc
  rw [c.scope]
  unfold Sc.loc at h
  split at h
  · rename_i e
    exact ⟨.inl e, .inr e⟩
  · rename_i e
    exact ⟨.inr e, .inl (c.fn x h)⟩
  · cases h
theorem CtxOk.gl (c : CtxOk sc X C cls Φ L Wx) {x : Str} (h : sc.gl x = true) : Gl X x := by
  show X.env.scope.names.lookup x = _
  rw [c.scope]
  unfold Sc.gl at h
  split at h
  · assumption
  · cases h
theorem CtxOk.ix (c : CtxOk sc X C cls Φ L Wx) {x : Str} {i : Nat} (h : sc.ix x = some i) : X.N[i]? = some x := by rw [c.N]; exact Sc.ix_get h
theorem CtxOk.nd' (c : CtxOk sc X C cls Φ L Wx) : X.N.Nodup := by rw [c.N]; exact c.nd
theorem okN_d {x : Str} (h : okN x = true) : (x == ("__debug__" : Str)) = false ∧ (x == ("__classdict__" : Str)) = false ∧ x ≠ "__name__" := by
  unfold okN at h
  simp only [Bool.and_eq_true, Bool.not_eq_true'] at h
  refine ⟨h.1.1, h.1.2, fun e => ?_⟩
  have := h.2
  rw [e] at this
  simp at this
/-- an expression and its term -/
structure Good (X : Cx) (C : Addr) (cls : Nat → Addr) (Wx : WX) (Φ : Nat → Fn) (e : Expr) (t : E) : Prop where
  pe : PE X e (tE X.K C cls Wx (ev Φ t))
  pt : isT e = true → PT X e (tT X.K C cls Wx (tB' (ev Φ t)))
  pl : plainE e = true
abbrev Snd (X : Cx) (C : Addr) (cls : Nat → Addr) (Wx : WX) (Φ : Nat → Fn) (f : CE) : Prop := ∀ e t, f e = some t → Good X C cls Wx Φ e t
theorem bindS {α β : Type} {o : Option α} {f : α → Option β} {b : β} (h : o.bind f = some b) : ∃ a, o = some a ∧ f a = some b := by
  cases o with
  | none => cases h
  | some a => exact ⟨a, rfl, h⟩
theorem Good.mk' {e : Expr} {t : E} (h : PE X e (tE X.K C cls Wx (ev Φ t))) (pl : plainE e = true) (he : ∀ whole, isTrue e X.env whole = (do let v ← whole; standAt e.pos; holding [v] (truthy v))) : Good X C cls Wx Φ e t :=
  ⟨h, fun _ => ft_val h he, pl⟩
theorem cName_snd (c : CtxOk sc X C cls Φ L Wx) {x : Str} {p : Pos} {t : E} (h : cName sc x = some t) : Good X C cls Wx Φ (.Name x p) t := by
  unfold cName at h
  split at h
  · rename_i ho
    obtain ⟨d1, d2, d3⟩ := okN_d ho
    split at h
    · rename_i hv
      obtain ⟨i, hi, e⟩ := bindS h
      obtain rfl := Option.some.inj e
      exact .mk' (fe_v (c.ix hi) (c.vis hv) d1 d2) rfl fun _ => rfl
    · split at h
      · rename_i hg
        obtain ⟨z, hz, e⟩ := bindS h
        obtain rfl := Option.some.inj e
        obtain ⟨u, hu, r⟩ := c.gs x z hz
        exact .mk' (fe_gs (c.gl hg) hu r d1) rfl fun _ => rfl
      · cases h
  · cases h
theorem cConst_snd {k : Const} {j : Nat} {p : Pos} {t : E} (h : cConst k = some t) : Good X C cls Wx Φ (.Constant k j p) t := by
  cases k <;> first
    | (cases h; exact .mk' fe_int rfl fun _ => rfl)
    | (cases h; exact .mk' fe_bl rfl fun _ => rfl)
    | (cases h; exact .mk' fe_non rfl fun _ => rfl)
    | (cases h; exact .mk' fe_str rfl fun _ => rfl)
    | cases h
theorem snd_list {f : CE} (hf : Snd X C cls Wx Φ f) : ∀ {es : List Expr} {ts : EL}, compL f es = some ts → PA X es (tA X.K C cls Wx (evl Φ ts)) ∧ es.all plainE = true ∧ ∀ ρ g ws g', evl Φ ts ρ g = .ok ws g' → ws.length = elLen ts
  | [], ts, h => by
    obtain rfl := Option.some.inj h
    exact ⟨fa_nil, rfl, fun ρ g ws g' e => by cases e; rfl⟩
  | e :: r, ts, h => by
    unfold compL at h
    obtain ⟨t, h1, h⟩ := bindS h
    obtain ⟨tr, h2, h⟩ := bindS h
    obtain rfl := Option.some.inj h
    obtain ⟨p1, p2, p3⟩ := snd_list hf h2
    have G1 := hf e t h1
    refine ⟨fa_cons G1.pl G1.pe p1, by simp [G1.pl, p2], fun ρ g ws g' e => ?_⟩
    simp only [evl] at e
    cases e1 : ev Φ t ρ g with
    | no => rw [e1] at e; cases e
    | ex c g1 => rw [e1] at e; cases e
    | ok w g1 =>
      rw [e1] at e
      simp only [bind_ok] at e
      cases e2 : evl Φ tr ρ g1 with
      | no => rw [e2] at e; cases e
      | ex c g1 => rw [e2] at e; cases e
      | ok ws2 g2 =>
        rw [e2] at e
        simp only [bind_ok] at e
        cases e
        simp [elLen, p3 _ _ _ _ e2]
theorem snd_opt {f : CE} (hf : Snd X C cls Wx Φ f) {o : Option Expr} {t : OE} (h : compO f o = some t) : PO X o (tO X.K C cls Wx (evo Φ t)) := by
  cases o with
  | none =>
    obtain rfl := Option.some.inj h
    exact fo_none
  | some e =>
    unfold compO at h
    obtain ⟨te, h1, h⟩ := bindS h
    obtain rfl := Option.some.inj h
    exact fo_some (hf e te h1).pe
theorem cCmp_snd (c : CtxOk sc X C cls Φ L Wx) {f : CE} (hf : Snd X C cls Wx Φ f) {a : Expr} {ops : List CmpOp} {bs : List Expr} {p : Pos} {t : E} (h : cCmp f a ops bs = some t) : Good X C cls Wx Φ (.Compare a ops bs p) t := by
  have hu : X.A.units + 65 < cLine := by have := c.hu; omega
  unfold cCmp at h
  split at h
  · rename_i op b
    split at h
    · cases h
    · rename_i hm
      obtain ⟨o, ho, h⟩ := bindS h
      obtain ⟨ta, h1, h⟩ := bindS h
      obtain ⟨tb, h2, h⟩ := bindS h
      obtain rfl := Option.some.inj h
      have hm : behindInMarks op b = false := by simpa using hm
      exact ⟨fe_cmp hu (cOf_ok ho) (hf a ta h1).pe (hf b tb h2).pe hm, fun _ => ft_cmp hu (cOf_ok ho) (hf a ta h1).pe (hf b tb h2).pe hm, rfl⟩
  · rename_i op op' b d
    split at h
    · cases h
    · rename_i hm
      obtain ⟨o, ho, h⟩ := bindS h
      obtain ⟨o', ho', h⟩ := bindS h
      obtain ⟨ta, h1, h⟩ := bindS h
      obtain ⟨tb, h2, h⟩ := bindS h
      obtain ⟨tc, h3, h⟩ := bindS h
      obtain rfl := Option.some.inj h
      have hm : lastMarks [op, op'] [b, d] = false := by simpa using hm
      exact ⟨fe_chain hu (cOf_ok ho) (cOf_ok ho') (hf a ta h1).pe (hf b tb h2).pe (hf d tc h3).pe hm, (fun z => by cases z), rfl⟩
  · cases h
theorem asW_and {t : E} : asW (tB' (ev Φ t)) = evAnd Φ (.cons t .nil) := by
  funext ρ g
  unfold asW tB'
  simp only [evAnd]
  cases ev Φ t ρ g with
  | ok w g1 => simp only [bind_ok]; cases w.bl? <;> rfl
  | ex c g1 => rfl
  | no => rfl
theorem asW_or {t : E} : asW (tB' (ev Φ t)) = evOr Φ (.cons t .nil) := by
  funext ρ g
  unfold asW tB'
  simp only [evOr]
  cases ev Φ t ρ g with
  | ok w g1 => simp only [bind_ok]; cases w.bl? <;> rfl
  | ex c g1 => rfl
  | no => rfl
theorem fandW_and {t u : E} {r : EL} : fandW (ev Φ t) (evAnd Φ (.cons u r)) = evAnd Φ (.cons t (.cons u r)) := by
  funext ρ g
  unfold fandW tB'
  rw [evAnd]
  cases ev Φ t ρ g with
  | ok w g1 => simp only [bind_ok]
  | ex c g1 => rfl
  | no => rfl
theorem forW_or {t u : E} {r : EL} : forW (ev Φ t) (evOr Φ (.cons u r)) = evOr Φ (.cons t (.cons u r)) := by
  funext ρ g
  unfold forW tB'
  rw [evOr]
  cases ev Φ t ρ g with
  | ok w g1 => simp only [bind_ok]
  | ex c g1 => rfl
  | no => rfl
theorem tB_one {t : E} : tB' (evAnd Φ (.cons t .nil)) = tB' (ev Φ t) := by
  rw [← asW_and]
  funext ρ g
  cases e : ev Φ t ρ g with
  | ok w g1 => simp only [asW, tB', e, bind_ok]; cases w.bl? <;> rfl
  | ex c g1 => simp only [asW, tB', e, bind_ex]
  | no => simp only [asW, tB', e, bind_no]
theorem tB_one' {t : E} : tB' (evOr Φ (.cons t .nil)) = tB' (ev Φ t) := by
  rw [← asW_or]
  funext ρ g
  cases e : ev Φ t ρ g with
  | ok w g1 => simp only [asW, tB', e, bind_ok]; cases w.bl? <;> rfl
  | ex c g1 => simp only [asW, tB', e, bind_ex]
  | no => simp only [asW, tB', e, bind_no]
theorem tB_and {t u : E} {r : EL} : tB' (evAnd Φ (.cons t (.cons u r))) = fandB (tB' (ev Φ t)) (tB' (evAnd Φ (.cons u r))) := by
  rw [← fandW_and]
  funext ρ g
  cases e : ev Φ t ρ g with
  | ok w g1 =>
    simp only [fandW, fandB, tB', e, bind_ok]
    cases w.bl? with
    | none => rfl
    | some k => cases k <;> rfl
  | ex c g1 => simp only [fandW, fandB, tB', e, bind_ex]
  | no => simp only [fandW, fandB, tB', e, bind_no]
theorem tB_or {t u : E} {r : EL} : tB' (evOr Φ (.cons t (.cons u r))) = forB (tB' (ev Φ t)) (tB' (evOr Φ (.cons u r))) := by
  rw [← forW_or]
  funext ρ g
  cases e : ev Φ t ρ g with
  | ok w g1 =>
    simp only [forW, forB, tB', e, bind_ok]
    cases w.bl? with
    | none => rfl
    | some k => cases k <;> rfl
  | ex c g1 => simp only [forW, forB, tB', e, bind_ex]
  | no => simp only [forW, forB, tB', e, bind_no]
theorem ands {f : CE} (hf : Snd X C cls Wx Φ f) {p : Pos} : ∀ {es : List Expr} {ts : EL}, compL f es = some ts → elLen ts ≠ 0 → PE X (.BoolOp .And es p) (tE X.K C cls Wx (evAnd Φ ts)) ∧ (es.all isT = true → PW X (.BoolOp .And es p) (tT X.K C cls Wx (tB' (evAnd Φ ts))))
  | [], ts, h, hn => by obtain rfl := Option.some.inj h; exact absurd rfl hn
  | [e], ts, h, hn => by
    unfold compL at h
    obtain ⟨t, h1, h⟩ := bindS h
    obtain ⟨tr, h2, h⟩ := bindS h
    obtain rfl := Option.some.inj h
    obtain rfl := Option.some.inj h2
    have G1 := hf e t h1
    refine ⟨?_, fun hi => ?_⟩
    · rw [← asW_and]; exact fe_one G1.pe
    · rw [tB_one]; exact fw_and1 (G1.pt (by simpa using hi))
  | e :: e' :: r, ts, h, hn => by
    unfold compL at h
    obtain ⟨t, h1, h⟩ := bindS h
    obtain ⟨tr, h2, h⟩ := bindS h
    obtain rfl := Option.some.inj h
    have G1 := hf e t h1
    have h2' := h2
    unfold compL at h2'
    obtain ⟨t', h3, h2'⟩ := bindS h2'
    obtain ⟨tr', h4, h2'⟩ := bindS h2'
    obtain rfl := Option.some.inj h2'
    obtain ⟨q1, q2⟩ := ands hf (p := p) h2 (by simp [elLen])
    refine ⟨?_, fun hi => ?_⟩
    · rw [← fandW_and]; exact fe_and G1.pe q1
    · rw [List.all_cons, Bool.and_eq_true] at hi
      rw [tB_and]; exact fw_and (G1.pt hi.1) (q2 hi.2)
theorem ors {f : CE} (hf : Snd X C cls Wx Φ f) {p : Pos} : ∀ {es : List Expr} {ts : EL}, compL f es = some ts → elLen ts ≠ 0 → PE X (.BoolOp .Or es p) (tE X.K C cls Wx (evOr Φ ts)) ∧ (es.all isT = true → PW X (.BoolOp .Or es p) (tT X.K C cls Wx (tB' (evOr Φ ts))))
  | [], ts, h, hn => by obtain rfl := Option.some.inj h; exact absurd rfl hn
  | [e], ts, h, hn => by
    unfold compL at h
    obtain ⟨t, h1, h⟩ := bindS h
    obtain ⟨tr, h2, h⟩ := bindS h
    obtain rfl := Option.some.inj h
    obtain rfl := Option.some.inj h2
    have G1 := hf e t h1
    refine ⟨?_, fun hi => ?_⟩
    · rw [← asW_or]; exact fe_one G1.pe
    · rw [tB_one']; exact fw_or1 (G1.pt (by simpa using hi))
  | e :: e' :: r, ts, h, hn => by
    unfold compL at h
    obtain ⟨t, h1, h⟩ := bindS h
    obtain ⟨tr, h2, h⟩ := bindS h
    obtain rfl := Option.some.inj h
    have G1 := hf e t h1
    have h2' := h2
    unfold compL at h2'
    obtain ⟨t', h3, h2'⟩ := bindS h2'
    obtain ⟨tr', h4, h2'⟩ := bindS h2'
    obtain rfl := Option.some.inj h2'
    obtain ⟨q1, q2⟩ := ors hf (p := p) h2 (by simp [elLen])
    refine ⟨?_, fun hi => ?_⟩
    · rw [← forW_or]; exact fe_or G1.pe q1
    · rw [List.all_cons, Bool.and_eq_true] at hi
      rw [tB_or]; exact fw_or (G1.pt hi.1) (q2 hi.2)
theorem cSub_snd {f : CE} (hf : Snd X C cls Wx Φ f) {a b : Expr} {p : Pos} {t : E} (h : cSub f a b = some t) : Good X C cls Wx Φ (.Subscript a b p) t := by
  unfold cSub at h
  split at h
  · obtain ⟨ta, h1, h⟩ := bindS h
    obtain ⟨tl, h2, h⟩ := bindS h
    obtain ⟨th, h3, h⟩ := bindS h
    obtain rfl := Option.some.inj h
    exact .mk' (fe_sl (hf a ta h1).pe (snd_opt hf h2) (snd_opt hf h3)) rfl fun _ => rfl
  · obtain ⟨ta, h1, h⟩ := bindS h
    obtain rfl := Option.some.inj h
    exact .mk' (fe_rev (hf a ta h1).pe) rfl fun _ => rfl
  · obtain ⟨ta, h1, h⟩ := bindS h
    obtain ⟨tb, h2, h⟩ := bindS h
    obtain rfl := Option.some.inj h
    exact .mk' (fe_ix (hf b tb h2).pl (hf a ta h1).pe (hf b tb h2).pe) rfl fun _ => rfl
end
end TP
/-! One of some defs, called at once. -/
namespace TP
open PySem L2
section
variable {sc : Sc} {X : Cx} {C : Addr} {cls : Nat → Addr} {Φ : Nat → Fn} {L : Nat} {Wx : WX} {n : Nat} {e fe ie : Expr} {es : List Expr} {pos spos lpos : Pos} {fi : Env' → G → Res W} {fs : Env' → G → Res (List W)}
/-- a def that may be called -/
structure AdOk (X : Cx) (C : Addr) (cls : Nat → Addr) (L n : Nat) (a : Addr) (sem : Fn) : Prop where
  ex : ∃ fd ps, FnOk X.prog X.w X.K X.mg X.base (L2.CX X.prog X.w) L a fd ps (spOf X.K C cls sem ps.length) ∧ ps.length = n ∧ PySem.W.keepIn X.K (.ref a) = true ∧ Binds X.K fd ps []
def tPickC (X : Cx) (L : Nat) (E : St → XK) (tf : TE) (t : TA) : TE := fun σ H Q => tf σ H fun y H1 => ∃ a fd ps sp, y = .ref a ∧ FnOk X.prog X.w X.K X.mg X.base (L2.CX X.prog X.w) L a fd ps sp ∧ PySem.W.keepIn X.K (.ref a) = true ∧ Binds X.K fd ps [] ∧ t σ H1 fun vs H2 => sp vs H2 Q (E σ)
theorem pe_pickC {E : St → XK} {tf : TE} {t : TA} (hf : PE X fe tf) (hr : Room L X.A) (hx : ∀ σ, PassesAt (L2.CX X.prog X.w) X σ (E σ)) (ha : PA X (e :: es) t) (he : starEach (e :: es) X.env = (false, eval e X.env) :: starEach es X.env) (hpl : (backTo pos (starEach es X.env)).any (·.1) = false)
    (ht : eval (.Call fe (e :: es) [] pos) X.env = (do callWith pos (← eval fe X.env) [] (backTo pos (starEach (e :: es) X.env)) (backToKw pos (keywordEach [] X.env)))) : PE X (.Call fe (e :: es) [] pos) (tPickC X L E tf t) := by
  refine ⟨fun pins s σ H Q I h => ?_⟩
  refine PyProof.Rows.Call_ (thn (hf.run pins s σ H _ I h) fun u s1 ⟨y, H1, I1, ry, a, fd, ps, sp, ey, F, hk, hb, q⟩ => ?_) ht
  subst ey
  obtain rfl : u = Value.ref a := ry
  refine PySem.W.callWith_K (h₀ := X.base) I1.ok.mod.kin hk (thn (ha.run pos pins s1 σ H1 _ I1 q) fun us s2 ⟨vs, H2, I2, r, q2⟩ => ⟨I2.kIn, ?_⟩) he hpl
  exact run_fnS F hr hb (hx σ) I2 r q2
def fpick (sems : List Fn) (fi : Env' → G → Res W) (fs : Env' → G → Res (List W)) : Env' → G → Res W := fun ρ g => (fi ρ g).bind fun w g1 => match w.int? with
    | some n => match (if 0 ≤ n then sems[n.toNat]? else none) with
      | some sem => (fs ρ g1).bind fun ws g1 => (Res.of (args? ws) g1).bind fun xs g2 => (sem xs g2).bind fun w g3 => if !ws.any W.isPk || w.clean then .ok w g3 else .no
      | none => .no
    | none => .no
/-- the addresses of some defs -/
structure AdsOk (X : Cx) (C : Addr) (cls : Nat → Addr) (L n : Nat) (as : List Addr) (sems : List Fn) : Prop where
  at_ : ∀ (j : Nat) (sem : Fn), sems[j]? = some sem → ∃ a, as[j]? = some a ∧ AdOk X C cls L n a sem
theorem atI_nat {α : Type} {xs : List α} {i : Int} {x : α} (h0 : 0 ≤ i) (h : xs[i.toNat]? = some x) : atI xs i = some x := by
  have hl := (List.getElem?_eq_some_iff.mp h).1
  unfold atI ixN
  rw [if_pos h0, if_pos (by omega)]
  exact h
theorem fe_pick {ns : List Expr} {as : List Addr} {sems : List Fn} (hr : Room L X.A) (hns : PA X ns fun _ H Q => Q (as.map V.ref) H) (hlen : as.length ≤ 1000) (A : AdsOk X C cls L n as sems) (qi : plainE ie = true) (hi : PE X ie (tE X.K C cls Wx fi)) (tk : Takes X Wx)
    (ha : PA X (e :: es) (tA X.K C cls Wx fs)) (hp : (e :: es).all plainE = true) (hn : ∀ ρ g ws g', fs ρ g = .ok ws g' → ws.length = n) : PE X (.Call (.Subscript (.List ns lpos) ie spos) (e :: es) [] pos) (tE X.K C cls Wx (fpick sems fi fs)) := by
  have hp' : plainE e = true ∧ es.all plainE = true := by simpa using hp
  refine PE.imp (pe_pickC (pe_ix ix_list (pe_lst hns) hi (plain_ix qi)) hr (fun σ => passAt tk σ) ha (star_plain hp'.1 es X.env) (star_any hp'.2) rfl) ?_
  rintro σ H Q ⟨F, oa, al, ρ, g, hK, hC, R, h⟩
  refine ⟨by rw [List.length_map, sizeLine_eq]; omega, fun q hq => ?_⟩
  have st0 : Step F oa oa g H (upd H q (.lst (as.map V.ref))) := Step.upd R.gr hq
  refine Post.bind hK hC (R.step st0) (h.later st0) fun w g1 oa1 y H1 st R1 wo h1 => ?_
  split at h1
  rotate_left
  · exact h1.elim
  rename_i i hi
  obtain ⟨rfl, _⟩ := wo.int hi
  split at h1
  rotate_left
  · exact h1.elim
  rename_i sem hs
  split at hs
  rotate_left
  · cases hs
  rename_i i0
  obtain ⟨a, ha1, ⟨fd, ps, G0, hps, hk, hb⟩⟩ := A.at_ _ _ hs
  have hq1 : H1 q = some (.lst (as.map V.ref)) := st.ext.keep q _ upd_same (.inl fun z => R.nown hq (.inl z))
  refine ⟨q, as.map V.ref, i, .ref a, rfl, rfl, SqL.of hq1, atI_nat i0 (by rw [List.getElem?_map, ha1]; rfl), a, fd, ps, _, rfl, G0, hk, hb, F, oa1, al, ρ, g1, hK, hC, R1, ?_⟩
  have h1 := h1.later st
  cases e1 : fs ρ g1 with
  | ex c g1 => rw [e1] at h1; exact h1
  | no => rw [e1] at h1; exact h1
  | ok ws g2 =>
    rw [e1] at h1
    simp only [bind_ok] at h1
    intro oa2 vs H2 st2 wo2
    have R2 := R1.step st2
    cases e2 : args? ws with
    | none => rw [e2] at h1; exact h1.elim
    | some xs =>
      rw [e2] at h1
      simp only [of_some, bind_ok] at h1
      refine ⟨F.call H2 oa2 al (ws.any W.isPk), oa2, xs, g2, hK, hC, rfl, rfl, R2.gr.fm rfl rfl rfl rfl, fun b hb => ?_, wo2.args R2 e2 fun z => z, args_idem e2, by rw [args_len e2, hn _ _ _ _ e1, hps], ?_⟩
      · cases q : H2 b with
        | none => exact absurd hb.1 (R2.nown q)
        | some o => exact ⟨o, rfl⟩
      · cases e3 : sem xs g2 with
        | no => rw [e3] at h1; exact h1
        | ex c g2 => rw [e3] at h1; exact fun oa' H' st' => h1 oa' H' (st2.trans (st'.fm rfl rfl rfl rfl))
        | ok w g2 =>
          rw [e3] at h1
          simp only [bind_ok] at h1
          intro oa' v H' st' wo'
          have st3 : Step F oa2 oa' g2 H2 H' := st'.fm rfl rfl rfl rfl
          split at h1
          · rename_i hc
            have hc' : ws.any W.isPk = false ∨ w.clean = true := by simpa using hc
            exact h1 oa' v H' (st2.trans st3) ((WOk.back R2 wo' st3 hc').earlier st2.ext.dom)
          · exact h1.elim
theorem picks (c : CtxOk sc X C cls Φ L Wx) : ∀ {ns : List Expr} {q : List Nat}, pickN sc n ns = some q → ∃ as : List Addr, (PA X ns fun _ H Q => Q (as.map V.ref) H) ∧ as.length = q.length ∧ AdsOk X C cls L n as (q.map Φ)
  | [], q, h => by
    obtain rfl := Option.some.inj h
    exact ⟨[], PA.imp pa_nil fun _ _ _ h => h, rfl, ⟨fun j sem h => by simp at h⟩⟩
  | e :: r, q, h => by
    cases e with
    | Name x p =>
      unfold pickN at h
      split at h
      · rename_i hx
        simp only [Bool.and_eq_true] at hx
        obtain ⟨d1, d2, d3⟩ := okN_d hx.2
        obtain ⟨⟨i, m⟩, h1, h⟩ := bindS h
        split at h
        · rename_i hm
          obtain rfl : n = m := hm.symm
          obtain ⟨q', h2, h⟩ := bindS h
          obtain rfl := Option.some.inj h
          obtain ⟨as, p1, p2, ⟨p3⟩⟩ := picks c h2
          obtain ⟨fa, fd, ps, G0, hps, hmg, hk, hb⟩ := (c.fs x i n h1).ex
          refine ⟨fa :: as, PA.imp (pa_cons (pe_glob (v := .ref fa) (c.gl hx.1) hmg rfl d1) p1 (star_plain rfl _ _)) fun σ H Q h => h, by simp [p2], ⟨fun j sem hj => ?_⟩⟩
          cases j with
          | zero =>
            have : Φ i = sem := by simpa using hj
            subst this
            exact ⟨fa, rfl, ⟨fd, ps, G0, hps, hk, hb⟩⟩
          | succ j =>
            obtain ⟨a, h3, h4⟩ := p3 j sem (by simpa using hj)
            exact ⟨a, by simpa using h3, h4⟩
        · cases h
      · cases h
    | _ => simp [pickN] at h
end
end TP
/-! .. calls, loops' iterables, comprehensions, all expressions. -/
namespace TP
open PySem L2
section
variable {sc : Sc} {X : Cx} {C : Addr} {cls : Nat → Addr} {Φ : Nat → Fn} {L : Nat} {Wx : WX}
theorem elLen_pos {f : CE} {es : List Expr} {ts : EL} (h : compL f es = some ts) (hn : elLen ts ≠ 0) : ∃ e r, es = e :: r := by
  cases es with
  | nil => obtain rfl := Option.some.inj h; exact absurd rfl hn
  | cons e r => exact ⟨e, r, rfl⟩
theorem nB_snd (c : CtxOk sc X C cls Φ L Wx) {x : Str} {b : Bl} {p pos : Pos} {e : Expr} {es : List Expr} {fs : Env' → G → Res (List W)} (h : nB x = some b) (hg : Gl X x) (hp : (e :: es).all plainE = true) (ha : PA X (e :: es) (tA X.K C cls Wx fs)) : PE X (.Call (.Name x p) (e :: es) [] pos) (tE X.K C cls Wx (fblt (bltD b) fs)) := by
  have hu := c.hu
  unfold nB at h
  split at h
  · rename_i e1
    obtain rfl : x = "len" := by simpa using e1
    obtain rfl := Option.some.inj h
    exact fe_callB (x := "len") crD_len hg (c.bl _ (by decide)) (by decide +kernel) (by decide) (by decide) hp ha
  split at h
  · rename_i e1
    obtain rfl : x = "tuple" := by simpa using e1
    obtain rfl := Option.some.inj h
    exact fe_callTy crD_tup hg (c.bl _ (by decide)) (by decide +kernel) (by decide) (by decide) hp ha
  split at h
  · rename_i e1
    obtain rfl : x = "list" := by simpa using e1
    obtain rfl := Option.some.inj h
    exact fe_callTy crD_lst hg (c.bl _ (by decide)) (by decide +kernel) (by decide) (by decide) hp ha
  split at h
  · rename_i e1
    obtain rfl : x = "all" := by simpa using e1
    obtain rfl := Option.some.inj h
    exact fe_callB (x := "all") (crD_all c.calm) hg (c.bl _ (by decide)) (by decide +kernel) (by decide) (by decide) hp ha
  split at h
  · rename_i e1
    obtain rfl : x = "any" := by simpa using e1
    obtain rfl := Option.some.inj h
    exact fe_callB (x := "any") (crD_any c.calm) hg (c.bl _ (by decide)) (by decide +kernel) (by decide) (by decide) hp ha
  split at h
  · rename_i e1
    obtain rfl : x = "min" := by simpa using e1
    obtain rfl := Option.some.inj h
    exact fe_callB (x := "min") (crD_min2 c.calm) hg (c.bl _ (by decide)) (by decide +kernel) (by decide) (by decide) hp ha
  split at h
  · rename_i e1
    obtain rfl : x = "max" := by simpa using e1
    obtain rfl := Option.some.inj h
    exact fe_callB (x := "max") (crD_max2 c.calm) hg (c.bl _ (by decide)) (by decide +kernel) (by decide) (by decide) hp ha
  split at h
  · rename_i e1
    obtain rfl : x = "sorted" := by simpa using e1
    obtain rfl := Option.some.inj h
    exact fe_callB (x := "sorted") (crD_sorted c.hu) hg (c.bl _ (by decide)) (by decide +kernel) (by decide) (by decide) hp ha
  · cases h
theorem nT_name {x : Str} {t : Ty} (h : nT x = some t) : (x == Str.ofString (tyName t)) = true ∧ x ∈ bnames := by
  unfold nT at h
  split at h
  · rename_i e1
    obtain rfl : x = "int" := by simpa using e1
    obtain rfl := Option.some.inj h
    exact ⟨by decide, by decide⟩
  split at h
  · rename_i e1
    obtain rfl : x = "bool" := by simpa using e1
    obtain rfl := Option.some.inj h
    exact ⟨by decide, by decide⟩
  split at h
  · rename_i e1
    obtain rfl : x = "tuple" := by simpa using e1
    obtain rfl := Option.some.inj h
    exact ⟨by decide, by decide⟩
  split at h
  · rename_i e1
    obtain rfl : x = "str" := by simpa using e1
    obtain rfl := Option.some.inj h
    exact ⟨by decide, by decide⟩
  · cases h
theorem nB_min {x : Str} (h : nB x = some .min2) : x = "min" := by
  unfold nB at h
  split at h
  · cases h
  split at h
  · cases h
  split at h
  · cases h
  split at h
  · cases h
  split at h
  · cases h
  split at h
  · rename_i e
    exact eq_of_beq e
  split at h
  · cases h
  split at h
  · cases h
  · cases h
theorem cCall_snd (c : CtxOk sc X C cls Φ L Wx) {f : CE} (hf : Snd X C cls Wx Φ f) {x : Str} {args : List Expr} {p pos : Pos} {t : E} (h : cCall sc f x args = some t) : Good X C cls Wx Φ (.Call (.Name x p) args [] pos) t := by
  have hu : X.A.units + 65 < cLine := by have := c.hu; omega
  unfold cCall at h
  split at h
  · rename_i h0
    simp only [Bool.and_eq_true] at h0
    obtain ⟨hg, ho⟩ := h0
    have hg := c.gl hg
    obtain ⟨d1, d2, d3⟩ := okN_d ho
    split at h
    · rename_i i n hl
      obtain ⟨ts, h1, h⟩ := bindS h
      split at h
      · rename_i hn
        obtain rfl := Option.some.inj h
        obtain ⟨q1, q2, q3⟩ := snd_list hf h1
        obtain ⟨fa, fd, ps, G0, hps, hm, hk, hb⟩ := (c.fs x i n hl).ex
        cases args with
        | nil =>
          obtain rfl := Option.some.inj h1
          exact .mk' (fe_call0 G0 c.room hg hm hk hb c.tk d1 (by rw [hps, ← hn]; rfl)) rfl fun _ => rfl
        | cons e r => exact .mk' (fe_call G0 c.room hg hm hk hb c.tk q1 d1 q2 fun ρ g ws g' e => by rw [q3 ρ g ws g' e, hn, hps]) rfl fun _ => rfl
      · cases h
    · split at h
      · rename_i e1
        obtain rfl : x = "isinstance" := by simpa using e1
        obtain ⟨⟨a, z⟩, h1, h⟩ := bindS h
        obtain ⟨ty, h2, h⟩ := bindS h
        split at h
        · rename_i hz
          obtain ⟨ta, h3, h⟩ := bindS h
          obtain rfl := Option.some.inj h
          unfold asIsi at h1
          split at h1
          · rename_i a' z' p2
            cases h1
            obtain ⟨n1, n2⟩ := nT_name h2
            exact .mk' (fe_isi hg (c.bl _ (by decide)) (by decide) n1 (c.gl hz) (c.bl _ n2) (hf _ ta h3).pl (hf _ ta h3).pe) rfl fun _ => rfl
          · cases h1
        · cases h
      · split at h
        · rename_i z a hs
          split at h
          · rename_i e1
            simp only [Bool.and_eq_true] at e1
            obtain ⟨e1, hgz⟩ := e1
            obtain ⟨ta, h3, h⟩ := bindS h
            obtain rfl := Option.some.inj h
            unfold asSet at hs
            split at hs
            · rename_i z' p' a' q'
              split at hs
              · rename_i ez
                cases hs
                obtain rfl : x = "len" := by simpa using e1
                obtain rfl : z = "set" := by simpa using ez
                have E1 : ev Φ (.blt .lenset (.cons ta .nil)) = f1 (fun w => do bLenset [← w.rd]) (ev Φ ta) := by
                  funext ρ g
                  simp only [ev, evl, f1]
                  cases ev Φ ta ρ g with
                  | ok w g1 =>
                    simp only [bind_ok]
                    cases e5 : w.rd with
                    | none => simp [rds, e5]
                    | some d => simp [rds, e5, bltD]
                  | ex c g1 => rfl
                  | no => rfl
                exact .mk' (by rw [E1]; exact fe_lenset (by decide) (by decide) c.calm hu hg (c.bl _ (by decide)) (c.gl hgz) (c.bl _ (by decide)) (hf _ ta h3).pl (hf _ ta h3).pe) rfl fun _ => rfl
              · cases hs
            · cases hs
          · cases h
        · obtain ⟨b, h1, ha⟩ := bindS h
          obtain ⟨ts, h2, h'⟩ := bindS ha
          clear h ha
          split at h'
          · cases h'
          · rename_i hn
            obtain ⟨q1, q2, q3⟩ := snd_list hf h2
            obtain ⟨e, r, rfl⟩ := elLen_pos h2 hn
            split at h'
            · rename_i hb
              obtain rfl := Option.some.inj h'
              obtain rfl := nB_min (by rw [h1, hb.1])
              exact .mk' (fe_callB (x := "min") (crD_min1 c.calm c.hu) hg (c.bl _ (by decide)) (by decide +kernel) (by decide) (by decide) q2 q1) rfl fun _ => rfl
            · obtain rfl := Option.some.inj h'
              exact .mk' (nB_snd c h1 hg q2 q1) rfl fun _ => rfl
  · cases h
theorem cTg_snd (c : CtxOk sc X C cls Φ L Wx) {tg : Expr} {t : Tg} (h : cTg sc tg = some t) : TgIs X t tg ∧ notStar tg = true := by
  unfold cTg at h
  split at h
  · split at h
    · rename_i hx
      obtain ⟨i, hi, h⟩ := bindS h
      obtain rfl := Option.some.inj h
      obtain ⟨l1, l2⟩ := c.loc hx
      exact ⟨tg_one c.nd' (c.ix hi) l1 l2, rfl⟩
    · cases h
  · split at h
    · rename_i hx
      simp only [Bool.and_eq_true] at hx
      obtain ⟨i, hi, h⟩ := bindS h
      obtain ⟨j, hj, h⟩ := bindS h
      obtain rfl := Option.some.inj h
      obtain ⟨l1, l2⟩ := c.loc hx.1
      obtain ⟨l3, l4⟩ := c.loc hx.2
      exact ⟨tg_two c.calm c.nd' (c.ix hi) l1 l2 (c.ix hj) l3 l4, rfl⟩
    · cases h
  · split at h
    · rename_i hx
      simp only [Bool.and_eq_true] at hx
      obtain ⟨i, hi, h⟩ := bindS h
      obtain ⟨j, hj, h⟩ := bindS h
      obtain ⟨k, hk, h⟩ := bindS h
      obtain rfl := Option.some.inj h
      obtain ⟨l1, l2⟩ := c.loc hx.1.1
      obtain ⟨l3, l4⟩ := c.loc hx.1.2
      obtain ⟨l5, l6⟩ := c.loc hx.2
      exact ⟨tg_three c.calm c.nd' (c.ix hi) l1 l2 (c.ix hj) l3 l4 (c.ix hk) l5 l6, rfl⟩
    · cases h
  · cases h
theorem isTup_ex {tg : Expr} (h : isTup tg = true) : ∃ es k p, tg = .Tuple es k p := by
  cases tg <;> first | exact ⟨_, _, _, rfl⟩ | (simp [isTup] at h)
theorem folded {e : Expr} (h : plainE e = true) (env : Env) (x : Value) : foldedSetIterable e env x = pure x := by
  cases e <;> first | rfl | (simp [plainE] at h)
theorem cIter_snd (c : CtxOk sc X C cls Φ L Wx) {f : CE} (hf : Snd X C cls Wx Φ f) {tg it : Expr} {s : I} (h : cIter sc f tg it = some s) (z : Bool) : PI X tg it (tI z X.K C cls Wx (evi Φ z s)) ∧ plainE it = true := by
  have sq : ∀ {e : Expr} {t : E}, f e = some t → PI X tg e (tI z X.K C cls Wx (evi Φ z (.seq t))) ∧ plainE e = true := fun {e t} h => ⟨fi_seq (hf e t h).pe, (hf e t h).pl⟩
  unfold cIter at h
  split at h
  · rename_i x p args pos
    split at h
    · rename_i hx
      simp only [Bool.and_eq_true] at hx
      have hg := c.gl hx.1
      obtain rfl : x = "range" := by simpa using hx.2
      split at h
      · obtain ⟨ta, h1, h⟩ := bindS h
        obtain rfl := Option.some.inj h
        exact ⟨fi_rng1 hg (c.bl _ (by decide)) (hf _ _ h1).pl (hf _ _ h1).pe, rfl⟩
      · obtain ⟨ta, h1, h⟩ := bindS h
        obtain ⟨tb, h2, h⟩ := bindS h
        obtain rfl := Option.some.inj h
        exact ⟨fi_rng2 hg (c.bl _ (by decide)) (hf _ _ h1).pl (hf _ _ h2).pl (hf _ _ h1).pe (hf _ _ h2).pe, rfl⟩
      · obtain ⟨ta, h1, h⟩ := bindS h
        obtain ⟨tb, h2, h⟩ := bindS h
        obtain ⟨tc, h3, h⟩ := bindS h
        obtain rfl := Option.some.inj h
        exact ⟨fi_rng3 hg (c.bl _ (by decide)) (hf _ _ h1).pl (hf _ _ h2).pl (hf _ _ h3).pl (hf _ _ h1).pe (hf _ _ h2).pe (hf _ _ h3).pe, rfl⟩
      · cases h
    · split at h
      · rename_i hx
        simp only [Bool.and_eq_true] at hx
        have hg := c.gl hx.1.1
        obtain rfl : x = "zip" := by simpa using hx.1.2
        obtain ⟨es, k, pt, rfl⟩ := isTup_ex hx.2
        split at h
        · obtain ⟨ta, h1, h⟩ := bindS h
          obtain ⟨tb, h2, h⟩ := bindS h
          obtain rfl := Option.some.inj h
          exact ⟨fi_zip hg (c.bl _ (by decide)) (hf _ _ h1).pl (hf _ _ h2).pl (hf _ _ h1).pe (hf _ _ h2).pe, rfl⟩
        · cases h
      · split at h
        · rename_i hx
          simp only [Bool.and_eq_true] at hx
          have hg := c.gl hx.1.1
          obtain rfl : x = "enumerate" := by simpa using hx.1.2
          obtain ⟨es, k, pt, rfl⟩ := isTup_ex hx.2
          split at h
          · obtain ⟨ta, h1, h⟩ := bindS h
            obtain rfl := Option.some.inj h
            exact ⟨fi_enm hg (c.bl _ (by decide)) (hf _ _ h1).pl (hf _ _ h1).pe, rfl⟩
          · cases h
        · obtain ⟨t, h1, h⟩ := bindS h
          obtain rfl := Option.some.inj h
          exact sq h1
  · obtain ⟨t, h1, h⟩ := bindS h
    obtain rfl := Option.some.inj h
    exact sq h1
theorem cIf_snd {f : CE} (hf : Snd X C cls Wx Φ f) {ifs : List Expr} {cd : OE} (h : cIf f ifs = some cd) : PTs X ifs (tT X.K C cls Wx (evc Φ cd)) := by
  unfold cIf at h
  split at h
  · obtain rfl := Option.some.inj h
    exact pts_non
  · split at h
    · rename_i hi
      obtain ⟨t, h1, h⟩ := bindS h
      obtain rfl := Option.some.inj h
      exact pts_one ((hf _ _ h1).pt hi)
    · cases h
  · cases h
theorem CtxOk.blk (c : CtxOk sc X C cls Φ L Wx) {scope : Scope} {own : List (Str × Nat)} (ok : BlkOk X.N X.env.scope scope own) (s : Shared) (H : Hp) (D : Addr) (cl : List (Str × Addr)) (fp : List Addr) : CtxOk (sc.blk scope) (X.blk s H scope (compEnvC scope cl D X.env) fp) C cls Φ L Wx0 where
  N := c.N
  scope := by
    show relabel scope X.env = relS scope sc.scope
    rw [← c.scope]
    rfl
  nd := c.nd
  calm := c.calm
  room := c.room
  tk := takes0
  fn := fun x h => h
  kind := ok.kind
  fs := c.fs
  bl := c.bl
  cs := c.cs
  gs := c.gs
  pass := PassesOwn.never
  tryOk := fun z => absurd z Bool.false_ne_true
theorem tgOwn_ok {t : Tg} {tg : Expr} {scope : Scope} (h : cTg (sc.blk scope) tg = some t) : True := trivial
theorem cComp_snd (c : CtxOk sc X C cls Φ L Wx) {f g : CE} (hf : Snd X C cls Wx Φ f) {elt : Expr} {gs : List Comprehension} {scope : Scope} (hg : ∀ (own : List (Str × Nat)), BlkOk X.N X.env.scope scope own → ∀ (s : Shared) (H : Hp) (D : Addr) (cl : List (Str × Addr)) (fp : List Addr), Snd (X.blk s H scope (compEnvC scope cl D X.env) fp) C cls Wx0 Φ g) {pos : Pos} {t : E}
    (h : cComp sc f g elt gs scope = some t) : Good X C cls Wx Φ (.ListComp elt gs scope pos) t ∧ ∃ tg it ifs, gs = [⟨tg, it, ifs, 0⟩] := by
  unfold cComp at h
  split at h
  · rename_i tg it ifs
    obtain ⟨tt, h1, h⟩ := bindS h
    split at h
    · rename_i hb
      obtain ⟨hs, hb⟩ := hb
      obtain ⟨s, h2, h⟩ := bindS h
      obtain ⟨cd, h3, h⟩ := bindS h
      obtain ⟨e, h4, h⟩ := bindS h
      obtain rfl := Option.some.inj h
      have ok : BlkOk X.N X.env.scope scope (tgOwn tt tg) := by rw [c.N, c.scope]; exact blkOk_by hb
      obtain ⟨i1, i2⟩ := cIter_snd c hf h2 false
      refine ⟨.mk' (fe_comp c.calm c.nd' i1 ok hs (fun s H D cl fp => (cTg_snd (c.blk ok s H D cl fp) h1).1) (fun s H D cl fp => cIf_snd (hg _ ok s H D cl fp) h3) (fun s H D cl fp => (hg _ ok s H D cl fp _ _ h4).pe) (folded i2 _)) rfl fun _ => rfl, tg, it, ifs, rfl⟩
    · cases h
  · cases h
theorem cSpec_snd (c : CtxOk sc X C cls Φ L Wx) {f : CE} (hf : Snd X C cls Wx Φ f) {e : Expr} {t : E} (h : cSpec sc f e = some t) : Good X C cls Wx Φ e t := by
  have hu : X.A.units + 65 < cLine := by have := c.hu; omega
  unfold cSpec at h
  split at h
  · split at h
    · rename_i hx
      simp only [Bool.and_eq_true] at hx
      obtain ⟨d1, d2, _⟩ := okN_d hx.2
      obtain ⟨i, hi, h⟩ := bindS h
      obtain ⟨tk, hk, h⟩ := bindS h
      split at h
      rotate_left
      · obtain rfl := Option.some.inj h
        exact .mk' (fe_dget hu (c.ix hi) (c.vis hx.1.2) d1 d2 (hf _ _ hk).pl (hf _ _ hk).pe) rfl fun _ => rfl
      obtain rfl := Option.some.inj h
      exact .mk' (fe_six (c.ix hi) (c.vis hx.1.2) d1 d2 (hf _ _ hk).pl (hf _ _ hk).pe) rfl fun _ => rfl
    · cases h
  · split at h
    · rename_i hx
      simp only [Bool.and_eq_true] at hx
      obtain ⟨d1, d2, _⟩ := okN_d hx.2
      obtain rfl := eq_of_beq hx.1.1.1.1
      obtain ⟨i, hi, h⟩ := bindS h
      obtain rfl := Option.some.inj h
      exact .mk' (fe_dsort (by decide) c.calm (c.ix hi) (c.vis hx.1.2) d1 d2 (c.gl hx.1.1.2) (c.bl _ (by decide))) rfl fun _ => rfl
    split at h
    · rename_i hx
      simp only [Bool.and_eq_true] at hx
      obtain ⟨d1, d2, _⟩ := okN_d hx.2
      obtain rfl := eq_of_beq hx.1.1.1
      split at h
      · obtain ⟨i, hi, h⟩ := bindS h
        obtain rfl := Option.some.inj h
        exact .mk' (fe_slen (by decide) (c.ix hi) (c.vis hx.1.2) d1 d2 (c.gl hx.1.1.2) (c.bl _ (by decide))) rfl fun _ => rfl
      · split at h
        · obtain ⟨i, hi, h⟩ := bindS h
          obtain rfl := Option.some.inj h
          exact .mk' (fe_tlen (by decide) (c.ix hi) (c.vis hx.1.2) d1 d2 (c.gl hx.1.1.2) (c.bl _ (by decide))) rfl fun _ => rfl
        · cases h
    · cases h
  · split at h
    · rename_i hx
      simp only [Bool.and_eq_true] at hx
      obtain ⟨ta, h3, h⟩ := bindS h
      have one1 : ∀ (bl : Bl) (k : List PyData → Option W), bltD bl = k → ev Φ (.blt bl (.cons ta .nil)) = f1 (fun w => do k [← w.rd]) (ev Φ ta) := by
        intro bl k hk
        funext ρ g
        simp only [ev, evl, f1]
        cases ev Φ ta ρ g with
        | ok w g1 =>
          simp only [bind_ok]
          cases e5 : w.rd with
          | none => simp [rds, e5]
          | some d => simp [rds, e5, hk]
        | ex c g1 => rfl
        | no => rfl
      split at h
      · rename_i hy
        obtain rfl := Option.some.inj h
        obtain rfl := eq_of_beq hy
        obtain rfl := eq_of_beq hx.1.1
        exact .mk' (by rw [one1 .lrng bLrng rfl]; exact fe_lrng (by decide) (by decide) c.calm (c.gl hx.2) (c.bl _ (by decide)) (c.gl hx.1.2) (c.bl _ (by decide)) (hf _ ta h3).pl (hf _ ta h3).pe) rfl fun _ => rfl
      · split at h
        · rename_i hy
          obtain rfl := Option.some.inj h
          obtain rfl := eq_of_beq hy
          obtain rfl := eq_of_beq hx.1.1
          exact .mk' (by rw [one1 .trng bTrng rfl]; exact fe_trng (by decide) (by decide) c.calm (c.gl hx.2) (c.bl _ (by decide)) (c.gl hx.1.2) (c.bl _ (by decide)) (hf _ ta h3).pl (hf _ ta h3).pe) rfl fun _ => rfl
        · cases h
    · cases h
  · split at h
    · rename_i hl
      obtain ⟨ta, h1, h⟩ := bindS h
      obtain ⟨tb, h2, h⟩ := bindS h
      split at h
      · rename_i hm
        obtain rfl := Option.some.inj h
        exact .mk' (fe_lidx hu hm hl (hf _ _ h2).pl (hf _ _ h1).pe (hf _ _ h2).pe) rfl fun _ => rfl
      · split at h
        · rename_i hm
          obtain rfl := Option.some.inj h
          exact .mk' (fe_lcnt hu hm hl (hf _ _ h2).pl (hf _ _ h1).pe (hf _ _ h2).pe) rfl fun _ => rfl
        · cases h
    · cases h
  · split at h
    · rename_i hx
      simp only [Bool.and_eq_true] at hx
      obtain ⟨d1, d2, _⟩ := okN_d hx.2
      obtain ⟨i, hi, h⟩ := bindS h
      obtain rfl := Option.some.inj h
      exact ⟨fe_semp hu (c.ix hi) (c.vis hx.1.2) d1 d2, fun _ => ft_semp hu (c.ix hi) (c.vis hx.1.2) d1 d2, rfl⟩
    · cases h
  · obtain ⟨r, h1, h⟩ := bindS h
    obtain ⟨tk, h2, h⟩ := bindS h
    split at h
    · rename_i hr
      obtain rfl := Option.some.inj h
      exact .mk' (fe_dsp hu h1 hr.1 hr.2 (hf _ _ h2).pl (hf _ _ h2).pe) rfl fun _ => rfl
    · cases h
  · obtain ⟨ts, h1, h⟩ := bindS h
    obtain ⟨q, h2, h⟩ := bindS h
    obtain ⟨ti, h3, h⟩ := bindS h
    split at h
    · rename_i hq
      obtain rfl := Option.some.inj h
      obtain ⟨q1, q2, q3⟩ := snd_list hf h1
      obtain ⟨e, r, rfl⟩ := elLen_pos h1 hq.2
      obtain ⟨as, p1, p2, p3⟩ := picks c h2
      have E1 : ev Φ (.pick q ti ts) = fpick (q.map Φ) (ev Φ ti) (evl Φ ts) := by
        funext ρ g
        simp only [ev, fpick]
        cases ev Φ ti ρ g with
        | ex c g1 => rfl
        | no => rfl
        | ok w g1 =>
          simp only [bind_ok]
          cases w.int? with
          | none => rfl
          | some n =>
            simp only [pickF]
            by_cases hn : 0 ≤ n
            · simp only [if_pos hn, List.getElem?_map]
              cases q[n.toNat]? <;> rfl
            · simp only [if_neg hn]
      exact .mk' (by rw [E1]; exact fe_pick c.room p1 (by rw [p2]; exact hq.1) p3 (hf _ _ h3).pl (hf _ _ h3).pe c.tk q1 q2 q3) rfl fun _ => rfl
    · cases h
  · cases h
theorem compE_snd : ∀ (n : Nat) (sc : Sc) (X : Cx) (Wx : WX), CtxOk sc X C cls Φ L Wx → Snd X C cls Wx Φ (compE n sc)
  | 0, _, _, _, _ => fun e t h => by cases h
  | n + 1, sc, X, Wx, c => fun e t h => by
    have ih := compE_snd n sc X Wx c
    unfold compE at h
    split at h
    · rename_i t0 h0
      obtain rfl := Option.some.inj h
      exact cSpec_snd c ih h0
    split at h
    · exact cName_snd c h
    · exact cConst_snd h
    · obtain ⟨o, ho, h⟩ := bindS h
      obtain ⟨ta, h1, h⟩ := bindS h
      obtain ⟨tb, h2, h⟩ := bindS h
      obtain rfl := Option.some.inj h
      exact .mk' (fe_bin (opOf_ok ho) (ih _ _ h1).pe (ih _ _ h2).pe) rfl fun _ => rfl
    · split at h
      · split at h
        · rename_i hi
          obtain ⟨ta, h1, h⟩ := bindS h
          obtain rfl := Option.some.inj h
          have G1 := ih _ _ h1
          have E1 : ev Φ (.bno ta) = asW (fnotB (tB' (ev Φ ta))) := by
            funext ρ g
            simp only [ev, asW, fnotB, tB']
            cases ev Φ ta ρ g with
            | ok w g1 => simp only [bind_ok]; cases w.bl? <;> rfl
            | ex c g1 => rfl
            | no => rfl
          have E2 : tB' (ev Φ (.bno ta)) = fnotB (tB' (ev Φ ta)) := by
            funext ρ g
            simp only [ev, fnotB, tB']
            cases ev Φ ta ρ g with
            | ok w g1 => simp only [bind_ok]; cases w.bl? <;> rfl
            | ex c g1 => rfl
            | no => rfl
          exact ⟨by rw [E1]; exact fe_not G1.pe, fun _ => by rw [E2]; exact ft_not (G1.pt hi), rfl⟩
        · cases h
      · obtain ⟨ta, h1, h⟩ := bindS h
        obtain rfl := Option.some.inj h
        exact .mk' (fe_neg (ih _ _ h1).pe) rfl fun _ => rfl
      · cases h
    · exact cCmp_snd c ih h
    · obtain ⟨ts, h1, h⟩ := bindS h
      split at h
      · cases h
      · rename_i hn
        split at h
        · obtain rfl := Option.some.inj h
          obtain ⟨q1, q2⟩ := ands ih h1 hn
          exact ⟨q1, fun hi => (q2 (isT_bool hi)).pt, rfl⟩
        · obtain rfl := Option.some.inj h
          obtain ⟨q1, q2⟩ := ors ih h1 hn
          exact ⟨q1, fun hi => (q2 (isT_bool hi)).pt, rfl⟩
    · split at h
      · rename_i hi
        obtain ⟨tc, h0, h⟩ := bindS h
        obtain ⟨ta, h1, h⟩ := bindS h
        obtain ⟨tb, h2, h⟩ := bindS h
        obtain rfl := Option.some.inj h
        have E1 : ev Φ (.ite tc ta tb) = fite (tB' (ev Φ tc)) (ev Φ ta) (ev Φ tb) := by
          funext ρ g
          simp only [ev, fite, tB']
          cases ev Φ tc ρ g with
          | ok w g1 => simp only [bind_ok]
          | ex c g1 => rfl
          | no => rfl
        exact ⟨by rw [E1]; exact fe_ite ((ih _ _ h0).pt hi) (ih _ _ h1).pe (ih _ _ h2).pe, (fun z => by cases z), rfl⟩
      · cases h
    · obtain ⟨ts, h1, h⟩ := bindS h
      split at h
      · rename_i hl
        obtain rfl := Option.some.inj h
        obtain ⟨q1, q2, q3⟩ := snd_list ih h1
        exact .mk' (fe_tup (fun ρ g ws g' e => by rw [q3 _ _ _ _ e]; exact hl) q1) rfl fun _ => rfl
      · cases h
    · obtain ⟨ts, h1, h⟩ := bindS h
      split at h
      · rename_i hl
        obtain rfl := Option.some.inj h
        obtain ⟨q1, q2, q3⟩ := snd_list ih h1
        exact .mk' (fe_lst (fun ρ g ws g' e => by rw [q3 _ _ _ _ e]; exact hl) q1) rfl fun _ => rfl
      · cases h
    · exact cSub_snd ih h
    · exact cCall_snd c ih h
    · exact (cComp_snd c ih (fun own ok s H D cl fp => compE_snd n _ _ _ (c.blk ok s H D cl fp)) h).1
    · cases h
end
end TP
/-! Statements: from the text to the small Python. -/
namespace TP
open PySem L2
abbrev CS := Stmt → Option S
def compSL (f : CS) : List Stmt → Option SL
  | [] => some .nil
  | s :: r => (f s).bind fun t => (compSL f r).bind fun ts => some (.cons t ts)
/-- whether a comprehension stores its name itself -/
def swL (sc : Sc) (y : Str) (py : Pos) (scope : Scope) (pos : Pos) : Bool := sc.isL y && py.line == pos.line && !(scope.names.any fun (n, k) => n == y && (k == .local || k == .cell))
def cSet (sc : Sc) (f : CE) (g : Scope → CE) (x : Str) (px : Pos) (v : Expr) : Option S :=
  if sc.loc x then (sc.ix x).bind fun i => match v with
    | .Dict [] [] _ => if sc.dct.contains x then some (.dnew i) else none
    | .Name y _ => if sc.own.contains y then (if sc.vis y && okN y then (sc.ix y).bind fun j => some (.mov i j) else none) else (f v).bind fun t => some (.asg i (sc.own.contains x) t)
    | .Call (.Attribute (.Name l _) m ap) [] [] cp => if m == ("pop" : Str) && sc.vis l && okN l && ap.endLine == cp.line then (sc.ix l).bind fun j => some (.popT (.one i) j) else none
    | _ => (f v).bind fun t => some (.asg i (sc.own.contains x) t)
  else none
def cSet2 (sc : Sc) (f : CE) (x y : Str) (px py : Pos) (a b : Expr) : Option S :=
  if sc.loc x && sc.loc y && !(x == y) && !(y == x) then (sc.ix x).bind fun i => (sc.ix y).bind fun j => (f a).bind fun ta => (f b).bind fun tb =>
    if sc.isL x && sc.isL y then (if py.line == px.line && !([a, b].all (foldedForSure 8)) && !([a, b].all (constantsAlone 8)) then some (.asg2 i j (sc.own.contains x) (sc.own.contains y) ta tb) else none)
    else some (.asg2 i j (sc.own.contains x) (sc.own.contains y) ta tb)
  else none
def cExp (sc : Sc) (f : CE) (v : Expr) : Option S := match v with
  | .Call (.Attribute (.Name x _) m ap) [a] [] cp =>
    if sc.vis x && okN x && ap.endLine == cp.line then (sc.ix x).bind fun i => if x == sc.twn then (match a with
      | .Constant (.int 0) _ _ => if m == ("append" : Str) then some (.tapp i) else none
      | _ => none) else (f a).bind fun t =>
      if m == ("append" : Str) then some (.app i t) else if m == ("extend" : Str) then some (.ext i t) else if m == ("remove" : Str) then some (.rem i t) else none
    else none
  | _ => if notLc v then (f v).bind fun t => some (.ex t) else none
def frzOf (sc : Sc) : Expr → List Nat
  | .Name x _ => if sc.own.contains x then (match sc.ix x with | some i => [i] | none => []) else []
  | _ => []
def cRaise (sc : Sc) : Expr → Option S
  | .Call (.Name x _) [.Constant (.str _) _ _] [] _ => if sc.gl x then (sc.cs.lookup x).bind fun c => some (.rse c) else none
  | _ => none
def compS : Nat → Sc → Stmt → Option S
  | 0, _, _ => none
  | n + 1, sc, s => match s with
    | .Assign [.Name x px] v _ => cSet sc (compE n sc) (fun s => compE n (sc.blk s)) x px v
    | .Assign [.Tuple [.Name x px, .Name y py] k pt] v _ => match v with
      | .Tuple [a, b] _ _ => cSet2 sc (compE n sc) x y px py a b
      | .Call (.Attribute (.Name l _) m ap) [] [] cp => if m == ("pop" : Str) && sc.vis l && okN l && ap.endLine == cp.line then (sc.ix l).bind fun j => (cTg sc (.Tuple [.Name x px, .Name y py] k pt)).bind fun t => some (.popT t j) else none
      | v => if notLc v && notTup v then (cTg sc (.Tuple [.Name x px, .Name y py] k pt)).bind fun t => (compE n sc v).bind fun tv => some (.asgT t tv) else none
    | .Assign [.Subscript (.Name d _) k _] v _ => if sc.dct.contains d && sc.vis d && okN d && notLc v then (sc.ix d).bind fun i => (compE n sc k).bind fun tk => (compE n sc v).bind fun tv => some (.dset i tk tv) else none
    | .AugAssign (.Name x _) .Add v _ => if sc.loc x then (sc.ix x).bind fun i => (compE n sc v).bind fun t => some (.aug i t) else none
    | .Expr v _ => cExp sc (compE n sc) v
    | .If c a b _ => if isT c then (compE n sc c).bind fun tc => (compSL (compS n sc) a).bind fun ta => (compSL (compS n sc) b).bind fun tb => some (.ife tc ta tb) else none
    | .For tg it b [] _ => (cTg sc tg).bind fun t => (cIter sc (compE n sc) tg it).bind fun ti => (compSL (compS n sc) b).bind fun tb => some (.fr (frzOf sc it) t ti tb)
    | .While c b [] _ => if isT c then (compE n sc c).bind fun tc => (compSL (compS n sc) b).bind fun tb => some (.wh tc tb) else none
    | .Return (some e) _ => (compE n sc e).bind fun t => some (.ret t)
    | .Raise (some e) none _ => cRaise sc e
    | .Try b [.ExceptHandler (some (.Name pe _)) (some en) [.Return (some (.Call (.Name wq _) [.Name en2 _] [] _)) _] _] [] [] _ =>
      if sc.tr && pe == ("PlanError" : Str) && wq == ("_law_which" : Str) && en2 == en && sc.isL en && okN en && sc.gl "PlanError" && sc.gl "_law_which" then (sc.ix en).bind fun _ => (compSL (compS n sc) b).bind fun tb => some (.tryW tb) else none
    | _ => none
section
variable {sc : Sc} {X : Cx} {C : Addr} {cls : Nat → Addr} {Φ : Nat → Fn} {L : Nat} {Wx : WX}
abbrev SndS (X : Cx) (C : Addr) (cls : Nat → Addr) (Wx : WX) (Φ : Nat → Fn) (f : CS) : Prop := ∀ s t, f s = some t → PS X s (tS X.K C cls Wx (run Φ t))
theorem sndSL {f : CS} (hf : SndS X C cls Wx Φ f) : ∀ {ss : List Stmt} {ts : SL}, compSL f ss = some ts → PSs X ss (tS X.K C cls Wx (runs Φ ts))
  | [], ts, h => by obtain rfl := Option.some.inj h; exact fs_nil
  | s :: r, ts, h => by
    unfold compSL at h
    obtain ⟨t, h1, h⟩ := bindS h
    obtain ⟨tr, h2, h⟩ := bindS h
    obtain rfl := Option.some.inj h
    exact fs_cons (hf s t h1) (sndSL hf h2)
theorem sw_lc {elt : Expr} {gs : List Comprehension} {scope : Scope} {pos py : Pos} {y : Str} {l : Nat} (c : CtxOk sc X C cls Φ L Wx) : swapsWith (.ListComp elt gs scope pos) (some (.Name y py)) l X.env = pure (swL sc y py scope pos) := by
  have hk : X.env.scope.kind = .function := by rw [c.scope]; exact c.kind
  have hb : X.env.blockKind = .function := by unfold Env.blockKind; rw [hk]; rfl
  have ky : X.env.kindOf y = sc.scope.names.lookup y := by rw [← c.scope]; rfl
  unfold swapsWith swL
  simp only [hb, ky, Expr.pos]
  have : (sc.scope.names.lookup y == some NameKind.local) = sc.isL y := by
    unfold Sc.isL
    split
    · rename_i e; rw [e]; rfl
    · rename_i e
      cases q : sc.scope.names.lookup y with
      | none => rfl
      | some k => cases k <;> first | rfl | exact absurd q e
  rw [this]
  rfl
theorem CtxOk.isL (c : CtxOk sc X C cls Φ L Wx) {x : Str} (h : sc.isL x = true) : X.env.scope.names.lookup x = some .local := by
  rw [c.scope]
  unfold Sc.isL at h
  split at h
  · assumption
  · cases h
theorem cSet_snd (c : CtxOk sc X C cls Φ L Wx) {n : Nat} {x : Str} {px pos : Pos} {v : Expr} {t : S} (h : cSet sc (compE n sc) (fun s => compE n (sc.blk s)) x px v = some t) : PS X (.Assign [.Name x px] v pos) (tS X.K C cls Wx (run Φ t)) := by
  have ih := compE_snd n sc X Wx c
  unfold cSet at h
  split at h
  · rename_i hx
    obtain ⟨l1, l2⟩ := c.loc hx
    obtain ⟨i, hi, h⟩ := bindS h
    have hi := c.ix hi
    split at h
    · split at h
      · obtain rfl := Option.some.inj h
        exact fs_dnew c.nd' hi l1 l2
      · cases h
    · split at h
      · split at h
        · rename_i hy
          simp only [Bool.and_eq_true] at hy
          obtain ⟨j, hj, h⟩ := bindS h
          obtain rfl := Option.some.inj h
          obtain ⟨d1, d2, _⟩ := okN_d hy.2
          exact fs_mov c.nd' hi l1 l2 (c.ix hj) (c.vis hy.1) d1 d2
        · cases h
      · obtain ⟨tv, h1, h⟩ := bindS h
        obtain rfl := Option.some.inj h
        exact fs_asg c.nd' hi l1 l2 (ih _ _ h1).pe (sw_false rfl _ _ _)
    · split at h
      · rename_i hy
        simp only [Bool.and_eq_true] at hy
        obtain ⟨j, hj, h⟩ := bindS h
        obtain rfl := Option.some.inj h
        obtain ⟨d1, d2, _⟩ := okN_d hy.1.2
        exact fs_popT hy.1.1.1 (tg_one c.nd' hi l1 l2) rfl (c.ix hj) (c.vis hy.1.1.2) d1 d2 hy.2
      · cases h
    · obtain ⟨tv, h1, h⟩ := bindS h
      obtain rfl := Option.some.inj h
      have G1 := ih _ _ h1
      cases hl : notLc v with
      | true => exact fs_asg c.nd' hi l1 l2 G1.pe (sw_false hl _ _ _)
      | false =>
        cases v with
        | ListComp elt gs scope lp =>
          cases hsw : swL sc x px scope lp with
          | false => exact fs_asg c.nd' hi l1 l2 G1.pe (by rw [sw_lc c, hsw])
          | true =>
            cases n with
            | zero => cases h1
            | succ n =>
              have ih := compE_snd n sc X Wx c
              have h1' : cComp sc (compE n sc) (compE n (sc.blk scope)) elt gs scope = some tv := h1
              obtain ⟨_, tg, it, ifs, rfl⟩ := cComp_snd c ih (fun own ok s H D cl fp => compE_snd n _ _ _ (c.blk ok s H D cl fp)) (pos := lp) h1'
              unfold cComp at h1'
              obtain ⟨tt, q1, h1'⟩ := bindS h1'
              split at h1'
              · rename_i hb
                obtain ⟨hs, hb⟩ := hb
                obtain ⟨s, q2, h1'⟩ := bindS h1'
                obtain ⟨cd, q3, h1'⟩ := bindS h1'
                obtain ⟨e, q4, h1'⟩ := bindS h1'
                obtain rfl := Option.some.inj h1'
                have ok : BlkOk X.N X.env.scope scope (tgOwn tt tg) := by rw [c.N, c.scope]; exact blkOk_by hb
                obtain ⟨i1, i2⟩ := cIter_snd c ih q2 false
                have hlx : sc.isL x = true := by
                  unfold swL at hsw
                  simp only [Bool.and_eq_true] at hsw
                  exact hsw.1.1
                exact fs_setLc c.calm c.nd' hi (c.isL hlx) (by rw [sw_lc c, hsw]) i1 ok hs (fun s H D cl fp => (cTg_snd (c.blk ok s H D cl fp) q1).1) (fun s H D cl fp => cIf_snd (compE_snd n _ _ _ (c.blk ok s H D cl fp)) q3) (fun s H D cl fp => (compE_snd n _ _ _ (c.blk ok s H D cl fp) _ _ q4).pe) (folded i2 _)
              · cases h1'
        | SetComp _ _ _ _ => cases n <;> cases h1
        | DictComp _ _ _ _ _ => cases n <;> cases h1
        | _ => simp [notLc] at hl
  · cases h
theorem plain_ns {e : Expr} (h : plainE e = true) : notStar e = true := by
  cases e <;> first | rfl | (simp [plainE] at h)
theorem cSet2_snd (c : CtxOk sc X C cls Φ L Wx) {f : CE} (ih : Snd X C cls Wx Φ f) {x y : Str} {px py pt pt2 pos : Pos} {k k2 : Nat} {a b : Expr} {t : S} (h : cSet2 sc f x y px py a b = some t) :
    PS X (.Assign [.Tuple [.Name x px, .Name y py] k pt] (.Tuple [a, b] k2 pt2) pos) (tS X.K C cls Wx (run Φ t)) := by
  unfold cSet2 at h
  split at h
  · rename_i hx
    simp only [Bool.and_eq_true, Bool.not_eq_true'] at hx
    obtain ⟨⟨⟨hx, hy⟩, hxy⟩, hyx⟩ := hx
    obtain ⟨l1, l2⟩ := c.loc hx
    obtain ⟨l3, l4⟩ := c.loc hy
    obtain ⟨i, hi, h⟩ := bindS h
    obtain ⟨j, hj, h⟩ := bindS h
    obtain ⟨ta, h1, h⟩ := bindS h
    obtain ⟨tb, h2, h⟩ := bindS h
    have G1 := ih _ _ h1
    have G2 := ih _ _ h2
    split at h
    · rename_i hl
      simp only [Bool.and_eq_true] at hl
      split at h
      · rename_i hf
        simp only [Bool.and_eq_true, Bool.not_eq_true'] at hf
        obtain rfl := Option.some.inj h
        exact fs_asg2p c.calm c.nd' (c.ix hi) (c.ix hj) (by rw [c.scope]; exact c.kind) (c.isL hl.1) (c.isL hl.2) hf.1.1 hxy hyx (plain_ns G1.pl) (plain_ns G2.pl) G1.pl G2.pl hf.1.2 hf.2 G1.pe G2.pe
      · cases h
    · rename_i hl
      obtain rfl := Option.some.inj h
      refine fs_asg2t c.calm c.nd' (c.ix hi) (c.ix hj) l1 l3 l2 l4 hxy ?_ G1.pl G2.pl G1.pe G2.pe
      rw [c.scope]
      have e : ∀ z, (sc.scope.names.lookup z == some NameKind.local) = sc.isL z := by
        intro z
        unfold Sc.isL
        split
        · rename_i e; rw [e]; rfl
        · rename_i e
          cases q : sc.scope.names.lookup z with
          | none => rfl
          | some k => cases k <;> first | rfl | exact absurd q e
      rw [e, e]
      simpa using hl
  · cases h
theorem cExp_snd (c : CtxOk sc X C cls Φ L Wx) {f : CE} (ih : Snd X C cls Wx Φ f) {v : Expr} {pos : Pos} {t : S} (h : cExp sc f v = some t) : PS X (.Expr v pos) (tS X.K C cls Wx (run Φ t)) := by
  have hu : X.A.units + 65 < cLine := by have := c.hu; omega
  unfold cExp at h
  split at h
  · rename_i x p m ap a cp
    split at h
    · rename_i hx
      simp only [Bool.and_eq_true] at hx
      obtain ⟨d1, d2, _⟩ := okN_d hx.1.2
      obtain ⟨i, hi, h⟩ := bindS h
      split at h
      · split at h
        · split at h
          · rename_i hm
            obtain rfl := Option.some.inj h
            exact fs_tapp hm (c.ix hi) (c.vis hx.1.1) d1 d2 hx.2
          · cases h
        · cases h
      obtain ⟨ta, h1, h⟩ := bindS h
      split at h
      · rename_i hm
        obtain rfl := Option.some.inj h
        exact fs_app hm (c.ix hi) (c.vis hx.1.1) d1 d2 hx.2 (ih _ _ h1).pl (ih _ _ h1).pe
      · split at h
        · rename_i hm
          obtain rfl := Option.some.inj h
          exact fs_ext hm (c.ix hi) (c.vis hx.1.1) d1 d2 hx.2 (ih _ _ h1).pl (ih _ _ h1).pe
        · split at h
          · rename_i hm
            obtain rfl := Option.some.inj h
            exact fs_rem hu hm (c.ix hi) (c.vis hx.1.1) d1 d2 hx.2 (ih _ _ h1).pl (ih _ _ h1).pe
          · cases h
    · cases h
  · split at h
    · rename_i hl
      obtain ⟨tv, h1, h⟩ := bindS h
      obtain rfl := Option.some.inj h
      exact fs_ex hl (ih _ _ h1).pe
    · cases h
theorem cRaise_snd (c : CtxOk sc X C cls Φ L Wx) {e : Expr} {pos : Pos} {t : S} (h : cRaise sc e = some t) : PS X (.Raise (some e) none pos) (tS X.K C cls Wx (run Φ t)) := by
  unfold cRaise at h
  split at h
  · split at h
    · rename_i hg
      obtain ⟨k, hk, h⟩ := bindS h
      obtain rfl := Option.some.inj h
      exact fs_raise c.calm c.tk ((c.cs _ _ hk).made X rfl rfl (c.gl hg) _ _ _ _ _)
    · cases h
  · cases h
theorem CtxOk.tr (c : CtxOk sc X C cls Φ L Wx) {W : WX} {pn : List (Addr × Obj)} {xe : Value → Shared → Prop} (tk : Takes (X.tr pn xe) W) (ps : PassesOwn (model X.prog X.w) X.A X.env xe) : CtxOk sc (X.tr pn xe) C cls Φ L W where
  N := c.N
  scope := c.scope
  nd := c.nd
  calm := c.calm
  room := c.room
  tk := tk
  fn := c.fn
  kind := c.kind
  fs := c.fs
  bl := c.bl
  cs := c.cs
  gs := c.gs
  pass := ps
  tryOk := c.tryOk
theorem compS_snd : ∀ (n : Nat) (sc : Sc) (X : Cx) (Wx : WX), CtxOk sc X C cls Φ L Wx → SndS X C cls Wx Φ (compS n sc)
  | 0, _, _, _, _ => fun e t h => by cases h
  | n + 1, sc, X, Wx, c => fun s t h => by
    have ih := compE_snd n sc X Wx c
    have ihs := compS_snd n sc X Wx c
    have hu : X.A.units + 65 < cLine := by have := c.hu; omega
    unfold compS at h
    split at h
    · exact cSet_snd c h
    · split at h
      · exact cSet2_snd c ih h
      · split at h
        · rename_i hy
          simp only [Bool.and_eq_true] at hy
          obtain ⟨j, hj, h⟩ := bindS h
          obtain ⟨tt, ht, h⟩ := bindS h
          obtain rfl := Option.some.inj h
          obtain ⟨d1, d2, _⟩ := okN_d hy.1.2
          obtain ⟨t1, t2⟩ := cTg_snd c ht
          exact fs_popT hy.1.1.1 t1 t2 (c.ix hj) (c.vis hy.1.1.2) d1 d2 hy.2
        · cases h
      · split at h
        · rename_i hy
          simp only [Bool.and_eq_true] at hy
          obtain ⟨tt, ht, h⟩ := bindS h
          obtain ⟨tv, hv, h⟩ := bindS h
          obtain rfl := Option.some.inj h
          obtain ⟨t1, t2⟩ := cTg_snd c ht
          exact fs_asgT t1 t2 hy.1 hy.2 (ih _ _ hv).pe
        · cases h
    · split at h
      · rename_i hy
        simp only [Bool.and_eq_true] at hy
        obtain ⟨i, hi, h⟩ := bindS h
        obtain ⟨tk, hk, h⟩ := bindS h
        obtain ⟨tv, hv, h⟩ := bindS h
        obtain rfl := Option.some.inj h
        obtain ⟨d1, d2, _⟩ := okN_d hy.1.2
        exact fs_dset hu (c.ix hi) (c.vis hy.1.1.2) d1 d2 (ih _ _ hk).pl hy.2 (ih _ _ hk).pe (ih _ _ hv).pe
      · cases h
    · split at h
      · rename_i hx
        obtain ⟨i, hi, h⟩ := bindS h
        obtain ⟨tv, hv, h⟩ := bindS h
        obtain rfl := Option.some.inj h
        obtain ⟨l1, l2⟩ := c.loc hx
        exact fs_aug c.nd' (c.ix hi) l1 l2 (ih _ _ hv).pe
      · cases h
    · exact cExp_snd c ih h
    · split at h
      · rename_i hi
        obtain ⟨tc, h0, h⟩ := bindS h
        obtain ⟨ta, h1, h⟩ := bindS h
        obtain ⟨tb, h2, h⟩ := bindS h
        obtain rfl := Option.some.inj h
        exact fs_if ((ih _ _ h0).pt hi) (sndSL ihs h1) (sndSL ihs h2)
      · cases h
    · obtain ⟨tt, ht, h⟩ := bindS h
      obtain ⟨ti, h1, h⟩ := bindS h
      obtain ⟨tb, h2, h⟩ := bindS h
      obtain rfl := Option.some.inj h
      obtain ⟨i1, i2⟩ := cIter_snd c ih h1 true
      exact fs_for c.pass c.calm i1 (cTg_snd c ht).1 (sndSL ihs h2) (folded i2 _)
    · split at h
      · rename_i hi
        obtain ⟨tc, h0, h⟩ := bindS h
        obtain ⟨tb, h2, h⟩ := bindS h
        obtain rfl := Option.some.inj h
        exact fs_while c.pass ((ih _ _ h0).pt hi) (sndSL ihs h2)
      · cases h
    · obtain ⟨te, h1, h⟩ := bindS h
      obtain rfl := Option.some.inj h
      exact fs_ret (ih _ _ h1).pe
    · exact cRaise_snd c h
    · split at h
      · rename_i hx
        simp only [Bool.and_eq_true] at hx
        obtain ⟨⟨⟨⟨⟨⟨⟨h1, h2⟩, h3⟩, h4⟩, h5⟩, h6⟩, h7⟩, h8⟩ := hx
        obtain ⟨i, hi, h⟩ := bindS h
        obtain ⟨tb, hb, h⟩ := bindS h
        obtain rfl := Option.some.inj h
        obtain ⟨d1, d2, _⟩ := okN_d h6
        obtain ⟨t1, t2, t3, f, PE, st, T⟩ := c.tryOk h1
        obtain rfl := eq_of_beq h2
        obtain rfl := eq_of_beq h3
        obtain rfl := eq_of_beq h4
        exact fs_try T t1 t2 (c.room.mono t3) c.nd' (c.ix hi) (c.isL h5) d1 d2 (c.gl h7) (c.gl h8) c.tk fun W pn xe tk ps => sndSL (compS_snd n sc (X.tr pn xe) W (c.tr tk ps)) hb
      · cases h
    · cases h
end
end TP
/-! Defs. -/
namespace TP
open PySem L2
section
variable {P : Program} {w : World} {K : PySem.W.Frag} {mg : Str → Option Value} {base : Heap} {C : Addr} {cls : Nat → Addr} {Φ : Nat → Fn}
theorem spOf_len {sem : Fn} {n : Nat} {vs : List V} {H : Hp} {Q : VK} {E : XK} (h : spOf K C cls sem n vs H Q E) : vs.length = n := by
  obtain ⟨F, oa, ws, g, hK, hC, hH, ho, gr, cb, wo, ha, hn, _⟩ := h
  rw [wo.len, hn]
theorem WsOk.get {F : Fm} {oa : OA} {al : List (Option Addr)} {H0 H : Hp} {vs : List V} {ws : List W} (h : WsOk F oa al H0 H vs ws) : ∀ {i : Nat} {w : W}, ws[i]? = some w → ∃ v, vs[i]? = some v ∧ WOk F oa al H0 H v w := by
  induction h with
  | nil => intro i w e; simp at e
  | cons q _ ih =>
    intro i w e
    cases i with
    | zero => simp at e; subst e; exact ⟨_, rfl, q⟩
    | succ i => simpa using ih (by simpa using e)
theorem args_get {ws : List W} (h : args? ws = some ws) {i : Nat} {w : W} (e : ws[i]? = some w) : w.arg = some w := by
  induction ws generalizing i with
  | nil => simp at e
  | cons a r ih =>
    unfold args? at h
    split at h
    · rename_i x xs e1 e2
      have h' := Option.some.inj h
      injection h' with h1 h2
      cases i with
      | zero =>
        simp at e
        subst e
        rw [e1, h1]
      | succ i =>
        rw [h2] at e2
        exact ih e2 (by simpa using e)
    · cases h
theorem arg_slot {F : Fm} {oa : OA} {al : List (Option Addr)} {H0 H : Hp} {i : Nat} {v : V} {w : W} (ha : w.arg = some w) (h : WOk F oa [] H0 H v w) (hal : ∀ b, some b ∉ al) : VOk F oa al H i v w := by
  cases w with
  | d x =>
    refine Dq.mono (fun a xs e n => ⟨e, fun z => n ?_⟩) (fun _ _ e => e) h
    rcases z with z | z | z
    · exact .inl z
    · exact .inr (.inl z)
    · exact absurd z (hal a)
  | own c => cases c <;> simp [W.arg] at ha
  | pk c => cases c <;> simp [W.arg] at ha
  | twn => exact h
  | scr => exact h
  | obj j => exact h
/-- what stands in the slots at a def's entry -/
def env0 (N : List Str) (ws : List W) : Env' := ws.map some ++ List.replicate (N.length - ws.length) none
theorem rel_start {F : Fm} {oa : OA} {g : G} {H : Hp} {N : List Str} {vs : List V} {ws : List W} (hl : ws.length ≤ N.length) (hH : F.HE = H) (ho : F.oaE = oa) (gr : GRel F oa g H) (cb : ∀ b, F.cb b → ∃ o, H b = some o) (wo : WsOk F oa [] H H vs ws) (ha : args? ws = some ws) :
    Rel F oa (List.replicate N.length none) (env0 N ws) g (L2.start N vs) H := by
  subst hH ho
  have hal : ∀ b : Addr, some b ∉ List.replicate N.length (none : Option Addr) := fun b z => by
    have := List.eq_of_mem_replicate z
    cases this
  have e : vs.length = ws.length := wo.len
  refine ⟨by unfold env0 L2.start; simp [e], by unfold env0; simp; omega, fun i u h => ?_, fun i j p h => ?_, fun p hp => absurd hp (hal p), Ext.refl _ _, gr, fun b h => .inl h, OaLe.refl _, cb⟩
  · have hi : i < ws.length := by
      cases Nat.lt_or_ge i ws.length with
      | inl h => exact h
      | inr hge =>
        unfold env0 at h
        rw [List.getElem?_append_right (by simpa using hge), List.getElem?_replicate] at h
        split at h <;> cases h
    have hw : ws[i]? = some u := by
      unfold env0 at h
      rw [List.getElem?_append_left (by simpa using hi), List.getElem?_map] at h
      cases q : ws[i]? with
      | none => rw [q] at h; cases h
      | some a => rw [q] at h; simpa using h
    obtain ⟨v, hv, q⟩ := wo.get hw
    refine ⟨v, ?_, arg_slot (args_get ha hw) q hal⟩
    unfold L2.start
    rw [List.getElem?_append_left (by rw [List.length_map, e]; exact hi), List.getElem?_map, hv]
    rfl
  · have : some p ∈ List.replicate N.length (none : Option Addr) := List.mem_of_getElem? h
    exact absurd this (hal p)
/-- a def's context -/
structure TabOk (sc : Sc) (P : Program) (w : World) (K : PySem.W.Frag) (mg : Str → Option Value) (base : Heap) (C : Addr) (cls : Nat → Addr) (Φ : Nat → Fn) (L : Nat) : Prop where
  fs : ∀ x i n, sc.fs.lookup x = some (i, n) → FnAt P w K mg base C cls L x n (Φ i)
  bl : ∀ x ∈ bnames, mg x = none
  cs : ∀ x c, sc.cs.lookup x = some c → ExAt K mg x (cls c)
  gs : ∀ x z, sc.gs.lookup x = some z → ∃ u, mg x = some u ∧ RelV (.str z) u
  tr : sc.tr = true → 1 ≤ L ∧ ∃ f PE st, WhTxt K mg cls f PE st
theorem ctx_of {sc : Sc} {L : Nat} (T : TabOk sc P w K mg base C cls Φ L) {N : List Str} {qual : Str} {scope : Scope} {f : Addr} {cdv : Value} {A : Around} {outer : List Env} {s : Shared} {H : Hp} {E : XK} (hN : sc.N = N) (hs : sc.scope = scope) (nd : N.Nodup) (hk : scope.kind = .function)
    (hr : Room L (A.deeper (PyProof.Rows.envOfC qual scope s.heap.objs.size f cdv))) : CtxOk sc (cxOf (L2.CX P w) P w K mg base N qual scope f cdv A outer s H E) C cls Φ L (fun cls d _ H => E cls d H) where
  N := hN.symm
  scope := hs.symm
  nd := by rw [hN]; exact nd
  calm := rfl
  room := hr
  tk := takes_of rfl rfl rfl rfl
  fn := fun _ _ => rfl
  kind := by rw [hs]; exact hk
  fs := T.fs
  bl := T.bl
  cs := T.cs
  gs := T.gs
  pass := passes_of rfl
  tryOk := fun z => ⟨rfl, rfl, T.tr z⟩
/-- the reading at a def's entry -/
theorem start_of {L : Nat} {N : List Str} {n : Nat} {sem : Fn} {body : SL} (hb : ∀ ws g, ws.length = n → sem ws g = .no ∨ sem ws g = (match runs Φ body (env0 N ws) g with | .nx _ g1 => .ok (.d .none) g1 | .rt w g1 => .ok w g1 | .ex c g1 => .ex c g1 | .no => .no)) (hn : n ≤ N.length) {vs : List V} {H : Hp} {Q : VK} {E : XK}
    (h : spOf K C cls sem n vs H Q E) : tS K C cls (fun cls d _ H => E cls d H) (runs Φ body) { nx := fun _ H' => Q .non H', rt := Q } (L2.start N vs) H := by
  obtain ⟨F, oa, ws, g, hK, hC, hH, ho, gr, cb, wo, ha, hl, h⟩ := h
  have R := rel_start (N := N) (by omega) hH ho gr cb wo ha
  refine ⟨F, oa, _, env0 N ws, g, hK, hC, R, ?_⟩
  subst hH ho
  rcases hb ws g hl with e | e
  · rw [e] at h; exact h.elim
  · rw [e] at h
    cases e2 : runs Φ body (env0 N ws) g with
    | no => rw [e2] at h; exact h
    | nx ρ' g' =>
      rw [e2] at h
      exact fun oa' al' σ' H' R' _ => h oa' .non H' R'.toStep .non
    | rt w g' =>
      rw [e2] at h
      exact h
    | ex c g' =>
      rw [e2] at h
      exact fun oa' _ H' st => h oa' H' st
/-- THE RULE for a def -/
theorem fn_def {x qual : Str} {st : Stmt} {f : Addr} {fd : FuncData} {N ps : List Str} {L n : Nat} {sc : Sc} {body : SL} {sem : Fn} (F : Fun K x qual st f fd) (S : FnScope N ps (defScope st)) (T : TabOk sc P w K mg base C cls Φ L) (hN : sc.N = N) (hs : sc.scope = defScope st)
    (hc : compSL (compS n sc) (defBody st) = some body) (hp : ps.length ≤ N.length) (hb : ∀ ws g, ws.length = ps.length → sem ws g = .no ∨ sem ws g = (match runs Φ body (env0 N ws) g with | .nx _ g1 => .ok (.d .none) g1 | .rt w g1 => .ok w g1 | .ex c g1 => .ex c g1 | .no => .no)) :
    FnOk P w K mg base (L2.CX P w) (L + 1) f fd ps (spOf K C cls sem ps.length) := by
  refine Fun.okX F S (fun vs H Q E h => spOf_len h) fun cdv A outer s H vs Q E hr hsp => ?_
  have c := ctx_of (E := E) (H := H) (outer := outer) T hN hs S.nd S.kind hr
  exact ⟨_, sndSL (compS_snd n sc _ _ c) hc, start_of (L := L) hb hp hsp⟩
theorem FnAt.mono {L L' : Nat} {x : Str} {n : Nat} {sem : Fn} (h : FnAt P w K mg base C cls L x n sem) (hl : L ≤ L') : FnAt P w K mg base C cls L' x n sem := by
  obtain ⟨f, fd, ps, h1, h2⟩ := h.ex
  exact ⟨f, fd, ps, h1.mono hl, h2⟩
end
end TP
/-! A def's data, from its text. -/
namespace TP
open PySem L2
def fastN (sc : Scope) : List Str := sc.more.filterMap fun p => if p.1 == ("fast" : Str) then (match p.2 with | .str s => some s | _ => none) else none
def slotN (sc : Scope) : List Str := if (fastN sc).isEmpty then sc.names.filterMap (fun p => match p.2 with | .local => some p.1 | .cell => some p.1 | _ => none) else fastN sc
/-- names whose lists change -/
def ownS : Nat → Stmt → List Str
  | 0, _ => []
  | n + 1, s => match s with
    | .Expr (.Call (.Attribute (.Name x _) m _) _ _ _) _ => if m == ("append" : Str) || m == ("extend" : Str) || m == ("remove" : Str) then [x] else []
    | .Assign _ (.Call (.Attribute (.Name x _) m _) [] [] _) _ => if m == ("pop" : Str) then [x] else []
    | .If _ a b _ => (a.map (ownS n)).flatten ++ (b.map (ownS n)).flatten
    | .For _ _ b _ _ => (b.map (ownS n)).flatten
    | .While _ b _ _ => (b.map (ownS n)).flatten
    | .Try b _ _ _ _ => (b.map (ownS n)).flatten
    | _ => []
def dctS : Stmt → List Str
  | .Assign [.Name x _] (.Dict [] [] _) _ => [x]
  | _ => []
def mkSc (st : Stmt) (fs : List (Str × Nat × Nat)) (cs : List (Str × Nat)) (gs : List (Str × Str)) (tr : Bool := false) : Sc :=
  { N := slotN (defScope st), scope := defScope st, wr := (defScope st).names, own := ((defBody st).map (ownS 20)).flatten, dct := ((defBody st).map dctS).flatten, fs, cs, gs, scr := "_law_script", twn := "_law_town", tr }
def defNm : Stmt → Option (Str × Nat)
  | .FunctionDef x a _ _ _ _ _ _ _ _ => some (x, a.args.length)
  | _ => none
/-- the exceptions, in _law_which's order -/
def excs : List (Str × Nat) := [("InvalidPlayers", 0), ("InvalidThree", 1), ("InvalidPlan", 2), ("InvalidPlayer", 3), ("InvalidFour", 4), ("InvalidNames", 5), ("NoPlan", 6), ("NoDays", 7), ("MetAlready", 8), ("NothingToUndo", 9), ("ParseError", 10)]
def clsNm : Stmt → Option Str
  | .ClassDef x _ _ _ _ _ _ _ _ _ _ => some x
  | _ => none
def tabFs (l : List Stmt) (i : Nat) : List (Str × Nat × Nat) := match l with
  | [] => []
  | s :: r => match defNm s with
    | some (x, n) => (x, i, n) :: tabFs r (i + 1)
    | none => tabFs r i
def tabCs (l : List Stmt) (i : Nat) : List (Str × Nat) := match l with
  | [] => []
  | s :: r => match clsNm s with
    | some x => (x, i) :: tabCs r (i + 1)
    | none => tabCs r i
def compF (st : Stmt) (fs : List (Str × Nat × Nat)) (cs : List (Str × Nat)) (gs : List (Str × Str)) (tr : Bool := false) : Option SL := compSL (compS 40 (mkSc st fs cs gs tr)) (defBody st)
end TP
/-! All defs of a text, by their values. -/
namespace TP
open PySem L2
/-- the functions, one after another: (slots, body) -/
def mkPhi : List (Nat × SL) → Nat → (Nat → Fn) → (Nat → Fn)
  | [], _, Φ => Φ
  | (n, b) :: r, i, Φ => mkPhi r (i + 1) fun j => if j = i then fnv Φ n b else Φ j
def noFn : Nat → Fn := fun _ _ _ => .no
/-- draws by an oracle -/
def oDraw : Fn := fun ws g => match ws with
  | [.scr, .twn, .d (.int m)] => match g.ns[g.k]? with
    | some r => if 0 ≤ r ∧ r < m then .ok (.d (.int r)) { g with k := g.k + 1 } else .no
    | none => .no
  | _ => .no
end TP
/-! The law's head. -/
namespace TP
open PySem L2
section
variable {P : Program} {w : World} {K : PySem.W.Frag} {mg : Str → Option Value} {base : Heap} {C : Addr} {cls : Nat → Addr}
theorem exAt {x : Str} {E : Addr} (q : PySem.W.excIn K E [.type "ValueError", .type "Exception", .type "BaseException", .type "object"] "ValueError.__new__" = true) (gC : mg x = some (.ref E)) (kC : PySem.W.keepIn K (.ref E) = true)
    (h1 : PySem.W.subIn K (.ref E) (.type "BaseException") = some true) (h2 : PySem.W.typeIn K (.ref E) = some (.type "type")) (hd : (x == ("__debug__" : Str)) = false) : ExAt K mg x E :=
  ⟨fun X hK hm hg m j p p2 pos => by
    subst hK hm
    exact pmk_own PySem.F.excBase_ValueError q gC kC (raises_own h1 h2) hg hd⟩
/-- the table of the defs so far -/
structure Tb (P : Program) (w : World) (K : PySem.W.Frag) (mg : Str → Option Value) (base : Heap) (C : Addr) (cls : Nat → Addr) (cs : List (Str × Nat)) (gs : List (Str × Str)) (fs : List (Str × Nat × Nat)) (Φ : Nat → Fn) (L : Nat) : Prop where
  fs : ∀ x i n, fs.lookup x = some (i, n) → i < L ∧ FnAt P w K mg base C cls L x n (Φ i)
  bl : ∀ x ∈ bnames, mg x = none
  cs : ∀ x c, cs.lookup x = some c → ExAt K mg x (cls c)
  gs : ∀ x z, gs.lookup x = some z → ∃ u, mg x = some u ∧ RelV (.str z) u
/-- a def as the top has made it -/
structure DefOk (K : PySem.W.Frag) (mg : Str → Option Value) (st : Stmt) (x : Str) (ps : List Str) : Prop where
  ex : ∃ f fd, Fun K x x st f fd ∧ mg x = some (.ref f) ∧ Binds K fd ps []
  S : FnScope (slotN (defScope st)) ps (defScope st)
  le : ps.length ≤ (slotN (defScope st)).length
variable {cs : List (Str × Nat)} {gs : List (Str × Str)} {fs : List (Str × Nat × Nat)} {Φ : Nat → Fn} {L : Nat}
theorem Tb.tab (T : Tb P w K mg base C cls cs gs fs Φ L) (st : Stmt) : TabOk (mkSc st fs cs gs) P w K mg base C cls Φ L :=
  ⟨fun x i n h => (T.fs x i n h).2, T.bl, T.cs, T.gs, fun z => absurd z Bool.false_ne_true⟩
theorem fnv_env {n : Nat} {N : List Str} {b : SL} {ws : List W} {g : G} (h : n = N.length) : fnv Φ n b ws g = (match runs Φ b (env0 N ws) g with | .nx _ g1 => .ok (.d .none) g1 | .rt w g1 => .ok w g1 | .ex c g1 => .ex c g1 | .no => .no) := by
  subst h
  rfl
theorem Tb.snoc (T : Tb P w K mg base C cls cs gs fs Φ L) {st : Stmt} {x : Str} {ps : List Str} {b : SL} (d : DefOk K mg st x ps) (hc : compF st fs cs gs = some b) (sem : Fn) (hs : ∀ ws g, ws.length = ps.length → sem ws g = .no ∨ sem ws g = fnv Φ (slotN (defScope st)).length b ws g) (hx : fs.lookup x = none) :
    Tb P w K mg base C cls cs gs (fs ++ [(x, L, ps.length)]) (fun j => if j = L then sem else Φ j) (L + 1) := by
  obtain ⟨f, fd, F, hm, hb⟩ := d.ex
  refine ⟨fun y i n h => ?_, T.bl, T.cs, T.gs⟩
  rw [List.lookup_append] at h
  cases e : fs.lookup y with
  | some p =>
    rw [e] at h
    have h' : p = (i, n) := by simpa using h
    subst h'
    obtain ⟨hi, hf⟩ := T.fs y i n e
    refine ⟨by omega, ?_⟩
    rw [if_neg (by omega)]
    exact hf.mono (Nat.le_succ _)
  | none =>
    rw [e] at h
    have h' : List.lookup y [(x, L, ps.length)] = some (i, n) := by simpa using h
    unfold List.lookup at h'
    split at h'
    · rename_i e2
      obtain rfl : y = x := by simpa using e2
      cases h'
      refine ⟨Nat.lt_succ_self _, ?_⟩
      rw [if_pos rfl]
      refine ⟨f, fd, ps, ?_, rfl, hm, F.kp, hb⟩
      exact fn_def (sc := mkSc st fs cs gs) (n := 40) (Φ := Φ) F d.S (T.tab st) rfl rfl hc d.le fun ws g hl => by
        have := hs ws g hl
        rwa [fnv_env rfl] at this
    · cases h'
/-- exactly what the text computes -/
theorem Tb.add (T : Tb P w K mg base C cls cs gs fs Φ L) {st : Stmt} {x : Str} {ps : List Str} {b : SL} (d : DefOk K mg st x ps) (hc : compF st fs cs gs = some b) {n : Nat} (hn : n = (slotN (defScope st)).length) (hx : fs.lookup x = none) :
    Tb P w K mg base C cls cs gs (fs ++ [(x, L, ps.length)]) (fun j => if j = L then fnv Φ n b else Φ j) (L + 1) := T.snoc d hc _ (fun ws g _ => .inr (by rw [hn])) hx
/-- a def that catches -/
theorem Tb.tabT (T : Tb P w K mg base C cls cs gs fs Φ L) (st : Stmt) (hL : 1 ≤ L) (W : ∃ f PE st, WhTxt K mg cls f PE st) : TabOk (mkSc st fs cs gs true) P w K mg base C cls Φ L :=
  ⟨fun x i n h => (T.fs x i n h).2, T.bl, T.cs, T.gs, fun _ => ⟨hL, W⟩⟩
theorem Tb.addT (T : Tb P w K mg base C cls cs gs fs Φ L) {st : Stmt} {x : Str} {ps : List Str} {b : SL} (d : DefOk K mg st x ps) (hL : 1 ≤ L) (W : ∃ f PE st, WhTxt K mg cls f PE st) (hc : compF st fs cs gs true = some b) {n : Nat} (hn : n = (slotN (defScope st)).length) (hx : fs.lookup x = none) :
    Tb P w K mg base C cls cs gs (fs ++ [(x, L, ps.length)]) (fun j => if j = L then fnv Φ n b else Φ j) (L + 1) := by
  obtain ⟨f, fd, F, hm, hb⟩ := d.ex
  refine ⟨fun y i n h => ?_, T.bl, T.cs, T.gs⟩
  rw [List.lookup_append] at h
  cases e : fs.lookup y with
  | some p =>
    rw [e] at h
    have h' : p = (i, n) := by simpa using h
    subst h'
    obtain ⟨hi, hf⟩ := T.fs y i n e
    refine ⟨by omega, ?_⟩
    rw [if_neg (by omega)]
    exact hf.mono (Nat.le_succ _)
  | none =>
    rw [e] at h
    have h' : List.lookup y [(x, L, ps.length)] = some (i, n) := by simpa using h
    unfold List.lookup at h'
    split at h'
    · rename_i e2
      obtain rfl : y = x := by simpa using e2
      cases h'
      refine ⟨Nat.lt_succ_self _, ?_⟩
      rw [if_pos rfl]
      refine ⟨f, fd, ps, ?_, rfl, hm, F.kp, hb⟩
      exact fn_def (sc := mkSc st fs cs gs true) (n := 40) (Φ := Φ) F d.S (T.tabT st hL W) rfl rfl hc d.le fun ws g hl => .inr (fnv_env hn)
    · cases h'
/-! ### the law itself -/
def spLaw (K : PySem.W.Frag) : Sp := fun vs H Q _ => ∃ (a : Addr) (ns : List Int), vs = [.ref a] ∧ SqF K H a (ns.map V.int) ∧ ns.length ≤ 63 ∧ ∀ H', Q (.bl true) H'
def rtTrue : Out → Bool
  | .rt (.d (.bool true)) _ => true
  | _ => false
theorem rtTrue_ex {o : Out} (h : rtTrue o = true) : ∃ g, o = .rt (.d (.bool true)) g := by
  unfold rtTrue at h
  split at h
  · exact ⟨_, rfl⟩
  · cases h
/-- what stands in the law's slots behind the town's line -/
def lawEnv (n : Nat) : Env' := some .scr :: some .twn :: List.replicate (n - 2) none
def isTown : List Stmt → Bool
  | .Assign [.Name x _] (.List [] _) _ :: _ => x == ("_law_town" : Str)
  | _ => false
theorem isTown_ex {l : List Stmt} (h : isTown l = true) : ∃ p p2 p3, l = .Assign [.Name "_law_town" p] (.List [] p2) p3 :: l.tail := by
  unfold isTown at h
  split at h
  · obtain rfl := eq_of_beq h
    exact ⟨_, _, _, rfl⟩
  · cases h
theorem law_def (T : Tb P w K mg base C cls cs gs fs Φ L) {st : Stmt} {f : Addr} {fd : FuncData} {R : SL} (F : Fun K "law" "law" st f fd) (S : FnScope (slotN (defScope st)) ["_law_script"] (defScope st)) (ht : isTown (defBody st) = true)
    (hc : compSL (compS 40 (mkSc st fs cs gs)) (defBody st).tail = some R) (h1 : (slotN (defScope st))[1]? = some ("_law_town" : Str)) (hloc : (defScope st).names.lookup ("_law_town" : Str) = some .local ∨ (defScope st).names.lookup ("_law_town" : Str) = some .cell)
    (hr : ∀ ns : List Int, ns.length ≤ 63 → rtTrue (runs Φ R (lawEnv (slotN (defScope st)).length) ⟨0, ns, []⟩) = true) : FnOk P w K mg base (L2.CX P w) (L + 1) f fd ["_law_script"] (spLaw K) := by
  refine Fun.okX F S (fun vs H Q E h => ?_) fun cdv A outer s H vs Q E hrm hsp => ?_
  · obtain ⟨a, ns, rfl, _⟩ := h
    rfl
  · obtain ⟨a, ns, rfl, hsc, hns, hq⟩ := hsp
    have c := ctx_of (E := E) (H := H) (outer := outer) (sc := mkSc st fs cs gs) (T.tab st) rfl rfl S.nd S.kind hrm
    obtain ⟨p, p2, p3, hb⟩ := isTown_ex ht
    rw [hb]
    refine ⟨_, pss_cons (ps_set (i := 1) c.nd' h1 hloc (pe_lst pa_nil) rfl (.inl rfl)) (sndSL (compS_snd 40 _ _ _ c) hc), ?_⟩
    refine ⟨by rw [sizeLine_eq]; exact Nat.zero_le _, fun q hq0 => ?_⟩
    generalize hN : slotN (defScope st) = N at *
    obtain ⟨g', hg⟩ := rtTrue_ex (hr ns hns)
    have hlen : 2 ≤ N.length := by
      have := (List.getElem?_eq_some_iff.mp h1).1
      omega
    let F0 : Fm := ⟨K, q, a, C, upd H q (.lst []), [], fun _ => False⟩
    have hal : ∀ b : Addr, some b ∉ List.replicate N.length (none : Option Addr) := fun b z => by
      have := List.eq_of_mem_replicate z
      cases this
    have gr : GRel F0 [] ⟨0, ns, []⟩ (upd H q (.lst [])) := ⟨upd_same, hsc.ext (M := fun _ => False) (Ext.upd hq0), fun i og e => by simp at e, rfl, by simp, by simp⟩
    have R0 : Rel F0 [] (List.replicate N.length none) (lawEnv N.length) ⟨0, ns, []⟩ ((L2.start N [.ref a]).set 1 (some (.ref q))) (upd H q (.lst [])) := by
      refine ⟨by unfold lawEnv L2.start; simp; omega, by unfold lawEnv; simp; omega, fun i u h => ?_, fun i j p h => absurd (List.mem_of_getElem? h) (hal p), fun p hp => absurd hp (hal p), Ext.refl _ _, gr, fun b h => .inl h, OaLe.refl _, fun b h => h.elim⟩
      unfold lawEnv at h
      match i, h with
      | 0, h =>
        simp at h
        subst h
        refine ⟨.ref a, ?_, rfl⟩
        rw [List.getElem?_set_ne (by decide)]
        rfl
      | 1, h =>
        simp at h
        subst h
        refine ⟨.ref q, ?_, rfl⟩
        rw [List.getElem?_set_self (by unfold L2.start; simp; omega)]
      | i + 2, h =>
        simp [List.getElem?_replicate] at h
    refine ⟨F0, [], _, lawEnv N.length, ⟨0, ns, []⟩, rfl, rfl, R0, ?_⟩
    rw [hg]
    intro oa' v H' _ wo
    cases wo
    exact hq H'
theorem walk {l : PySem.W.OpenLaw} {q : Program} {loose : List Str} {XP : (Str → Option Value) → Heap → Prop} {YP : World → Heap → Prop} {d : DefRec} {K : Params → PySem.W.Frag} {k : Nat} (hn : l.most = some 63) (hdf : d.params.defaults = []) (hrm : Room k callerA)
    (hY : ∀ (w : World) (h : Heap), YP w h → (K w.params).In h)
    (F : ∀ (w : World) (mg : Str → Option Value) (fa : Addr) (h : Heap), (K w.params).In h → h.Ns mainGlobals mg → mg d.name = some (.ref fa) →
      ∃ fd : FuncData, (∀ (s : Shared) (u : Value), BindsTo s fd ⟨[u], []⟩ [(("_law_script" : Str), u)]) ∧ ∀ base : Heap, (K w.params).In base → base.Ns mainGlobals mg → FnOk l.prog w (K w.params) mg base (L2.CX l.prog w) k fa fd ["_law_script"] (spLaw (K w.params))) :
    PySem.W.WalkO q loose XP YP l.row.toRowW d [] (fun f vs => PySem.call f vs) :=
  L2.walk_of (n := 63) (k := k) (x := "_law_script") (CX := fun w => L2.CX l.prog w) (sp := fun w => spLaw (K w.params)) hn (by decide) hdf hrm hY F (fun w H a ns hl hO hS => ⟨a, ns, rfl, by
    rcases hS with (h | h) | h
    · rcases hO a with z | ⟨o, xs, z⟩
      · rw [z] at h; cases h
      · rw [z] at h; cases h
    · exact .inl h
    · exact .inr h, hl, fun _ => rfl⟩) fun w H s e s' z => by
      obtain ⟨_, _, _, _, _, _, _, _, _, _, _, _, z⟩ := z
      exact z.elim
end
end TP
/-! The draws. -/
namespace TP
open PySem L2
def tCell : SL := (.cons (.ife (.o2 .lt (.v 1) (.slen 0)) (.cons (.ret (.six 0 (.v 1))) .nil) .nil) (.cons (.ife (.semp 0) (.cons (.ret (.c (PyData.int 0))) .nil) .nil) (.cons (.asg 2 false (.six 0 (.o2 .mod (.v 1) (.slen 0)))) (.cons (.fr [] (.one 3) (.rng1 (.blt .min2 (.cons (.o2 .fdiv (.v 1) (.slen 0)) (.cons (.c (PyData.int 60)) .nil)))) (.cons (.asg 2 false (.o2 .fdiv (.v 2) (.c (PyData.int 1000003)))) .nil)) (.cons (.ret (.o2 .add (.o2 .add (.o2 .mul (.six 0 (.o2 .mod (.v 1) (.slen 0))) (.c (PyData.int 31))) (.v 1)) (.o2 .mul (.v 2) (.c (PyData.int 101))))) .nil)))))
def tMixed (c : Nat) : SL := (.cons (.asg 3 false (.o2 .mod (.o2 .add (.o2 .add (.o2 .mul (.call c (.cons (.v 0) (.cons (.v 1) .nil))) (.c (PyData.int 1103515245))) (.o2 .mul (.c (PyData.int 7919)) (.v 1))) (.c (PyData.int 12345))) (.c (PyData.int 2147483647)))) (.cons (.ret (.o2 .mod (.o2 .mod (.o2 .mod (.o2 .pow (.v 3) (.c (PyData.int 5))) (.c (PyData.int 2147483647))) (.c (PyData.int 999983))) (.v 2))) .nil))
def tDraw (m : Nat) : SL := (.cons (.tapp 1) (.cons (.ret (.call m (.cons (.v 0) (.cons (.tlen 1) (.cons (.v 2) .nil))))) .nil))
def tPick (d : Nat) : SL := (.cons (.ret (.ix (.v 2) (.call d (.cons (.v 0) (.cons (.v 1) (.cons (.blt .len (.cons (.v 2) .nil)) .nil)))))) .nil)
section
variable {Φ : Nat → Fn} {ρ ρ' : Env'} {g g' : G}
theorem runs_nx {s : S} {r : SL} (h : run Φ s ρ g = .nx ρ' g') : runs Φ (.cons s r) ρ g = runs Φ r ρ' g' := by rw [runs, h]; rfl
theorem runs_rt {s : S} {r : SL} {w : W} (h : run Φ s ρ g = .rt w g') : runs Φ (.cons s r) ρ g = .rt w g' := by rw [runs, h]; rfl
theorem runs_ex {s : S} {r : SL} {c : Nat} (h : run Φ s ρ g = .ex c g') : runs Φ (.cons s r) ρ g = .ex c g' := by rw [runs, h]; rfl
theorem run_ife {c : E} {a b : SL} {k : Bool} (h : ev Φ c ρ g = .ok (.d (.bool k)) g') : run Φ (.ife c a b) ρ g = if k = true then runs Φ a ρ g' else runs Φ b ρ g' := by rw [run, h]; rfl
theorem run_asg {i : Nat} {o : Bool} {e : E} {w : W} (h : ev Φ e ρ g = .ok w g') (hp : put ρ i o w = some ρ') : run Φ (.asg i o e) ρ g = .nx ρ' g' := by rw [run, h]; simp only [out_ok, hp, of_some]
theorem run_ret {e : E} {x : PyData} (h : ev Φ e ρ g = .ok (.d x) g') : run Φ (.ret e) ρ g = .rt (.d x) g' := by rw [run, h]; rfl
theorem run_retO {e : E} {c : Con} (h : ev Φ e ρ g = .ok (.own c) g') : run Φ (.ret e) ρ g = .rt (.own c) g' := by rw [run, h]; rfl
theorem run_retP {e : E} {c : Con} (h : ev Φ e ρ g = .ok (.pk c) g') : run Φ (.ret e) ρ g = .rt (.own c) g' := by rw [run, h]; rfl
theorem run_fr {fz : List Nat} {t : Tg} {s : I} {b : SL} {xs : List PyData} (h : evi Φ true s (frz fz ρ) g = .ok xs g') : run Φ (.fr fz t s b) ρ g = forL (fun ρ g => runs Φ b ρ g) t xs (frz fz ρ) g' := by rw [run, h]; rfl
theorem ev_o2 {o : O2} {a b : E} {w u z : W} {x y : PyData} {g1 g2 : G} (h1 : ev Φ a ρ g = .ok w g1) (h2 : ev Φ b ρ g1 = .ok u g2) (e1 : w.rd = some x) (e2 : u.rd = some y) (e : binD o x y = some z) : ev Φ (.o2 o a b) ρ g = .ok z g2 := by
  rw [ev, h1]; simp only [bind_ok, h2]; rw [e1, e2]; simp only [Option.bind_eq_bind, Option.bind_some, e, of_some]
theorem ev_call {f : Nat} {es : EL} {ws xs : List W} {w : W} {g1 g2 : G} (h : evl Φ es ρ g = .ok ws g1) (ha : args? ws = some xs) (hf : Φ f xs g1 = .ok w g2) (hc : (!ws.any W.isPk || w.clean) = true) : ev Φ (.call f es) ρ g = .ok w g2 := by
  rw [ev, h]; simp only [bind_ok, ha, of_some, hf]; rw [if_pos hc]
theorem fnv_rt {n : Nat} {b : SL} {ws : List W} {w : W} (h : runs Φ b (ws.map some ++ List.replicate (n - ws.length) none) g = .rt w g') : fnv Φ n b ws g = .ok w g' := by unfold fnv; rw [h]
theorem fnv_nx {n : Nat} {b : SL} {ws : List W} (h : runs Φ b (ws.map some ++ List.replicate (n - ws.length) none) g = .nx ρ' g') : fnv Φ n b ws g = .ok (.d .none) g' := by unfold fnv; rw [h]
theorem fnv_ex {n : Nat} {b : SL} {ws : List W} {c : Nat} (h : runs Φ b (ws.map some ++ List.replicate (n - ws.length) none) g = .ex c g') : fnv Φ n b ws g = .ex c g' := by unfold fnv; rw [h]
end
theorem ev_i2 {Φ : Nat → Fn} {ρ : Env'} {g g1 g2 : G} {o : O2} {a b : E} {i j : Int} {z : W} (h1 : ev Φ a ρ g = .ok (.d (.int i)) g1) (h2 : ev Φ b ρ g1 = .ok (.d (.int j)) g2) (e : binD o (.int i) (.int j) = some z) : ev Φ (.o2 o a b) ρ g = .ok z g2 := ev_o2 h1 h2 rfl rfl e
theorem b_mod {i j : Int} (h : 0 < j) : binD .mod (.int i) (.int j) = some (.d (.int (i % j))) := by
  show (if 0 < j then some (W.d (.int (i % j))) else none) = _
  rw [if_pos h]
theorem b_fdiv {i j : Int} (h : 0 < j) (h2 : j < 1073741824) : binD .fdiv (.int i) (.int j) = some (.d (.int (i / j))) := by
  show (if 0 < j ∧ j < 1073741824 then some (W.d (.int (i / j))) else none) = _
  rw [if_pos ⟨h, h2⟩]
theorem b_mul {i j : Int} (h : (-(2 ^ 64) < i ∧ i < 2 ^ 64) ∨ (-(2 ^ 64) < j ∧ j < 2 ^ 64)) : binD .mul (.int i) (.int j) = some (.d (.int (i * j))) := by
  show (if (-(2 ^ 64) < i ∧ i < 2 ^ 64) ∨ (-(2 ^ 64) < j ∧ j < 2 ^ 64) then some (W.d (.int (i * j))) else none) = _
  rw [if_pos h]
theorem b_pow5 {i : Int} (h : i.natAbs < 2 ^ 64) : binD .pow (.int i) (.int 5) = some (.d (.int (i ^ 5))) := by
  show (if (0 : Int) ≤ 5 ∧ (5 : Int) ≤ 1000000 ∧ i.natAbs < 2 ^ 64 then some (W.d (.int (i ^ (5 : Int).toNat))) else none) = _
  rw [if_pos ⟨by decide, by decide, h⟩]
  rfl
theorem cmp_lt (i j : Int) : (compare i j == Ordering.lt) = decide (i < j) := by
  show ((if i < j then Ordering.lt else if i = j then .eq else .gt) == .lt) = _
  by_cases h : i < j
  · simp [h]
  · simp [h]
    split <;> decide
theorem atI_some {α : Type} {ns : List α} {j : Int} (h0 : 0 ≤ j) (h : j < ns.length) : ∃ v, atI ns j = some v ∧ ns[j.toNat]? = some v := by
  unfold atI ixN
  rw [if_pos h0, if_pos h]
  have hl : j.toNat < ns.length := by omega
  exact ⟨ns[j.toNat], List.getElem?_eq_getElem hl, List.getElem?_eq_getElem hl⟩
theorem cell_loop (Φ : Nat → Fn) (g : G) (k : W) : ∀ (xs : List PyData) (sp : Int), ∃ sp' : Int, forL (fun ρ g => runs Φ (.cons (.asg 2 false (.o2 .fdiv (.v 2) (.c (PyData.int 1000003)))) .nil) ρ g) (.one 3) xs [some .scr, some k, some (.d (.int sp)), none] g = .nx [some .scr, some k, some (.d (.int sp')), none] g
  | [], sp => ⟨sp, rfl⟩
  | x :: xs, sp => by
    obtain ⟨sp', h⟩ := cell_loop Φ g k xs (sp / 1000003)
    refine ⟨sp', ?_⟩
    rw [← h]
    rfl
theorem cell_ex (Φ : Nat → Fn) (g : G) (k : Int) (h0 : 0 ≤ k) (h1 : k < 1000000) (hn : g.ns.length ≤ 63) : ∃ v : Int, fnv Φ 4 tCell [.scr, .d (.int k)] g = .ok (.d (.int v)) g := by
  have c1 : ev Φ (.o2 .lt (.v 1) (.slen 0)) [some .scr, some (.d (.int k)), none, none] g = .ok (.d (.bool (decide (k < g.ns.length)))) g := by
    rw [← cmp_lt]; rfl
  by_cases hk : k < g.ns.length
  · obtain ⟨v, hv, _⟩ := atI_some h0 hk
    refine ⟨v, fnv_rt (runs_rt ((run_ife c1).trans ?_))⟩
    rw [decide_eq_true hk, if_pos rfl]
    refine runs_rt (run_ret ?_)
    show Res.of ((atI g.ns k).map fun n => W.d (.int n)) g = _
    rw [hv]
    rfl
  · by_cases he : g.ns.isEmpty = true
    · refine ⟨0, fnv_rt ((runs_nx (ρ' := [some .scr, some (.d (.int k)), none, none]) (g' := g) ((run_ife c1).trans ?_)).trans (runs_rt ((run_ife (k := true) (g' := g) ?_).trans ?_)))⟩
      · rw [decide_eq_false hk, if_neg Bool.false_ne_true]
        rfl
      · show Res.ok (W.d (.bool g.ns.isEmpty)) g = _
        rw [he]
      · rfl
    · have hpos : 0 < (g.ns.length : Int) := by
        cases e : g.ns with
        | nil => rw [e] at he; exact absurd rfl he
        | cons a r => simp
      have hm0 : 0 ≤ k % (g.ns.length : Int) := Int.emod_nonneg _ (by omega)
      have hm1 : k % (g.ns.length : Int) < g.ns.length := Int.emod_lt_of_pos _ hpos
      obtain ⟨v, hv, _⟩ := atI_some hm0 hm1
      have six : ∀ a b : Option W, ev Φ (.six 0 (.o2 .mod (.v 1) (.slen 0))) [some .scr, some (.d (.int k)), a, b] g = .ok (.d (.int v)) g := by
        intro a b
        have e1 : ev Φ (.o2 .mod (.v 1) (.slen 0)) [some .scr, some (.d (.int k)), a, b] g = .ok (.d (.int (k % g.ns.length))) g := by
          refine ev_o2 (x := .int k) (y := .int g.ns.length) (w := .d (.int k)) (u := .d (.int g.ns.length)) rfl rfl rfl rfl ?_
          show (if 0 < (g.ns.length : Int) then some (W.d (.int (k % g.ns.length))) else none) = _
          rw [if_pos hpos]
        show ((ev Φ (.o2 .mod (.v 1) (.slen 0)) [some .scr, some (.d (.int k)), a, b] g).bind fun w g1 => Res.of (do (atI g1.ns (← w.int?)).map fun n => W.d (.int n)) g1) = _
        rw [e1]
        show Res.of ((atI g.ns (k % g.ns.length)).map fun n => W.d (.int n)) g = _
        rw [hv]
        rfl
      obtain ⟨sp', hl⟩ := cell_loop Φ g (.d (.int k)) (rngL 0 (if 60 < k / (g.ns.length : Int) then 60 else k / (g.ns.length : Int))) v
      have hq0 : 0 ≤ k / (g.ns.length : Int) := Int.ediv_nonneg h0 (by omega)
      refine ⟨v * 31 + k + sp' * 101, fnv_rt ((runs_nx (ρ' := [some .scr, some (.d (.int k)), none, none]) (g' := g) ((run_ife c1).trans ?_)).trans ((runs_nx (ρ' := [some .scr, some (.d (.int k)), none, none]) (g' := g) ((run_ife (k := false) (g' := g) ?_).trans ?_)).trans ((runs_nx (run_asg (six none none) rfl)).trans ((runs_nx ((run_fr (g' := g) ?_).trans hl)).trans (runs_rt (run_ret ?_))))))⟩
      · rw [decide_eq_false hk, if_neg Bool.false_ne_true]
        rfl
      · show Res.ok (W.d (.bool g.ns.isEmpty)) g = _
        have : g.ns.isEmpty = false := by simpa using he
        rw [this]
      · rfl
      · have e1 : ev Φ (.o2 .fdiv (.v 1) (.slen 0)) [some .scr, some (.d (.int k)), some (.d (.int v)), none] g = .ok (.d (.int (k / g.ns.length))) g := by
          refine ev_o2 (x := .int k) (y := .int g.ns.length) (w := .d (.int k)) (u := .d (.int g.ns.length)) rfl rfl rfl rfl ?_
          show (if 0 < (g.ns.length : Int) ∧ (g.ns.length : Int) < 1073741824 then some (W.d (.int (k / g.ns.length))) else none) = _
          rw [if_pos ⟨hpos, by omega⟩]
        have e2 : ev Φ (.blt .min2 (.cons (.o2 .fdiv (.v 1) (.slen 0)) (.cons (.c (PyData.int 60)) .nil))) [some .scr, some (.d (.int k)), some (.d (.int v)), none] g = .ok (.d (.int (if 60 < k / (g.ns.length : Int) then 60 else k / (g.ns.length : Int)))) g := by
          rw [ev]
          simp only [evl, e1, bind_ok]
          rfl
        show evi Φ true (.rng1 _) [some .scr, some (.d (.int k)), some (.d (.int v)), none] g = _
        rw [evi, e2]
        show Res.of (rngD 0 _) g = _
        unfold rngD
        have hk9 : k / (g.ns.length : Int) ≤ k := Int.ediv_le_self _ h0
        rw [if_pos (by split <;> omega)]
        rfl
      · have e3 := six (some (.d (.int sp'))) none
        have e4 : ev Φ (.o2 .mul (.six 0 (.o2 .mod (.v 1) (.slen 0))) (.c (PyData.int 31))) [some .scr, some (.d (.int k)), some (.d (.int sp')), none] g = .ok (.d (.int (v * 31))) g := by
          refine ev_o2 (x := .int v) (y := .int 31) e3 rfl rfl rfl ?_
          show (if _ then _ else _) = _
          rw [if_pos (.inr (by decide))]
        have e5 : ev Φ (.o2 .mul (.v 2) (.c (PyData.int 101))) [some .scr, some (.d (.int k)), some (.d (.int sp')), none] g = .ok (.d (.int (sp' * 101))) g := by
          refine ev_o2 (x := .int sp') (y := .int 101) (w := .d (.int sp')) rfl rfl rfl rfl ?_
          show (if _ then _ else _) = _
          rw [if_pos (.inr (by decide))]
        exact ev_o2 (x := .int (v * 31 + k)) (y := .int (sp' * 101)) (ev_o2 (x := .int (v * 31)) (y := .int k) (u := .d (.int k)) e4 rfl rfl rfl rfl) e5 rfl rfl rfl
theorem mixed_ex {Φ : Nat → Fn} {c : Nat} {g : G} {k m v : Int} (hc : Φ c [.scr, .d (.int k)] g = .ok (.d (.int v)) g) (hm : 0 < m) : ∃ r : Int, 0 ≤ r ∧ r < m ∧ fnv Φ 4 (tMixed c) [.scr, .d (.int k), .d (.int m)] g = .ok (.d (.int r)) g := by
  have hs0 : 0 ≤ (v * 1103515245 + 7919 * k + 12345) % 2147483647 := Int.emod_nonneg _ (by decide)
  have hs1 : (v * 1103515245 + 7919 * k + 12345) % 2147483647 < 2147483647 := Int.emod_lt_of_pos _ (by decide)
  have e1 : ev Φ (.call c (.cons (.v 0) (.cons (.v 1) .nil))) [some .scr, some (.d (.int k)), some (.d (.int m)), none] g = .ok (.d (.int v)) g := ev_call (ws := [.scr, .d (.int k)]) (xs := [.scr, .d (.int k)]) rfl rfl hc rfl
  have e2 := ev_i2 (o := .mul) (b := .c (PyData.int 1103515245)) e1 rfl (b_mul (.inr (by decide)))
  have e3 : ev Φ (.o2 .mul (.c (PyData.int 7919)) (.v 1)) [some .scr, some (.d (.int k)), some (.d (.int m)), none] g = .ok (.d (.int (7919 * k))) g := ev_i2 (i := 7919) (j := k) rfl rfl (b_mul (.inl (by decide)))
  have e4 := ev_i2 (o := .mod) (b := .c (PyData.int 2147483647)) (ev_i2 (o := .add) (b := .c (PyData.int 12345)) (ev_i2 (o := .add) e2 e3 rfl) rfl rfl) rfl (b_mod (by decide))
  generalize hS : (v * 1103515245 + 7919 * k + 12345) % 2147483647 = S at *
  refine ⟨S ^ 5 % 2147483647 % 999983 % m, Int.emod_nonneg _ (by omega), Int.emod_lt_of_pos _ hm, fnv_rt ((runs_nx (run_asg e4 rfl)).trans (runs_rt (run_ret ?_)))⟩
  have f1 : ev Φ (.o2 .pow (.v 3) (.c (PyData.int 5))) [some .scr, some (.d (.int k)), some (.d (.int m)), some (.d (.int S))] g = .ok (.d (.int (S ^ 5))) g := ev_i2 (i := S) (j := 5) rfl rfl (b_pow5 (by omega))
  have f2 := ev_i2 (o := .mod) (b := .c (PyData.int 999983)) (ev_i2 (o := .mod) (b := .c (PyData.int 2147483647)) f1 rfl (b_mod (by decide))) rfl (b_mod (by decide))
  exact ev_i2 (j := m) f2 rfl (b_mod hm)
/-- a draw -/
def DrawOk (Φ : Nat → Fn) (d : Nat) : Prop := ∀ (g : G) (m : Int), g.ns.length ≤ 63 → g.k < 100000 → 0 < m → ∃ r : Int, 0 ≤ r ∧ r < m ∧ Φ d [.scr, .twn, .d (.int m)] g = .ok (.d (.int r)) { g with k := g.k + 1 }
theorem draw_ex {Φ : Nat → Fn} {mi : Nat} (hm : ∀ (g : G) (k m : Int), g.ns.length ≤ 63 → 0 ≤ k → k < 1000000 → 0 < m → ∃ r : Int, 0 ≤ r ∧ r < m ∧ Φ mi [.scr, .d (.int k), .d (.int m)] g = .ok (.d (.int r)) g) (g : G) (m : Int) (hn : g.ns.length ≤ 63) (hk : g.k < 100000) (h0 : 0 < m) :
    ∃ r : Int, 0 ≤ r ∧ r < m ∧ fnv Φ 3 (tDraw mi) [.scr, .twn, .d (.int m)] g = .ok (.d (.int r)) { g with k := g.k + 1 } := by
  obtain ⟨r, r0, r1, hr⟩ := hm { g with k := g.k + 1 } ((g.k + 1 : Nat) : Int) m hn (by omega) (by omega) h0
  refine ⟨r, r0, r1, fnv_rt ((runs_nx (ρ' := [some .scr, some .twn, some (.d (.int m))]) (g' := { g with k := g.k + 1 }) ?_).trans (runs_rt (run_ret ?_)))⟩
  · show (if g.k < lim then Out.nx _ _ else Out.no) = _
    rw [if_pos (by unfold lim; omega)]
    rfl
  · exact ev_call (ws := [.scr, .d (.int ((g.k + 1 : Nat) : Int)), .d (.int m)]) (xs := [.scr, .d (.int ((g.k + 1 : Nat) : Int)), .d (.int m)]) rfl rfl hr rfl
theorem pick_ex {Φ : Nat → Fn} {d : Nat} (hd : DrawOk Φ d) (g : G) (xs : List PyData) (hn : g.ns.length ≤ 63) (hk : g.k < 100000) (hx : xs ≠ []) : ∃ x, x ∈ xs ∧ fnv Φ 3 (tPick d) [.scr, .twn, .d (.list xs)] g = .ok (.d x) { g with k := g.k + 1 } := by
  have hl : 0 < (xs.length : Int) := by
    cases xs with
    | nil => exact absurd rfl hx
    | cons a r => simp
  obtain ⟨r, r0, r1, hr⟩ := hd g xs.length hn hk hl
  obtain ⟨x, h1, h2⟩ := atI_some (ns := xs) r0 r1
  refine ⟨x, List.mem_of_getElem? h2, fnv_rt (runs_rt (run_ret ?_))⟩
  have e1 : ev Φ (.call d (.cons (.v 0) (.cons (.v 1) (.cons (.blt .len (.cons (.v 2) .nil)) .nil)))) [some .scr, some .twn, some (.d (.list xs))] g = .ok (.d (.int r)) { g with k := g.k + 1 } :=
    ev_call (ws := [.scr, .twn, .d (.int xs.length)]) (xs := [.scr, .twn, .d (.int xs.length)]) rfl rfl hr rfl
  show ((ev Φ (.v 2) [some .scr, some .twn, some (.d (.list xs))] g).bind fun w g1 => (ev Φ (.call d _) [some .scr, some .twn, some (.d (.list xs))] g1).bind fun u g2 => Res.of (do (ixD (← w.rd) (← u.rd)).map W.d) g2) = _
  show ((ev Φ (.call d _) [some .scr, some .twn, some (.d (.list xs))] g).bind fun u g2 => Res.of (do (ixD (.list xs) (← u.rd)).map W.d) g2) = _
  rw [e1]
  show Res.of ((atI xs r).map W.d) _ = _
  rw [h1]
  rfl
end TP
namespace TP
open PySem L2
def SL.take : Nat → SL → SL
  | 0, _ => .nil
  | _ + 1, .nil => .nil
  | n + 1, .cons s r => .cons s (SL.take n r)
def SL.drop : Nat → SL → SL
  | 0, t => t
  | _ + 1, .nil => .nil
  | n + 1, .cons s r => SL.drop n r
theorem runs_split (Φ : Nat → Fn) : ∀ (k : Nat) (t : SL) (ρ : Env') (g : G), runs Φ t ρ g = (runs Φ (t.take k) ρ g).then fun ρ' g' => runs Φ (t.drop k) ρ' g'
  | 0, t, ρ, g => rfl
  | k + 1, .nil, ρ, g => rfl
  | k + 1, .cons s r, ρ, g => by
    simp only [SL.take, SL.drop, runs]
    cases run Φ s ρ g with
    | nx ρ1 g1 => simp only [then_nx]; exact runs_split Φ k r ρ1 g1
    | rt w g1 => rfl
    | ex c g1 => rfl
    | no => rfl
theorem split_nx {Φ : Nat → Fn} {t : SL} {ρ ρ' : Env'} {g g' : G} (k : Nat) (h : runs Φ (t.take k) ρ g = .nx ρ' g') : runs Φ t ρ g = runs Φ (t.drop k) ρ' g' := by
  rw [runs_split Φ k t ρ g, h]
  rfl
end TP
/-! The classes of exceptions, from what the top has written. -/
namespace TP
open PySem L2
theorem kit_self {K : PySem.W.Frag} {D : Addr} : PySem.W.kitOne K (.ref D) (.ref D) = some true := by
  unfold PySem.W.kitOne
  rw [if_pos (beq_self_eq_true _)]
theorem kit_ne {K : PySem.W.Frag} {D C : Addr} (h1 : PySem.W.isClsIn K C = true) (h2 : PySem.W.typeIn K (.ref C) = some (.type "type")) (h3 : PySem.W.subIn K (.ref D) (.ref C) = some false) (hne : D ≠ C) : PySem.W.kitOne K (.ref D) (.ref C) = some false := by
  unfold PySem.W.kitOne PySem.W.kitCls
  rw [if_neg (by simpa using hne)]
  have h1' : (PySem.W.clsIn K C).isSome = true := h1
  simp only [h1', h2, beq_self_eq_true, Bool.and_self, if_true]
  exact h3
theorem kit_ty {K : PySem.W.Frag} {D : Addr} {T : String} (h0 : PySem.W.kitMeta T = true) (h3 : PySem.W.subIn K (.ref D) (.type T) = some true) : PySem.W.kitOne K (.ref D) (.type T) = some true := by
  unfold PySem.W.kitOne PySem.W.kitCls
  rw [if_neg (by simp)]
  simp only [h0, if_true]
  exact h3
example : PySem.W.kitMeta "ValueError" = true := by decide +kernel
end TP
/-! Values of loops and comprehensions, in plain words. -/
namespace TP
open PySem L2
theorem each_ok {f : PyData → G → Res (Option PyData)} {F : PyData → Option PyData} {g : G} : ∀ {xs : List PyData}, (∀ x ∈ xs, f x g = .ok (F x) g) → each f xs g = .ok (xs.filterMap F) g
  | [], _ => rfl
  | x :: r, h => by
    unfold each
    rw [h x List.mem_cons_self]
    simp only [bind_ok]
    rw [each_ok fun y hy => h y (List.mem_cons_of_mem _ hy)]
    simp only [bind_ok, List.filterMap_cons]
    cases F x <;> rfl
/-- a comprehension without draws -/
theorem ev_comp {Φ : Nat → Fn} {ρ : Env'} {g g1 : G} {e : E} {t : Tg} {s : I} {cd : OE} {xs : List PyData} {F : PyData → Option PyData} (h : evi Φ false s ρ g = .ok xs g1) (hl : xs.length ≤ lim) (hf : ∀ x ∈ xs, fturn t (evc Φ cd) (ev Φ e) ρ x g1 = .ok (F x) g1) :
    ev Φ (.comp e t s cd) ρ g = .ok (.own (.lst (xs.filterMap F))) g1 := by
  rw [ev, h]
  simp only [bind_ok]
  rw [if_pos hl]
  have : each (fturn t (evc Φ cd) (ev Φ e) ρ) xs g1 = .ok (xs.filterMap F) g1 := each_ok hf
  show (each (fturn t (evc Φ cd) (ev Φ e) ρ) xs g1).bind _ = _
  rw [this]
  rfl
theorem turn_some {t : Tg} {fcd : Env' → G → Res Bool} {fe : Env' → G → Res W} {ρ ρ' : Env'} {x y : PyData} {g : G} {w : W} (hb : bindT t x ρ = some ρ') (hc : fcd ρ' g = .ok true g) (he : fe ρ' g = .ok w g) (hw : w.fz = some y) : fturn t fcd fe ρ x g = .ok (some y) g := by
  unfold fturn
  rw [hb]
  simp only [of_some, bind_ok, hc, if_true, he, hw, Option.map_some, nox_ok]
theorem turn_none {t : Tg} {fcd : Env' → G → Res Bool} {fe : Env' → G → Res W} {ρ ρ' : Env'} {x : PyData} {g : G} (hb : bindT t x ρ = some ρ') (hc : fcd ρ' g = .ok false g) : fturn t fcd fe ρ x g = .ok none g := by
  unfold fturn
  rw [hb]
  simp only [of_some, bind_ok, hc, Bool.false_eq_true, if_false, nox_ok]
/-- a loop by an invariant on the environment -/
theorem forL_inv {body : Env' → G → Out} {t : Tg} {g : G} (I : Nat → Env') : ∀ (xs : List PyData) (i : Nat), (∀ j x, xs[j]? = some x → ∃ ρ1 ρ2, bindT t x (I (i + j)) = some ρ1 ∧ body ρ1 g = .nx ρ2 g ∧ mask (I (i + j)) ρ2 = I (i + j + 1)) → forL body t xs (I i) g = .nx (I (i + xs.length)) g
  | [], i, _ => rfl
  | x :: r, i, h => by
    obtain ⟨ρ1, ρ2, h1, h2, h3⟩ := h 0 x rfl
    unfold forL
    rw [Nat.add_zero] at h1 h3
    rw [h1]
    simp only [h2, then_nx, h3]
    have := forL_inv I r (i + 1) fun j y hy => by
      have := h (j + 1) y (by simpa using hy)
      rwa [show i + (j + 1) = i + 1 + j from by omega] at this
    rw [this, List.length_cons, show i + 1 + r.length = i + (r.length + 1) from by omega]
end TP
/-! plans.py by values. -/
namespace TP
open PySem L2
def tIsInt : SL := (.cons (.ret (.ban (.cons (.isi .int (.v 0)) (.cons (.bno (.isi .bool (.v 0))) (.cons (.chain .le .le (.v 1) (.v 0) (.v 2)) .nil))))) .nil)
/-- is_integer -/
def isIntD (x : PyData) (lo hi : Int) : Bool := match x with
  | .int i => decide (lo ≤ i ∧ i ≤ hi)
  | _ => false
theorem v_isInt (Φ : Nat → Fn) (x : PyData) (lo hi : Int) (g : G) : fnv Φ 3 tIsInt [.d x, .d (.int lo), .d (.int hi)] g = .ok (.d (.bool (isIntD x lo hi))) g := by
  cases x with
  | int i =>
    have e : isIntD (.int i) lo hi = (decide (lo ≤ i) && decide (i ≤ hi)) := by
      unfold isIntD
      exact Bool.decide_and _ _
    rw [e]
    by_cases h : lo ≤ i
    · rw [decide_eq_true h]
      refine fnv_rt (runs_rt (run_ret ?_))
      show (Res.of (bt (some (W.d (.bool (decide (lo ≤ i)))))) g |>.bind fun k g3 => if k = true then _ else _).bind _ = _
      rw [decide_eq_true h]
      rfl
    · rw [decide_eq_false h]
      refine fnv_rt (runs_rt (run_ret ?_))
      show (Res.of (bt (some (W.d (.bool (decide (lo ≤ i)))))) g |>.bind fun k g3 => if k = true then _ else _).bind _ = _
      rw [decide_eq_false h]
      rfl
  | _ => rfl
end TP
/-! A text hangs on the defs that it calls alone. -/
namespace TP
open PySem L2
mutual
def cE (L : Nat) : E → Bool
  | .v _ | .c _ | .gs _ _ | .dsort _ | .slen _ | .semp _ | .tlen _ => true
  | .neg a | .bno a | .rev a | .isi _ a | .dget _ a | .six _ a | .dsp _ a => cE L a
  | .o2 _ a b | .ix a b | .lidx a b | .lcnt a b => cE L a && cE L b
  | .chain _ _ a b c | .ite a b c => cE L a && cE L b && cE L c
  | .ban es | .bor es | .tup es | .lst es | .blt _ es => cEL L es
  | .sl a lo hi => cE L a && cOE L lo && cOE L hi
  | .call f es => decide (f < L) && cEL L es
  | .pick fs i es => fs.all (fun f => decide (f < L)) && cE L i && cEL L es
  | .comp e _ s cd => cE L e && cI L s && cOE L cd
def cEL (L : Nat) : EL → Bool
  | .nil => true
  | .cons a r => cE L a && cEL L r
def cOE (L : Nat) : OE → Bool
  | .non => true
  | .som a => cE L a
def cI (L : Nat) : I → Bool
  | .seq a | .rng1 a | .enm a => cE L a
  | .rng2 a b | .zip a b => cE L a && cE L b
  | .rng3 a b c => cE L a && cE L b && cE L c
end
mutual
def cS (L : Nat) : S → Bool
  | .asg _ _ e | .asgT _ e | .aug _ e | .app _ e | .ext _ e | .rem _ e | .ret e | .ex e => cE L e
  | .asg2 _ _ _ _ a b | .dset _ a b => cE L a && cE L b
  | .mov _ _ | .popT _ _ | .dnew _ | .rse _ | .tapp _ => true
  | .ife c a b => cE L c && cSL L a && cSL L b
  | .fr _ _ s b => cI L s && cSL L b
  | .wh c b => cE L c && cSL L b
  | .tryW b => cSL L b
def cSL (L : Nat) : SL → Bool
  | .nil => true
  | .cons s r => cS L s && cSL L r
end
section
variable {Φ Ψ : Nat → Fn} {L : Nat}
mutual
theorem ev_ag (h : ∀ j, j < L → Φ j = Ψ j) : ∀ e, cE L e = true → ev Φ e = ev Ψ e
  | .v _, _ | .c _, _ | .gs _ _, _ | .dsort _, _ | .slen _, _ | .semp _, _ | .tlen _, _ => by funext ρ g; simp only [ev]
  | .neg a, q | .bno a, q | .rev a, q | .isi _ a, q | .dget _ a, q | .six _ a, q | .dsp _ a, q => by
    have := ev_ag h a (by simpa only [cE] using q)
    funext ρ g; simp only [ev, this]
  | .o2 _ a b, q | .ix a b, q | .lidx a b, q | .lcnt a b, q => by
    simp only [cE, Bool.and_eq_true] at q
    have h1 := ev_ag h a q.1
    have h2 := ev_ag h b q.2
    funext ρ g; simp only [ev, h1, h2]
  | .chain _ _ a b c, q | .ite a b c, q => by
    simp only [cE, Bool.and_eq_true] at q
    have h1 := ev_ag h a q.1.1
    have h2 := ev_ag h b q.1.2
    have h3 := ev_ag h c q.2
    funext ρ g; simp only [ev, h1, h2, h3]
  | .ban es, q => by
    have := evAnd_ag h es (by simpa only [cE] using q)
    funext ρ g; simp only [ev, this]
  | .bor es, q => by
    have := evOr_ag h es (by simpa only [cE] using q)
    funext ρ g; simp only [ev, this]
  | .tup es, q | .lst es, q | .blt _ es, q => by
    have := evl_ag h es (by simpa only [cE] using q)
    funext ρ g; simp only [ev, this]
  | .sl a lo hi, q => by
    simp only [cE, Bool.and_eq_true] at q
    have h1 := ev_ag h a q.1.1
    have h2 := evo_ag h lo q.1.2
    have h3 := evo_ag h hi q.2
    funext ρ g; simp only [ev, h1, h2, h3]
  | .call f es, q => by
    simp only [cE, Bool.and_eq_true, decide_eq_true_eq] at q
    have h1 := evl_ag h es q.2
    have h2 := h f q.1
    funext ρ g; simp only [ev, h1, h2]
  | .pick fs i es, q => by
    simp only [cE, Bool.and_eq_true] at q
    have h1 := evl_ag h es q.2
    have h2 := ev_ag h i q.1.2
    have h3 : ∀ n f, pickF fs n = some f → Φ f = Ψ f := by
      intro n f e
      unfold pickF at e
      split at e
      · exact h f (of_decide_eq_true (List.all_eq_true.mp q.1.1 f (List.mem_of_getElem? e)))
      · cases e
    funext ρ g
    simp only [ev, h1, h2]
    congr 1
    funext w g1
    cases w.int? with
    | none => rfl
    | some n =>
      simp only
      cases e : pickF fs n with
      | none => rfl
      | some f => simp only [h3 n f e]
  | .comp e _ s cd, q => by
    simp only [cE, Bool.and_eq_true] at q
    have h1 := ev_ag h e q.1.1
    have h2 := evi_ag h s q.1.2
    have h3 := evc_ag h cd q.2
    funext ρ g; simp only [ev, h1, h2 false, h3]
theorem evl_ag (h : ∀ j, j < L → Φ j = Ψ j) : ∀ e, cEL L e = true → evl Φ e = evl Ψ e
  | .nil, _ => by funext ρ g; simp only [evl]
  | .cons a r, q => by
    simp only [cEL, Bool.and_eq_true] at q
    have h1 := ev_ag h a q.1
    have h2 := evl_ag h r q.2
    funext ρ g; simp only [evl, h1, h2]
theorem evAnd_ag (h : ∀ j, j < L → Φ j = Ψ j) : ∀ e, cEL L e = true → evAnd Φ e = evAnd Ψ e
  | .nil, _ => by funext ρ g; simp only [evAnd]
  | .cons a .nil, q => by
    simp only [cEL, Bool.and_eq_true] at q
    have h1 := ev_ag h a q.1
    funext ρ g; simp only [evAnd, h1]
  | .cons a (.cons b r), q => by
    have q' : cE L a = true ∧ cEL L (.cons b r) = true := by rw [cEL, Bool.and_eq_true] at q; exact q
    have h1 := ev_ag h a q'.1
    have h2 := evAnd_ag h (.cons b r) q'.2
    funext ρ g; simp only [evAnd, h1, h2]
theorem evOr_ag (h : ∀ j, j < L → Φ j = Ψ j) : ∀ e, cEL L e = true → evOr Φ e = evOr Ψ e
  | .nil, _ => by funext ρ g; simp only [evOr]
  | .cons a .nil, q => by
    simp only [cEL, Bool.and_eq_true] at q
    have h1 := ev_ag h a q.1
    funext ρ g; simp only [evOr, h1]
  | .cons a (.cons b r), q => by
    have q' : cE L a = true ∧ cEL L (.cons b r) = true := by rw [cEL, Bool.and_eq_true] at q; exact q
    have h1 := ev_ag h a q'.1
    have h2 := evOr_ag h (.cons b r) q'.2
    funext ρ g; simp only [evOr, h1, h2]
theorem evo_ag (h : ∀ j, j < L → Φ j = Ψ j) : ∀ e, cOE L e = true → evo Φ e = evo Ψ e
  | .non, _ => by funext ρ g; simp only [evo]
  | .som a, q => by
    have h1 := ev_ag h a (by simpa only [cOE] using q)
    funext ρ g; simp only [evo, h1]
theorem evc_ag (h : ∀ j, j < L → Φ j = Ψ j) : ∀ e, cOE L e = true → evc Φ e = evc Ψ e
  | .non, _ => by funext ρ g; simp only [evc]
  | .som a, q => by
    have h1 := ev_ag h a (by simpa only [cOE] using q)
    funext ρ g; simp only [evc, h1]
theorem evi_ag (h : ∀ j, j < L → Φ j = Ψ j) : ∀ e, cI L e = true → ∀ z, evi Φ z e = evi Ψ z e
  | .seq a, q, z | .rng1 a, q, z | .enm a, q, z => by
    have h1 := ev_ag h a (by simpa only [cI] using q)
    funext ρ g; simp only [evi, h1]
  | .rng2 a b, q, z | .zip a b, q, z => by
    simp only [cI, Bool.and_eq_true] at q
    have h1 := ev_ag h a q.1
    have h2 := ev_ag h b q.2
    funext ρ g; simp only [evi, h1, h2]
  | .rng3 a b c, q, z => by
    simp only [cI, Bool.and_eq_true] at q
    have h1 := ev_ag h a q.1.1
    have h2 := ev_ag h b q.1.2
    have h3 := ev_ag h c q.2
    funext ρ g; simp only [evi, h1, h2, h3]
end
mutual
theorem run_ag (h : ∀ j, j < L → Φ j = Ψ j) : ∀ s, cS L s = true → run Φ s = run Ψ s
  | .asg _ _ e, q | .asgT _ e, q | .aug _ e, q | .app _ e, q | .ext _ e, q | .rem _ e, q | .ret e, q | .ex e, q => by
    have h1 := ev_ag h e (by simpa only [cS] using q)
    funext ρ g; simp only [run, h1]
  | .asg2 _ _ _ _ a b, q | .dset _ a b, q => by
    simp only [cS, Bool.and_eq_true] at q
    have h1 := ev_ag h a q.1
    have h2 := ev_ag h b q.2
    funext ρ g; simp only [run, h1, h2]
  | .mov _ _, _ | .popT _ _, _ | .dnew _, _ | .rse _, _ | .tapp _, _ => by funext ρ g; simp only [run]
  | .ife c a b, q => by
    simp only [cS, Bool.and_eq_true] at q
    have h1 := ev_ag h c q.1.1
    have h2 := runs_ag h a q.1.2
    have h3 := runs_ag h b q.2
    funext ρ g; simp only [run, h1, h2, h3]
  | .fr _ _ s b, q => by
    simp only [cS, Bool.and_eq_true] at q
    have h1 := evi_ag h s q.1 true
    have h2 := runs_ag h b q.2
    funext ρ g; simp only [run, h1, h2]
  | .wh c b, q => by
    simp only [cS, Bool.and_eq_true] at q
    have h1 := ev_ag h c q.1
    have h2 := runs_ag h b q.2
    funext ρ g; simp only [run, h1, h2]
  | .tryW b, q => by
    have h1 := runs_ag h b (by simpa only [cS] using q)
    funext ρ g; simp only [run, h1]
theorem runs_ag (h : ∀ j, j < L → Φ j = Ψ j) : ∀ s, cSL L s = true → runs Φ s = runs Ψ s
  | .nil, _ => by funext ρ g; simp only [runs]
  | .cons a r, q => by
    simp only [cSL, Bool.and_eq_true] at q
    have h1 := run_ag h a q.1
    have h2 := runs_ag h r q.2
    funext ρ g; simp only [runs, h1, h2]
end
theorem fnv_ag (h : ∀ j, j < L → Φ j = Ψ j) {n : Nat} {b : SL} (q : cSL L b = true) : fnv Φ n b = fnv Ψ n b := by
  funext ws g
  unfold fnv
  rw [runs_ag h b q]
end
/-- the last table, from the list of the defs -/
def ties : List (Nat × SL) → Nat → Bool
  | [], _ => true
  | p :: r, i => cSL i p.2 && ties r (i + 1)
def tab : List (Nat × SL) → Nat → (Nat → Fn) → (Nat → Fn)
  | [], _, Φ => Φ
  | p :: r, i, Φ => tab r (i + 1) fun j => if j = i then fnv Φ p.1 p.2 else Φ j
theorem tab_low : ∀ (D : List (Nat × SL)) (i : Nat) (Φ : Nat → Fn) (j : Nat), j < i → tab D i Φ j = Φ j
  | [], i, Φ, j, h => rfl
  | p :: r, i, Φ, j, h => by
    show tab r (i + 1) _ j = _
    rw [tab_low r (i + 1) _ j (by omega), if_neg (by omega)]
/-- the last table holds each def over itself -/
theorem tab_tie : ∀ (D : List (Nat × SL)) (i : Nat) (Φ : Nat → Fn), ties D i = true → ∀ (k : Nat) (p : Nat × SL), D[k]? = some p → tab D i Φ (i + k) = fnv (tab D i Φ) p.1 p.2
  | [], i, Φ, _, k, p, h => by simp at h
  | q :: r, i, Φ, ht, 0, p, h => by
    simp at h
    subst h
    simp only [ties, Bool.and_eq_true] at ht
    show tab r (i + 1) _ (i + 0) = fnv (tab r (i + 1) _) _ _
    rw [tab_low r (i + 1) _ _ (by omega), if_pos (by omega)]
    refine fnv_ag (L := i) (fun j hj => ?_) ht.1
    rw [tab_low r (i + 1) _ j (by omega), if_neg (by omega)]
  | q :: r, i, Φ, ht, k + 1, p, h => by
    simp only [ties, Bool.and_eq_true] at ht
    have := tab_tie r (i + 1) (fun j => if j = i then fnv Φ q.1 q.2 else Φ j) ht.2 k p (by simpa using h)
    show tab r (i + 1) _ (i + (k + 1)) = fnv (tab r (i + 1) _) _ _
    rw [show i + (k + 1) = i + 1 + k from by omega]
    exact this
end TP
/-! Draws over the last table. -/
namespace TP
open PySem L2
theorem drawOk_of {Φ : Nat → Fn} {c m d : Nat} (hc : Φ c = fnv Φ 4 tCell) (hm : Φ m = fnv Φ 4 (tMixed c)) (hd : Φ d = fnv Φ 3 (tDraw m)) : DrawOk Φ d := by
  intro g k hn hk h0
  rw [hd]
  refine draw_ex (fun g k m hn k0 k1 m0 => ?_) g k hn hk h0
  obtain ⟨v, hv⟩ := cell_ex Φ g k k0 k1 hn
  rw [hm]
  exact mixed_ex (by rw [hc]; exact hv) m0
def PickOk (Φ : Nat → Fn) (p : Nat) : Prop := ∀ (g : G) (xs : List PyData), g.ns.length ≤ 63 → g.k < 100000 → xs ≠ [] → ∃ x, x ∈ xs ∧ Φ p [.scr, .twn, .d (.list xs)] g = .ok (.d x) { g with k := g.k + 1 }
theorem pickOk_of {Φ : Nat → Fn} {d p : Nat} (hd : DrawOk Φ d) (hp : Φ p = fnv Φ 3 (tPick d)) : PickOk Φ p := by
  intro g xs hn hk hx
  rw [hp]
  exact pick_ex hd g xs hn hk hx
/-- the law's first line where it draws the players -/
theorem first_draw {Φ : Nat → Fn} {d : Nat} (hd : DrawOk Φ d) {g : G} {ρ : Env'} {a m : Int} (h0 : get ρ 0 = some .scr) (h1 : get ρ 1 = some .twn) (hn : g.ns.length ≤ 63) (hk : g.k < 100000) (hm : 0 < m) :
    ∃ r : Int, 0 ≤ r ∧ r < m ∧ ev Φ (.o2 .add (.c (.int a)) (.call d (.cons (.v 0) (.cons (.v 1) (.cons (.c (.int m)) .nil))))) ρ g = .ok (.d (.int (a + r))) { g with k := g.k + 1 } := by
  obtain ⟨r, r0, r1, hr⟩ := hd g m hn hk hm
  refine ⟨r, r0, r1, ev_i2 (i := a) (j := r) rfl (ev_call (ws := [.scr, .twn, .d (.int m)]) (xs := [.scr, .twn, .d (.int m)]) ?_ rfl hr rfl) rfl⟩
  simp only [evl, ev, h0, h1, of_some, bind_ok]
theorem get_set {ρ : Env'} {i j : Nat} {w : W} (h : j < ρ.length) : get (ρ.set j (some w)) i = if i = j then some w.look else get ρ i := by
  unfold get
  by_cases e : i = j
  · subst e
    rw [List.getElem?_set_self h, if_pos rfl]
  · rw [List.getElem?_set_ne (fun z => e z.symm), if_neg e]
end TP
/-! Typed values: threes, pairs, plans, and what the small Python's operations do on them. -/
namespace TP
open PySem L2
@[ext] structure T3 where
  a : Nat
  b : Nat
  c : Nat
  deriving DecidableEq
abbrev P2 := Nat × Nat
class Fact' (p : Prop) : Prop where
  out : p
/-- is in a list -/
def mem {α : Type} [DecidableEq α] (x : α) (xs : List α) : Bool := xs.any fun y => decide (y = x)
theorem mem_iff {α : Type} [DecidableEq α] {x : α} {xs : List α} : mem x xs = true ↔ x ∈ xs := by
  unfold mem
  rw [List.any_eq_true]
  exact ⟨fun ⟨y, h, e⟩ => by rw [← of_decide_eq_true e]; exact h, fun h => ⟨x, h, decide_eq_true rfl⟩⟩
theorem mem_false {α : Type} [DecidableEq α] {x : α} {xs : List α} : mem x xs = false ↔ x ∉ xs := by
  rw [← mem_iff, Bool.not_eq_true]
/-- typed values as data -/
class Enc (α : Type) [DecidableEq α] where
  enc : α → PyData
  eqv : ∀ a b, PyData.eqv (enc a) (enc b) = decide (a = b)
  lay : ∀ a, (enc a).canLay0 = true
  dp : Nat
  dpt : ∀ a, (enc a).depth ≤ dp
  dp60 : dp ≤ 40
  ord : Bool
  cmE : ord = true → ∀ a b, cm (enc a) (enc b) = true
/-- no lists within -/
class EncN (α : Type) [DecidableEq α] [Enc α] : Prop where
  nl : ∀ a : α, noL (Enc.enc a) = true
open Enc (enc)
def iN (a : Nat) : PyData := .int (a : Int)
theorem eqv_int (a b : Int) : PyData.eqv (.int a) (.int b) = decide (a = b) := by
  unfold PyData.eqv
  rfl
instance : Enc Nat where
  enc := iN
  eqv := fun a b => by
    show PyData.eqv (.int a) (.int b) = _
    rw [eqv_int]
    exact decide_eq_decide.mpr Int.ofNat_inj
  lay := fun a => rfl
  dp := 1
  dpt := fun a => by show PyData.depth (.int a) ≤ 1; unfold PyData.depth; omega
  dp60 := by decide
  ord := true
  cmE := fun _ a b => rfl
instance : EncN Nat := ⟨fun a => rfl⟩
section
variable {α : Type} [DecidableEq α] [Enc α]
theorem eqvAll_map : ∀ (xs ys : List α), PyData.eqvAll (xs.map enc) (ys.map enc) = decide (xs = ys)
  | [], [] => by unfold PyData.eqvAll; rfl
  | [], y :: ys => by simp [PyData.eqvAll]
  | x :: xs, [] => by simp [PyData.eqvAll]
  | x :: xs, y :: ys => by
    rw [List.map_cons, List.map_cons]
    unfold PyData.eqvAll
    rw [Enc.eqv, eqvAll_map xs ys, ← Bool.decide_and]
    exact decide_eq_decide.mpr (List.cons.injEq _ _ _ _ ▸ Iff.rfl)
theorem lay_map : ∀ (xs : List α), PyData.canLayAll0 (xs.map enc) = true
  | [] => by unfold PyData.canLayAll0; rfl
  | x :: xs => by
    rw [List.map_cons]
    unfold PyData.canLayAll0
    rw [Enc.lay, lay_map xs]
    rfl
theorem depth_map : ∀ (xs : List α), PyData.depthAll (xs.map enc) ≤ Enc.dp α
  | [] => by unfold PyData.depthAll; exact Nat.zero_le _
  | x :: xs => by
    rw [List.map_cons]
    unfold PyData.depthAll
    exact Nat.max_le.mpr ⟨Enc.dpt x, depth_map xs⟩
theorem shp_enc (x : α) : SeqAt.shaped (enc x) = true := by
  unfold SeqAt.shaped
  have := Enc.dpt x
  have := Enc.dp60 (α := α)
  rw [Enc.lay, decide_eq_true (by omega)]
  rfl
theorem shp_list (xs : List α) : SeqAt.shaped (.list (xs.map enc)) = true := by
  have := depth_map xs
  have := Enc.dp60 (α := α)
  unfold SeqAt.shaped PyData.canLay0 PyData.depth
  rw [lay_map, decide_eq_true (by omega)]
  rfl
theorem shp_tup (xs : List α) : SeqAt.shaped (.tuple (xs.map enc)) = true := by
  have := depth_map xs
  have := Enc.dp60 (α := α)
  unfold SeqAt.shaped PyData.canLay0 PyData.depth
  rw [lay_map, decide_eq_true (by omega)]
  rfl
theorem any_map (xs : List α) (x : α) : ((xs.map enc).any fun z => PyData.eqv z (enc x)) = mem x xs := by
  induction xs with
  | nil => rfl
  | cons y ys ih =>
    rw [List.map_cons, List.any_cons, ih, Enc.eqv]
    rfl
theorem cmAll_map (h : Enc.ord α = true) : ∀ (xs ys : List α), cmAll (xs.map enc) (ys.map enc) = true
  | [], _ => by simp [cmAll]
  | x :: xs, [] => by simp [cmAll]
  | x :: xs, y :: ys => by
    rw [List.map_cons, List.map_cons]
    unfold cmAll
    rw [Enc.cmE h, cmAll_map h]
    rfl
theorem noLs_map [EncN α] : ∀ (xs : List α), noLs (xs.map enc) = true
  | [] => rfl
  | x :: xs => by
    rw [List.map_cons]
    unfold noLs
    rw [EncN.nl, noLs_map xs]
    rfl
end
/-- a tuple of typed values -/
def tupE {α : Type} [DecidableEq α] [Enc α] (xs : List α) : PyData := .tuple (xs.map enc)
def encT3 (t : T3) : PyData := .tuple [iN t.a, iN t.b, iN t.c]
theorem encT3_eq (t : T3) : encT3 t = .tuple ([t.a, t.b, t.c].map enc) := rfl
instance prodEnc {α β : Type} [DecidableEq α] [DecidableEq β] [Enc α] [Enc β] [h : Fact' (Enc.dp α ≤ 30)] [h2 : Fact' (Enc.dp β ≤ 30)] : Enc (α × β) where
  enc := fun p => .tuple [enc p.1, enc p.2]
  eqv := fun p q => by
    simp only [PyData.eqv, PyData.eqvAll, Enc.eqv, Bool.and_true, ← Bool.decide_and]
    exact decide_eq_decide.mpr Prod.ext_iff.symm
  lay := fun p => by simp only [PyData.canLay0, PyData.canLayAll0, Enc.lay, Bool.and_self]
  dp := max (Enc.dp α) (Enc.dp β) + 1
  dpt := fun p => by
    have := Enc.dpt p.1
    have := Enc.dpt p.2
    simp only [PyData.depth, PyData.depthAll]
    omega
  dp60 := by have := h.out; have := h2.out; omega
  ord := Enc.ord α && Enc.ord β
  cmE := fun h p q => by
    rw [Bool.and_eq_true] at h
    simp only [cm, cmAll, Enc.cmE h.1, Enc.cmE h.2, Bool.and_self]
instance {α β : Type} [DecidableEq α] [DecidableEq β] [Enc α] [Enc β] [h : Fact' (Enc.dp α ≤ 30)] [h2 : Fact' (Enc.dp β ≤ 30)] [EncN α] [EncN β] : EncN (α × β) := ⟨fun p => by
  show noL (.tuple [enc p.1, enc p.2]) = true
  simp only [noL, noLs, EncN.nl, Bool.and_self]⟩
instance : Enc T3 where
  enc := encT3
  eqv := fun p q => by
    rw [encT3_eq, encT3_eq]
    unfold PyData.eqv
    rw [eqvAll_map]
    exact decide_eq_decide.mpr (by rw [T3.ext_iff]; simp)
  lay := fun p => rfl
  dp := 2
  dpt := fun p => by
    rw [encT3_eq]
    unfold PyData.depth
    have := depth_map [p.a, p.b, p.c]
    exact Nat.succ_le_succ this
  dp60 := by decide
  ord := true
  cmE := fun h p q => by
    rw [encT3_eq, encT3_eq]
    unfold cm
    exact cmAll_map (α := Nat) rfl _ _
instance : EncN T3 := ⟨fun p => rfl⟩
/-- plans, days: tuples of threes; more: tuples of plans .. -/
instance tupEnc {α : Type} [DecidableEq α] [Enc α] [h : Fact' (Enc.dp α ≤ 30)] : Enc (List α) where
  enc := tupE
  eqv := fun p q => by
    unfold tupE PyData.eqv
    exact eqvAll_map p q
  lay := fun p => by
    unfold tupE PyData.canLay0
    exact lay_map p
  dp := Enc.dp α + 1
  dpt := fun p => by
    unfold tupE PyData.depth
    exact Nat.succ_le_succ (depth_map p)
  dp60 := by have := h.out; omega
  ord := Enc.ord α
  cmE := fun h p q => by
    unfold tupE cm
    exact cmAll_map h p q
instance {α : Type} [DecidableEq α] [Enc α] [h : Fact' (Enc.dp α ≤ 30)] [EncN α] : EncN (List α) := ⟨fun p => by
  show noL (.tuple (p.map enc)) = true
  unfold noL
  exact noLs_map p⟩
/-- a list within -/
structure Ls (α : Type) where
  l : List α
  deriving DecidableEq
instance lsEnc {α : Type} [DecidableEq α] [Enc α] [h : Fact' (Enc.dp α ≤ 30)] : Enc (Ls α) where
  enc := fun x => .list (x.l.map enc)
  eqv := fun p q => by
    unfold PyData.eqv
    rw [eqvAll_map]
    exact decide_eq_decide.mpr (by cases p; cases q; simp)
  lay := fun p => by
    unfold PyData.canLay0
    exact lay_map p.l
  dp := Enc.dp α + 1
  dpt := fun p => by
    unfold PyData.depth
    exact Nat.succ_le_succ (depth_map p.l)
  dp60 := by have := h.out; omega
  ord := Enc.ord α
  cmE := fun h p q => by
    unfold cm
    exact cmAll_map h p.l q.l
instance : Enc Bool where
  enc := .bool
  eqv := fun a b => by cases a <;> cases b <;> rfl
  lay := fun a => rfl
  dp := 1
  dpt := fun a => by show PyData.depth (.bool a) ≤ 1; unfold PyData.depth; omega
  dp60 := by decide
  ord := false
  cmE := fun h => by cases h
instance : EncN Bool := ⟨fun a => rfl⟩
instance : Fact' (Enc.ord T3 = true) := ⟨rfl⟩
instance : Fact' (Enc.ord Nat = true) := ⟨rfl⟩
instance : Fact' (Enc.dp T3 ≤ 30) := ⟨by decide⟩
instance : Fact' (Enc.dp (List T3) ≤ 30) := ⟨by decide⟩
instance : Fact' (Enc.dp Nat ≤ 30) := ⟨by decide⟩
instance : Fact' (Enc.dp (Nat × Nat) ≤ 30) := ⟨by decide⟩
instance : Fact' (Enc.dp (Ls (Nat × Nat)) ≤ 30) := ⟨by decide⟩
instance : Fact' (Enc.dp (Ls T3) ≤ 30) := ⟨by decide⟩
instance : Fact' (Enc.dp (Ls (List T3)) ≤ 30) := ⟨by decide⟩
instance : Fact' (Enc.ord (Nat × Nat) = true) := ⟨rfl⟩
instance : Fact' (Enc.ord (List T3) = true) := ⟨rfl⟩
end TP
/-! Running the small Python over typed values. -/
namespace TP
open PySem L2
open Enc (enc)
theorem nrfl {α : Sort _} {a b : α} (h : a = b) : a = b := h
/-- a mark that hangs on what follows: the look does not go into it -/
structure Tag {γ : Type} (k : γ) : Type where
def bd {α β : Type} (r : Res α) (k : α → G → Res β) (_ : Tag k) : Res β := r.bind k
def od {α : Type} (r : Res α) (k : α → G → Out) (_ : Tag k) : Out := r.out k
def td (o : Out) (k : Env' → G → Out) (_ : Tag k) : Out := o.then k
theorem n_of_some {α : Type} (a : α) (g : G) : Res.of (some a) g = .ok a g := nrfl rfl
theorem n_of_none {α : Type} (g : G) : (Res.of none g : Res α) = .no := nrfl rfl
theorem n_bind_ok {α β : Type} {a : α} {g : G} {f : α → G → Res β} {t : Tag f} : bd (.ok a g) f t = f a g := nrfl rfl
theorem n_bind_ex {α β : Type} {c : Nat} {g : G} {f : α → G → Res β} {t : Tag f} : bd (.ex c g) f t = .ex c g := nrfl rfl
theorem n_bind_no {α β : Type} {f : α → G → Res β} {t : Tag f} : bd .no f t = .no := nrfl rfl
theorem n_out_ok {α : Type} {a : α} {g : G} {f : α → G → Out} {t : Tag f} : od (.ok a g) f t = f a g := nrfl rfl
theorem n_out_ex {α : Type} {c : Nat} {g : G} {f : α → G → Out} {t : Tag f} : od (.ex c g) f t = .ex c g := nrfl rfl
theorem n_out_no {α : Type} {f : α → G → Out} {t : Tag f} : od .no f t = .no := nrfl rfl
theorem n_then_nx {ρ : Env'} {g : G} {f : Env' → G → Out} {t : Tag f} : td (.nx ρ g) f t = f ρ g := nrfl rfl
theorem n_then_rt {w : W} {g : G} {f : Env' → G → Out} {t : Tag f} : td (.rt w g) f t = .rt w g := nrfl rfl
theorem n_then_ex {c : Nat} {g : G} {f : Env' → G → Out} {t : Tag f} : td (.ex c g) f t = .ex c g := nrfl rfl
theorem n_then_no {f : Env' → G → Out} {t : Tag f} : td .no f t = .no := nrfl rfl
theorem n_bl (b : Bool) : (W.d (.bool b)).bl? = some b := nrfl rfl
theorem n_int (b : Int) : (W.d (.int b)).int? = some b := nrfl rfl
theorem n_rd_d (x : PyData) : (W.d x).rd = some x := nrfl rfl
theorem n_rd_own (xs : List PyData) : (W.own (.lst xs)).rd = some (.list xs) := nrfl rfl
theorem n_rd_pk (xs : List PyData) : (W.pk (.lst xs)).rd = some (.list xs) := nrfl rfl
theorem n_fz_d (x : PyData) : (W.d x).fz = some x := nrfl rfl
theorem n_fz_own (xs : List PyData) : (W.own (.lst xs)).fz = some (.list xs) := nrfl rfl
theorem n_obind {α β : Type} (a : α) (f : α → Option β) : (some a >>= f) = f a := nrfl rfl
theorem n_obind0 {α β : Type} (f : α → Option β) : ((none : Option α) >>= f) = none := nrfl rfl
theorem n_obind' {α β : Type} (a : α) (f : α → Option β) : (some a).bind f = f a := nrfl rfl
theorem n_omap {α β : Type} (a : α) (f : α → β) : (some a).map f = some (f a) := nrfl rfl
section
variable {Φ : Nat → Fn} {ρ : Env'} {g : G}
/-! terms -/
theorem ev_v {i : Nat} : ev Φ (.v i) ρ g = .of (get ρ i) g := nrfl rfl
theorem ev_c {x : PyData} : ev Φ (.c x) ρ g = .ok (.d x) g := nrfl rfl
theorem ev_neg {a : E} : ev Φ (.neg a) ρ g = bd (ev Φ a ρ g) (fun w g1 => .of (w.int?.map fun i => .d (.int (-i))) g1) ⟨⟩ := nrfl rfl
theorem ev_o2' {o : O2} {a b : E} : ev Φ (.o2 o a b) ρ g = bd (ev Φ a ρ g) (fun w g1 => bd (ev Φ b ρ g1) (fun u g2 => .of (do binD o (← w.rd) (← u.rd)) g2) ⟨⟩) ⟨⟩ := nrfl rfl
theorem ev_chain {o p : O2} {a b c : E} : ev Φ (.chain o p a b c) ρ g = bd (ev Φ a ρ g) (fun w g1 => bd (ev Φ b ρ g1) (fun u g2 => bd (Res.of (bt (do binD o (← w.rd) (← u.rd))) g2) (fun k g3 =>
      if k then bd (ev Φ c ρ g3) (fun z g4 => .of (do binD p (← u.rd) (← z.rd)) g4) ⟨⟩ else .ok (.d (.bool false)) g3) ⟨⟩) ⟨⟩) ⟨⟩ := nrfl rfl
theorem ev_ban {es : EL} : ev Φ (.ban es) ρ g = evAnd Φ es ρ g := nrfl rfl
theorem ev_bor {es : EL} : ev Φ (.bor es) ρ g = evOr Φ es ρ g := nrfl rfl
theorem ev_bno {a : E} : ev Φ (.bno a) ρ g = bd (ev Φ a ρ g) (fun w g1 => .of (w.bl?.map fun b => .d (.bool (!b))) g1) ⟨⟩ := nrfl rfl
theorem ev_ite {c a b : E} : ev Φ (.ite c a b) ρ g = bd (ev Φ c ρ g) (fun w g1 => bd (Res.of w.bl? g1) (fun k g2 => if k then ev Φ a ρ g2 else ev Φ b ρ g2) ⟨⟩) ⟨⟩ := nrfl rfl
theorem ev_tup {es : EL} : ev Φ (.tup es) ρ g = bd (evl Φ es ρ g) (fun ws g1 => .of ((fzs ws).map fun xs => .d (.tuple xs)) g1) ⟨⟩ := nrfl rfl
theorem ev_lst {es : EL} : ev Φ (.lst es) ρ g = bd (evl Φ es ρ g) (fun ws g1 => .of ((fzs ws).map fun xs => .own (.lst xs)) g1) ⟨⟩ := nrfl rfl
theorem ev_ix {a i : E} : ev Φ (.ix a i) ρ g = bd (ev Φ a ρ g) (fun w g1 => bd (ev Φ i ρ g1) (fun u g2 => .of (do (ixD (← w.rd) (← u.rd)).map .d) g2) ⟨⟩) ⟨⟩ := nrfl rfl
theorem ev_sl {a : E} {lo hi : OE} : ev Φ (.sl a lo hi) ρ g = bd (ev Φ a ρ g) (fun w g1 => bd (evo Φ lo ρ g1) (fun l g2 => bd (evo Φ hi ρ g2) (fun h g3 => .of (do slD (← w.rd) l h) g3) ⟨⟩) ⟨⟩) ⟨⟩ := nrfl rfl
theorem ev_rev {a : E} : ev Φ (.rev a) ρ g = bd (ev Φ a ρ g) (fun w g1 => .of (do revD (← w.rd)) g1) ⟨⟩ := nrfl rfl
theorem ev_call' {f : Nat} {es : EL} : ev Φ (.call f es) ρ g = bd (evl Φ es ρ g) (fun ws g1 => bd (Res.of (args? ws) g1) (fun xs g2 => bd (Φ f xs g2) (fun w g3 => if !ws.any W.isPk || w.clean then .ok w g3 else .no) ⟨⟩) ⟨⟩) ⟨⟩ := nrfl rfl
theorem ev_pick {fs : List Nat} {i : E} {es : EL} : ev Φ (.pick fs i es) ρ g = bd (ev Φ i ρ g) (fun w g1 => match w.int? with
    | some n => match pickF fs n with
      | some f => bd (evl Φ es ρ g1) (fun ws g1 => bd (Res.of (args? ws) g1) (fun xs g2 => bd (Φ f xs g2) (fun w g3 => if !ws.any W.isPk || w.clean then .ok w g3 else .no) ⟨⟩) ⟨⟩) ⟨⟩
      | none => .no
    | none => .no) ⟨⟩ := nrfl rfl
theorem ev_blt {b : Bl} {es : EL} : ev Φ (.blt b es) ρ g = bd (evl Φ es ρ g) (fun ws g1 => .of (do bltD b (← rds ws)) g1) ⟨⟩ := nrfl rfl
theorem ev_isi {t : Ty} {a : E} : ev Φ (.isi t a) ρ g = bd (ev Φ a ρ g) (fun w g1 => .of (w.rd.map fun x => .d (.bool (isiD t x))) g1) ⟨⟩ := nrfl rfl
theorem evl_nil : evl Φ .nil ρ g = .ok [] g := nrfl rfl
theorem evl_cons {a : E} {r : EL} : evl Φ (.cons a r) ρ g = bd (ev Φ a ρ g) (fun w g1 => bd (evl Φ r ρ g1) (fun ws g2 => .ok (w :: ws) g2) ⟨⟩) ⟨⟩ := nrfl rfl
theorem evAnd_1 {a : E} : evAnd Φ (.cons a .nil) ρ g = bd (ev Φ a ρ g) (fun w g1 => .of (w.bl?.map fun b => .d (.bool b)) g1) ⟨⟩ := nrfl rfl
theorem evAnd_2 {a b : E} {r : EL} : evAnd Φ (.cons a (.cons b r)) ρ g = bd (ev Φ a ρ g) (fun w g1 => bd (Res.of w.bl? g1) (fun k g2 => if k then evAnd Φ (.cons b r) ρ g2 else .ok (.d (.bool false)) g2) ⟨⟩) ⟨⟩ := nrfl rfl
theorem evOr_1 {a : E} : evOr Φ (.cons a .nil) ρ g = bd (ev Φ a ρ g) (fun w g1 => .of (w.bl?.map fun b => .d (.bool b)) g1) ⟨⟩ := nrfl rfl
theorem evOr_2 {a b : E} {r : EL} : evOr Φ (.cons a (.cons b r)) ρ g = bd (ev Φ a ρ g) (fun w g1 => bd (Res.of w.bl? g1) (fun k g2 => if k then .ok (.d (.bool true)) g2 else evOr Φ (.cons b r) ρ g2) ⟨⟩) ⟨⟩ := nrfl rfl
theorem evo_n : evo Φ .non ρ g = .ok none g := nrfl rfl
theorem evo_s {a : E} : evo Φ (.som a) ρ g = bd (ev Φ a ρ g) (fun w g1 => .of (w.int?.map some) g1) ⟨⟩ := nrfl rfl
theorem evc_n : evc Φ .non ρ g = .ok true g := nrfl rfl
theorem evc_s {a : E} : evc Φ (.som a) ρ g = bd (ev Φ a ρ g) (fun w g1 => .of w.bl? g1) ⟨⟩ := nrfl rfl
theorem evi_seq {z : Bool} {a : E} : evi Φ z (.seq a) ρ g = bd (ev Φ a ρ g) (fun w g1 => .of (do seq? (← w.see z)) g1) ⟨⟩ := nrfl rfl
theorem evi_r1 {z : Bool} {a : E} : evi Φ z (.rng1 a) ρ g = bd (ev Φ a ρ g) (fun w g1 => .of (do rngD 0 (← w.int?)) g1) ⟨⟩ := nrfl rfl
theorem evi_r2 {z : Bool} {a b : E} : evi Φ z (.rng2 a b) ρ g = bd (ev Φ a ρ g) (fun w g1 => bd (ev Φ b ρ g1) (fun u g2 => .of (do rngD (← w.int?) (← u.int?)) g2) ⟨⟩) ⟨⟩ := nrfl rfl
theorem evi_zip {z : Bool} {a b : E} : evi Φ z (.zip a b) ρ g = bd (ev Φ a ρ g) (fun w g1 => bd (ev Φ b ρ g1) (fun u g2 => .of (do zipD (← w.see z) (← u.see z)) g2) ⟨⟩) ⟨⟩ := nrfl rfl
theorem evi_enm {z : Bool} {a : E} : evi Φ z (.enm a) ρ g = bd (ev Φ a ρ g) (fun w g1 => .of (do enmD (← w.see z)) g1) ⟨⟩ := nrfl rfl
/-! statements -/
theorem run_asg' {i : Nat} {o : Bool} {e : E} : run Φ (.asg i o e) ρ g = od (ev Φ e ρ g) (fun w g1 => od (Res.of (put ρ i o w) g1) (fun ρ' g2 => .nx ρ' g2) ⟨⟩) ⟨⟩ := nrfl rfl
theorem run_asg2 {i j : Nat} {oi oj : Bool} {a b : E} : run Φ (.asg2 i j oi oj a b) ρ g = od (ev Φ a ρ g) (fun w g1 => od (ev Φ b ρ g1) (fun u g2 => od (Res.of (do put (← put ρ j oj u) i oi w) g2) (fun ρ' g3 => .nx ρ' g3) ⟨⟩) ⟨⟩) ⟨⟩ := nrfl rfl
theorem run_asgT {t : Tg} {e : E} : run Φ (.asgT t e) ρ g = od (ev Φ e ρ g) (fun w g1 => od (Res.of (do bindT t (← w.fz) ρ) g1) (fun ρ' g2 => .nx ρ' g2) ⟨⟩) ⟨⟩ := nrfl rfl
theorem run_ife' {c : E} {a b : SL} : run Φ (.ife c a b) ρ g = od (ev Φ c ρ g) (fun w g1 => match w.bl? with
    | some k => if k then runs Φ a ρ g1 else runs Φ b ρ g1
    | none => .no) ⟨⟩ := nrfl rfl
theorem run_ret' {e : E} : run Φ (.ret e) ρ g = od (ev Φ e ρ g) (fun w g1 => match w with
    | .pk c => .rt (.own c) g1
    | w => .rt w g1) ⟨⟩ := nrfl rfl
theorem run_ex {e : E} : run Φ (.ex e) ρ g = od (ev Φ e ρ g) (fun _ g1 => .nx ρ g1) ⟨⟩ := nrfl rfl
theorem run_rse {c : Nat} : run Φ (.rse c) ρ g = .ex c g := nrfl rfl
theorem runs_nil : runs Φ .nil ρ g = .nx ρ g := nrfl rfl
theorem runs_cons {s : S} {r : SL} : runs Φ (.cons s r) ρ g = td (run Φ s ρ g) (fun ρ' g' => runs Φ r ρ' g') ⟨⟩ := nrfl rfl
end
/-! environments -/
theorem get_z {w : W} {ρ : Env'} : get (some w :: ρ) 0 = some w.look := nrfl rfl
theorem get_s {x : Option W} {ρ : Env'} {i : Nat} : get (x :: ρ) (i + 1) = get ρ i := by unfold get; rw [List.getElem?_cons_succ]
theorem look_d {x : PyData} : (W.d x).look = .d x := nrfl rfl
theorem look_own {c : Con} : (W.own c).look = .pk c := nrfl rfl
theorem look_scr : W.scr.look = .scr := nrfl rfl
theorem look_twn : W.twn.look = .twn := nrfl rfl
theorem putD {ρ : Env'} {i : Nat} {o : Bool} {x : PyData} (h : i < ρ.length) : put ρ i o (.d x) = some (ρ.set i (some (.d x))) := by
  unfold put
  rw [if_pos h]
theorem putO {ρ : Env'} {i : Nat} {c : Con} (h : i < ρ.length) : put ρ i true (.own c) = some (ρ.set i (some (.own c))) := by
  unfold put
  rw [if_pos h]
  rfl
theorem putL {ρ : Env'} {i : Nat} {xs : List PyData} (h : i < ρ.length) : put ρ i false (.own (.lst xs)) = some (ρ.set i (some (.d (.list xs)))) := by
  unfold put
  rw [if_pos h]
  rfl
theorem args_nil : args? [] = some [] := nrfl rfl
theorem args_d {x : PyData} {r : List W} : args? (.d x :: r) = (args? r).map (.d x :: ·) := by
  simp only [args?, W.arg]; cases args? r <;> rfl
theorem args_own {x : List PyData} {r : List W} : args? (.own (.lst x) :: r) = (args? r).map (.d (.list x) :: ·) := by
  simp only [args?, W.arg]; cases args? r <;> rfl
theorem args_pk {x : List PyData} {r : List W} : args? (.pk (.lst x) :: r) = (args? r).map (.d (.list x) :: ·) := by
  simp only [args?, W.arg]; cases args? r <;> rfl
theorem args_scr {r : List W} : args? (.scr :: r) = (args? r).map (.scr :: ·) := by
  simp only [args?, W.arg]; cases args? r <;> rfl
theorem args_twn {r : List W} : args? (.twn :: r) = (args? r).map (.twn :: ·) := by
  simp only [args?, W.arg]; cases args? r <;> rfl
theorem fzs_nil : fzs [] = some [] := nrfl rfl
theorem fzs_cons {w : W} {r : List W} : fzs (w :: r) = w.fz.bind fun x => (fzs r).map (x :: ·) := by
  simp only [fzs]; cases w.fz <;> cases fzs r <;> rfl
theorem rds_nil : rds [] = some [] := nrfl rfl
theorem rds_cons {w : W} {r : List W} : rds (w :: r) = w.rd.bind fun x => (rds r).map (x :: ·) := by
  simp only [rds]; cases w.rd <;> cases rds r <;> rfl
theorem see_t {w : W} : w.see true = w.fz := nrfl rfl
theorem see_f {w : W} : w.see false = w.rd := nrfl rfl
theorem isPk_d {x : PyData} : (W.d x).isPk = false := nrfl rfl
theorem isPk_own {x : Con} : (W.own x).isPk = false := nrfl rfl
theorem isPk_pk {x : Con} : (W.pk x).isPk = true := nrfl rfl
theorem isPk_scr : W.scr.isPk = false := nrfl rfl
theorem isPk_twn : W.twn.isPk = false := nrfl rfl
theorem clean_bool {b : Bool} : (W.d (.bool b)).clean = true := nrfl rfl
theorem clean_enc {α : Type} [DecidableEq α] [Enc α] [EncN α] {x : α} : (W.d (enc x)).clean = true := EncN.nl x
theorem clean_lst {α : Type} [DecidableEq α] [Enc α] [EncN α] {x : List α} : (W.own (.lst (x.map enc))).clean = true := noLs_map x
theorem int_enc {n : Nat} : (W.d (enc n)).int? = some (n : Int) := nrfl rfl
theorem lit0 : PyData.int 0 = enc (0 : Nat) := nrfl rfl
theorem lit1 : PyData.int 1 = enc (1 : Nat) := nrfl rfl
theorem lit2 : PyData.int 2 = enc (2 : Nat) := nrfl rfl
theorem lit3 : PyData.int 3 = enc (3 : Nat) := nrfl rfl
theorem lit4 : PyData.int 4 = enc (4 : Nat) := nrfl rfl
theorem lit5 : PyData.int 5 = enc (5 : Nat) := nrfl rfl
theorem lit6 : PyData.int 6 = enc (6 : Nat) := nrfl rfl
theorem lit7 : PyData.int 7 = enc (7 : Nat) := nrfl rfl
theorem lit8 : PyData.int 8 = enc (8 : Nat) := nrfl rfl
theorem lit10 : PyData.int 10 = enc (10 : Nat) := nrfl rfl
theorem lit11 : PyData.int 11 = enc (11 : Nat) := nrfl rfl
theorem lit12 : PyData.int 12 = enc (12 : Nat) := nrfl rfl
theorem lit13 : PyData.int 13 = enc (13 : Nat) := nrfl rfl
theorem lit14 : PyData.int 14 = enc (14 : Nat) := nrfl rfl
theorem lit15 : PyData.int 15 = enc (15 : Nat) := nrfl rfl
theorem lit16 : PyData.int 16 = enc (16 : Nat) := nrfl rfl
theorem lit17 : PyData.int 17 = enc (17 : Nat) := nrfl rfl
theorem lit18 : PyData.int 18 = enc (18 : Nat) := nrfl rfl
theorem lit19 : PyData.int 19 = enc (19 : Nat) := nrfl rfl
theorem lit20 : PyData.int 20 = enc (20 : Nat) := nrfl rfl
theorem lit24 : PyData.int 24 = enc (24 : Nat) := nrfl rfl
theorem lit30 : PyData.int 30 = enc (30 : Nat) := nrfl rfl
theorem lit36 : PyData.int 36 = enc (36 : Nat) := nrfl rfl
theorem lit84 : PyData.int 84 = enc (84 : Nat) := nrfl rfl
theorem lit840 : PyData.int 840 = enc (840 : Nat) := nrfl rfl
theorem lit9 : PyData.int 9 = enc (9 : Nat) := nrfl rfl
end TP
/-! Operations over typed values. -/
namespace TP
open PySem L2
open Enc (enc)
section
variable {α β : Type} [DecidableEq α] [DecidableEq β] [Enc α] [Enc β]
theorem b_eqL {xs ys : List α} : binD .eq (.list (xs.map enc)) (.list (ys.map enc)) = some (.d (.bool (decide (xs = ys)))) := by
  show (if sameShape _ _ then _ else _) = _
  rw [show sameShape (.list (xs.map enc)) (.list (ys.map enc)) = true by unfold sameShape; rw [shp_list, shp_list]; rfl, if_pos rfl]
  unfold PyData.eqv
  rw [eqvAll_map]
theorem b_neL {xs ys : List α} : binD .ne (.list (xs.map enc)) (.list (ys.map enc)) = some (.d (.bool (!decide (xs = ys)))) := by
  show (if sameShape _ _ then _ else _) = _
  rw [show sameShape (.list (xs.map enc)) (.list (ys.map enc)) = true by unfold sameShape; rw [shp_list, shp_list]; rfl, if_pos rfl]
  unfold PyData.eqv
  rw [eqvAll_map]
theorem b_eqN {xs : List α} : binD .eq (.list (xs.map enc)) (.list []) = some (.d (.bool xs.isEmpty)) := by
  have := b_eqL (xs := xs) (ys := [])
  rw [show decide (xs = []) = xs.isEmpty from by cases xs <;> rfl] at this
  exact this
theorem b_neN {xs : List α} : binD .ne (.list (xs.map enc)) (.list []) = some (.d (.bool (!xs.isEmpty))) := by
  have := b_neL (xs := xs) (ys := [])
  rw [show decide (xs = []) = xs.isEmpty from by cases xs <;> rfl] at this
  exact this
theorem b_eqE {x y : α} : binD .eq (enc x) (enc y) = some (.d (.bool (decide (x = y)))) := by
  show (if sameShape _ _ then _ else _) = _
  rw [show sameShape (enc x) (enc y) = true by unfold sameShape; rw [shp_enc, shp_enc]; rfl, if_pos rfl, Enc.eqv]
theorem b_neE {x y : α} : binD .ne (enc x) (enc y) = some (.d (.bool (!decide (x = y)))) := by
  show (if sameShape _ _ then _ else _) = _
  rw [show sameShape (enc x) (enc y) = true by unfold sameShape; rw [shp_enc, shp_enc]; rfl, if_pos rfl, Enc.eqv]
theorem b_inL {x : α} {xs : List α} : binD .inn (enc x) (.list (xs.map enc)) = some (.d (.bool (mem x xs))) := by
  show (if sameShape _ _ then _ else _) = _
  rw [show sameShape (enc x) (.list (xs.map enc)) = true by unfold sameShape; rw [shp_enc, shp_list]; rfl, if_pos rfl, any_map]
theorem b_inT {x : α} {xs : List α} : binD .inn (enc x) (.tuple (xs.map enc)) = some (.d (.bool (mem x xs))) := by
  show (if sameShape _ _ then _ else _) = _
  rw [show sameShape (enc x) (.tuple (xs.map enc)) = true by unfold sameShape; rw [shp_enc, shp_tup]; rfl, if_pos rfl, any_map]
theorem b_niL {x : α} {xs : List α} : binD .notin (enc x) (.list (xs.map enc)) = some (.d (.bool (!mem x xs))) := by
  show (if sameShape _ _ then _ else _) = _
  rw [show sameShape (enc x) (.list (xs.map enc)) = true by unfold sameShape; rw [shp_enc, shp_list]; rfl, if_pos rfl, any_map]
theorem b_niT {x : α} {xs : List α} : binD .notin (enc x) (.tuple (xs.map enc)) = some (.d (.bool (!mem x xs))) := by
  show (if sameShape _ _ then _ else _) = _
  rw [show sameShape (enc x) (.tuple (xs.map enc)) = true by unfold sameShape; rw [shp_enc, shp_tup]; rfl, if_pos rfl, any_map]
/-- the order of typed values -/
def tlt (x y : α) : Bool := lt (enc x) (enc y)
theorem b_ltE [o : Fact' (Enc.ord α = true)] {x y : α} : binD .lt (enc x) (enc y) = some (.d (.bool (tlt x y))) := by
  show (if sameShape _ _ && cm _ _ then _ else _) = _
  rw [show sameShape (enc x) (enc y) = true by unfold sameShape; rw [shp_enc, shp_enc]; rfl, Enc.cmE o.out]
  rfl
theorem b_gtE [o : Fact' (Enc.ord α = true)] {x y : α} : binD .gt (enc x) (enc y) = some (.d (.bool (tlt y x))) := by
  show (if sameShape _ _ && cm _ _ then _ else _) = _
  rw [show sameShape (enc x) (enc y) = true by unfold sameShape; rw [shp_enc, shp_enc]; rfl, Enc.cmE o.out]
  rfl
theorem tlt_nat (x y : Nat) : tlt x y = decide (x < y) := by
  show (compare (x : Int) (y : Int) == .lt) = _
  rw [cmp_lt]
  exact decide_eq_decide.mpr Int.ofNat_lt
end
def has (t : T3) (x : Nat) : Bool := mem x [t.a, t.b, t.c]
theorem b_inT3 {x : Nat} {t : T3} : binD .inn (enc x) (enc t) = some (.d (.bool (has t x))) := b_inT (xs := [t.a, t.b, t.c])
theorem b_niT3 {x : Nat} {t : T3} : binD .notin (enc x) (enc t) = some (.d (.bool (!has t x))) := b_niT (xs := [t.a, t.b, t.c])
theorem b_inP2 {x : Nat} {t : P2} : binD .inn (enc x) (enc t) = some (.d (.bool (mem x [t.1, t.2]))) := b_inT (xs := [t.1, t.2])
theorem b_niP2 {x : Nat} {t : P2} : binD .notin (enc x) (enc t) = some (.d (.bool (!mem x [t.1, t.2]))) := b_niT (xs := [t.1, t.2])
theorem b_inP {x : T3} {p : List T3} : binD .inn (enc x) (enc p) = some (.d (.bool (mem x p))) := b_inT
theorem b_niP {x : T3} {p : List T3} : binD .notin (enc x) (enc p) = some (.d (.bool (!mem x p))) := b_niT
theorem b_addN {a b : Nat} : binD .add (enc a) (enc b) = some (.d (enc (a + b))) := by
  show some (W.d (.int ((a : Int) + (b : Int)))) = some (W.d (.int ((a + b : Nat) : Int)))
  rw [Int.natCast_add]
theorem b_subN {a b : Nat} (h : b ≤ a) : binD .sub (enc a) (enc b) = some (.d (enc (a - b))) := by
  show some (W.d (.int ((a : Int) - (b : Int)))) = some (W.d (.int ((a - b : Nat) : Int)))
  rw [Int.ofNat_sub h]
theorem b_mulN {a b : Nat} (h : a < 2 ^ 63) : binD .mul (enc a) (enc b) = some (.d (enc (a * b))) := by
  show binD .mul (.int (a : Int)) (.int (b : Int)) = some (W.d (.int ((a * b : Nat) : Int)))
  rw [b_mul (.inl (by omega)), Int.natCast_mul]
theorem b_modN {a b : Nat} (h : 0 < b) : binD .mod (enc a) (enc b) = some (.d (enc (a % b))) := by
  show binD .mod (.int (a : Int)) (.int (b : Int)) = some (W.d (.int ((a % b : Nat) : Int)))
  rw [b_mod (by omega), Int.natCast_emod]
theorem b_divN {a b : Nat} (h : 0 < b) (h2 : b < 1073741824) : binD .fdiv (enc a) (enc b) = some (.d (enc (a / b))) := by
  show binD .fdiv (.int (a : Int)) (.int (b : Int)) = some (W.d (.int ((a / b : Nat) : Int)))
  rw [b_fdiv (by omega) (by omega), Int.natCast_ediv]
theorem b_leN {a b : Nat} : binD .le (enc a) (enc b) = some (.d (.bool (decide (a ≤ b)))) := by
  show some (W.d (.bool (decide ((a : Int) ≤ (b : Int))))) = _
  rw [decide_eq_decide.mpr Int.ofNat_le]
theorem b_geN {a b : Nat} : binD .ge (enc a) (enc b) = some (.d (.bool (decide (b ≤ a)))) := by
  show some (W.d (.bool (decide ((b : Int) ≤ (a : Int))))) = _
  rw [decide_eq_decide.mpr Int.ofNat_le]
theorem b_ltN {a b : Nat} : binD .lt (enc a) (enc b) = some (.d (.bool (decide (a < b)))) := by rw [b_ltE, tlt_nat]
theorem b_gtN {a b : Nat} : binD .gt (enc a) (enc b) = some (.d (.bool (decide (b < a)))) := by rw [b_gtE, tlt_nat]
section
variable {α β : Type} [DecidableEq α] [DecidableEq β] [Enc α] [Enc β]
theorem b_addL {xs ys : List α} (h : xs.length + ys.length ≤ 16777216) : binD .add (.list (xs.map enc)) (.list (ys.map enc)) = some (.own (.lst ((xs ++ ys).map enc))) := by
  show (if _ then _ else _) = _
  rw [List.length_map, List.length_map, if_pos (by unfold lim; exact h), List.map_append]
theorem b_addT {xs ys : List α} (h : xs.length + ys.length ≤ 16777216) : binD .add (.tuple (xs.map enc)) (.tuple (ys.map enc)) = some (.d (.tuple ((xs ++ ys).map enc))) := by
  show (if _ then _ else _) = _
  rw [List.length_map, List.length_map, if_pos (by unfold lim; exact h), List.map_append]
theorem b_is {a b : Bool} : binD .is (enc a) (enc b) = some (.d (.bool (decide (a = b)))) := nrfl rfl
theorem b_isnt {a b : Bool} : binD .isnt (enc a) (enc b) = some (.d (.bool (!decide (a = b)))) := nrfl rfl
theorem b_isB {a b : Bool} : binD .is (.bool a) (.bool b) = some (.d (.bool (decide (a = b)))) := nrfl rfl
theorem b_isntB {a b : Bool} : binD .isnt (.bool a) (.bool b) = some (.d (.bool (!decide (a = b)))) := nrfl rfl
theorem b_neB {a b : Bool} : binD .ne (.bool a) (.bool b) = some (.d (.bool (!decide (a = b)))) := by cases a <;> cases b <;> rfl
theorem b_eqB {a b : Bool} : binD .eq (.bool a) (.bool b) = some (.d (.bool (decide (a = b)))) := by cases a <;> cases b <;> rfl
theorem b_rep {x : PyData} {k : Nat} (h : k ≤ 1000) : binD .mul (.list [x]) (enc k) = some (.own (.lst (List.replicate k x))) := by
  show (if 0 ≤ (k : Int) ∧ (k : Int) ≤ 1000 ∧ [x].length ≤ 1000 then some (W.own (.lst (List.replicate (k : Int).toNat [x]).flatten)) else none) = _
  rw [if_pos ⟨by omega, by omega, by simp⟩, show (k : Int).toNat = k from by omega]
  congr 4
  induction k with
  | zero => rfl
  | succ k ih => rw [List.replicate_succ, List.flatten_cons, ih (by omega)]; rfl
theorem bool_map {γ : Type} (f : γ → Bool) (l : List γ) : l.map (fun x => PyData.bool (f x)) = (l.map f).map enc := by rw [List.map_map]; rfl
theorem bool_rep (b : Bool) (k : Nat) : List.replicate k (PyData.bool b) = (List.replicate k b).map enc := by rw [List.map_replicate]; rfl
theorem b_addP {xs ys : List T3} (h : xs.length + ys.length ≤ 16777216) : binD .add (enc xs) (enc ys) = some (.d (enc (xs ++ ys))) := b_addT h
theorem fold_1 {t : T3} : PyData.tuple [enc t] = enc [t] := nrfl rfl
theorem enc_plan {p : List T3} : enc p = .tuple (p.map enc) := nrfl rfl
theorem fold_plan {p : List T3} : PyData.tuple (p.map enc) = enc p := nrfl rfl
theorem fold_p2 {a : α} {c : β} [Fact' (Enc.dp α ≤ 30)] [Fact' (Enc.dp β ≤ 30)] : PyData.tuple [enc a, enc c] = enc (a, c) := nrfl rfl
theorem fold_t3 {a b c : Nat} : PyData.tuple [enc a, enc b, enc c] = enc (T3.mk a b c) := nrfl rfl
theorem fold_n : PyData.tuple [] = enc ([] : List T3) := nrfl rfl
theorem map_snoc {xs : List α} {x : α} : xs.map enc ++ [enc x] = (xs ++ [x]).map enc := by rw [List.map_append]; rfl
theorem map_app {xs ys : List α} : xs.map enc ++ ys.map enc = (xs ++ ys).map enc := by rw [List.map_append]
theorem len_L {xs : List α} : bltD .len [.list (xs.map enc)] = some (.d (enc xs.length)) := by
  show some (W.d (.int ((xs.map enc).length : Nat))) = _
  rw [List.length_map]; rfl
theorem len_T {xs : List α} : bltD .len [.tuple (xs.map enc)] = some (.d (enc xs.length)) := by
  show some (W.d (.int ((xs.map enc).length : Nat))) = _
  rw [List.length_map]; rfl
theorem len_P {xs : List T3} : bltD .len [enc xs] = some (.d (enc xs.length)) := len_T
theorem len_T3 {t : T3} : bltD .len [enc t] = some (.d (enc 3)) := nrfl rfl
theorem seq_L {xs : List PyData} : seq? (.list xs) = some xs := nrfl rfl
theorem seq_T {xs : List PyData} : seq? (.tuple xs) = some xs := nrfl rfl
theorem seq_P {p : List T3} : seq? (enc p) = some (p.map enc) := nrfl rfl
theorem seq_T3 {t : T3} : seq? (enc t) = some ([t.a, t.b, t.c].map enc) := nrfl rfl
theorem seq_P2 {t : P2} : seq? (enc t) = some ([t.1, t.2].map enc) := nrfl rfl
theorem tup_L {xs : List PyData} : bltD .tup [.list xs] = some (.d (.tuple xs)) := nrfl rfl
theorem tup_T {xs : List PyData} : bltD .tup [.tuple xs] = some (.d (.tuple xs)) := nrfl rfl
theorem lst_L {xs : List PyData} : bltD .lst [.list xs] = some (.own (.lst xs)) := nrfl rfl
theorem lst_T {xs : List PyData} : bltD .lst [.tuple xs] = some (.own (.lst xs)) := nrfl rfl
theorem lst_P {xs : List T3} : bltD .lst [enc xs] = some (.own (.lst (xs.map enc))) := nrfl rfl
theorem bools_map {γ : Type} (f : γ → Bool) : ∀ xs : List γ, bools? (xs.map fun x => .bool (f x)) = some (xs.map f)
  | [] => rfl
  | x :: xs => by rw [List.map_cons]; simp only [bools?]; rw [bools_map f xs]; rfl
theorem all_B {γ : Type} {xs : List γ} {f : γ → Bool} : bltD .all [.list (xs.map fun x => .bool (f x))] = some (.d (.bool (xs.all f))) := by
  show (bools? _).map _ = _
  rw [bools_map, Option.map_some, List.all_map]; rfl
theorem any_B {γ : Type} {xs : List γ} {f : γ → Bool} : bltD .any [.list (xs.map fun x => .bool (f x))] = some (.d (.bool (xs.any f))) := by
  show (bools? _).map _ = _
  rw [bools_map, Option.map_some, List.any_map]; rfl
theorem rng_N {a b : Nat} (ha : a < 2 ^ 30) (hb : b < 2 ^ 30) : rngD (a : Int) (b : Int) = some ((List.range' a (b - a)).map enc) := by
  unfold rngD
  rw [if_pos (by omega)]
  unfold rngL
  rw [List.range'_eq_map_range, List.map_map, show ((b : Int) - (a : Int)).toNat = b - a from by omega]
  refine congrArg some (List.map_congr_left fun j _ => ?_)
  show PyData.int ((a : Int) + (j : Int)) = PyData.int ((a + j : Nat) : Int)
  rw [Int.natCast_add]
theorem rng_0 {b : Nat} (hb : b < 2 ^ 30) : rngD 0 (b : Int) = some ((List.range b).map enc) := by
  have := rng_N (a := 0) (b := b) (by decide) hb
  rw [Nat.sub_zero, ← List.range_eq_range'] at this
  exact this
theorem ixL {xs : List α} {i : Nat} {x : α} (h : xs[i]? = some x) : ixD (.list (xs.map enc)) (enc i) = some (enc x) := by
  show atI (xs.map enc) (i : Int) = _
  unfold atI ixN
  have hl := (List.getElem?_eq_some_iff.mp h).1
  rw [if_pos (by omega), List.length_map, if_pos (by omega)]
  show (xs.map enc)[((i : Int)).toNat]? = _
  rw [show ((i : Int)).toNat = i from by omega, List.getElem?_map, h]
  rfl
theorem ixT {xs : List α} {i : Nat} {x : α} (h : xs[i]? = some x) : ixD (.tuple (xs.map enc)) (enc i) = some (enc x) := by
  show atI (xs.map enc) (i : Int) = _
  have := ixL h
  exact this
end
section
variable {α : Type} [DecidableEq α] [Enc α]
theorem cut_from' {γ : Type} (xs : List γ) (k : Nat) : (xs.drop (min k xs.length)).take (xs.length - min k xs.length) = xs.drop k := by
  rw [List.take_of_length_le (by rw [List.length_drop]; omega)]
  by_cases h : k ≤ xs.length
  · rw [Nat.min_eq_left h]
  · rw [Nat.min_eq_right (by omega), List.drop_length, List.drop_of_length_le (by omega)]
theorem sIx_n {n : Nat} {d k : Nat} : HT.sIx n d (some (k : Int)) = min k n := by
  unfold HT.sIx
  simp only
  rw [if_neg (by omega)]
  rfl
theorem cutD_from {xs : List PyData} {k : Nat} : cutD xs (some (k : Int)) none = xs.drop k := by
  unfold cutD
  rw [sIx_n]
  exact cut_from' xs k
theorem cutD_to {xs : List PyData} {k : Nat} : cutD xs none (some (k : Int)) = xs.take k := by
  unfold cutD
  rw [sIx_n]
  show (xs.drop 0).take (min k xs.length - 0) = _
  rw [List.drop_zero, Nat.sub_zero]
  by_cases h : k ≤ xs.length
  · rw [Nat.min_eq_left h]
  · rw [Nat.min_eq_right (by omega), List.take_length, List.take_of_length_le (by omega)]
theorem cut_fromT {xs : List α} {k : Nat} : slD (.tuple (xs.map enc)) (some (k : Int)) none = some (.d (.tuple ((xs.drop k).map enc))) := by
  show some (W.d (.tuple (cutD _ _ _))) = _
  rw [cutD_from, List.map_drop]
theorem cut_fromL {xs : List α} {k : Nat} : slD (.list (xs.map enc)) (some (k : Int)) none = some (.own (.lst ((xs.drop k).map enc))) := by
  show some (W.own (.lst (cutD _ _ _))) = _
  rw [cutD_from, List.map_drop]
theorem cut_toT {xs : List α} {k : Nat} : slD (.tuple (xs.map enc)) none (some (k : Int)) = some (.d (.tuple ((xs.take k).map enc))) := by
  show some (W.d (.tuple (cutD _ _ _))) = _
  rw [cutD_to, List.map_take]
theorem cut_toL {xs : List α} {k : Nat} : slD (.list (xs.map enc)) none (some (k : Int)) = some (.own (.lst ((xs.take k).map enc))) := by
  show some (W.own (.lst (cutD _ _ _))) = _
  rw [cutD_to, List.map_take]
theorem cut_fromP {xs : List T3} {k : Nat} : slD (enc xs) (some (k : Int)) none = some (.d (enc (xs.drop k))) := cut_fromT
theorem cut_toP {xs : List T3} {k : Nat} : slD (enc xs) none (some (k : Int)) = some (.d (enc (xs.take k))) := cut_toT
end
theorem ix_a {t : T3} : ixD (enc t) (enc 0) = some (enc t.a) := nrfl rfl
theorem ix_b {t : T3} : ixD (enc t) (enc 1) = some (enc t.b) := nrfl rfl
theorem ix_c {t : T3} : ixD (enc t) (enc 2) = some (enc t.c) := nrfl rfl
theorem ix_1 {t : P2} : ixD (enc t) (enc 0) = some (enc t.1) := nrfl rfl
theorem ix_2 {t : P2} : ixD (enc t) (enc 1) = some (enc t.2) := nrfl rfl
theorem sl_2 {t : T3} : slD (enc t) none (some ((2 : Nat) : Int)) = some (.d (enc (t.a, t.b))) := nrfl rfl
theorem sl_1 {t : T3} : slD (enc t) (some ((1 : Nat) : Int)) none = some (.d (enc (t.b, t.c))) := nrfl rfl
theorem bind1 {i : Nat} {x : PyData} {ρ : Env'} : bindT (.one i) x ρ = some (ρ.set i (some (.d x))) := nrfl rfl
theorem bind2 {α β : Type} [DecidableEq α] [DecidableEq β] [Enc α] [Enc β] [Fact' (Enc.dp α ≤ 30)] [Fact' (Enc.dp β ≤ 30)] {i j : Nat} {x : α × β} {ρ : Env'} : bindT (.two i j) (enc x) ρ = some ((ρ.set i (some (.d (enc x.1)))).set j (some (.d (enc x.2)))) := nrfl rfl
theorem bind3 {i j k : Nat} {x : T3} {ρ : Env'} : bindT (.three i j k) (enc x) ρ = some (((ρ.set i (some (.d (enc x.a)))).set j (some (.d (enc x.b)))).set k (some (.d (enc x.c)))) := nrfl rfl
end TP
/-! The bodies of the defs, with the defs that they call as letters. -/
namespace TP
open PySem L2
open Enc (enc)
def x_is_integer : SL := (.cons (.ret (.ban (.cons (.isi .int (.v 0)) (.cons (.bno (.isi .bool (.v 0))) (.cons (.chain .le .le (.v 1) (.v 0) (.v 2)) .nil))))) .nil)
def x_check_players (i_is_integer : Nat) : SL := (.cons (.ife (.bno (.call i_is_integer (.cons (.v 0) (.cons (.c (PyData.int 3)) (.cons (.c (PyData.int 9)) .nil))))) (.cons (.rse 0) .nil) .nil) .nil)
def x_fits (i_is_integer : Nat) : SL := (.cons (.ife (.bor (.cons (.bno (.isi .tuple (.v 1))) (.cons (.o2 .ne (.blt .len (.cons (.v 1) .nil)) (.c (PyData.int 3))) (.cons (.bno (.blt .all (.cons (.comp (.call i_is_integer (.cons (.v 2) (.cons (.c (PyData.int 0)) (.cons (.o2 .sub (.v 0) (.c (PyData.int 1))) .nil)))) (.one 2) (.seq (.v 1)) .non) .nil))) .nil)))) (.cons (.ret (.c (PyData.bool false))) .nil) .nil) (.cons (.ret (.chain .lt .lt (.ix (.v 1) (.c (PyData.int 0))) (.ix (.v 1) (.c (PyData.int 1))) (.ix (.v 1) (.c (PyData.int 2))))) .nil))
def x_pairs_of : SL := (.cons (.ret (.lst (.cons (.sl (.v 0) .non (.som (.c (PyData.int 2)))) (.cons (.tup (.cons (.ix (.v 0) (.c (PyData.int 0))) (.cons (.ix (.v 0) (.c (PyData.int 2))) .nil))) (.cons (.sl (.v 0) (.som (.c (PyData.int 1))) .non) .nil))))) .nil)
def x_pairs_met (i_pairs_of : Nat) : SL := (.cons (.asg 1 true (.lst .nil)) (.cons (.fr [] (.one 2) (.seq (.v 0)) (.cons (.ext 1 (.call i_pairs_of (.cons (.v 2) .nil))) .nil)) (.cons (.ret (.v 1)) .nil)))
def x_stands (i_fits : Nat) (i_pairs_met : Nat) : SL := (.cons (.ife (.bor (.cons (.bno (.isi .tuple (.v 1))) (.cons (.bno (.blt .all (.cons (.comp (.call i_fits (.cons (.v 0) (.cons (.v 2) .nil))) (.one 2) (.seq (.v 1)) .non) .nil))) .nil))) (.cons (.ret (.c (PyData.bool false))) .nil) .nil) (.cons (.asg 3 false (.call i_pairs_met (.cons (.v 1) .nil))) (.cons (.ret (.ban (.cons (.o2 .eq (.blt .lenset (.cons (.v 3) .nil)) (.blt .len (.cons (.v 3) .nil))) (.cons (.blt .all (.cons (.comp (.o2 .lt (.v 4) (.v 5)) (.two 4 5) (.zip (.v 1) (.sl (.v 1) (.som (.c (PyData.int 1))) .non)) .non) .nil)) .nil)))) .nil)))
def x_is_plan (i_check_players : Nat) (i_stands : Nat) : SL := (.cons (.ex (.call i_check_players (.cons (.v 0) .nil))) (.cons (.ret (.call i_stands (.cons (.v 0) (.cons (.v 1) .nil)))) .nil))
def x_check_plan (i_check_players : Nat) (i_stands : Nat) : SL := (.cons (.ex (.call i_check_players (.cons (.v 0) .nil))) (.cons (.ife (.bno (.call i_stands (.cons (.v 0) (.cons (.v 1) .nil)))) (.cons (.rse 2) .nil) .nil) .nil))
def x_all_pairs : SL := (.cons (.asg 1 true (.lst .nil)) (.cons (.fr [] (.one 2) (.rng1 (.v 0)) (.cons (.ext 1 (.comp (.tup (.cons (.v 2) (.cons (.v 3) .nil))) (.one 3) (.rng2 (.o2 .add (.v 2) (.c (PyData.int 1))) (.v 0)) .non)) .nil)) (.cons (.ret (.v 1)) .nil)))
def x_left_of (i_all_pairs : Nat) (i_pairs_met : Nat) : SL := (.cons (.asg 2 false (.call i_pairs_met (.cons (.v 1) .nil))) (.cons (.ret (.comp (.v 3) (.one 3) (.seq (.call i_all_pairs (.cons (.v 0) .nil))) (.som (.o2 .notin (.v 3) (.v 2))))) .nil))
def x_pairs_left (i_check_plan : Nat) (i_left_of : Nat) : SL := (.cons (.ex (.call i_check_plan (.cons (.v 0) (.cons (.v 1) .nil)))) (.cons (.ret (.call i_left_of (.cons (.v 0) (.cons (.v 1) .nil)))) .nil))
def x_is_full (i_check_plan : Nat) (i_left_of : Nat) : SL := (.cons (.ex (.call i_check_plan (.cons (.v 0) (.cons (.v 1) .nil)))) (.cons (.ret (.o2 .eq (.call i_left_of (.cons (.v 0) (.cons (.v 1) .nil))) (.lst .nil))) .nil))
def x_partners (i_check_plan : Nat) (i_is_integer : Nat) (i_pairs_met : Nat) : SL := (.cons (.ex (.call i_check_plan (.cons (.v 0) (.cons (.v 1) .nil)))) (.cons (.ife (.bno (.call i_is_integer (.cons (.v 2) (.cons (.c (PyData.int 0)) (.cons (.o2 .sub (.v 0) (.c (PyData.int 1))) .nil))))) (.cons (.rse 3) .nil) .nil) (.cons (.ret (.comp (.v 3) (.one 3) (.rng1 (.v 0)) (.som (.o2 .inn (.tup (.cons (.blt .min2 (.cons (.v 3) (.cons (.v 2) .nil))) (.cons (.blt .max2 (.cons (.v 3) (.cons (.v 2) .nil))) .nil))) (.call i_pairs_met (.cons (.v 1) .nil)))))) .nil)))
def x_open_list (i_all_pairs : Nat) (i_left_of : Nat) (i_pairs_of : Nat) : SL := (.cons (.asg 2 false (.call i_left_of (.cons (.v 0) (.cons (.v 1) .nil)))) (.cons (.asg 3 true (.lst .nil)) (.cons (.fr [] (.two 4 5) (.seq (.call i_all_pairs (.cons (.v 0) .nil))) (.cons (.fr [] (.one 6) (.rng2 (.o2 .add (.v 5) (.c (PyData.int 1))) (.v 0)) (.cons (.ife (.blt .all (.cons (.comp (.o2 .inn (.v 7) (.v 2)) (.one 7) (.seq (.call i_pairs_of (.cons (.tup (.cons (.v 4) (.cons (.v 5) (.cons (.v 6) .nil)))) .nil))) .non) .nil)) (.cons (.app 3 (.tup (.cons (.v 4) (.cons (.v 5) (.cons (.v 6) .nil))))) .nil) .nil) .nil)) .nil)) (.cons (.ret (.v 3)) .nil))))
def x_open_threes (i_check_plan : Nat) (i_open_list : Nat) : SL := (.cons (.ex (.call i_check_plan (.cons (.v 0) (.cons (.v 1) .nil)))) (.cons (.ret (.call i_open_list (.cons (.v 0) (.cons (.v 1) .nil)))) .nil))
def x_completion (i_check_plan : Nat) (i_open_list : Nat) : SL := (.cons (.ex (.call i_check_plan (.cons (.v 0) (.cons (.v 1) .nil)))) (.cons (.asg 2 false (.call i_open_list (.cons (.v 0) (.cons (.v 1) .nil)))) (.cons (.wh (.o2 .ne (.v 2) (.lst .nil)) (.cons (.asg 1 false (.blt .tup (.cons (.blt .sorted (.cons (.o2 .add (.v 1) (.tup (.cons (.ix (.v 2) (.c (PyData.int 0))) .nil))) .nil)) .nil))) (.cons (.asg 2 false (.call i_open_list (.cons (.v 0) (.cons (.v 1) .nil)))) .nil))) (.cons (.ret (.v 1)) .nil))))
def x_greatest (i_check_players : Nat) : SL := (.cons (.ex (.call i_check_players (.cons (.v 0) .nil))) (.cons (.ret (.ix (.lst (.cons (.c (PyData.int 1)) (.cons (.c (PyData.int 1)) (.cons (.c (PyData.int 2)) (.cons (.c (PyData.int 4)) (.cons (.c (PyData.int 7)) (.cons (.c (PyData.int 8)) (.cons (.c (PyData.int 12)) .nil)))))))) (.o2 .sub (.v 0) (.c (PyData.int 3))))) .nil))
def x_full_plans (i_left_of : Nat) (i_pairs_of : Nat) : SL := (.cons (.asg2 2 3 true true (.lst .nil) (.lst (.cons (.tup (.cons (.v 1) (.cons (.call i_left_of (.cons (.v 0) (.cons (.v 1) .nil))) .nil))) .nil))) (.cons (.wh (.o2 .ne (.v 3) (.lst .nil)) (.cons (.popT (.two 4 5) 3) (.cons (.ife (.o2 .eq (.v 5) (.lst .nil)) (.cons (.app 2 (.v 4)) .nil) (.cons (.asgT (.two 6 7) (.ix (.v 5) (.c (PyData.int 0)))) (.cons (.fr [] (.one 8) (.rng1 (.v 0)) (.cons (.asg 9 false (.blt .tup (.cons (.blt .sorted (.cons (.lst (.cons (.v 6) (.cons (.v 7) (.cons (.v 8) .nil)))) .nil)) .nil))) (.cons (.ife (.ban (.cons (.o2 .notin (.v 8) (.tup (.cons (.v 6) (.cons (.v 7) .nil)))) (.cons (.blt .all (.cons (.comp (.o2 .inn (.v 10) (.v 5)) (.one 10) (.seq (.call i_pairs_of (.cons (.v 9) .nil))) .non) .nil)) .nil))) (.cons (.app 3 (.tup (.cons (.o2 .add (.v 4) (.tup (.cons (.v 9) .nil))) (.cons (.comp (.v 10) (.one 10) (.seq (.v 5)) (.som (.o2 .notin (.v 10) (.call i_pairs_of (.cons (.v 9) .nil))))) .nil)))) .nil) .nil) .nil))) .nil))) .nil))) (.cons (.ret (.comp (.blt .tup (.cons (.blt .sorted (.cons (.v 6) .nil)) .nil)) (.one 6) (.seq (.v 2)) .non)) .nil)))
def x_full_plan (i_check_plan : Nat) (i_full_plans : Nat) : SL := (.cons (.ex (.call i_check_plan (.cons (.v 0) (.cons (.v 1) .nil)))) (.cons (.asg 2 false (.call i_full_plans (.cons (.v 0) (.cons (.v 1) .nil)))) (.cons (.ife (.o2 .eq (.v 2) (.lst .nil)) (.cons (.rse 6) .nil) .nil) (.cons (.ret (.blt .min1 (.cons (.v 2) .nil))) .nil))))
def x_count_full (i_check_plan : Nat) (i_full_plans : Nat) : SL := (.cons (.ex (.call i_check_plan (.cons (.v 0) (.cons (.v 1) .nil)))) (.cons (.ret (.blt .len (.cons (.call i_full_plans (.cons (.v 0) (.cons (.v 1) .nil))) .nil))) .nil))
def x_makes_day (i_fits : Nat) : SL := (.cons (.ife (.bor (.cons (.bno (.isi .tuple (.v 1))) (.cons (.bno (.blt .all (.cons (.comp (.call i_fits (.cons (.v 0) (.cons (.v 2) .nil))) (.one 2) (.seq (.v 1)) .non) .nil))) .nil))) (.cons (.ret (.c (PyData.bool false))) .nil) .nil) (.cons (.asg 3 true (.lst .nil)) (.cons (.fr [] (.one 2) (.seq (.v 1)) (.cons (.ext 3 (.v 2)) .nil)) (.cons (.ret (.ban (.cons (.o2 .eq (.blt .sorted (.cons (.v 3) .nil)) (.blt .lrng (.cons (.v 0) .nil))) (.cons (.o2 .eq (.blt .lst (.cons (.v 1) .nil)) (.blt .sorted (.cons (.v 1) .nil))) .nil)))) .nil))))
def x_is_day (i_check_players : Nat) (i_makes_day : Nat) : SL := (.cons (.ex (.call i_check_players (.cons (.v 0) .nil))) (.cons (.ret (.call i_makes_day (.cons (.v 0) (.cons (.v 1) .nil)))) .nil))
def x_day_list (i_makes_day : Nat) : SL := (.cons (.asg 2 false (.lst (.cons (.tup .nil) .nil))) (.cons (.fr [] (.one 3) (.rng1 (.o2 .fdiv (.v 0) (.c (PyData.int 3)))) (.cons (.asg 4 true (.lst .nil)) (.cons (.fr [] (.one 5) (.seq (.v 2)) (.cons (.asg 6 true (.lst .nil)) (.cons (.fr [] (.one 7) (.seq (.v 5)) (.cons (.ext 6 (.v 7)) .nil)) (.cons (.fr [] (.one 7) (.seq (.v 1)) (.cons (.ife (.ban (.cons (.bno (.blt .any (.cons (.comp (.o2 .inn (.v 8) (.v 6)) (.one 8) (.seq (.v 7)) .non) .nil))) (.cons (.bor (.cons (.o2 .eq (.v 5) (.tup .nil)) (.cons (.o2 .lt (.ix (.v 5) (.neg (.c (PyData.int 1)))) (.v 7)) .nil))) .nil))) (.cons (.app 4 (.o2 .add (.v 5) (.tup (.cons (.v 7) .nil)))) .nil) .nil) .nil)) .nil)))) (.cons (.mov 2 4) .nil)))) (.cons (.ret (.comp (.v 5) (.one 5) (.seq (.v 2)) (.som (.call i_makes_day (.cons (.v 0) (.cons (.v 5) .nil)))))) .nil)))
def x_days_in (i_check_plan : Nat) (i_day_list : Nat) : SL := (.cons (.ex (.call i_check_plan (.cons (.v 0) (.cons (.v 1) .nil)))) (.cons (.ret (.call i_day_list (.cons (.v 0) (.cons (.v 1) .nil)))) .nil))
def x_into_days (i_check_plan : Nat) (i_day_list : Nat) : SL := (.cons (.ex (.call i_check_plan (.cons (.v 0) (.cons (.v 1) .nil)))) (.cons (.asg 2 false (.call i_day_list (.cons (.v 0) (.cons (.v 1) .nil)))) (.cons (.asg 3 true (.lst (.cons (.tup (.cons (.lst .nil) (.cons (.blt .lst (.cons (.v 1) .nil)) .nil))) .nil))) (.cons (.wh (.o2 .ne (.v 3) (.lst .nil)) (.cons (.popT (.two 4 5) 3) (.cons (.ife (.o2 .eq (.v 5) (.lst .nil)) (.cons (.ret (.v 4)) .nil) .nil) (.cons (.fr [] (.one 6) (.seq (.rev (.v 2))) (.cons (.ife (.ban (.cons (.o2 .inn (.ix (.v 5) (.c (PyData.int 0))) (.v 6)) (.cons (.blt .all (.cons (.comp (.o2 .inn (.v 7) (.v 5)) (.one 7) (.seq (.v 6)) .non) .nil)) .nil))) (.cons (.app 3 (.tup (.cons (.o2 .add (.v 4) (.lst (.cons (.v 6) .nil))) (.cons (.comp (.v 7) (.one 7) (.seq (.v 5)) (.som (.o2 .notin (.v 7) (.v 6)))) .nil)))) .nil) .nil) .nil)) .nil)))) (.cons (.rse 7) .nil)))))
def x_players_of : SL := (.cons (.dnew 1) (.cons (.fr [] (.one 2) (.seq (.v 0)) (.cons (.fr [] (.one 3) (.seq (.v 2)) (.cons (.dset 1 (.v 3) (.c (PyData.bool true))) .nil)) .nil)) (.cons (.ret (.dsort 1)) .nil)))
def x_four_list (i_players_of : Nat) : SL := (.cons (.asg 1 false (.lst (.cons (.tup .nil) .nil))) (.cons (.fr [] (.one 2) (.seq (.v 0)) (.cons (.asg 1 false (.o2 .add (.v 1) (.comp (.o2 .add (.v 3) (.tup (.cons (.v 2) .nil))) (.one 3) (.seq (.v 1)) (.som (.o2 .lt (.blt .len (.cons (.v 3) .nil)) (.c (PyData.int 4))))))) .nil)) (.cons (.asg 4 true (.lst .nil)) (.cons (.fr [] (.one 3) (.seq (.v 1)) (.cons (.ife (.ban (.cons (.o2 .eq (.blt .len (.cons (.v 3) .nil)) (.c (PyData.int 4))) (.cons (.o2 .eq (.blt .len (.cons (.call i_players_of (.cons (.v 3) .nil)) .nil)) (.c (PyData.int 6))) .nil))) (.cons (.ife (.blt .all (.cons (.comp (.o2 .eq (.blt .len (.cons (.comp (.c (PyData.int 1)) (.one 2) (.seq (.v 3)) (.som (.o2 .inn (.v 5) (.v 2)))) .nil)) (.c (PyData.int 2))) (.one 5) (.seq (.call i_players_of (.cons (.v 3) .nil))) .non) .nil)) (.cons (.app 4 (.v 3)) .nil) .nil) .nil) .nil) .nil)) (.cons (.ret (.blt .sorted (.cons (.v 4) .nil))) .nil)))))
def x_fours (i_check_plan : Nat) (i_four_list : Nat) : SL := (.cons (.ex (.call i_check_plan (.cons (.v 0) (.cons (.v 1) .nil)))) (.cons (.ret (.call i_four_list (.cons (.v 1) .nil))) .nil))
def x_opposite (i_pairs_met : Nat) (i_players_of : Nat) : SL := (.cons (.asg2 1 2 false false (.call i_pairs_met (.cons (.v 0) .nil)) (.call i_players_of (.cons (.v 0) .nil))) (.cons (.dnew 3) (.cons (.fr [] (.one 4) (.seq (.v 2)) (.cons (.fr [] (.one 5) (.seq (.v 2)) (.cons (.ife (.ban (.cons (.o2 .ne (.v 4) (.v 5)) (.cons (.o2 .notin (.tup (.cons (.blt .min2 (.cons (.v 4) (.cons (.v 5) .nil))) (.cons (.blt .max2 (.cons (.v 4) (.cons (.v 5) .nil))) .nil))) (.v 1)) .nil))) (.cons (.dset 3 (.v 4) (.v 5)) .nil) .nil) .nil)) .nil)) (.cons (.ret (.comp (.blt .tup (.cons (.blt .sorted (.cons (.comp (.dget 3 (.v 4)) (.one 4) (.seq (.v 6)) .non) .nil)) .nil)) (.one 6) (.seq (.v 0)) .non)) .nil))))
def x_exchanged (i_check_plan : Nat) (i_four_list : Nat) (i_opposite : Nat) : SL := (.cons (.ex (.call i_check_plan (.cons (.v 0) (.cons (.v 1) .nil)))) (.cons (.ife (.bor (.cons (.bno (.isi .tuple (.v 2))) (.cons (.o2 .notin (.v 2) (.call i_four_list (.cons (.v 1) .nil))) .nil))) (.cons (.rse 4) .nil) .nil) (.cons (.asg 4 false (.comp (.v 3) (.one 3) (.seq (.v 1)) (.som (.o2 .notin (.v 3) (.v 2))))) (.cons (.ret (.blt .tup (.cons (.blt .sorted (.cons (.o2 .add (.v 4) (.call i_opposite (.cons (.v 2) .nil))) .nil)) .nil))) .nil))))
def x_named : SL := (.cons (.ret (.blt .tup (.cons (.blt .sorted (.cons (.comp (.blt .tup (.cons (.blt .sorted (.cons (.comp (.ix (.v 1) (.v 3)) (.one 3) (.seq (.v 2)) .non) .nil)) .nil)) (.one 2) (.seq (.v 0)) .non) .nil)) .nil))) .nil)
def x_renamed (i_check_plan : Nat) (i_is_integer : Nat) (i_named : Nat) : SL := (.cons (.ex (.call i_check_plan (.cons (.v 0) (.cons (.v 1) .nil)))) (.cons (.ife (.bor (.cons (.bno (.isi .tuple (.v 2))) (.cons (.bno (.blt .all (.cons (.comp (.call i_is_integer (.cons (.v 3) (.cons (.c (PyData.int 0)) (.cons (.o2 .sub (.v 0) (.c (PyData.int 1))) .nil)))) (.one 3) (.seq (.v 2)) .non) .nil))) .nil))) (.cons (.rse 5) .nil) .nil) (.cons (.ife (.o2 .ne (.blt .sorted (.cons (.v 2) .nil)) (.blt .lrng (.cons (.v 0) .nil))) (.cons (.rse 5) .nil) .nil) (.cons (.ret (.call i_named (.cons (.v 1) (.cons (.v 2) .nil)))) .nil))))
def x_goes : SL := (.cons (.ret (.o2 .inn (.blt .tup (.cons (.blt .sorted (.cons (.comp (.ix (.v 1) (.v 3)) (.one 3) (.seq (.v 0)) .non) .nil)) .nil)) (.v 2))) .nil)
def x_names_between (i_check_plan : Nat) (i_goes : Nat) (i_is_integer : Nat) : SL := (.cons (.ife (.bno (.call i_is_integer (.cons (.v 0) (.cons (.c (PyData.int 3)) (.cons (.c (PyData.int 7)) .nil))))) (.cons (.rse 0) .nil) .nil) (.cons (.ex (.call i_check_plan (.cons (.v 0) (.cons (.v 1) .nil)))) (.cons (.ex (.call i_check_plan (.cons (.v 0) (.cons (.v 2) .nil)))) (.cons (.asg 3 false (.ite (.o2 .eq (.blt .len (.cons (.v 1) .nil)) (.blt .len (.cons (.v 2) .nil))) (.lst (.cons (.tup .nil) .nil)) (.lst .nil))) (.cons (.fr [] (.one 4) (.rng1 (.v 0)) (.cons (.asg 5 true (.lst .nil)) (.cons (.fr [] (.one 6) (.seq (.v 3)) (.cons (.fr [] (.one 7) (.rng1 (.v 0)) (.cons (.ife (.o2 .notin (.v 7) (.v 6)) (.cons (.asg 8 false (.o2 .add (.v 6) (.tup (.cons (.v 7) .nil)))) (.cons (.ife (.blt .all (.cons (.comp (.call i_goes (.cons (.v 9) (.cons (.v 8) (.cons (.v 2) .nil)))) (.one 9) (.seq (.v 1)) (.som (.o2 .eq (.ix (.v 9) (.c (PyData.int 2))) (.v 4)))) .nil)) (.cons (.app 5 (.v 8)) .nil) .nil) .nil)) .nil) .nil)) .nil)) (.cons (.mov 3 5) .nil)))) (.cons (.ret (.ite (.o2 .ne (.v 3) (.lst .nil)) (.ix (.v 3) (.c (PyData.int 0))) (.c PyData.none))) .nil))))))
def x__law_small_ones (i_completion : Nat) (i_count_full : Nat) (i_days_in : Nat) (i_exchanged : Nat) (i_fours : Nat) (i_full_plan : Nat) (i_into_days : Nat) (i_is_day : Nat) (i_is_full : Nat) (i_is_plan : Nat) (i_names_between : Nat) (i_open_threes : Nat) (i_pairs_left : Nat) (i_partners : Nat) (i_renamed : Nat) : SL := (.cons (.asg 0 false (.tup (.cons (.tup (.cons (.c (PyData.int 0)) (.cons (.c (PyData.int 1)) (.cons (.c (PyData.int 2)) .nil)))) (.cons (.tup (.cons (.c (PyData.int 0)) (.cons (.c (PyData.int 3)) (.cons (.c (PyData.int 4)) .nil)))) .nil)))) (.cons (.ife (.bor (.cons (.o2 .isnt (.call i_is_plan (.cons (.c (PyData.int 5)) (.cons (.v 0) .nil))) (.c (PyData.bool true))) (.cons (.o2 .ne (.call i_pairs_left (.cons (.c (PyData.int 4)) (.cons (.tup (.cons (.tup (.cons (.c (PyData.int 0)) (.cons (.c (PyData.int 1)) (.cons (.c (PyData.int 2)) .nil)))) .nil)) .nil))) (.lst (.cons (.tup (.cons (.c (PyData.int 0)) (.cons (.c (PyData.int 3)) .nil))) (.cons (.tup (.cons (.c (PyData.int 1)) (.cons (.c (PyData.int 3)) .nil))) (.cons (.tup (.cons (.c (PyData.int 2)) (.cons (.c (PyData.int 3)) .nil))) .nil))))) .nil))) (.cons (.ret (.c (PyData.bool false))) .nil) .nil) (.cons (.ife (.o2 .ne (.call i_partners (.cons (.c (PyData.int 5)) (.cons (.v 0) (.cons (.c (PyData.int 1)) .nil)))) (.lst (.cons (.c (PyData.int 0)) (.cons (.c (PyData.int 2)) .nil)))) (.cons (.ret (.c (PyData.bool false))) .nil) .nil) (.cons (.ife (.bor (.cons (.o2 .ne (.call i_open_threes (.cons (.c (PyData.int 5)) (.cons (.tup (.cons (.tup (.cons (.c (PyData.int 0)) (.cons (.c (PyData.int 1)) (.cons (.c (PyData.int 2)) .nil)))) .nil)) .nil))) (.lst (.cons (.tup (.cons (.c (PyData.int 0)) (.cons (.c (PyData.int 3)) (.cons (.c (PyData.int 4)) .nil)))) (.cons (.tup (.cons (.c (PyData.int 1)) (.cons (.c (PyData.int 3)) (.cons (.c (PyData.int 4)) .nil)))) (.cons (.tup (.cons (.c (PyData.int 2)) (.cons (.c (PyData.int 3)) (.cons (.c (PyData.int 4)) .nil)))) .nil))))) (.cons (.o2 .ne (.call i_completion (.cons (.c (PyData.int 5)) (.cons (.tup (.cons (.tup (.cons (.c (PyData.int 0)) (.cons (.c (PyData.int 1)) (.cons (.c (PyData.int 2)) .nil)))) .nil)) .nil))) (.v 0)) .nil))) (.cons (.ret (.c (PyData.bool false))) .nil) .nil) (.cons (.ife (.bor (.cons (.o2 .isnt (.call i_is_full (.cons (.c (PyData.int 3)) (.cons (.tup (.cons (.tup (.cons (.c (PyData.int 0)) (.cons (.c (PyData.int 1)) (.cons (.c (PyData.int 2)) .nil)))) .nil)) .nil))) (.c (PyData.bool true))) (.cons (.o2 .ne (.call i_full_plan (.cons (.c (PyData.int 3)) (.cons (.tup .nil) .nil))) (.tup (.cons (.tup (.cons (.c (PyData.int 0)) (.cons (.c (PyData.int 1)) (.cons (.c (PyData.int 2)) .nil)))) .nil))) (.cons (.o2 .ne (.call i_count_full (.cons (.c (PyData.int 7)) (.cons (.tup .nil) .nil))) (.c (PyData.int 30))) .nil)))) (.cons (.ret (.c (PyData.bool false))) .nil) .nil) (.cons (.asg 1 false (.tup (.cons (.tup (.cons (.c (PyData.int 0)) (.cons (.c (PyData.int 1)) (.cons (.c (PyData.int 2)) .nil)))) (.cons (.tup (.cons (.c (PyData.int 0)) (.cons (.c (PyData.int 3)) (.cons (.c (PyData.int 4)) .nil)))) (.cons (.tup (.cons (.c (PyData.int 1)) (.cons (.c (PyData.int 3)) (.cons (.c (PyData.int 5)) .nil)))) (.cons (.tup (.cons (.c (PyData.int 2)) (.cons (.c (PyData.int 4)) (.cons (.c (PyData.int 5)) .nil)))) .nil)))))) (.cons (.asg 2 false (.tup (.cons (.tup (.cons (.c (PyData.int 0)) (.cons (.c (PyData.int 1)) (.cons (.c (PyData.int 3)) .nil)))) (.cons (.tup (.cons (.c (PyData.int 0)) (.cons (.c (PyData.int 2)) (.cons (.c (PyData.int 4)) .nil)))) (.cons (.tup (.cons (.c (PyData.int 1)) (.cons (.c (PyData.int 2)) (.cons (.c (PyData.int 5)) .nil)))) (.cons (.tup (.cons (.c (PyData.int 3)) (.cons (.c (PyData.int 4)) (.cons (.c (PyData.int 5)) .nil)))) .nil)))))) (.cons (.ife (.bor (.cons (.o2 .ne (.call i_fours (.cons (.c (PyData.int 6)) (.cons (.v 1) .nil))) (.lst (.cons (.v 1) .nil))) (.cons (.o2 .ne (.call i_exchanged (.cons (.c (PyData.int 6)) (.cons (.v 1) (.cons (.v 1) .nil)))) (.v 2)) (.cons (.o2 .ne (.call i_exchanged (.cons (.c (PyData.int 6)) (.cons (.v 2) (.cons (.v 2) .nil)))) (.v 1)) .nil)))) (.cons (.ret (.c (PyData.bool false))) .nil) .nil) (.cons (.ife (.bor (.cons (.o2 .isnt (.call i_is_day (.cons (.c (PyData.int 6)) (.cons (.tup (.cons (.tup (.cons (.c (PyData.int 0)) (.cons (.c (PyData.int 1)) (.cons (.c (PyData.int 2)) .nil)))) (.cons (.tup (.cons (.c (PyData.int 3)) (.cons (.c (PyData.int 4)) (.cons (.c (PyData.int 5)) .nil)))) .nil))) .nil))) (.c (PyData.bool true))) (.cons (.o2 .ne (.call i_days_in (.cons (.c (PyData.int 6)) (.cons (.tup (.cons (.tup (.cons (.c (PyData.int 0)) (.cons (.c (PyData.int 1)) (.cons (.c (PyData.int 2)) .nil)))) (.cons (.tup (.cons (.c (PyData.int 3)) (.cons (.c (PyData.int 4)) (.cons (.c (PyData.int 5)) .nil)))) .nil))) .nil))) (.lst (.cons (.tup (.cons (.tup (.cons (.c (PyData.int 0)) (.cons (.c (PyData.int 1)) (.cons (.c (PyData.int 2)) .nil)))) (.cons (.tup (.cons (.c (PyData.int 3)) (.cons (.c (PyData.int 4)) (.cons (.c (PyData.int 5)) .nil)))) .nil))) .nil))) .nil))) (.cons (.ret (.c (PyData.bool false))) .nil) .nil) (.cons (.ife (.bor (.cons (.o2 .ne (.call i_into_days (.cons (.c (PyData.int 3)) (.cons (.tup (.cons (.tup (.cons (.c (PyData.int 0)) (.cons (.c (PyData.int 1)) (.cons (.c (PyData.int 2)) .nil)))) .nil)) .nil))) (.lst (.cons (.tup (.cons (.tup (.cons (.c (PyData.int 0)) (.cons (.c (PyData.int 1)) (.cons (.c (PyData.int 2)) .nil)))) .nil)) .nil))) (.cons (.o2 .ne (.call i_renamed (.cons (.c (PyData.int 4)) (.cons (.tup (.cons (.tup (.cons (.c (PyData.int 0)) (.cons (.c (PyData.int 1)) (.cons (.c (PyData.int 2)) .nil)))) .nil)) (.cons (.tup (.cons (.c (PyData.int 3)) (.cons (.c (PyData.int 0)) (.cons (.c (PyData.int 1)) (.cons (.c (PyData.int 2)) .nil))))) .nil)))) (.tup (.cons (.tup (.cons (.c (PyData.int 0)) (.cons (.c (PyData.int 1)) (.cons (.c (PyData.int 3)) .nil)))) .nil))) .nil))) (.cons (.ret (.c (PyData.bool false))) .nil) .nil) (.cons (.ret (.ban (.cons (.o2 .eq (.call i_names_between (.cons (.c (PyData.int 4)) (.cons (.tup (.cons (.tup (.cons (.c (PyData.int 0)) (.cons (.c (PyData.int 1)) (.cons (.c (PyData.int 2)) .nil)))) .nil)) (.cons (.tup (.cons (.tup (.cons (.c (PyData.int 1)) (.cons (.c (PyData.int 2)) (.cons (.c (PyData.int 3)) .nil)))) .nil)) .nil)))) (.tup (.cons (.c (PyData.int 1)) (.cons (.c (PyData.int 2)) (.cons (.c (PyData.int 3)) (.cons (.c (PyData.int 0)) .nil)))))) (.cons (.o2 .is (.call i_names_between (.cons (.c (PyData.int 4)) (.cons (.tup .nil) (.cons (.tup (.cons (.tup (.cons (.c (PyData.int 1)) (.cons (.c (PyData.int 2)) (.cons (.c (PyData.int 3)) .nil)))) .nil)) .nil)))) (.c PyData.none)) .nil)))) .nil)))))))))))
def x_is_three (i_check_players : Nat) (i_fits : Nat) : SL := (.cons (.ex (.call i_check_players (.cons (.v 0) .nil))) (.cons (.ret (.call i_fits (.cons (.v 0) (.cons (.v 1) .nil)))) .nil))
def x__law_same_truth : SL := (.cons (.ret (.ban (.cons (.isi .bool (.v 0)) (.cons (.o2 .eq (.v 0) (.v 1)) .nil)))) .nil)
def x__law_every_three : SL := (.cons (.asg 1 true (.lst .nil)) (.cons (.fr [] (.one 2) (.rng1 (.v 0)) (.cons (.fr [] (.one 3) (.rng2 (.o2 .add (.v 2) (.c (PyData.int 1))) (.v 0)) (.cons (.ext 1 (.comp (.tup (.cons (.v 2) (.cons (.v 3) (.cons (.v 4) .nil)))) (.one 4) (.rng2 (.o2 .add (.v 3) (.c (PyData.int 1))) (.v 0)) .non)) .nil)) .nil)) (.cons (.ret (.v 1)) .nil)))
def x__law_clash : SL := (.cons (.ret (.o2 .gt (.blt .len (.cons (.comp (.v 2) (.one 2) (.seq (.v 0)) (.som (.o2 .inn (.v 2) (.v 1)))) .nil)) (.c (PyData.int 1)))) .nil)
def x__law_some_plan (i__law_clash : Nat) (i__law_draw : Nat) (i__law_every_three : Nat) (i__law_pick : Nat) : SL := (.cons (.asg2 4 5 false true (.call i__law_every_three (.cons (.v 2) .nil)) (.lst .nil)) (.cons (.fr [] (.one 6) (.rng1 (.call i__law_draw (.cons (.v 0) (.cons (.v 1) (.cons (.o2 .add (.v 3) (.c (PyData.int 1))) .nil))))) (.cons (.ife (.o2 .ne (.v 4) (.lst .nil)) (.cons (.app 5 (.call i__law_pick (.cons (.v 0) (.cons (.v 1) (.cons (.v 4) .nil))))) (.cons (.asg 4 false (.comp (.v 7) (.one 7) (.seq (.v 4)) (.som (.bno (.call i__law_clash (.cons (.v 7) (.cons (.ix (.v 5) (.neg (.c (PyData.int 1)))) .nil))))))) .nil)) .nil) .nil)) (.cons (.ret (.blt .tup (.cons (.blt .sorted (.cons (.v 5) .nil)) .nil))) .nil)))
def x__law_unmet : SL := (.cons (.asg 2 true (.lst .nil)) (.cons (.fr [] (.one 3) (.rng1 (.v 0)) (.cons (.fr [] (.one 4) (.rng2 (.o2 .add (.v 3) (.c (PyData.int 1))) (.v 0)) (.cons (.ife (.o2 .eq (.comp (.c (PyData.int 1)) (.one 5) (.seq (.v 1)) (.som (.ban (.cons (.o2 .inn (.v 3) (.v 5)) (.cons (.o2 .inn (.v 4) (.v 5)) .nil))))) (.lst .nil)) (.cons (.app 2 (.tup (.cons (.v 3) (.cons (.v 4) .nil)))) .nil) .nil) .nil)) .nil)) (.cons (.ret (.v 2)) .nil)))
def x__law_same_number : SL := (.cons (.ret (.ban (.cons (.isi .int (.v 0)) (.cons (.bno (.isi .bool (.v 0))) (.cons (.o2 .eq (.v 0) (.v 1)) .nil))))) .nil)
def x__law_some_names (i__law_pick : Nat) : SL := (.cons (.asg2 3 4 true true (.blt .lrng (.cons (.v 2) .nil)) (.lst .nil)) (.cons (.wh (.o2 .ne (.v 3) (.lst .nil)) (.cons (.app 4 (.call i__law_pick (.cons (.v 0) (.cons (.v 1) (.cons (.v 3) .nil))))) (.cons (.rem 3 (.ix (.v 4) (.neg (.c (PyData.int 1))))) .nil))) (.cons (.ret (.blt .tup (.cons (.v 4) .nil))) .nil)))
def x__law_named : SL := (.cons (.ret (.blt .tup (.cons (.blt .sorted (.cons (.comp (.blt .tup (.cons (.blt .sorted (.cons (.comp (.ix (.v 1) (.v 3)) (.one 3) (.seq (.v 2)) .non) .nil)) .nil)) (.one 2) (.seq (.v 0)) .non) .nil)) .nil))) .nil)
def x__law_full_one (i__law_every_three : Nat) (i__law_named : Nat) (i__law_some_names : Nat) : SL := (.cons (.asg 3 false (.tup (.cons (.tup (.cons (.c (PyData.int 0)) (.cons (.c (PyData.int 1)) (.cons (.c (PyData.int 2)) .nil)))) .nil))) (.cons (.ife (.o2 .eq (.v 2) (.c (PyData.int 7))) (.cons (.asg 3 false (.blt .tup (.cons (.comp (.blt .tup (.cons (.blt .sorted (.cons (.lst (.cons (.v 4) (.cons (.o2 .mod (.o2 .add (.v 4) (.c (PyData.int 1))) (.c (PyData.int 7))) (.cons (.o2 .mod (.o2 .add (.v 4) (.c (PyData.int 3))) (.c (PyData.int 7))) .nil)))) .nil)) .nil)) (.one 4) (.rng1 (.c (PyData.int 7))) .non) .nil))) .nil) .nil) (.cons (.ife (.o2 .eq (.v 2) (.c (PyData.int 9))) (.cons (.asg 5 true (.lst .nil)) (.cons (.fr [] (.three 6 7 8) (.seq (.call i__law_every_three (.cons (.c (PyData.int 9)) .nil))) (.cons (.ife (.ban (.cons (.o2 .eq (.o2 .mod (.o2 .add (.o2 .add (.o2 .fdiv (.v 6) (.c (PyData.int 3))) (.o2 .fdiv (.v 7) (.c (PyData.int 3)))) (.o2 .fdiv (.v 8) (.c (PyData.int 3)))) (.c (PyData.int 3))) (.c (PyData.int 0))) (.cons (.o2 .eq (.o2 .mod (.o2 .add (.o2 .add (.v 6) (.v 7)) (.v 8)) (.c (PyData.int 3))) (.c (PyData.int 0))) .nil))) (.cons (.app 5 (.tup (.cons (.v 6) (.cons (.v 7) (.cons (.v 8) .nil))))) .nil) .nil) .nil)) (.cons (.asg 3 false (.blt .tup (.cons (.v 5) .nil))) .nil))) .nil) (.cons (.ret (.call i__law_named (.cons (.v 3) (.cons (.call i__law_some_names (.cons (.v 0) (.cons (.v 1) (.cons (.v 2) .nil)))) .nil)))) .nil))))
def x__law_all_full (i__law_unmet : Nat) : SL := (.cons (.asg2 2 3 true true (.lst .nil) (.lst (.cons (.tup (.cons (.blt .lst (.cons (.v 1) .nil)) (.cons (.call i__law_unmet (.cons (.v 0) (.cons (.v 1) .nil))) .nil))) .nil))) (.cons (.wh (.o2 .ne (.v 3) (.lst .nil)) (.cons (.popT (.two 4 5) 3) (.cons (.ife (.o2 .eq (.v 5) (.lst .nil)) (.cons (.app 2 (.blt .tup (.cons (.blt .sorted (.cons (.v 4) .nil)) .nil))) .nil) (.cons (.asgT (.two 6 7) (.ix (.v 5) (.c (PyData.int 0)))) (.cons (.fr [] (.one 8) (.rng1 (.v 0)) (.cons (.ife (.ban (.cons (.o2 .notin (.v 8) (.tup (.cons (.v 6) (.cons (.v 7) .nil)))) (.cons (.o2 .inn (.tup (.cons (.blt .min2 (.cons (.v 6) (.cons (.v 8) .nil))) (.cons (.blt .max2 (.cons (.v 6) (.cons (.v 8) .nil))) .nil))) (.v 5)) (.cons (.o2 .inn (.tup (.cons (.blt .min2 (.cons (.v 7) (.cons (.v 8) .nil))) (.cons (.blt .max2 (.cons (.v 7) (.cons (.v 8) .nil))) .nil))) (.v 5)) .nil)))) (.cons (.asg 9 false (.lst (.cons (.tup (.cons (.v 6) (.cons (.v 7) .nil))) (.cons (.tup (.cons (.blt .min2 (.cons (.v 6) (.cons (.v 8) .nil))) (.cons (.blt .max2 (.cons (.v 6) (.cons (.v 8) .nil))) .nil))) (.cons (.tup (.cons (.blt .min2 (.cons (.v 7) (.cons (.v 8) .nil))) (.cons (.blt .max2 (.cons (.v 7) (.cons (.v 8) .nil))) .nil))) .nil))))) (.cons (.asg 11 false (.comp (.v 10) (.one 10) (.seq (.v 5)) (.som (.o2 .notin (.v 10) (.v 9))))) (.cons (.app 3 (.tup (.cons (.o2 .add (.v 4) (.lst (.cons (.blt .tup (.cons (.blt .sorted (.cons (.lst (.cons (.v 6) (.cons (.v 7) (.cons (.v 8) .nil)))) .nil)) .nil)) .nil))) (.cons (.v 11) .nil)))) .nil))) .nil) .nil)) .nil))) .nil))) (.cons (.ret (.blt .sorted (.cons (.v 2) .nil))) .nil)))
def x__law_sets : SL := (.cons (.asg 2 false (.lst (.cons (.tup (.cons (.tup .nil) (.cons (.tup .nil) .nil))) .nil))) (.cons (.fr [] (.one 3) (.rng1 (.o2 .fdiv (.v 0) (.c (PyData.int 3)))) (.cons (.asg 4 true (.lst .nil)) (.cons (.fr [] (.two 5 6) (.seq (.v 2)) (.cons (.fr [] (.one 7) (.seq (.v 1)) (.cons (.ife (.ban (.cons (.bor (.cons (.o2 .eq (.v 5) (.tup .nil)) (.cons (.o2 .gt (.v 7) (.ix (.v 5) (.neg (.c (PyData.int 1))))) .nil))) (.cons (.o2 .eq (.comp (.c (PyData.int 1)) (.one 8) (.seq (.v 7)) (.som (.o2 .inn (.v 8) (.v 6)))) (.lst .nil)) .nil))) (.cons (.app 4 (.tup (.cons (.o2 .add (.v 5) (.tup (.cons (.v 7) .nil))) (.cons (.o2 .add (.v 6) (.v 7)) .nil)))) .nil) .nil) .nil)) .nil)) (.cons (.mov 2 4) .nil)))) (.cons (.ret (.comp (.v 5) (.two 5 6) (.seq (.v 2)) (.som (.o2 .eq (.blt .len (.cons (.v 6) .nil)) (.v 0))))) .nil)))
def x__law_covers : SL := (.cons (.asg2 2 3 true true (.lst .nil) (.lst (.cons (.tup (.cons (.lst .nil) (.cons (.blt .lst (.cons (.v 1) .nil)) .nil))) .nil))) (.cons (.wh (.o2 .ne (.v 3) (.lst .nil)) (.cons (.popT (.two 4 5) 3) (.cons (.ife (.o2 .eq (.v 5) (.lst .nil)) (.cons (.app 2 (.blt .sorted (.cons (.v 4) .nil))) .nil) (.cons (.fr [] (.one 6) (.seq (.v 0)) (.cons (.ife (.ban (.cons (.o2 .inn (.ix (.v 5) (.c (PyData.int 0))) (.v 6)) (.cons (.o2 .eq (.comp (.c (PyData.int 1)) (.one 7) (.seq (.v 6)) (.som (.o2 .notin (.v 7) (.v 5)))) (.lst .nil)) .nil))) (.cons (.app 3 (.tup (.cons (.o2 .add (.v 4) (.lst (.cons (.v 6) .nil))) (.cons (.comp (.v 7) (.one 7) (.seq (.v 5)) (.som (.o2 .notin (.v 7) (.v 6)))) .nil)))) .nil) .nil) .nil)) .nil)) .nil))) (.cons (.ret (.blt .sorted (.cons (.v 2) .nil))) .nil)))
def x__law_between (i_names_between : Nat) : SL := (.cons (.tryW (.cons (.ret (.call i_names_between (.cons (.v 0) (.cons (.v 1) (.cons (.v 2) .nil))))) .nil)) .nil)
end TP
/-! Rules for comprehensions and loops; the tactic. -/
namespace TP
open PySem L2
open Enc (enc)
section
variable {Φ : Nat → Fn} {ρ : Env'} {g : G} {α β : Type} [DecidableEq α] [DecidableEq β] [Enc α] [Enc β]
theorem fm_if {γ δ : Type} (p : γ → Bool) (f : γ → δ) : ∀ xs : List γ, xs.filterMap (fun x => if p x then some (f x) else none) = (xs.filter p).map f
  | [] => rfl
  | x :: xs => by
    rw [List.filterMap_cons, List.filter_cons]
    cases p x <;> simp [fm_if p f xs]
/-- a comprehension, by a test and a value -/
theorem ev_cf {xs : List α} (p : α → Bool) (f : α → PyData) {e : E} {t : Tg} {s : I} {cd : OE} (hs : evi Φ false s ρ g = .ok (xs.map enc) g) (hl : xs.length ≤ lim)
    (h : ∀ x, x ∈ xs → ∃ ρ', bindT t (enc x) ρ = some ρ' ∧ evc Φ cd ρ' g = .ok (p x) g ∧ (p x = true → ∃ w, ev Φ e ρ' g = .ok w g ∧ w.fz = some (f x))) : ev Φ (.comp e t s cd) ρ g = .ok (.own (.lst ((xs.filter p).map f))) g := by
  have := ev_comp (Φ := Φ) (ρ := ρ) (g := g) (g1 := g) (e := e) (t := t) (s := s) (cd := cd) (xs := xs.map enc) (F := fun _ => none) hs (by rw [List.length_map]; exact hl)
  have key : ∀ ys : List α, (∀ x ∈ ys, x ∈ xs) → each (fturn t (evc Φ cd) (ev Φ e) ρ) (ys.map enc) g = .ok ((ys.filter p).map f) g := by
    intro ys
    induction ys with
    | nil => intro _; rfl
    | cons y ys ih =>
      intro hy
      obtain ⟨ρ', h1, h2, h3⟩ := h y (hy y List.mem_cons_self)
      rw [List.map_cons]
      unfold each
      cases q : p y with
      | true =>
        rw [q] at h2 h3
        obtain ⟨w, h4, h5⟩ := h3 rfl
        rw [turn_some h1 h2 h4 h5, bind_ok, ih fun x hx => hy x (List.mem_cons_of_mem _ hx), bind_ok, List.filter_cons, if_pos q, List.map_cons]
      | false =>
        rw [q] at h2
        rw [turn_none h1 h2, bind_ok, ih fun x hx => hy x (List.mem_cons_of_mem _ hx), bind_ok, List.filter_cons, if_neg (by rw [q]; decide)]
  rw [ev, hs]
  simp only [bind_ok]
  rw [if_pos (by rw [List.length_map]; exact hl)]
  have k := key xs fun x hx => hx
  show (each (fturn t (evc Φ cd) (ev Φ e) ρ) (xs.map enc) g).bind _ = _
  rw [k]
  rfl
/-- without a test -/
theorem ev_cm {xs : List α} (f : α → PyData) {e : E} {t : Tg} {s : I} (hs : evi Φ false s ρ g = .ok (xs.map enc) g) (hl : xs.length ≤ lim)
    (h : ∀ x, x ∈ xs → ∃ ρ', bindT t (enc x) ρ = some ρ' ∧ ∃ w, ev Φ e ρ' g = .ok w g ∧ w.fz = some (f x)) : ev Φ (.comp e t s .non) ρ g = .ok (.own (.lst (xs.map f))) g := by
  rw [ev_cf (xs := xs) (fun _ => true) f hs hl fun x hx => by
    obtain ⟨ρ', h1, h2⟩ := h x hx
    exact ⟨ρ', h1, rfl, fun _ => h2⟩]
  rw [List.filter_eq_self.mpr fun _ _ => rfl]
/-- one turn of a loop -/
def turn (t : Tg) (body : Env' → G → Out) (x : PyData) (ρ : Env') (g : G) : Out := od (Res.of (bindT t x ρ) g) (fun ρ1 g1 => td (body ρ1 g1) (fun ρ2 g2 => .nx (mask ρ ρ2) g2) ⟨⟩) ⟨⟩
theorem forL_cons {body : Env' → G → Out} {t : Tg} {x : PyData} {r : List PyData} : forL body t (x :: r) ρ g = (turn t body x ρ g).then fun ρ' g' => forL body t r ρ' g' := by
  rw [forL]
  unfold turn
  cases bindT t x ρ with
  | none => rfl
  | some ρ1 =>
    simp only [n_of_some, n_out_ok]
    cases body ρ1 g <;> rfl
/-- a loop, by what stands before each turn -/
theorem forL_pre {body : Env' → G → Out} {t : Tg} (st : List α → Env') : ∀ (r l : List α), (∀ l' x r', l ++ r = l' ++ x :: r' → l.length ≤ l'.length → turn t body (enc x) (st l') g = .nx (st (l' ++ [x])) g) → forL body t (r.map enc) (st l) g = .nx (st (l ++ r)) g
  | [], l, _ => by rw [List.append_nil]; rfl
  | x :: r, l, h => by
    rw [List.map_cons, forL_cons, h l x r rfl (Nat.le_refl _), then_nx]
    rw [forL_pre st r (l ++ [x]) fun l' y r' e hl => h l' y r' (by rw [← e]; simp) (by simp at hl; omega)]
    simp
theorem run_for {xs : List α} (st : List α → Env') {t : Tg} {s : I} {b : SL} (hs : evi Φ true s ρ g = .ok (xs.map enc) g) (h0 : ρ = st [])
    (h : ∀ l x r, xs = l ++ x :: r → turn t (fun ρ g => runs Φ b ρ g) (enc x) (st l) g = .nx (st (l ++ [x])) g) : run Φ (.fr [] t s b) ρ g = .nx (st xs) g := by
  rw [run_fr (xs := xs.map enc) (g' := g) hs]
  show forL _ t (xs.map enc) ρ g = _
  rw [h0]
  exact forL_pre st xs [] fun l' x r' e _ => h l' x r' e
/-- a loop that leaves what stands -/
theorem run_forK {xs : List α} {t : Tg} {s : I} {b : SL} (hs : evi Φ true s ρ g = .ok (xs.map enc) g)
    (h : ∀ x, x ∈ xs → turn t (fun ρ g => runs Φ b ρ g) (enc x) ρ g = .nx ρ g) : run Φ (.fr [] t s b) ρ g = .nx ρ g :=
  run_for (fun _ => ρ) hs rfl fun l x r e => h x (by rw [e]; simp)
/-- a loop that ends within -/
theorem turn_eq {t : Tg} {body : Env' → G → Out} {x : PyData} : turn t body x ρ g = od (Res.of (bindT t x ρ) g) (fun ρ1 g1 => td (body ρ1 g1) (fun ρ2 g2 => .nx (mask ρ ρ2) g2) ⟨⟩) ⟨⟩ := nrfl rfl
def ownL (ρ : Env') (i : Nat) : Option (List PyData) := match ρ[i]? with
  | some (some (.own (.lst xs))) => some xs
  | _ => none
theorem ownL_z {xs : List PyData} {ρ : Env'} : ownL (some (.own (.lst xs)) :: ρ) 0 = some xs := nrfl rfl
theorem ownL_s {x : Option W} {ρ : Env'} {i : Nat} : ownL (x :: ρ) (i + 1) = ownL ρ i := by unfold ownL; rw [List.getElem?_cons_succ]
def extL (xs ys : List PyData) : Option (List PyData) := if xs.length + ys.length ≤ lim then some (xs ++ ys) else none
def appL (xs : List PyData) (y : PyData) : Option (List PyData) := if xs.length < lim then some (xs ++ [y]) else none
theorem extL_ok {xs ys : List α} (h : xs.length + ys.length ≤ 16777216) : extL (xs.map enc) (ys.map enc) = some ((xs ++ ys).map enc) := by
  unfold extL
  rw [List.length_map, List.length_map, if_pos (by unfold lim; exact h), List.map_append]
theorem appL_ok {xs : List α} {y : α} (h : xs.length < 16777216) : appL (xs.map enc) (enc y) = some ((xs ++ [y]).map enc) := by
  unfold appL
  rw [List.length_map, if_pos (by unfold lim; exact h), List.map_append]
  rfl
theorem run_ext' {i : Nat} {e : E} : run Φ (.ext i e) ρ g = od (Res.of (ownL ρ i) g) (fun xs g0 => od (ev Φ e ρ g0) (fun w g1 => od (Res.of (w.fz >>= seq?) g1) (fun ys g2 => od (Res.of (extL xs ys) g2) (fun zs g3 => .nx (ρ.set i (some (.own (.lst zs)))) g3) ⟨⟩) ⟨⟩) ⟨⟩) ⟨⟩ := by
  unfold od run ownL
  split
  · rename_i xs e1
    simp only [e1, of_some, out_ok]
    cases ev Φ e ρ g with
    | ok w g1 =>
      simp only [out_ok]
      cases w.fz with
      | none => rfl
      | some x =>
        simp only [Option.bind_eq_bind, Option.bind_some]
        cases seq? x with
        | none => rfl
        | some ys =>
          simp only [of_some, out_ok, extL]
          split <;> rfl
    | ex c g1 => rfl
    | no => rfl
  · rename_i h
    first
      | rfl
      | (split
         · rename_i xs e1
           exact absurd e1 (h xs)
         · rfl)
theorem run_app' {i : Nat} {e : E} : run Φ (.app i e) ρ g = od (Res.of (ownL ρ i) g) (fun xs g0 => od (ev Φ e ρ g0) (fun w g1 => od (Res.of w.fz g1) (fun y g2 => od (Res.of (appL xs y) g2) (fun zs g3 => .nx (ρ.set i (some (.own (.lst zs)))) g3) ⟨⟩) ⟨⟩) ⟨⟩) ⟨⟩ := by
  unfold od run ownL
  split
  · rename_i xs e1
    simp only [e1, of_some, out_ok]
    cases ev Φ e ρ g with
    | ok w g1 =>
      simp only [out_ok]
      cases w.fz with
      | none => rfl
      | some x =>
        simp only [of_some, out_ok, appL]
        split <;> rfl
    | ex c g1 => rfl
    | no => rfl
  · rename_i h
    first
      | rfl
      | (split
         · rename_i xs e1
           exact absurd e1 (h xs)
         · rfl)
end
theorem mask_n {x : Option W} {ρ ρ' : Env'} : mask (none :: ρ) (x :: ρ') = none :: mask ρ ρ' := nrfl rfl
theorem mask_s {w : W} {x : Option W} {ρ ρ' : Env'} : mask (some w :: ρ) (x :: ρ') = x :: mask ρ ρ' := nrfl rfl
theorem mask_z : mask [] [] = [] := nrfl rfl
def tryO (o : Out) : Out := match o with
  | .ex c g1 => if c < 11 then .rt (.d (told c)) g1 else .no
  | o => o
theorem run_try {Φ : Nat → Fn} {b : SL} {ρ : Env'} {g : G} : run Φ (.tryW b) ρ g = tryO (runs Φ b ρ g) := by
  rw [run]
  rfl
theorem tryO_rt {w : W} {g : G} : tryO (.rt w g) = .rt w g := nrfl rfl
theorem tryO_nx {ρ : Env'} {g : G} : tryO (.nx ρ g) = .nx ρ g := nrfl rfl
theorem tryO_ex {c : Nat} {g : G} (h : c < 11) : tryO (.ex c g) = .rt (.d (told c)) g := by unfold tryO; simp only; rw [if_pos h]
theorem ev_pick' {Φ : Nat → Fn} {ρ : Env'} {g : G} {fs : List Nat} {i : E} {es : EL} : ev Φ (.pick fs i es) ρ g = bd (ev Φ i ρ g) (fun w g1 => bd (Res.of w.int? g1) (fun n g2 => bd (Res.of (pickF fs n) g2) (fun f g3 => bd (evl Φ es ρ g3) (fun ws g1 => bd (Res.of (args? ws) g1) (fun xs g2 => bd (Φ f xs g2) (fun w g3 => if !ws.any W.isPk || w.clean then .ok w g3 else .no) ⟨⟩) ⟨⟩) ⟨⟩) ⟨⟩) ⟨⟩) ⟨⟩ := by
  rw [ev]
  unfold bd
  cases ev Φ i ρ g with
  | ok w g1 =>
    simp only [bind_ok]
    cases w.int? with
    | none => rfl
    | some n =>
      simp only [of_some, bind_ok]
      cases pickF fs n with
      | none => rfl
      | some f => rfl
  | ex c g1 => rfl
  | no => rfl
theorem pick_0 {a : Nat} {r : List Nat} : pickF (a :: r) ((0 : Nat) : Int) = some a := nrfl rfl
theorem pick_1 {a b : Nat} {r : List Nat} : pickF (a :: b :: r) ((1 : Nat) : Int) = some b := nrfl rfl
theorem pick_2 {a b c : Nat} {r : List Nat} : pickF (a :: b :: c :: r) ((2 : Nat) : Int) = some c := nrfl rfl
theorem pick_3 {a b c d : Nat} {r : List Nat} : pickF (a :: b :: c :: d :: r) ((3 : Nat) : Int) = some d := nrfl rfl
theorem pick_4 {a b c d e : Nat} {r : List Nat} : pickF (a :: b :: c :: d :: e :: r) ((4 : Nat) : Int) = some e := nrfl rfl
theorem ite_and {A B : Bool} {g : G} : (if A = true then Res.ok (W.d (.bool B)) g else Res.ok (W.d (.bool false)) g) = Res.ok (W.d (.bool (A && B))) g := by cases A <;> rfl
theorem ite_or {A B : Bool} {g : G} : (if A = true then Res.ok (W.d (.bool true)) g else Res.ok (W.d (.bool B)) g) = Res.ok (W.d (.bool (A || B))) g := by cases A <;> rfl
theorem bt_bool {b : Bool} : bt (some (.d (.bool b))) = some b := nrfl rfl
theorem out_nx {e : Env'} {g : G} {ρ' : Env'} {g' : G} (h1 : e = ρ') (h2 : g = g') : Out.nx e g = Out.nx ρ' g' := by rw [h1, h2]
end TP
local macro_rules
  | `(tactic| dsimp! [$ls,*]) => `(tactic| simp (disch := first | assumption | (refine of_decide_eq_true ?_; with_unfolding_all exact rfl) | omega | (simp only [List.length_map, List.length_append, List.length_cons, List.length_nil]; omega)) only [TP.ev_v, TP.ev_c, TP.ev_neg, TP.ev_o2', TP.ev_chain, TP.ev_ban, TP.ev_bor, TP.ev_bno, TP.ev_ite, TP.ev_tup, TP.ev_lst, TP.ev_ix, TP.ev_sl, TP.ev_rev, TP.ev_call', TP.ev_blt, TP.ev_isi, TP.evl_nil, TP.evl_cons, TP.evAnd_1, TP.evAnd_2, TP.evOr_1, TP.evOr_2, TP.evo_n, TP.evo_s, TP.evc_n, TP.evc_s, TP.evi_seq, 
      TP.evi_r1, TP.evi_r2, TP.evi_zip, TP.evi_enm, TP.run_asg', TP.run_ext', TP.run_app', TP.turn_eq, TP.ownL_z, TP.ownL_s, TP.extL_ok, TP.appL_ok, TP.mask_n, TP.mask_s, TP.mask_z, TP.run_asg2, TP.run_asgT, TP.run_ife', TP.run_ret', TP.run_ex, TP.run_rse, TP.run_try, TP.tryO_rt, TP.tryO_nx, TP.tryO_ex, TP.ev_pick', 
      TP.pick_0, TP.pick_1, TP.pick_2, TP.pick_3, TP.pick_4, TP.runs_nil, TP.runs_cons, TP.n_bind_ok, TP.n_bind_ex, TP.n_bind_no, TP.n_out_ok, TP.n_out_ex, TP.n_out_no, TP.n_then_nx, TP.n_then_rt, TP.n_then_ex, TP.n_then_no, TP.n_of_some, TP.n_of_none, TP.get_z, TP.get_s, TP.look_d, TP.look_own, TP.look_scr, 
      TP.look_twn, TP.putD, TP.putO, TP.putL, TP.args_nil, TP.args_d, TP.args_own, TP.args_pk, TP.args_scr, TP.args_twn, TP.fzs_nil, TP.fzs_cons, TP.rds_nil, TP.rds_cons, TP.see_t, TP.see_f, TP.isPk_d, TP.isPk_own, TP.isPk_pk, TP.isPk_scr, TP.isPk_twn, TP.clean_bool, TP.clean_enc, TP.clean_lst, TP.int_enc, 
      TP.lit0, TP.lit1, TP.lit2, TP.lit3, TP.lit4, TP.lit5, TP.lit6, TP.lit7, TP.lit8, TP.lit9, TP.lit10, TP.lit11, TP.lit12, TP.lit13, TP.lit14, TP.lit15, TP.lit16, TP.lit17, TP.lit18, TP.lit19, TP.lit20, TP.lit24, TP.lit30, TP.lit36, TP.lit84, TP.lit840, TP.n_int, TP.n_bl, TP.n_rd_d, TP.n_rd_own, TP.n_rd_pk, 
      TP.n_fz_d, TP.n_fz_own, TP.n_obind, TP.n_obind0, TP.n_obind', TP.n_omap, TP.bt_bool, TP.ite_and, TP.ite_or, decide_true, decide_false, List.any_cons, List.any_nil, Bool.or_false, Bool.false_or, Bool.true_or, Bool.or_true, Bool.not_true, Bool.not_false, Bool.or_self, Bool.true_and, Bool.and_true, Bool.false_and, 
      Bool.and_false, ↓reduceIte, Bool.false_eq_true, List.set_cons_zero, List.set_cons_succ, List.length_cons, List.length_nil, TP.b_eqL, TP.b_neL, TP.b_eqN, TP.b_neN, TP.b_eqE, TP.b_neE, TP.b_inL, TP.b_inT, TP.b_niL, TP.b_niT, TP.b_ltE, TP.b_gtE, TP.tlt_nat, TP.cut_fromT, TP.cut_fromL, TP.cut_toT, TP.cut_toL, 
      TP.cut_fromP, TP.cut_toP, TP.b_inT3, TP.b_niT3, TP.b_inP2, TP.b_niP2, TP.b_inP, TP.b_niP, TP.b_isB, TP.b_isntB, TP.b_neB, TP.b_eqB, TP.b_rep, TP.b_addN, TP.b_subN, TP.b_mulN, TP.b_modN, TP.b_divN, TP.b_leN, TP.b_geN, TP.b_addL, TP.b_addT, TP.b_addP, TP.fold_plan, TP.fold_p2, TP.fold_t3, TP.fold_n, TP.fold_1, 
      TP.len_L, TP.len_T, TP.len_P, TP.len_T3, TP.seq_L, TP.seq_T, TP.seq_P, TP.seq_T3, TP.seq_P2, TP.tup_L, TP.tup_T, TP.lst_L, TP.lst_T, TP.lst_P, TP.all_B, TP.any_B, TP.rng_N, TP.rng_0, TP.ix_a, TP.ix_b, TP.ix_c, TP.ix_1, TP.ix_2, TP.sl_2, TP.sl_1, TP.bind1, TP.bind2, TP.bind3, $ls,*])
/-! plans.py over typed values. -/
namespace TP
open PySem L2
open Enc (enc)
variable {Φ : Nat → Fn} {g : G}
def pairsOf (t : T3) : List P2 := [(t.a, t.b), (t.a, t.c), (t.b, t.c)]
def met (p : List T3) : List P2 := p.flatMap pairsOf
def pairsAt (n a : Nat) : List P2 := (List.range' (a + 1) (n - (a + 1))).map fun b => (a, b)
def allPairs (n : Nat) : List P2 := (List.range n).flatMap (pairsAt n)
def leftOf (n : Nat) (p : List T3) : List P2 := (allPairs n).filter fun q => !mem q (met p)
theorem met_len (p : List T3) : (met p).length = 3 * p.length := by
  unfold met
  induction p with
  | nil => rfl
  | cons t p ih => rw [List.flatMap_cons, List.length_append, ih, List.length_cons, show (pairsOf t).length = 3 from rfl]; omega
theorem met_app (p q : List T3) : met (p ++ q) = met p ++ met q := by unfold met; rw [List.flatMap_append]
theorem v_pairs_of (t : T3) : fnv Φ 1 x_pairs_of [.d (enc t)] g = .ok (.own (.lst ((pairsOf t).map enc))) g := by
  refine fnv_rt ?_
  show runs Φ x_pairs_of [some (.d (enc t))] g = _
  unfold x_pairs_of
  dsimp! []
  rfl
def PairsOfOk (Φ : Nat → Fn) (i : Nat) : Prop := ∀ (t : T3) (g : G), Φ i [.d (enc t)] g = .ok (.own (.lst ((pairsOf t).map enc))) g
theorem v_pairs_met {i : Nat} (h : PairsOfOk Φ i) (p : List T3) (hp : p.length ≤ 1000) : fnv Φ 3 (x_pairs_met i) [.d (enc p)] g = .ok (.own (.lst ((met p).map enc))) g := by
  refine fnv_rt ?_
  show runs Φ (x_pairs_met i) [some (.d (enc p)), none, none] g = _
  unfold x_pairs_met
  dsimp! []
  rw [run_for (xs := p) (fun l => [some (.d (enc p)), some (.own (.lst ((met l).map enc))), none])]
  · dsimp! []
  · dsimp! []
  · rfl
  · intro l x r e
    have := congrArg List.length e
    simp only [List.length_append, List.length_cons] at this
    have := met_len l
    have : (pairsOf x).length = 3 := rfl
    dsimp! [h _, met_app]
    rfl
end TP
namespace TP
open PySem L2
open Enc (enc)
variable {Φ : Nat → Fn} {g : G}
def PairsMetOk (Φ : Nat → Fn) (i : Nat) : Prop := ∀ (p : List T3) (g : G), p.length ≤ 1000 → Φ i [.d (enc p)] g = .ok (.own (.lst ((met p).map enc))) g
theorem pairsAt_len (n a : Nat) : (pairsAt n a).length = n - (a + 1) := by unfold pairsAt; rw [List.length_map, List.length_range']
theorem v_all_pairs (n : Nat) (hn : n ≤ 100) : fnv Φ 4 x_all_pairs [.d (enc n)] g = .ok (.own (.lst ((allPairs n).map enc))) g := by
  refine fnv_rt ?_
  show runs Φ x_all_pairs [some (.d (enc n)), none, none, none] g = _
  unfold x_all_pairs
  dsimp! []
  have bound : ∀ l : List Nat, (l.flatMap (pairsAt n)).length ≤ 100 * l.length := by
    intro l
    induction l with
    | nil => exact Nat.zero_le _
    | cons a l ih =>
      have := pairsAt_len n a
      rw [List.flatMap_cons, List.length_append, List.length_cons]
      omega
  rw [run_for (xs := List.range n) (fun l => [some (.d (enc n)), some (.own (.lst ((l.flatMap (pairsAt n)).map enc))), none, none])]
  · dsimp! []
    rfl
  · dsimp! []
  · rfl
  · intro l x r e
    have := congrArg List.length e
    simp only [List.length_append, List.length_cons, List.length_range] at this
    have := bound l
    have := pairsAt_len n x
    dsimp! []
    rw [ev_cm (xs := List.range' (x + 1) (n - (x + 1))) (fun b => enc ((x, b) : P2))]
    · rw [show (List.range' (x + 1) (n - (x + 1))).map (fun b => enc ((x, b) : P2)) = (pairsAt n x).map enc from by unfold pairsAt; rw [List.map_map]; rfl]
      dsimp! [List.flatMap_append, List.flatMap_cons, List.flatMap_nil, List.append_nil]
    · have : x < n := by
        have : x ∈ List.range n := by rw [e]; simp
        simpa using this
      dsimp! []
    · rw [List.length_range']; unfold lim; omega
    · intro y hy
      exact ⟨_, rfl, _, by dsimp! []; rfl, rfl⟩
def AllPairsOk (Φ : Nat → Fn) (i : Nat) : Prop := ∀ (n : Nat) (g : G), n ≤ 100 → Φ i [.d (enc n)] g = .ok (.own (.lst ((allPairs n).map enc))) g
theorem allPairs_len (n : Nat) (hn : n ≤ 100) : (allPairs n).length ≤ 10000 := by
  have bound : ∀ l : List Nat, (l.flatMap (pairsAt n)).length ≤ 100 * l.length := by
    intro l
    induction l with
    | nil => exact Nat.zero_le _
    | cons a l ih =>
      have := pairsAt_len n a
      rw [List.flatMap_cons, List.length_append, List.length_cons]
      omega
  have := bound (List.range n)
  rw [List.length_range] at this
  unfold allPairs
  omega
theorem v_left_of {im ia : Nat} (hm : PairsMetOk Φ im) (ha : AllPairsOk Φ ia) (n : Nat) (p : List T3) (hn : n ≤ 100) (hp : p.length ≤ 1000) : fnv Φ 4 (x_left_of ia im) [.d (enc n), .d (enc p)] g = .ok (.own (.lst ((leftOf n p).map enc))) g := by
  refine fnv_rt ?_
  show runs Φ (x_left_of ia im) [some (.d (enc n)), some (.d (enc p)), none, none] g = _
  unfold x_left_of
  dsimp! [hm _ _ _, ha _ _ _]
  rw [ev_cf (xs := allPairs n) (fun q => !mem q (met p)) enc]
  · dsimp! []
    rfl
  · dsimp! [ha _ _ _]
  · have := allPairs_len n hn
    unfold lim; omega
  · intro q hq
    exact ⟨_, rfl, by dsimp! [], fun _ => ⟨_, by dsimp! []; rfl, rfl⟩⟩
def LeftOk (Φ : Nat → Fn) (i : Nat) : Prop := ∀ (n : Nat) (p : List T3) (g : G), n ≤ 100 → p.length ≤ 1000 → Φ i [.d (enc n), .d (enc p)] g = .ok (.own (.lst ((leftOf n p).map enc))) g
/-! threes, plans -/
def IsIntOk (Φ : Nat → Fn) (i : Nat) : Prop := ∀ (x : PyData) (lo hi : Int) (g : G), Φ i [.d x, .d (.int lo), .d (.int hi)] g = .ok (.d (.bool (isIntD x lo hi))) g
theorem IsIntOk.nat {i : Nat} (h : IsIntOk Φ i) (x lo hi : Nat) (g : G) : Φ i [.d (enc x), .d (enc lo), .d (enc hi)] g = .ok (.d (.bool (decide (lo ≤ x ∧ x ≤ hi)))) g := by
  have := h (.int (x : Int)) (lo : Int) (hi : Int) g
  refine this.trans ?_
  rw [show isIntD (.int (x : Int)) (lo : Int) (hi : Int) = decide ((lo : Int) ≤ (x : Int) ∧ (x : Int) ≤ (hi : Int)) from rfl, decide_eq_decide.mpr (show ((lo : Int) ≤ (x : Int) ∧ (x : Int) ≤ (hi : Int)) ↔ (lo ≤ x ∧ x ≤ hi) by omega)]
def isThree (n : Nat) (t : T3) : Bool := decide (t.a < t.b ∧ t.b < t.c ∧ t.c < n)
theorem v_fits {ii : Nat} (hi : IsIntOk Φ ii) (n : Nat) (t : T3) (hn : 1 ≤ n) : fnv Φ 3 (x_fits ii) [.d (enc n), .d (enc t)] g = .ok (.d (.bool (isThree n t))) g := by
  refine fnv_rt ?_
  show runs Φ (x_fits ii) [some (.d (enc n)), some (.d (enc t)), none] g = _
  unfold x_fits
  have e1 : isiD .tuple (enc t) = true := rfl
  have h0 : isThree n t = if [t.a, t.b, t.c].all (fun x => decide (0 ≤ x ∧ x ≤ n - 1)) then (if decide (t.a < t.b) then decide (t.b < t.c) else false) else false := by
    simp only [isThree, List.all_cons, List.all_nil, Bool.and_true, Bool.if_false_right, Bool.decide_eq_true]
    rw [← Bool.decide_and, ← Bool.decide_and, ← Bool.decide_and, ← Bool.decide_and]
    exact decide_eq_decide.mpr (by omega)
  rw [h0]
  dsimp! [e1]
  rw [ev_cm (xs := [t.a, t.b, t.c]) (fun x => .bool (decide (0 ≤ x ∧ x ≤ n - 1)))]
  · generalize hA : ([t.a, t.b, t.c].all fun x => decide (0 ≤ x ∧ x ≤ n - 1)) = A
    cases A with
    | false => dsimp! [hA]
    | true =>
      dsimp! [hA]
      generalize decide (t.a < t.b) = B
      cases B <;> dsimp! []
  · dsimp! []
  · exact of_decide_eq_true rfl
  · intro x hx
    exact ⟨_, rfl, _, by dsimp! [hi.nat _ _ _ _]; rfl, rfl⟩
def FitsOk (Φ : Nat → Fn) (i : Nat) : Prop := ∀ (n : Nat) (t : T3) (g : G), 1 ≤ n → Φ i [.d (enc n), .d (enc t)] g = .ok (.d (.bool (isThree n t))) g
/-- ascending -/
def asc {α : Type} [DecidableEq α] [Enc α] : List α → Bool
  | x :: y :: r => tlt x y && asc (y :: r)
  | _ => true
/-- all apart -/
def apart {α : Type} [DecidableEq α] : List α → Bool
  | [] => true
  | x :: r => !mem x r && apart r
theorem apart_iff {α : Type} [DecidableEq α] : ∀ {xs : List α}, apart xs = true ↔ xs.Nodup
  | [] => by simp [apart]
  | x :: r => by
    unfold apart
    rw [Bool.and_eq_true, Bool.not_eq_true', mem_false, apart_iff, List.nodup_cons]
def isPlan (n : Nat) (p : List T3) : Bool := p.all (isThree n) && (apart (met p) && asc p)
theorem tups_P2 : ∀ ps : List P2, tupsInts? (ps.map enc) = some (ps.map fun q => [(q.1 : Int), (q.2 : Int)])
  | [] => rfl
  | q :: ps => by
    rw [List.map_cons]
    unfold tupsInts?
    rw [tups_P2 ps]
    rfl
theorem dd_mem {x : List Int} : ∀ {l : List (List Int)}, x ∈ dd l ↔ x ∈ l
  | [] => Iff.rfl
  | y :: r => by
    unfold dd
    split
    · rename_i h
      rw [dd_mem, List.mem_cons]
      exact ⟨.inr, fun z => z.elim (fun e => e ▸ h) id⟩
    · rw [List.mem_cons, List.mem_cons, dd_mem]
theorem dd_le : ∀ l : List (List Int), (dd l).length ≤ l.length
  | [] => Nat.le_refl _
  | x :: r => by
    have := dd_le r
    unfold dd
    split <;> simp only [List.length_cons] <;> omega
theorem dd_eq {ps : List P2} : decide ((dd (ps.map fun q => [(q.1 : Int), (q.2 : Int)])).length = ps.length) = apart ps := by
  induction ps with
  | nil => rfl
  | cons q ps ih =>
    have hl := dd_le (ps.map fun q => [(q.1 : Int), (q.2 : Int)])
    rw [List.length_map] at hl
    have hq : [(q.1 : Int), (q.2 : Int)] ∈ (ps.map fun q => [(q.1 : Int), (q.2 : Int)]) ↔ q ∈ ps := by
      rw [List.mem_map]
      constructor
      · rintro ⟨r, hr, e⟩
        have : r = q := by
          simp only [List.cons.injEq, Int.ofNat_inj, and_true] at e
          exact Prod.ext e.1 e.2
        exact this ▸ hr
      · exact fun h => ⟨q, h, rfl⟩
    rw [List.map_cons]
    unfold dd apart
    by_cases h : q ∈ ps
    · rw [if_pos (hq.mpr h), mem_iff.mpr h]
      simp only [List.length_cons, Bool.not_true, Bool.false_and, decide_eq_false_iff_not]
      omega
    · rw [if_neg (fun z => h (hq.mp z)), mem_false.mpr h, ← ih]
      simp only [List.length_cons, Bool.not_false, Bool.true_and]
      exact decide_eq_decide.mpr (by omega)
theorem lenset_P2 {ps : List P2} (h : ps.length < 64) : bltD .lenset [.list (ps.map enc)] = some (.d (enc (dd (ps.map fun q => [(q.1 : Int), (q.2 : Int)])).length)) := by
  show (if _ then _ else _) = _
  rw [List.length_map, if_pos h, tups_P2]
  rfl
theorem zipL_map {α : Type} [DecidableEq α] [Enc α] [Fact' (Enc.dp α ≤ 30)] : ∀ xs ys : List α, zipL (xs.map enc) (ys.map enc) = (xs.zip ys).map enc
  | [], _ => by simp [zipL]
  | x :: xs, [] => by simp [zipL]
  | x :: xs, y :: ys => by
    rw [List.map_cons, List.map_cons]
    unfold zipL
    rw [zipL_map xs ys, List.zip_cons_cons, List.map_cons]
    rfl
theorem zip_P {p q : List T3} : zipD (enc p) (enc q) = some ((p.zip q).map enc) := by
  show some (zipL _ _) = _
  rw [zipL_map]
theorem asc_zip {p : List T3} : (p.zip (p.drop 1)).all (fun x => tlt x.1 x.2) = asc p := by
  match p with
  | [] => rfl
  | [x] => rfl
  | x :: y :: r =>
    have := asc_zip (p := y :: r)
    simp only [List.drop_succ_cons, List.drop_zero, List.zip_cons_cons, List.all_cons] at this ⊢
    rw [asc, ← this]
theorem isi_P {p : List T3} : isiD .tuple (enc p) = true := rfl
theorem v_stands {ii im : Nat} (hi : FitsOk Φ ii) (hm : PairsMetOk Φ im) (n : Nat) (p : List T3) (hn : 1 ≤ n) (hp : p.length ≤ 21) : fnv Φ 6 (x_stands ii im) [.d (enc n), .d (enc p)] g = .ok (.d (.bool (isPlan n p))) g := by
  refine fnv_rt ?_
  show runs Φ (x_stands ii im) [some (.d (enc n)), some (.d (enc p)), none, none, none, none] g = _
  unfold x_stands
  have hl := met_len p
  unfold isPlan
  dsimp! [isi_P]
  rw [ev_cm (xs := p) (fun t => .bool (isThree n t))]
  · generalize hA : (p.all fun t => isThree n t) = A
    cases A with
    | false => dsimp! [hA]
    | true =>
      dsimp! [hA, hm _ _ _, lenset_P2, dd_eq]
      generalize apart (met p) = B
      cases B with
      | false => dsimp! []
      | true =>
        dsimp! []
        rw [ev_cm (xs := p.zip (p.drop 1)) (fun x => .bool (tlt x.1 x.2))]
        · dsimp! [asc_zip]
        · dsimp! [zip_P]
        · rw [List.length_zip]
          unfold lim
          omega
        · intro x hx
          exact ⟨_, rfl, _, by dsimp! []; rfl, rfl⟩
  · dsimp! []
  · unfold lim
    omega
  · intro x hx
    exact ⟨_, rfl, _, by dsimp! [hi _ _ _]; rfl, rfl⟩
end TP
/-! Order and sorting of typed values; clash; plain facts on plans. -/
namespace TP
open PySem L2
open Enc (enc)
section
variable {α : Type} [DecidableEq α] [Enc α]
def tins (x : α) : List α → List α
  | [] => [x]
  | y :: r => if tlt y x then y :: tins x r else x :: y :: r
def isort : List α → List α
  | [] => []
  | x :: r => tins x (isort r)
theorem ins_map (x : α) : ∀ xs : List α, ins (enc x) (xs.map enc) = (tins x xs).map enc
  | [] => rfl
  | y :: r => by
    rw [List.map_cons]
    unfold ins tins
    show (if tlt y x = true then _ else _) = _
    split
    · rw [List.map_cons, ins_map x r]
    · rfl
theorem srt_map : ∀ xs : List α, srt (xs.map enc) = (isort xs).map enc
  | [] => rfl
  | x :: r => by
    rw [List.map_cons]
    unfold srt isort
    rw [srt_map r, ins_map]
theorem tins_perm (x : α) : ∀ xs : List α, (tins x xs).Perm (x :: xs)
  | [] => List.Perm.refl _
  | y :: r => by
    unfold tins
    split
    · exact ((tins_perm x r).cons y).trans (List.Perm.swap x y r)
    · exact List.Perm.refl _
theorem isort_perm : ∀ xs : List α, (isort xs).Perm xs
  | [] => List.Perm.refl _
  | x :: r => (tins_perm x _).trans ((isort_perm r).cons x)
theorem isort_len (xs : List α) : (isort xs).length = xs.length := (isort_perm xs).length_eq
theorem cmS_map [o : Fact' (Enc.ord α = true)] (xs : List α) : cmS (xs.map enc) = true := by
  unfold cmS
  rw [List.all_eq_true]
  intro x hx
  obtain ⟨a, _, rfl⟩ := List.mem_map.mp hx
  rw [List.all_eq_true]
  intro y hy
  obtain ⟨b, _, rfl⟩ := List.mem_map.mp hy
  rw [Enc.cmE o.out, shp_enc]
  rfl
end
theorem srtOk_of {α : Type} [DecidableEq α] [Enc α] [Fact' (Enc.ord α = true)] {xs : List α} (hl : xs.length ≤ 16777216) (h : (xs.map (enc : α → PyData)).all isInt = true ∨ (xs.map (enc : α → PyData)).all isTup1 = true) : srtOk (xs.map enc) = true := by
  unfold srtOk
  rw [List.length_map, decide_eq_true (by unfold lim; exact hl), cmS_map]
  rcases h with h | h
  · rw [h]; rfl
  · rw [h]; simp
theorem tup1_T3 (xs : List T3) : (xs.map (enc : T3 → PyData)).all isTup1 = true := by
  rw [List.all_map, List.all_eq_true]; intro x _; rfl
theorem int_Nat (xs : List Nat) : (xs.map (enc : Nat → PyData)).all isInt = true := by
  rw [List.all_map, List.all_eq_true]; intro x _; rfl
theorem sorted_T {xs : List T3} (hl : xs.length ≤ 16777216) : bltD .sorted [.list (xs.map enc)] = some (.own (.lst ((isort xs).map enc))) := by
  show (if srtOk _ then _ else _) = _
  rw [srtOk_of hl (.inr (tup1_T3 xs)), if_pos rfl, srt_map]
theorem sorted_TT {xs : List T3} (hl : xs.length ≤ 16777216) : bltD .sorted [.tuple (xs.map enc)] = some (.own (.lst ((isort xs).map enc))) := sorted_T hl
theorem sorted_TP {xs : List T3} (hl : xs.length ≤ 16777216) : bltD .sorted [enc xs] = some (.own (.lst ((isort xs).map enc))) := sorted_T hl
theorem sorted_N {xs : List Nat} (hl : xs.length ≤ 16777216) : bltD .sorted [.list (xs.map enc)] = some (.own (.lst ((isort xs).map enc))) := by
  show (if srtOk _ then _ else _) = _
  rw [srtOk_of hl (.inl (int_Nat xs)), if_pos rfl, srt_map]
theorem sorted_NT {xs : List Nat} (hl : xs.length ≤ 16777216) : bltD .sorted [.tuple (xs.map enc)] = some (.own (.lst ((isort xs).map enc))) := sorted_N hl
/-! the order of threes -/
theorem cmp_int (x y : Nat) : cmp3 (enc x) (enc y) = compare x y := by
  show compare (x : Int) (y : Int) = _
  show (if (x : Int) < (y : Int) then Ordering.lt else if (x : Int) = (y : Int) then .eq else .gt) = (if x < y then Ordering.lt else if x = y then .eq else .gt)
  simp only [Int.ofNat_lt, Int.ofNat_inj]
theorem cmp_nat (x y : Nat) : compare x y = if x < y then Ordering.lt else if x = y then .eq else .gt := rfl
theorem tlt_T3 (s t : T3) : tlt s t = decide (s.a < t.a ∨ (s.a = t.a ∧ (s.b < t.b ∨ (s.b = t.b ∧ s.c < t.c)))) := by
  have e : tlt s t = ((compare s.a t.a).then ((compare s.b t.b).then ((compare s.c t.c).then .eq)) == .lt) := by
    show (cmp3 (.tuple [enc s.a, enc s.b, enc s.c]) (.tuple [enc t.a, enc t.b, enc t.c]) == .lt) = _
    simp only [cmp3, cmpAll3, cmp_int]
  rw [e, cmp_nat, cmp_nat, cmp_nat]
  by_cases h1 : s.a < t.a
  · simp [h1]
  · by_cases h2 : s.a = t.a
    · rw [if_neg h1, if_pos h2]
      by_cases h3 : s.b < t.b
      · simp [h1, h2, h3]
      · by_cases h4 : s.b = t.b
        · rw [if_neg h3, if_pos h4]
          by_cases h5 : s.c < t.c
          · simp [h1, h2, h3, h4, h5]
          · rw [if_neg h5]
            by_cases h6 : s.c = t.c
            · simp [h1, h2, h3, h4, h5, h6]
            · simp [h1, h2, h3, h4, h5, h6]
        · simp [h1, h2, h3, h4]
    · simp [h1, h2]
theorem tlt_iff {s t : T3} : tlt s t = true ↔ (s.a < t.a ∨ (s.a = t.a ∧ (s.b < t.b ∨ (s.b = t.b ∧ s.c < t.c)))) := by rw [tlt_T3, decide_eq_true_eq]
theorem tlt_trans {s t u : T3} (h : tlt s t = true) (k : tlt t u = true) : tlt s u = true := by
  rw [tlt_iff] at *
  omega
theorem tlt_irr (s : T3) : tlt s s = false := by
  rw [← Bool.not_eq_true, tlt_iff]
  omega
theorem tlt_tot {s t : T3} (h : tlt s t = false) : s = t ∨ tlt t s = true := by
  rw [← Bool.not_eq_true, tlt_iff] at h
  rw [tlt_iff, T3.ext_iff]
  omega
/-- strictly ascending -/
abbrev Sorted (p : List T3) : Prop := p.Pairwise fun s t => tlt s t = true
theorem asc_iff : ∀ {p : List T3}, asc p = true ↔ Sorted p
  | [] => by simp [asc]
  | [x] => by simp [asc]
  | x :: y :: r => by
    unfold asc
    rw [Bool.and_eq_true, asc_iff (p := y :: r), show Sorted (x :: y :: r) ↔ _ from List.pairwise_cons]
    constructor
    · rintro ⟨h1, h2⟩
      refine ⟨fun z hz => ?_, h2⟩
      rcases List.mem_cons.mp hz with rfl | hz
      · exact h1
      · exact tlt_trans h1 ((List.pairwise_cons.mp h2).1 z hz)
    · rintro ⟨h1, h2⟩
      exact ⟨h1 y List.mem_cons_self, h2⟩
theorem tins_sorted {x : T3} : ∀ {p : List T3}, Sorted p → x ∉ p → Sorted (tins x p)
  | [], _, _ => by simp [tins]
  | y :: r, h, hx => by
    obtain ⟨h1, h2⟩ := List.pairwise_cons.mp h
    unfold tins
    split
    · rename_i hy
      refine List.pairwise_cons.mpr ⟨fun z hz => ?_, tins_sorted h2 fun z => hx (List.mem_cons_of_mem _ z)⟩
      rcases List.mem_cons.mp ((tins_perm x r).mem_iff.mp hz) with rfl | hz
      · exact hy
      · exact h1 z hz
    · rename_i hy
      have hxy : tlt x y = true := (tlt_tot (by simpa using hy)).resolve_left fun e => hx (e ▸ List.mem_cons_self)
      refine List.pairwise_cons.mpr ⟨fun z hz => ?_, h⟩
      rcases List.mem_cons.mp hz with rfl | hz
      · exact hxy
      · exact tlt_trans hxy (h1 z hz)
theorem isort_sorted : ∀ {p : List T3}, p.Nodup → Sorted (isort p)
  | [], _ => List.Pairwise.nil
  | x :: r, h => by
    obtain ⟨h1, h2⟩ := List.nodup_cons.mp h
    exact tins_sorted (isort_sorted h2) fun z => h1 ((isort_perm r).mem_iff.mp z)
theorem sorted_nodup {p : List T3} (h : Sorted p) : p.Nodup := h.imp fun {a b} e z => by rw [z, tlt_irr] at e; cases e
/-- the same items, both ascending -/
theorem sorted_ext : ∀ {p q : List T3}, Sorted p → Sorted q → (∀ x, x ∈ p ↔ x ∈ q) → p = q
  | [], [], _, _, _ => rfl
  | [], y :: q, _, _, h => absurd ((h y).mpr List.mem_cons_self) (by simp)
  | x :: p, [], _, _, h => absurd ((h x).mp List.mem_cons_self) (by simp)
  | x :: p, y :: q, hp, hq, h => by
    obtain ⟨h1, h2⟩ := List.pairwise_cons.mp hp
    obtain ⟨h3, h4⟩ := List.pairwise_cons.mp hq
    have e : x = y := by
      rcases List.mem_cons.mp ((h x).mp List.mem_cons_self) with e | e
      · exact e
      · rcases List.mem_cons.mp ((h y).mpr List.mem_cons_self) with e' | e'
        · exact e'.symm
        · have := tlt_trans (h3 x e) (h1 y e')
          rw [tlt_irr] at this
          cases this
    subst e
    rw [sorted_ext h2 h4 fun z => ?_]
    constructor
    · intro hz
      exact (List.mem_cons.mp ((h z).mp (List.mem_cons_of_mem _ hz))).resolve_left fun e => by
        subst e
        have := h1 z hz
        rw [tlt_irr] at this
        cases this
    · intro hz
      exact (List.mem_cons.mp ((h z).mpr (List.mem_cons_of_mem _ hz))).resolve_left fun e => by
        subst e
        have := h3 z hz
        rw [tlt_irr] at this
        cases this
end TP
/-! Plain facts on threes and plans. -/
namespace TP
open PySem L2
open Enc (enc)
def valid (n : Nat) (t : T3) : Prop := t.a < t.b ∧ t.b < t.c ∧ t.c < n
theorem isThree_iff {n : Nat} {t : T3} : isThree n t = true ↔ valid n t := by unfold isThree valid; rw [decide_eq_true_eq]
theorem has_iff {t : T3} {x : Nat} : has t x = true ↔ x = t.a ∨ x = t.b ∨ x = t.c := by
  unfold has
  rw [mem_iff]
  simp
/-- two common players -/
def clash (s t : T3) : Bool := decide (1 < ([s.a, s.b, s.c].filter fun x => has t x).length)
theorem clash_cases (s t : T3) : clash s t = ((has t s.a && has t s.b) || (has t s.a && has t s.c) || (has t s.b && has t s.c)) := by
  unfold clash
  generalize ha : has t s.a = A
  generalize hb : has t s.b = B
  generalize hc : has t s.c = C
  simp only [List.filter_cons, ha, hb, hc, List.filter_nil]
  cases A <;> cases B <;> cases C <;> rfl
theorem pair_mem {n : Nat} {t : T3} (h : valid n t) {x y : Nat} (hxy : x < y) : (x, y) ∈ pairsOf t ↔ has t x = true ∧ has t y = true := by
  unfold valid at h
  rw [has_iff, has_iff]
  simp only [pairsOf, List.mem_cons, List.not_mem_nil, or_false, Prod.mk.injEq]
  omega
theorem pair_lt {n : Nat} {t : T3} (h : valid n t) {q : P2} (hq : q ∈ pairsOf t) : q.1 < q.2 ∧ q.2 < n := by
  unfold valid at h
  simp only [pairsOf, List.mem_cons, List.not_mem_nil, or_false] at hq
  rcases hq with rfl | rfl | rfl <;> exact ⟨by simp only; omega, by simp only; omega⟩
theorem pairs_nodup {n : Nat} {t : T3} (h : valid n t) : (pairsOf t).Nodup := by
  unfold valid at h
  simp only [pairsOf, List.nodup_cons, List.mem_cons, List.not_mem_nil, or_false, Prod.mk.injEq, not_or, not_false_eq_true, List.nodup_nil, and_true]
  omega
/-- a clash is a common pair -/
theorem clash_iff {n : Nat} {s t : T3} (hs : valid n s) (ht : valid n t) : clash s t = true ↔ ∃ q, q ∈ pairsOf s ∧ q ∈ pairsOf t := by
  have hs' := hs
  unfold valid at hs'
  rw [clash_cases]
  simp only [Bool.or_eq_true, Bool.and_eq_true]
  constructor
  · rintro ((⟨a, b⟩ | ⟨a, b⟩) | ⟨a, b⟩)
    · exact ⟨_, by simp [pairsOf], (pair_mem ht (by omega)).mpr ⟨a, b⟩⟩
    · exact ⟨(s.a, s.c), by simp [pairsOf], (pair_mem ht (by omega)).mpr ⟨a, b⟩⟩
    · exact ⟨(s.b, s.c), by simp [pairsOf], (pair_mem ht (by omega)).mpr ⟨a, b⟩⟩
  · rintro ⟨q, h1, h2⟩
    simp only [pairsOf, List.mem_cons, List.not_mem_nil, or_false] at h1
    rcases h1 with rfl | rfl | rfl
    · exact .inl (.inl ((pair_mem ht (by omega)).mp h2))
    · exact .inl (.inr ((pair_mem ht (by omega)).mp h2))
    · exact .inr ((pair_mem ht (by omega)).mp h2)
theorem clash_symm {n : Nat} {s t : T3} (hs : valid n s) (ht : valid n t) : clash s t = clash t s := by
  have h1 := clash_iff hs ht
  have h2 := clash_iff ht hs
  have : clash s t = true ↔ clash t s = true := by
    rw [h1, h2]
    exact ⟨fun ⟨q, a, b⟩ => ⟨q, b, a⟩, fun ⟨q, a, b⟩ => ⟨q, b, a⟩⟩
  cases a : clash s t <;> cases b : clash t s <;> simp_all
theorem clash_self {n : Nat} {s : T3} (hs : valid n s) : clash s s = true := (clash_iff hs hs).mpr ⟨_, by simp [pairsOf]; exact .inl rfl, by simp [pairsOf]⟩
theorem mem_met {p : List T3} {q : P2} : q ∈ met p ↔ ∃ t, t ∈ p ∧ q ∈ pairsOf t := by unfold met; rw [List.mem_flatMap]
/-- threes of which no two clash -/
structure Apart3 (n : Nat) (p : List T3) : Prop where
  val : ∀ t, t ∈ p → valid n t
  nd : p.Nodup
  nc : ∀ s, s ∈ p → ∀ t, t ∈ p → s ≠ t → clash s t = false
theorem Apart3.nil {n : Nat} : Apart3 n [] := ⟨fun t h => by simp at h, List.nodup_nil, fun s h => by simp at h⟩
theorem Apart3.tail {n : Nat} {t : T3} {p : List T3} (h : Apart3 n (t :: p)) : Apart3 n p :=
  ⟨fun s hs => h.val s (List.mem_cons_of_mem _ hs), (List.nodup_cons.mp h.nd).2, fun s hs u hu => h.nc s (List.mem_cons_of_mem _ hs) u (List.mem_cons_of_mem _ hu)⟩
theorem Apart3.perm {n : Nat} {p q : List T3} (h : Apart3 n p) (e : p.Perm q) : Apart3 n q :=
  ⟨fun s hs => h.val s (e.mem_iff.mpr hs), e.nodup_iff.mp h.nd, fun s hs u hu => h.nc s (e.mem_iff.mpr hs) u (e.mem_iff.mpr hu)⟩
theorem Apart3.sub {n : Nat} {p q : List T3} (h : Apart3 n p) (hq : q.Nodup) (e : ∀ t, t ∈ q → t ∈ p) : Apart3 n q :=
  ⟨fun s hs => h.val s (e s hs), hq, fun s hs u hu => h.nc s (e s hs) u (e u hu)⟩
theorem Apart3.snoc {n : Nat} {p : List T3} {t : T3} (h : Apart3 n p) (ht : valid n t) (hc : ∀ s, s ∈ p → clash s t = false) : Apart3 n (p ++ [t]) := by
  have hn : t ∉ p := fun z => by have := hc t z; rw [clash_self ht] at this; cases this
  refine ⟨fun s hs => ?_, ?_, fun s hs u hu hne => ?_⟩
  · rcases List.mem_append.mp hs with z | z
    · exact h.val s z
    · rw [List.mem_singleton.mp z]; exact ht
  · rw [List.nodup_append]
    exact ⟨h.nd, by simp, fun a ha b hb e => hn (by rw [List.mem_singleton.mp hb] at e; exact e ▸ ha)⟩
  · rcases List.mem_append.mp hs with z | z
    · rcases List.mem_append.mp hu with y | y
      · exact h.nc s z u y hne
      · rw [List.mem_singleton.mp y]; exact hc s z
    · rw [List.mem_singleton.mp z] at hne ⊢
      rcases List.mem_append.mp hu with y | y
      · rw [clash_symm ht (h.val u y)]; exact hc u y
      · exact absurd (List.mem_singleton.mp y).symm hne
theorem Apart3.met_nodup {n : Nat} : ∀ {p : List T3}, Apart3 n p → (met p).Nodup
  | [], _ => List.nodup_nil
  | t :: p, h => by
    show (pairsOf t ++ met p).Nodup
    rw [List.nodup_append]
    refine ⟨pairs_nodup (h.val t List.mem_cons_self), h.tail.met_nodup, fun a ha b hb e => ?_⟩
    subst e
    obtain ⟨s, hs, hq⟩ := mem_met.mp hb
    have hne : t ≠ s := fun e => (List.nodup_cons.mp h.nd).1 (e ▸ hs)
    have := h.nc t List.mem_cons_self s (List.mem_cons_of_mem _ hs) hne
    rw [(clash_iff (h.val t List.mem_cons_self) (h.val s (List.mem_cons_of_mem _ hs))).mpr ⟨a, ha, hq⟩] at this
    cases this
theorem apart3_of {n : Nat} : ∀ {p : List T3}, (∀ t, t ∈ p → valid n t) → (met p).Nodup → Apart3 n p
  | [], _, _ => .nil
  | t :: p, hv, h => by
    have h' : (pairsOf t ++ met p).Nodup := h
    rw [List.nodup_append] at h'
    obtain ⟨_, h2, h3⟩ := h'
    have ih := apart3_of (fun s hs => hv s (List.mem_cons_of_mem _ hs)) h2
    have vt := hv t List.mem_cons_self
    have hc : ∀ s, s ∈ p → clash s t = false := fun s hs => by
      rw [← Bool.not_eq_true, clash_iff (ih.val s hs) vt]
      rintro ⟨q, a, b⟩
      exact h3 q b q (mem_met.mpr ⟨s, hs, a⟩) rfl
    exact (ih.snoc vt hc).perm (List.perm_append_comm)
/-- a plan -/
theorem isPlan_iff {n : Nat} {p : List T3} : isPlan n p = true ↔ Apart3 n p ∧ Sorted p := by
  unfold isPlan
  rw [Bool.and_eq_true, Bool.and_eq_true, asc_iff, apart_iff, List.all_eq_true]
  constructor
  · rintro ⟨h1, h2, h3⟩
    exact ⟨apart3_of (fun t ht => isThree_iff.mp (h1 t ht)) h2, h3⟩
  · rintro ⟨h1, h2⟩
    exact ⟨fun t ht => isThree_iff.mpr (h1.val t ht), h1.met_nodup, h2⟩
theorem Apart3.isort {n : Nat} {p : List T3} (h : Apart3 n p) : isPlan n (isort p) = true := isPlan_iff.mpr ⟨h.perm (isort_perm p).symm, isort_sorted h.nd⟩
/-! all pairs, all threes -/
theorem mem_pairs {n : Nat} {q : P2} : q ∈ allPairs n ↔ q.1 < q.2 ∧ q.2 < n := by
  unfold allPairs pairsAt
  simp only [List.mem_flatMap, List.mem_range, List.mem_map, List.mem_range'_1]
  constructor
  · rintro ⟨a, ha, b, hb, rfl⟩
    simp only
    omega
  · rintro ⟨h1, h2⟩
    exact ⟨q.1, by omega, q.2, by omega, rfl⟩
theorem pairs_nd (n : Nat) : (allPairs n).Nodup := by
  unfold allPairs
  have h1 : ∀ a, (pairsAt n a).Nodup := fun a => by
    unfold pairsAt
    rw [List.nodup_iff_pairwise_ne, List.pairwise_map]
    exact (List.nodup_range' (step := 1)).imp fun {x y} h e => h (Prod.mk.inj e).2
  have : ∀ l : List Nat, l.Nodup → (l.flatMap (pairsAt n)).Nodup := by
    intro l
    induction l with
    | nil => intro _; exact List.nodup_nil
    | cons a l ih =>
      intro h
      obtain ⟨h2, h3⟩ := List.nodup_cons.mp h
      rw [List.flatMap_cons, List.nodup_append]
      refine ⟨h1 a, ih h3, fun x hx y hy e => ?_⟩
      subst e
      obtain ⟨b, hb, hx2⟩ := List.mem_flatMap.mp hy
      unfold pairsAt at hx hx2
      obtain ⟨_, _, e1⟩ := List.mem_map.mp hx
      obtain ⟨_, _, e2⟩ := List.mem_map.mp hx2
      have : a = b := by rw [← e1] at e2; exact (Prod.mk.inj e2).1.symm
      exact h2 (this ▸ hb)
  exact this _ List.nodup_range
theorem left_iff {n : Nat} {p : List T3} {q : P2} : q ∈ leftOf n p ↔ (q.1 < q.2 ∧ q.2 < n) ∧ q ∉ met p := by
  unfold leftOf
  rw [List.mem_filter, mem_pairs, Bool.not_eq_true', mem_false]
theorem filter_two {α : Type} (p : α → Bool) : ∀ L : List α, (L.filter p).length + (L.filter fun x => !p x).length = L.length
  | [] => rfl
  | x :: L => by
    have := filter_two p L
    rw [List.filter_cons, List.filter_cons]
    cases h : p x <;> simp <;> omega
theorem filter_count {α : Type} [DecidableEq α] {L M : List α} (hL : L.Nodup) (hM : M.Nodup) (hs : ∀ x, x ∈ M → x ∈ L) : (L.filter fun x => !mem x M).length + M.length = L.length := by
  have hp : (L.filter fun x => mem x M).Perm M := by
    refine (List.perm_ext_iff_of_nodup (hL.filter _) hM).mpr fun x => ?_
    rw [List.mem_filter, mem_iff]
    exact ⟨fun h => h.2, fun h => ⟨hs x h, h⟩⟩
  have := filter_two (fun x => mem x M) L
  rw [← hp.length_eq]
  omega
theorem left_count {n : Nat} {p : List T3} (h : Apart3 n p) : (leftOf n p).length + 3 * p.length = (allPairs n).length := by
  rw [← met_len]
  refine filter_count (pairs_nd n) h.met_nodup fun q hq => ?_
  obtain ⟨t, ht, hq⟩ := mem_met.mp hq
  exact mem_pairs.mpr (pair_lt (h.val t ht) hq)
end TP
/-! plans.py and growing.py's defs that a plan is given to. -/
namespace TP
open PySem L2
open Enc (enc)
variable {Φ : Nat → Fn} {g : G}
/-- a plan for 3 to 9 players -/
structure Pl (n : Nat) (p : List T3) : Prop where
  lo : 3 ≤ n
  hi : n ≤ 9
  ap : Apart3 n p
  so : Sorted p
theorem pairs_le : ∀ n, n ≤ 9 → (allPairs n).length ≤ 36 := by decide
theorem Apart3.len {n : Nat} {p : List T3} (h : Apart3 n p) (hn : n ≤ 9) : p.length ≤ 12 := by
  have := left_count h
  have := pairs_le n hn
  omega
theorem Pl.len {n : Nat} {p : List T3} (h : Pl n p) : p.length ≤ 12 := h.ap.len h.hi
theorem Pl.is {n : Nat} {p : List T3} (h : Pl n p) : isPlan n p = true := isPlan_iff.mpr ⟨h.ap, h.so⟩
def ChPlayersOk (Φ : Nat → Fn) (i : Nat) : Prop := ∀ (n : Nat) (g : G), 3 ≤ n → n ≤ 9 → Φ i [.d (enc n)] g = .ok (.d .none) g
theorem v_check_players {ii : Nat} (hi : IsIntOk Φ ii) (n : Nat) (h1 : 3 ≤ n) (h2 : n ≤ 9) : fnv Φ 1 (x_check_players ii) [.d (enc n)] g = .ok (.d .none) g := by
  refine fnv_nx (ρ' := [some (.d (enc n))]) ?_
  show runs Φ (x_check_players ii) [some (.d (enc n))] g = _
  unfold x_check_players
  dsimp! [hi.nat _ _ _ _, decide_eq_true (show 3 ≤ n ∧ n ≤ 9 from ⟨h1, h2⟩)]
def StandsOk (Φ : Nat → Fn) (i : Nat) : Prop := ∀ (n : Nat) (p : List T3) (g : G), 1 ≤ n → p.length ≤ 21 → Φ i [.d (enc n), .d (enc p)] g = .ok (.d (.bool (isPlan n p))) g
theorem v_is_plan {ic is : Nat} (hc : ChPlayersOk Φ ic) (hs : StandsOk Φ is) (n : Nat) (p : List T3) (h1 : 3 ≤ n) (h2 : n ≤ 9) (hp : p.length ≤ 21) : fnv Φ 2 (x_is_plan ic is) [.d (enc n), .d (enc p)] g = .ok (.d (.bool (isPlan n p))) g := by
  refine fnv_rt ?_
  show runs Φ (x_is_plan ic is) [some (.d (enc n)), some (.d (enc p))] g = _
  unfold x_is_plan
  dsimp! [hc _ _ _ _, hs _ _ _ _ _]
def IsPlanOk (Φ : Nat → Fn) (i : Nat) : Prop := ∀ (n : Nat) (p : List T3) (g : G), 3 ≤ n → n ≤ 9 → p.length ≤ 21 → Φ i [.d (enc n), .d (enc p)] g = .ok (.d (.bool (isPlan n p))) g
theorem v_is_three {ic is : Nat} (hc : ChPlayersOk Φ ic) (hs : FitsOk Φ is) (n : Nat) (t : T3) (h1 : 3 ≤ n) (h2 : n ≤ 9) : fnv Φ 2 (x_is_three ic is) [.d (enc n), .d (enc t)] g = .ok (.d (.bool (isThree n t))) g := by
  refine fnv_rt ?_
  show runs Φ (x_is_three ic is) [some (.d (enc n)), some (.d (enc t))] g = _
  unfold x_is_three
  dsimp! [hc _ _ _ _, hs _ _ _ _]
def IsThreeOk (Φ : Nat → Fn) (i : Nat) : Prop := ∀ (n : Nat) (t : T3) (g : G), 3 ≤ n → n ≤ 9 → Φ i [.d (enc n), .d (enc t)] g = .ok (.d (.bool (isThree n t))) g
theorem v_check_plan {ic is : Nat} (hc : ChPlayersOk Φ ic) (hs : StandsOk Φ is) {n : Nat} {p : List T3} (h : Pl n p) : fnv Φ 2 (x_check_plan ic is) [.d (enc n), .d (enc p)] g = .ok (.d .none) g := by
  have h1 := h.lo
  have h2 := h.hi
  have h3 := h.len
  refine fnv_nx (ρ' := [some (.d (enc n)), some (.d (enc p))]) ?_
  show runs Φ (x_check_plan ic is) [some (.d (enc n)), some (.d (enc p))] g = _
  unfold x_check_plan
  dsimp! [hc _ _ _ _, hs _ _ _ _ _, h.is]
theorem v_check_planX {ic is : Nat} (hc : ChPlayersOk Φ ic) (hs : StandsOk Φ is) {n : Nat} {p : List T3} (h1 : 3 ≤ n) (h2 : n ≤ 9) (h3 : p.length ≤ 21) (h : isPlan n p = false) : fnv Φ 2 (x_check_plan ic is) [.d (enc n), .d (enc p)] g = .ex 2 g := by
  refine fnv_ex ?_
  show runs Φ (x_check_plan ic is) [some (.d (enc n)), some (.d (enc p))] g = _
  unfold x_check_plan
  dsimp! [hc _ _ _ _, hs _ _ _ _ _, h]
def ChPlanOk (Φ : Nat → Fn) (i : Nat) : Prop := ∀ (n : Nat) (p : List T3) (g : G), Pl n p → Φ i [.d (enc n), .d (enc p)] g = .ok (.d .none) g
theorem v_pairs_left {ic il : Nat} (hc : ChPlanOk Φ ic) (hl : LeftOk Φ il) {n : Nat} {p : List T3} (h : Pl n p) : fnv Φ 2 (x_pairs_left ic il) [.d (enc n), .d (enc p)] g = .ok (.own (.lst ((leftOf n p).map enc))) g := by
  have h1 := h.lo
  have h2 := h.hi
  have h3 := h.len
  refine fnv_rt ?_
  show runs Φ (x_pairs_left ic il) [some (.d (enc n)), some (.d (enc p))] g = _
  unfold x_pairs_left
  dsimp! [hc _ _ _ h, hl _ _ _ _ _]
def PairsLeftOk (Φ : Nat → Fn) (i : Nat) : Prop := ∀ (n : Nat) (p : List T3) (g : G), Pl n p → Φ i [.d (enc n), .d (enc p)] g = .ok (.own (.lst ((leftOf n p).map enc))) g
theorem v_is_full {ic il : Nat} (hc : ChPlanOk Φ ic) (hl : LeftOk Φ il) {n : Nat} {p : List T3} (h : Pl n p) : fnv Φ 2 (x_is_full ic il) [.d (enc n), .d (enc p)] g = .ok (.d (.bool ((leftOf n p).isEmpty))) g := by
  have h1 := h.lo
  have h2 := h.hi
  have h3 := h.len
  refine fnv_rt ?_
  show runs Φ (x_is_full ic il) [some (.d (enc n)), some (.d (enc p))] g = _
  unfold x_is_full
  dsimp! [hc _ _ _ h, hl _ _ _ _ _]
def IsFullOk (Φ : Nat → Fn) (i : Nat) : Prop := ∀ (n : Nat) (p : List T3) (g : G), Pl n p → Φ i [.d (enc n), .d (enc p)] g = .ok (.d (.bool ((leftOf n p).isEmpty))) g
theorem min_N {a b : Nat} : bltD .min2 [enc a, enc b] = some (.d (enc (min a b))) := by
  show some (W.d (.int (if (b : Int) < (a : Int) then (b : Int) else (a : Int)))) = some (W.d (.int ((min a b : Nat) : Int)))
  congr 3
  split <;> omega
theorem max_N {a b : Nat} : bltD .max2 [enc a, enc b] = some (.d (enc (max a b))) := by
  show some (W.d (.int (if (b : Int) > (a : Int) then (b : Int) else (a : Int)))) = some (W.d (.int ((max a b : Nat) : Int)))
  congr 3
  split <;> omega
def partnersOf (n : Nat) (p : List T3) (x : Nat) : List Nat := (List.range n).filter fun y => mem (min y x, max y x) (met p)
theorem v_partners {ic ii im : Nat} (hc : ChPlanOk Φ ic) (hi : IsIntOk Φ ii) (hm : PairsMetOk Φ im) {n : Nat} {p : List T3} (h : Pl n p) {x : Nat} (hx : x < n) : fnv Φ 4 (x_partners ic ii im) [.d (enc n), .d (enc p), .d (enc x)] g = .ok (.own (.lst ((partnersOf n p x).map enc))) g := by
  have h1 := h.lo
  have h2 := h.hi
  have h3 := h.len
  refine fnv_rt ?_
  show runs Φ (x_partners ic ii im) [some (.d (enc n)), some (.d (enc p)), some (.d (enc x)), none] g = _
  unfold x_partners
  dsimp! [hc _ _ _ h, hi.nat _ _ _ _, decide_eq_true (show 0 ≤ x ∧ x ≤ n - 1 by omega)]
  rw [ev_cf (xs := List.range n) (fun y => mem (min y x, max y x) (met p)) enc]
  · dsimp! []
    rfl
  · dsimp! []
  · rw [List.length_range]; unfold lim; omega
  · intro y hy
    exact ⟨_, rfl, by dsimp! [min_N, max_N, hm _ _ _], fun _ => ⟨_, by dsimp! []; rfl, rfl⟩⟩
def PartnersOk (Φ : Nat → Fn) (i : Nat) : Prop := ∀ (n : Nat) (p : List T3) (x : Nat) (g : G), Pl n p → x < n → Φ i [.d (enc n), .d (enc p), .d (enc x)] g = .ok (.own (.lst ((partnersOf n p x).map enc))) g
/-! open threes -/
def lastAt (n : Nat) (L : List P2) (q : P2) : List T3 := ((List.range' (q.2 + 1) (n - (q.2 + 1))).filter fun c => (pairsOf ⟨q.1, q.2, c⟩).all fun r => mem r L).map fun c => ⟨q.1, q.2, c⟩
def openOf (n : Nat) (p : List T3) : List T3 := (allPairs n).flatMap (lastAt n (leftOf n p))
theorem lastAt_len (n : Nat) (L : List P2) (q : P2) (hn : n ≤ 9) : (lastAt n L q).length ≤ 9 := by
  unfold lastAt
  rw [List.length_map]
  have := List.length_filter_le (fun c => (pairsOf ⟨q.1, q.2, c⟩).all fun r => mem r L) (List.range' (q.2 + 1) (n - (q.2 + 1)))
  rw [List.length_range'] at this
  omega
theorem flat_len {α β : Type} (f : α → List β) (k : Nat) (h : ∀ x, (f x).length ≤ k) : ∀ l : List α, (l.flatMap f).length ≤ k * l.length
  | [] => Nat.zero_le _
  | x :: l => by
    have := flat_len f k h l
    have := h x
    rw [List.flatMap_cons, List.length_append, List.length_cons, Nat.mul_succ]
    omega
theorem snoc_if {α β : Type} (p : α → Bool) (f : α → β) (l : List α) (x : α) : ((l ++ [x]).filter p).map f = (l.filter p).map f ++ (if p x then [f x] else []) := by
  rw [List.filter_append, List.map_append, List.filter_cons, List.filter_nil]
  cases p x <;> rfl
theorem v_open_list {ia il ip : Nat} (ha : AllPairsOk Φ ia) (hl : LeftOk Φ il) (hp : PairsOfOk Φ ip) (n : Nat) (p : List T3) (hn : n ≤ 9) (hp1 : p.length ≤ 1000) : fnv Φ 8 (x_open_list ia il ip) [.d (enc n), .d (enc p)] g = .ok (.own (.lst ((openOf n p).map enc))) g := by
  refine fnv_rt ?_
  show runs Φ (x_open_list ia il ip) [some (.d (enc n)), some (.d (enc p)), none, none, none, none, none, none] g = _
  unfold x_open_list
  dsimp! [hl _ _ _ _ _]
  generalize hL : leftOf n p = L
  rw [run_for (xs := allPairs n) (fun l => [some (.d (enc n)), some (.d (enc p)), some (.d (.list (L.map enc))), some (.own (.lst ((l.flatMap (lastAt n L)).map enc))), none, none, none, none])]
  · dsimp! []
    unfold openOf
    rw [hL]
  · dsimp! [ha _ _ _]
  · rfl
  · intro l q r e
    have b1 := flat_len (lastAt n L) 9 (fun q => lastAt_len n L q hn) l
    have b2 := pairs_le n hn
    rw [e, List.length_append, List.length_cons] at b2
    have hq : q.1 < q.2 ∧ q.2 < n := mem_pairs.mp (by rw [e]; simp)
    dsimp! []
    rw [run_for (xs := List.range' (q.2 + 1) (n - (q.2 + 1))) (fun l2 => [some (.d (enc n)), some (.d (enc p)), some (.d (.list (L.map enc))), some (.own (.lst ((l.flatMap (lastAt n L) ++ ((l2.filter fun c => (pairsOf ⟨q.1, q.2, c⟩).all fun r => mem r L).map fun c => (⟨q.1, q.2, c⟩ : T3))).map enc))), some (.d (enc q.1)), some (.d (enc q.2)), none, none])]
    · dsimp! [List.flatMap_append, List.flatMap_cons, List.flatMap_nil, List.append_nil]
      rfl
    · dsimp! []
    · simp only [List.filter_nil, List.map_nil, List.append_nil]
    · intro l2 c r2 e2
      have b3 := congrArg List.length e2
      rw [List.length_range', List.length_append, List.length_cons] at b3
      have b4 := List.length_filter_le (fun c => (pairsOf ⟨q.1, q.2, c⟩).all fun r => mem r L) l2
      rw [snoc_if]
      dsimp! [hp _ _]
      rw [ev_cm (xs := pairsOf ⟨q.1, q.2, c⟩) (fun r => .bool (mem r L))]
      · generalize hA : ((pairsOf ⟨q.1, q.2, c⟩).all fun r => mem r L) = A
        cases A with
        | false => dsimp! [hA, List.append_nil]
        | true =>
          dsimp! [hA]
          simp only [List.append_assoc]
      · dsimp! [hp _ _]
      · show 3 ≤ lim; unfold lim; omega
      · intro r hr
        exact ⟨_, rfl, _, by dsimp! []; rfl, rfl⟩
def OpenListOk (Φ : Nat → Fn) (i : Nat) : Prop := ∀ (n : Nat) (p : List T3) (g : G), n ≤ 9 → p.length ≤ 1000 → Φ i [.d (enc n), .d (enc p)] g = .ok (.own (.lst ((openOf n p).map enc))) g
end TP
/-! The laws' own defs. -/
namespace TP
open PySem L2
open Enc (enc)
variable {Φ : Nat → Fn} {g : G}
/-! draws -/
/-- later: some draws on -/
structure Gr (g g' : G) (m : Nat) : Prop where
  ns : g'.ns = g.ns
  os : g'.os = g.os
  k : g'.k ≤ g.k + m
theorem Gr.refl (g : G) : Gr g g 0 := ⟨rfl, rfl, by omega⟩
theorem Gr.trans {g1 g2 g3 : G} {m k : Nat} (a : Gr g1 g2 m) (b : Gr g2 g3 k) : Gr g1 g3 (m + k) := ⟨b.ns.trans a.ns, b.os.trans a.os, by have := a.k; have := b.k; omega⟩
theorem Gr.mono {g1 g2 : G} {m k : Nat} (a : Gr g1 g2 m) (h : m ≤ k) : Gr g1 g2 k := ⟨a.ns, a.os, by have := a.k; omega⟩
/-- there is room for draws -/
structure Rm (g : G) (m : Nat) : Prop where
  ns : g.ns.length ≤ 63
  k : g.k + m < 100000
theorem Gr.rm {g g' : G} {m k : Nat} (a : Gr g g' m) (h : Rm g (m + k)) : Rm g' k := ⟨by rw [a.ns]; exact h.ns, by have := a.k; have := h.k; omega⟩
theorem Rm.mono {g : G} {m k : Nat} (h : Rm g m) (e : k ≤ m) : Rm g k := ⟨h.ns, by have := h.k; omega⟩
def DrawN (Φ : Nat → Fn) (d : Nat) : Prop := ∀ (g : G) (m : Nat), Rm g 1 → 0 < m → ∃ r, r < m ∧ ∃ g', Φ d [.scr, .twn, .d (enc m)] g = .ok (.d (enc r)) g' ∧ Gr g g' 1
theorem drawN_of {d : Nat} (h : DrawOk Φ d) : DrawN Φ d := by
  intro g m hr hm
  obtain ⟨r, r0, r1, e⟩ := h g (m : Int) hr.ns (by have := hr.k; omega) (by omega)
  refine ⟨r.toNat, by omega, { g with k := g.k + 1 }, ?_, ⟨rfl, rfl, Nat.le_refl _⟩⟩
  have : enc r.toNat = PyData.int r := by
    show PyData.int ((r.toNat : Nat) : Int) = _
    rw [Int.toNat_of_nonneg r0]
  rw [this]
  exact e
def PickT (Φ : Nat → Fn) (p : Nat) : Prop := ∀ (α : Type) [DecidableEq α] [Enc α] (g : G) (xs : List α), Rm g 1 → xs ≠ [] → (∃ x, x ∈ xs ∧ ∃ g', Φ p [.scr, .twn, .d (.list (xs.map enc))] g = .ok (.d (enc x)) g' ∧ Gr g g' 1) ∧ (∃ x, x ∈ xs ∧ ∃ g', Φ p [.scr, .twn, .d (.tuple (xs.map enc))] g = .ok (.d (enc x)) g' ∧ Gr g g' 1)
theorem pickT_of {d p : Nat} (h : DrawN Φ d) (hp : Φ p = fnv Φ 3 (tPick d)) : PickT Φ p := by
  intro α _ _ g xs hr hx
  have hl : 0 < xs.length := by
    cases xs with
    | nil => exact absurd rfl hx
    | cons a r => simp
  obtain ⟨r, r1, g', e, hg⟩ := h g xs.length hr hl
  have hx : xs[r]? = some xs[r] := List.getElem?_eq_getElem r1
  constructor
  · refine ⟨xs[r], List.getElem_mem r1, g', ?_, hg⟩
    rw [hp]
    refine fnv_rt ?_
    show runs Φ (tPick d) [some .scr, some .twn, some (.d (.list (xs.map enc)))] g = _
    unfold tPick
    dsimp! [e, ixL hx]
  · refine ⟨xs[r], List.getElem_mem r1, g', ?_, hg⟩
    rw [hp]
    refine fnv_rt ?_
    show runs Φ (tPick d) [some .scr, some .twn, some (.d (.tuple (xs.map enc)))] g = _
    unfold tPick
    dsimp! [e, ixT hx]
/-! loops with draws -/
theorem forL_ex {α : Type} [DecidableEq α] [Enc α] {body : Env' → G → Out} {t : Tg} (Inv : List α → Env' → G → Prop) : ∀ (r l : List α) (ρ : Env') (g : G), Inv l ρ g → (∀ l' x r' ρ g, l ++ r = l' ++ x :: r' → Inv l' ρ g → ∃ ρ' g', turn t body (enc x) ρ g = .nx ρ' g' ∧ Inv (l' ++ [x]) ρ' g') → ∃ ρ' g', forL body t (r.map enc) ρ g = .nx ρ' g' ∧ Inv (l ++ r) ρ' g'
  | [], l, ρ, g, h, _ => ⟨ρ, g, rfl, by rw [List.append_nil]; exact h⟩
  | x :: r, l, ρ, g, h, hs => by
    obtain ⟨ρ1, g1, e1, h1⟩ := hs l x r ρ g rfl h
    obtain ⟨ρ2, g2, e2, h2⟩ := forL_ex Inv r (l ++ [x]) ρ1 g1 h1 fun l' y r' ρ g e => hs l' y r' ρ g (by rw [← e]; simp)
    refine ⟨ρ2, g2, ?_, by simpa using h2⟩
    rw [List.map_cons, forL_cons, e1, then_nx, e2]
theorem run_forEx {α : Type} [DecidableEq α] [Enc α] {ρ : Env'} {g1 : G} {xs : List α} (Inv : List α → Env' → G → Prop) {t : Tg} {s : I} {b : SL} (hs : evi Φ true s ρ g = .ok (xs.map enc) g1) (h0 : Inv [] ρ g1)
    (h : ∀ l x r ρ g, xs = l ++ x :: r → Inv l ρ g → ∃ ρ' g', turn t (fun ρ g => runs Φ b ρ g) (enc x) ρ g = .nx ρ' g' ∧ Inv (l ++ [x]) ρ' g') : ∃ ρ' g', run Φ (.fr [] t s b) ρ g = .nx ρ' g' ∧ Inv xs ρ' g' := by
  rw [run_fr (xs := xs.map enc) (g' := g1) hs]
  exact forL_ex Inv xs [] ρ g1 h0 fun l' x r' ρ g e => h l' x r' ρ g e
/-- a while loop that goes down -/
theorem while_ex {cond : Env' → G → Res Bool} {body : Env' → G → Out} (Inv : Nat → Env' → G → Prop) (hs : ∀ m ρ g, Inv m ρ g → cond ρ g = .ok false g ∨ (cond ρ g = .ok true g ∧ ∃ m' ρ' g', m' < m ∧ (body ρ g).then (fun ρ2 g2 => .nx (mask ρ ρ2) g2) = .nx ρ' g' ∧ Inv m' ρ' g')) :
    ∀ (m fuel : Nat) (ρ : Env') (g : G), Inv m ρ g → m < fuel → ∃ m' ρ' g', whileL cond body fuel ρ g = .nx ρ' g' ∧ Inv m' ρ' g' ∧ cond ρ' g' = .ok false g'
  | m, 0, ρ, g, _, hf => absurd hf (Nat.not_lt_zero _)
  | m, fuel + 1, ρ, g, h, hf => by
    rcases hs m ρ g h with e | ⟨e, m', ρ', g', hm, e2, h2⟩
    · refine ⟨m, ρ, g, ?_, h, e⟩
      unfold whileL
      rw [e]
      rfl
    · obtain ⟨m3, ρ3, g3, e3, h3⟩ := while_ex Inv hs m' fuel ρ' g' h2 (by omega)
      refine ⟨m3, ρ3, g3, ?_, h3⟩
      unfold whileL
      rw [e]
      simp only [out_ok, if_true]
      cases q : body ρ g with
      | nx ρ4 g4 =>
        rw [q] at e2
        simp only [then_nx] at e2 ⊢
        injection e2 with e4 e5
        subst e4 e5
        exact e3
      | rt w g4 => rw [q] at e2; cases e2
      | ex c g4 => rw [q] at e2; cases e2
      | no => rw [q] at e2; cases e2
theorem run_wh {ρ : Env'} {c : E} {b : SL} (Inv : Nat → Env' → G → Prop) (m : Nat) (hm : m < 10000000000000000000000000000000000000000) (h0 : Inv m ρ g) (hs : ∀ m ρ g, Inv m ρ g → ∃ k : Bool, ev Φ c ρ g = .ok (.d (.bool k)) g ∧ (k = true → ∃ m' ρ' g', m' < m ∧ td (runs Φ b ρ g) (fun ρ2 g2 => .nx (mask ρ ρ2) g2) ⟨⟩ = .nx ρ' g' ∧ Inv m' ρ' g')) :
    ∃ m' ρ' g', run Φ (.wh c b) ρ g = .nx ρ' g' ∧ Inv m' ρ' g' ∧ ev Φ c ρ' g' = .ok (.d (.bool false)) g' := by
  obtain ⟨m', ρ', g', e, h1, h2⟩ := while_ex (cond := fun ρ g => (ev Φ c ρ g).bind fun w g1 => .of w.bl? g1) (body := fun ρ g => runs Φ b ρ g) Inv (fun m ρ g h => by
    obtain ⟨k, e1, h1⟩ := hs m ρ g h
    cases k with
    | false => exact .inl (by simp only [e1, bind_ok]; rfl)
    | true => exact .inr ⟨by simp only [e1, bind_ok]; rfl, h1 rfl⟩) m fuel ρ g h0 hm
  refine ⟨m', ρ', g', e, h1, ?_⟩
  obtain ⟨k, e1, _⟩ := hs m' ρ' g' h1
  simp only [e1, bind_ok] at h2
  cases k with
  | false => exact e1
  | true => cases h2
end TP
/-! The laws' own defs: threes, clashes, plans. -/
namespace TP
open PySem L2
open Enc (enc)
variable {Φ : Nat → Fn} {g : G}
def thirds (n : Nat) (q : P2) : List T3 := (List.range' (q.2 + 1) (n - (q.2 + 1))).map fun c => ⟨q.1, q.2, c⟩
def every (n : Nat) : List T3 := (allPairs n).flatMap (thirds n)
theorem mem_every {n : Nat} {t : T3} : t ∈ every n ↔ valid n t := by
  unfold every thirds valid
  simp only [List.mem_flatMap, mem_pairs, List.mem_map, List.mem_range'_1]
  constructor
  · rintro ⟨q, hq, c, hc, rfl⟩
    simp only
    omega
  · rintro ⟨h1, h2, h3⟩
    exact ⟨(t.a, t.b), ⟨h1, by omega⟩, t.c, by omega, rfl⟩
theorem every_le : ∀ n, n ≤ 9 → (every n).length ≤ 84 := by decide
theorem flatMap_flatMap {α β γ : Type} (f : α → List β) (h : β → List γ) : ∀ l : List α, (l.flatMap f).flatMap h = l.flatMap fun x => (f x).flatMap h
  | [] => rfl
  | x :: l => by rw [List.flatMap_cons, List.flatMap_append, flatMap_flatMap f h l, List.flatMap_cons]
theorem pairsAt_flat (n a : Nat) (h : P2 → List T3) : (pairsAt n a).flatMap h = (List.range' (a + 1) (n - (a + 1))).flatMap fun b => h (a, b) := by
  unfold pairsAt
  rw [List.flatMap_map]
theorem pre_len {α : Type} {a b c : List α} {x : α} (e : c = a ++ x :: b) : a.length < c.length := by
  rw [e, List.length_append, List.length_cons]
  omega
theorem v_every {n : Nat} (hn : n ≤ 9) : fnv Φ 5 x__law_every_three [.d (enc n)] g = .ok (.own (.lst ((every n).map enc))) g := by
  refine fnv_rt ?_
  show runs Φ x__law_every_three [some (.d (enc n)), none, none, none, none] g = _
  unfold x__law_every_three
  have th : ∀ q, (thirds n q).length ≤ 9 := fun q => by unfold thirds; rw [List.length_map, List.length_range']; omega
  have le2 : ∀ a, (List.range' (a + 1) (n - (a + 1))).length ≤ 9 := fun a => by rw [List.length_range']; omega
  have b1 : ∀ a (l : List Nat), (l.flatMap fun b => thirds n (a, b)).length ≤ 9 * l.length := fun a l => flat_len _ 9 (fun b => th (a, b)) l
  have b0 : ∀ l : List Nat, (l.flatMap fun a => (pairsAt n a).flatMap (thirds n)).length ≤ 81 * l.length := fun l => flat_len _ 81 (fun a => by
    rw [pairsAt_flat]
    have := b1 a (List.range' (a + 1) (n - (a + 1)))
    have := le2 a
    omega) l
  dsimp! []
  rw [run_for (xs := List.range n) (fun l => [some (.d (enc n)), some (.own (.lst ((l.flatMap fun a => (pairsAt n a).flatMap (thirds n)).map enc))), none, none, none])]
  · dsimp! []
    unfold every allPairs
    rw [flatMap_flatMap]
  · dsimp! []
  · rfl
  · intro l a r e
    have hl := pre_len e
    rw [List.length_range] at hl
    have ha : a < n := by
      have : a ∈ List.range n := by rw [e]; simp
      simpa using this
    have b3 := b0 l
    dsimp! []
    rw [run_for (xs := List.range' (a + 1) (n - (a + 1))) (fun l2 => [some (.d (enc n)), some (.own (.lst (((l.flatMap fun a => (pairsAt n a).flatMap (thirds n)) ++ l2.flatMap fun b => thirds n (a, b)).map enc))), some (.d (enc a)), none, none])]
    · dsimp! [List.flatMap_append, List.flatMap_cons, List.flatMap_nil, List.append_nil, pairsAt_flat]
    · dsimp! []
    · simp only [List.flatMap_nil, List.append_nil]
    · intro l2 b r2 e2
      have hl2 := pre_len e2
      have hb : b < n := by
        have : b ∈ List.range' (a + 1) (n - (a + 1)) := by rw [e2]; simp
        rw [List.mem_range'_1] at this
        omega
      have b4 := b1 a l2
      have b5 := le2 a
      have b6 := th (a, b)
      dsimp! []
      rw [ev_cm (xs := List.range' (b + 1) (n - (b + 1))) (fun c => enc (⟨a, b, c⟩ : T3))]
      · rw [show (List.range' (b + 1) (n - (b + 1))).map (fun c => enc (⟨a, b, c⟩ : T3)) = (thirds n (a, b)).map enc from by unfold thirds; rw [List.map_map]; rfl]
        dsimp! [List.flatMap_append, List.flatMap_cons, List.flatMap_nil, List.append_nil, List.append_assoc]
      · dsimp! []
      · rw [List.length_range']; unfold lim; omega
      · intro c hc
        exact ⟨_, rfl, _, by dsimp! []; rfl, rfl⟩
def EveryOk (Φ : Nat → Fn) (i : Nat) : Prop := ∀ (n : Nat) (g : G), n ≤ 9 → Φ i [.d (enc n)] g = .ok (.own (.lst ((every n).map enc))) g
theorem v_clash (s t : T3) : fnv Φ 3 x__law_clash [.d (enc s), .d (enc t)] g = .ok (.d (.bool (clash s t))) g := by
  refine fnv_rt ?_
  show runs Φ x__law_clash [some (.d (enc s)), some (.d (enc t)), none] g = _
  unfold x__law_clash
  dsimp! []
  rw [ev_cf (xs := [s.a, s.b, s.c]) (fun x => has t x) enc]
  · dsimp! []
    rfl
  · dsimp! []
  · exact of_decide_eq_true rfl
  · intro x hx
    exact ⟨_, rfl, by dsimp! [], fun _ => ⟨_, by dsimp! []; rfl, rfl⟩⟩
def ClashOk (Φ : Nat → Fn) (i : Nat) : Prop := ∀ (s t : T3) (g : G), Φ i [.d (enc s), .d (enc t)] g = .ok (.d (.bool (clash s t))) g
theorem ixLast {α : Type} [DecidableEq α] [Enc α] {xs : List α} {x : α} : ixD (.list ((xs ++ [x]).map enc)) (.int (-((1 : Nat) : Int))) = some (enc x) := by
  show atI ((xs ++ [x]).map enc) (-((1 : Nat) : Int)) = _
  unfold atI ixN
  rw [if_neg (by omega)]
  have hl : ((xs ++ [x]).map (enc : α → PyData)).length = xs.length + 1 := by rw [List.length_map, List.length_append]; rfl
  rw [hl, if_pos (by omega)]
  show ((xs ++ [x]).map enc)[_]? = _
  rw [show ((-((1 : Nat) : Int)) + ((xs.length + 1 : Nat) : Int)).toNat = xs.length from by omega]
  rw [List.getElem?_map, List.getElem?_append_right (Nat.le_refl _), Nat.sub_self]
  rfl
theorem ixLastT {α : Type} [DecidableEq α] [Enc α] {xs : List α} {x : α} : ixD (.tuple ((xs ++ [x]).map enc)) (.int (-((1 : Nat) : Int))) = some (enc x) := ixLast
/-- what may still be put on -/
def freeOf (n : Nat) (made : List T3) : List T3 := (every n).filter fun t => made.all fun s => !clash t s
theorem freeOf_snoc (n : Nat) (made : List T3) (x : T3) : freeOf n (made ++ [x]) = (freeOf n made).filter fun t => !clash t x := by
  unfold freeOf
  rw [List.filter_filter]
  refine List.filter_congr fun t _ => ?_
  rw [List.all_append, List.all_cons, List.all_nil, Bool.and_true, Bool.and_comm]
theorem freeOf_mem {n : Nat} {made : List T3} {t : T3} (h : t ∈ freeOf n made) : valid n t ∧ ∀ s, s ∈ made → clash t s = false := by
  unfold freeOf at h
  rw [List.mem_filter, mem_every, List.all_eq_true] at h
  exact ⟨h.1, fun s hs => by simpa using h.2 s hs⟩
theorem freeOf_len {n : Nat} (hn : n ≤ 9) (made : List T3) : (freeOf n made).length ≤ 84 := Nat.le_trans (List.length_filter_le _ _) (every_le n hn)
def SomePlanOk (Φ : Nat → Fn) (i : Nat) : Prop := ∀ (n most : Nat) (g : G), 3 ≤ n → n ≤ 9 → most ≤ 20 → Rm g 30 → ∃ p g', Φ i [.scr, .twn, .d (enc n), .d (enc most)] g = .ok (.d (enc p)) g' ∧ Pl n p ∧ p.length ≤ most ∧ Gr g g' 30
theorem v_some_plan {ic id ie ip : Nat} (hc : ClashOk Φ ic) (hd : DrawN Φ id) (he : EveryOk Φ ie) (hp : PickT Φ ip) {n most : Nat} (h1 : 3 ≤ n) (h2 : n ≤ 9) (hm : most ≤ 20) (hr : Rm g 30) :
    ∃ p g', fnv Φ 8 (x__law_some_plan ic id ie ip) [.scr, .twn, .d (enc n), .d (enc most)] g = .ok (.d (enc p)) g' ∧ Pl n p ∧ p.length ≤ most ∧ Gr g g' 30 := by
  obtain ⟨r, r1, g1, e1, hg1⟩ := hd g (most + 1) (hr.mono (by omega)) (by omega)
  let st : List T3 → Env' := fun made => [some .scr, some .twn, some (.d (enc n)), some (.d (enc most)), some (.d (.list ((freeOf n made).map enc))), some (.own (.lst (made.map enc))), none, none]
  let Inv : List Nat → Env' → G → Prop := fun l ρ g' => ∃ made, ρ = st made ∧ Apart3 n made ∧ made.length ≤ l.length ∧ Gr g g' (1 + l.length)
  have hfor := run_forEx (Φ := Φ) (ρ := st []) (g := g) (g1 := g1) (xs := List.range r) (t := .one 6) (s := (.rng1 (.call id (.cons (.v 0) (.cons (.v 1) (.cons (.o2 .add (.v 3) (.c (enc (1 : Nat)))) .nil))))))
    (b := (.cons (.ife (.o2 .ne (.v 4) (.lst .nil)) (.cons (.app 5 (.call ip (.cons (.v 0) (.cons (.v 1) (.cons (.v 4) .nil))))) (.cons (.asg 4 false (.comp (.v 7) (.one 7) (.seq (.v 4)) (.som (.bno (.call ic (.cons (.v 7) (.cons (.ix (.v 5) (.neg (.c (enc (1 : Nat))))) .nil))))))) .nil)) .nil) .nil)) Inv (by
      show evi Φ true _ [some .scr, some .twn, some (.d (enc n)), some (.d (enc most)), some (.d (.list ((freeOf n []).map enc))), some (.own (.lst [])), none, none] g = _
      dsimp! [e1]) ⟨[], rfl, .nil, Nat.le_refl _, hg1.mono (by simp)⟩ (by
      rintro l x r' ρ g' e ⟨made, rfl, ha, hl, hg⟩
      have hll := pre_len e
      rw [List.length_range] at hll
      by_cases hf : freeOf n made = []
      · refine ⟨st made, g', ?_, made, rfl, ha, by simp; omega, hg.mono (by simp)⟩
        show turn _ _ _ [some .scr, some .twn, some (.d (enc n)), some (.d (enc most)), some (.d (.list ((freeOf n made).map enc))), some (.own (.lst (made.map enc))), none, none] g' = _
        dsimp! [show (freeOf n made).isEmpty = true by rw [hf]; rfl]
        rfl
      · obtain ⟨t, ht, g2, e2, hg2⟩ := (hp T3 g' (freeOf n made) (hg.rm (k := 1) (hr.mono (by omega))) hf).1
        obtain ⟨vt, ct⟩ := freeOf_mem ht
        refine ⟨st (made ++ [t]), g2, ?_, made ++ [t], rfl, ha.snoc vt fun s hs => by rw [clash_symm (ha.val s hs) vt]; exact ct s hs, by simp; omega, (hg.trans hg2).mono (by simp; omega)⟩
        have hfl := freeOf_len h2 made
        show turn _ _ _ [some .scr, some .twn, some (.d (enc n)), some (.d (enc most)), some (.d (.list ((freeOf n made).map enc))), some (.own (.lst (made.map enc))), none, none] g' = _
        dsimp! [show (freeOf n made).isEmpty = false by rw [← Bool.not_eq_true, List.isEmpty_iff]; exact hf, e2]
        rw [ev_cf (xs := freeOf n made) (fun u => !clash u t) enc]
        · dsimp! []
          rw [← freeOf_snoc]
        · dsimp! []
        · unfold lim; omega
        · intro u hu
          exact ⟨_, rfl, by dsimp! [ixLast, hc _ _ _], fun _ => ⟨_, by dsimp! []; rfl, rfl⟩⟩)
  obtain ⟨ρ', g', e2, made, rfl, ha, hl, hg⟩ := hfor
  rw [List.length_range] at hl hg
  have hml := ha.len h2
  refine ⟨isort made, g', fnv_rt ?_, ⟨h1, h2, ha.perm (isort_perm made).symm, isort_sorted ha.nd⟩, by rw [isort_len]; omega, hg.mono (by omega)⟩
  show runs Φ (x__law_some_plan ic id ie ip) [some .scr, some .twn, some (.d (enc n)), some (.d (enc most)), none, none, none, none] g = _
  have e0 : every n = freeOf n [] := by
    exact (List.filter_eq_self.mpr fun _ _ => rfl).symm
  unfold x__law_some_plan
  dsimp! [he _ _ _, e0]
  have e2' : run Φ _ [some .scr, some .twn, some (.d (enc n)), some (.d (enc most)), some (.d (.list ((freeOf n []).map enc))), some (.own (.lst [])), none, none] g = .nx [some .scr, some .twn, some (.d (enc n)), some (.d (enc most)), some (.d (.list ((freeOf n made).map enc))), some (.own (.lst (made.map enc))), none, none] g' := e2
  rw [e2']
  dsimp! [sorted_T]
end TP
/-! The laws' own defs: what is not met, what is asked within try. -/
namespace TP
open PySem L2
open Enc (enc)
variable {Φ : Nat → Fn} {g : G}
theorem const_map {α β : Type} [DecidableEq β] [Enc β] (b : β) (l : List α) : l.map (fun _ => enc b) = (l.map fun _ => b).map enc := by rw [List.map_map]; rfl
theorem nil_any {α β : Type} (p : α → Bool) (f : α → β) (l : List α) : ((l.filter p).map f).isEmpty = !l.any p := by
  induction l with
  | nil => rfl
  | cons x l ih =>
    rw [List.filter_cons, List.any_cons]
    cases h : p x with
    | true => rfl
    | false => simpa using ih
def unmetOf (n : Nat) (p : List T3) : List P2 := (allPairs n).filter fun q => !p.any fun t => has t q.1 && has t q.2
theorem met_any {n : Nat} {p : List T3} (hv : ∀ t, t ∈ p → valid n t) {a b : Nat} (hab : a < b) : (p.any fun t => has t a && has t b) = mem (a, b) (met p) := by
  rw [Bool.eq_iff_iff, List.any_eq_true, mem_iff, mem_met]
  constructor
  · rintro ⟨t, ht, h⟩
    rw [Bool.and_eq_true] at h
    exact ⟨t, ht, (pair_mem (hv t ht) hab).mpr h⟩
  · rintro ⟨t, ht, h⟩
    exact ⟨t, ht, by rw [Bool.and_eq_true]; exact (pair_mem (hv t ht) hab).mp h⟩
theorem unmet_left {n : Nat} {p : List T3} (hv : ∀ t, t ∈ p → valid n t) : unmetOf n p = leftOf n p := by
  unfold unmetOf leftOf
  refine List.filter_congr fun q hq => ?_
  rw [met_any hv (mem_pairs.mp hq).1]
theorem pairsAt_nd {n a : Nat} {q : P2} : q ∈ pairsAt n a → q.1 = a ∧ a < q.2 ∧ q.2 < n := by
  unfold pairsAt
  rw [List.mem_map]
  rintro ⟨b, hb, rfl⟩
  rw [List.mem_range'_1] at hb
  exact ⟨rfl, by simp only; omega⟩
theorem snoc_filter {α : Type} (p : α → Bool) (l : List α) (x : α) : (l ++ [x]).filter p = l.filter p ++ (if p x then [x] else []) := by
  rw [List.filter_append, List.filter_cons, List.filter_nil]
theorem v_unmet {n : Nat} (p : List T3) (hn : n ≤ 9) (hp : p.length ≤ 1000) : fnv Φ 6 x__law_unmet [.d (enc n), .d (enc p)] g = .ok (.own (.lst ((unmetOf n p).map enc))) g := by
  refine fnv_rt ?_
  show runs Φ x__law_unmet [some (.d (enc n)), some (.d (enc p)), none, none, none, none] g = _
  unfold x__law_unmet
  let c : P2 → Bool := fun q => !p.any fun t => has t q.1 && has t q.2
  have b0 : ∀ l : List Nat, ((l.flatMap (pairsAt n)).filter c).length ≤ 9 * l.length := fun l => by
    have := List.length_filter_le c (l.flatMap (pairsAt n))
    have := flat_len (pairsAt n) 9 (fun a => by rw [pairsAt_len]; omega) l
    omega
  dsimp! []
  rw [run_for (xs := List.range n) (fun l => [some (.d (enc n)), some (.d (enc p)), some (.own (.lst (((l.flatMap (pairsAt n)).filter c).map enc))), none, none, none])]
  · dsimp! []
    rfl
  · dsimp! []
  · rfl
  · intro l a r e
    have hl := pre_len e
    rw [List.length_range] at hl
    have ha : a < n := by
      have : a ∈ List.range n := by rw [e]; simp
      simpa using this
    have b1 := b0 l
    dsimp! []
    rw [run_for (xs := List.range' (a + 1) (n - (a + 1))) (fun l2 => [some (.d (enc n)), some (.d (enc p)), some (.own (.lst ((((l.flatMap (pairsAt n)).filter c) ++ ((l2.map fun b => ((a, b) : P2)).filter c)).map enc))), some (.d (enc a)), none, none])]
    · dsimp! [List.flatMap_append, List.flatMap_cons, List.flatMap_nil, List.append_nil, List.filter_append]
      rfl
    · dsimp! []
    · simp only [List.map_nil, List.filter_nil, List.append_nil]
    · intro l2 b r2 e2
      have hl2 := pre_len e2
      rw [List.length_range'] at hl2
      have b2 := List.length_filter_le c (l2.map fun b => ((a, b) : P2))
      rw [List.length_map] at b2
      rw [show (l2 ++ [b]).map (fun b => ((a, b) : P2)) = l2.map (fun b => ((a, b) : P2)) ++ [(a, b)] from by rw [List.map_append]; rfl, snoc_filter]
      dsimp! []
      rw [ev_cf (xs := p) (fun t => has t a && has t b) (fun _ => enc (1 : Nat))]
      · rw [const_map]
        dsimp! [nil_any]
        generalize hA : (p.any fun t => has t a && has t b) = A
        have hc : c (a, b) = !A := by rw [← hA]
        rw [hc]
        cases A with
        | false => dsimp! [List.append_assoc]
        | true => dsimp! [List.append_nil]
      · dsimp! []
      · unfold lim; omega
      · intro t ht
        exact ⟨_, rfl, by dsimp! [], fun _ => ⟨_, by dsimp! []; rfl, rfl⟩⟩
def UnmetOk (Φ : Nat → Fn) (i : Nat) : Prop := ∀ (n : Nat) (p : List T3) (g : G), n ≤ 9 → p.length ≤ 1000 → Φ i [.d (enc n), .d (enc p)] g = .ok (.own (.lst ((unmetOf n p).map enc))) g
theorem v_same_truth (a b : Bool) : fnv Φ 2 x__law_same_truth [.d (.bool a), .d (.bool b)] g = .ok (.d (.bool (decide (a = b)))) g := by
  cases a <;> cases b <;> rfl
theorem v_same_number (a b : Nat) : fnv Φ 2 x__law_same_number [.d (enc a), .d (enc b)] g = .ok (.d (.bool (decide (a = b)))) g := by
  refine fnv_rt ?_
  show runs Φ x__law_same_number [some (.d (enc a)), some (.d (enc b))] g = _
  unfold x__law_same_number
  have e1 : isiD .int (enc a) = true := rfl
  have e2 : isiD .bool (enc a) = false := rfl
  dsimp! [e1, e2]
/-! try -/
theorem try_rt {ρ : Env'} {b : SL} {w : W} {g' : G} (h : runs Φ b ρ g = .rt w g') : run Φ (.tryW b) ρ g = .rt w g' := by
  unfold run
  rw [h]
theorem try_ex {ρ : Env'} {b : SL} {c : Nat} {g' : G} (h : runs Φ b ρ g = .ex c g') (hc : c < 11) : run Φ (.tryW b) ρ g = .rt (.d (told c)) g' := by
  unfold run
  rw [h]
  simp only
  rw [if_pos hc]
def tAsk3 (f : Nat) : SL := (.cons (.tryW (.cons (.ret (.call f (.cons (.v 0) (.cons (.v 1) (.cons (.v 2) .nil))))) .nil)) .nil)
theorem v_ask3 {f : Nat} {x y z : PyData} {c : Con} (h : Φ f [.d x, .d y, .d z] g = .ok (.own c) g) : fnv Φ 4 (tAsk3 f) [.d x, .d y, .d z] g = .ok (.own c) g := by
  refine fnv_rt (runs_rt (try_rt (runs_rt (run_retO ?_))))
  exact ev_call (ws := [.d x, .d y, .d z]) (xs := [.d x, .d y, .d z]) rfl rfl h rfl
theorem v_ask3d {f : Nat} {x y z w : PyData} (h : Φ f [.d x, .d y, .d z] g = .ok (.d w) g) : fnv Φ 4 (tAsk3 f) [.d x, .d y, .d z] g = .ok (.d w) g := by
  refine fnv_rt (runs_rt (try_rt (runs_rt (run_ret ?_))))
  exact ev_call (ws := [.d x, .d y, .d z]) (xs := [.d x, .d y, .d z]) rfl rfl h rfl
theorem ev_callX {ρ : Env'} {f c : Nat} {es : EL} {ws xs : List W} {g1 g2 : G} (h : evl Φ es ρ g = .ok ws g1) (ha : args? ws = some xs) (hf : Φ f xs g1 = .ex c g2) : ev Φ (.call f es) ρ g = .ex c g2 := by
  rw [ev, h]; simp only [bind_ok, ha, of_some, hf]; rfl
theorem v_ask3x {f : Nat} {x y z : PyData} {c : Nat} (h : Φ f [.d x, .d y, .d z] g = .ex c g) (hc : c < 11) : fnv Φ 4 (tAsk3 f) [.d x, .d y, .d z] g = .ok (.d (told c)) g := by
  refine fnv_rt (runs_rt (try_ex (runs_ex ?_) hc))
  rw [run, ev_callX (ws := [.d x, .d y, .d z]) (xs := [.d x, .d y, .d z]) rfl rfl h]
  rfl
theorem v_partnersX {ic ii im : Nat} (hc : ChPlanOk Φ ic) (hi : IsIntOk Φ ii) {n : Nat} {p : List T3} (h : Pl n p) {x : PyData} (hx : isIntD x 0 ((n : Int) - 1) = false) : fnv Φ 4 (x_partners ic ii im) [.d (enc n), .d (enc p), .d x] g = .ex 3 g := by
  have h1 := h.lo
  refine fnv_ex ?_
  show runs Φ (x_partners ic ii im) [some (.d (enc n)), some (.d (enc p)), some (.d x), none] g = _
  unfold x_partners
  have e1 : Φ ii [.d x, .d (enc (0 : Nat)), .d (enc (n - 1))] g = .ok (.d (.bool false)) g := by
    have := hi x 0 ((n : Int) - 1) g
    rw [hx] at this
    rw [show enc (n - 1) = PyData.int ((n : Int) - 1) from by show PyData.int (((n - 1 : Nat)) : Int) = _; congr 1; omega]
    exact this
  dsimp! [hc _ _ _ h, e1]
def PartnersXOk (Φ : Nat → Fn) (i : Nat) : Prop := ∀ (n : Nat) (p : List T3) (x : PyData) (g : G), Pl n p → isIntD x 0 ((n : Int) - 1) = false → Φ i [.d (enc n), .d (enc p), .d x] g = .ex 3 g
/-! partners come in twos -/
def dueOf (n : Nat) (p : List T3) (x : Nat) : List Nat := (List.range n).filter fun y => !decide (y = x) && p.any fun t => has t x && has t y
theorem due_partners {n : Nat} {p : List T3} (hv : ∀ t, t ∈ p → valid n t) (x : Nat) : dueOf n p x = partnersOf n p x := by
  unfold dueOf partnersOf
  refine List.filter_congr fun y _ => ?_
  by_cases h : y = x
  · subst h
    rw [decide_eq_true rfl, Nat.min_self, Nat.max_self]
    symm
    rw [Bool.not_true, Bool.false_and, mem_false, mem_met]
    rintro ⟨t, ht, hq⟩
    have := pair_lt (hv t ht) hq
    simp only at this
    omega
  · rw [decide_eq_false h, Bool.not_false, Bool.true_and]
    rcases Nat.lt_or_gt_of_ne h with h | h
    · rw [Nat.min_eq_left (by omega), Nat.max_eq_right (by omega), ← met_any hv h]
      congr 1
      funext t
      exact Bool.and_comm _ _
    · rw [Nat.min_eq_right (by omega), Nat.max_eq_left (by omega), ← met_any hv h]
theorem filter_or {α : Type} (p q : α → Bool) : ∀ l : List α, (∀ x, x ∈ l → ¬(p x = true ∧ q x = true)) → (l.filter fun x => p x || q x).length = (l.filter p).length + (l.filter q).length
  | [], _ => rfl
  | x :: l, h => by
    have ih := filter_or p q l fun y hy => h y (List.mem_cons_of_mem _ hy)
    have hx := h x List.mem_cons_self
    rw [List.filter_cons, List.filter_cons, List.filter_cons]
    cases hp : p x <;> cases hq : q x <;> simp_all <;> omega
theorem others2 : ∀ n, n ≤ 9 → ∀ t, t ∈ every n → ∀ x, x < n → ((List.range n).filter fun y => !decide (y = x) && (has t x && has t y)).length = if has t x then 2 else 0 := by
  have key : ((List.range 10).all fun n => (every n).all fun t => (List.range n).all fun x => decide (((List.range n).filter fun y => !decide (y = x) && (has t x && has t y)).length = if has t x then 2 else 0)) = true := by decide +kernel
  intro n hn t ht x hx
  rw [List.all_eq_true] at key
  have k1 := key n (by rw [List.mem_range]; omega)
  rw [List.all_eq_true] at k1
  have k2 := k1 t ht
  rw [List.all_eq_true] at k2
  exact of_decide_eq_true (k2 x (by rw [List.mem_range]; exact hx))
/-- how many threes have a player -/
def deg (p : List T3) (x : Nat) : Nat := (p.filter fun t => has t x).length
theorem due_len {n : Nat} (hn : n ≤ 9) {x : Nat} (hx : x < n) : ∀ {p : List T3}, Apart3 n p → (dueOf n p x).length = 2 * deg p x
  | [], _ => by
    unfold dueOf deg
    simp
  | t :: p, h => by
    have ih := due_len hn hx h.tail
    have e : dueOf n (t :: p) x = (List.range n).filter fun y => (!decide (y = x) && (has t x && has t y)) || (!decide (y = x) && p.any fun s => has s x && has s y) := by
      unfold dueOf
      refine List.filter_congr fun y _ => ?_
      rw [List.any_cons, Bool.and_or_distrib_left]
    rw [e, filter_or, others2 n hn t (mem_every.mpr (h.val t List.mem_cons_self)) x hx]
    · have : ((List.range n).filter fun y => !decide (y = x) && p.any fun s => has s x && has s y).length = 2 * deg p x := ih
      rw [this]
      unfold deg
      rw [List.filter_cons]
      split <;> simp <;> omega
    · rintro y hy ⟨h1, h2⟩
      simp only [Bool.and_eq_true, Bool.not_eq_true', decide_eq_false_iff_not, List.any_eq_true] at h1 h2
      obtain ⟨hne, a1, a2⟩ := h1
      obtain ⟨_, s, hs, b1, b2⟩ := h2
      have hts : t ≠ s := fun e => (List.nodup_cons.mp h.nd).1 (e ▸ hs)
      have vt := h.val t List.mem_cons_self
      have vs := h.val s (List.mem_cons_of_mem _ hs)
      have := h.nc t List.mem_cons_self s (List.mem_cons_of_mem _ hs) hts
      rw [← Bool.not_eq_true, clash_iff vt vs] at this
      rcases Nat.lt_or_gt_of_ne hne with hl | hl
      · exact this ⟨(y, x), (pair_mem vt hl).mpr ⟨a2, a1⟩, (pair_mem vs hl).mpr ⟨b2, b1⟩⟩
      · exact this ⟨(x, y), (pair_mem vt hl).mpr ⟨a1, a2⟩, (pair_mem vs hl).mpr ⟨b1, b2⟩⟩
end TP
namespace TP
open PySem L2
open Enc (enc)
/-- a comprehension that draws -/
theorem ev_cmEx {Φ : Nat → Fn} {ρ : Env'} {g g1 : G} {α β : Type} [DecidableEq α] [Enc α] [DecidableEq β] [Enc β] {xs : List α} (Inv : List β → G → Prop) {e : E} {t : Tg} {s : I} (hs : evi Φ false s ρ g = .ok (xs.map enc) g1) (hl : xs.length ≤ lim) (h0 : Inv [] g1)
    (h : ∀ ys g', Inv ys g' → ys.length < xs.length → ∀ x, x ∈ xs → ∃ ρ' y g'', bindT t (enc x) ρ = some ρ' ∧ (∃ w, ev Φ e ρ' g' = .ok w g'' ∧ w.fz = some (enc y)) ∧ Inv (ys ++ [y]) g'') :
    ∃ ys g', ev Φ (.comp e t s .non) ρ g = .ok (.own (.lst (ys.map enc))) g' ∧ Inv ys g' ∧ ys.length = xs.length := by
  have key : ∀ (r l : List α) (ys : List β) (g' : G), l ++ r = xs → ys.length = l.length → Inv ys g' → ∃ zs g'', each (fturn t (evc Φ .non) (ev Φ e) ρ) (r.map enc) g' = .ok (zs.map enc) g'' ∧ Inv (ys ++ zs) g'' ∧ (ys ++ zs).length = xs.length := by
    intro r
    induction r with
    | nil =>
      intro l ys g' e1 e2 hi
      refine ⟨[], g', rfl, by rw [List.append_nil]; exact hi, ?_⟩
      rw [List.append_nil, e2, ← e1, List.append_nil]
    | cons x r ih =>
      intro l ys g' e1 e2 hi
      obtain ⟨ρ', y, g2, h1, ⟨w, h2, h3⟩, h4⟩ := h ys g' hi (by rw [← e1, List.length_append, List.length_cons]; omega) x (by rw [← e1]; simp)
      obtain ⟨zs, g3, h5, h6, h7⟩ := ih (l ++ [x]) (ys ++ [y]) g2 (by rw [← e1]; simp) (by simp [e2]) h4
      refine ⟨y :: zs, g3, ?_, by rw [← List.append_cons] at h6; exact h6, by rw [← List.append_cons] at h7; exact h7⟩
      rw [List.map_cons]
      unfold each
      have : fturn t (evc Φ .non) (ev Φ e) ρ (enc x) g' = .ok (some (enc y)) g2 := by
        unfold fturn
        rw [h1]
        simp only [of_some, bind_ok, evc, if_true, h2, h3, Option.map_some, nox_ok]
      rw [this, bind_ok, h5, bind_ok]
      rfl
  obtain ⟨ys, g', e1, e2, e3⟩ := key xs [] [] g1 rfl rfl h0
  refine ⟨ys, g', ?_, e2, e3⟩
  rw [ev, hs]
  simp only [bind_ok]
  rw [if_pos (by rw [List.length_map]; exact hl)]
  show (each (fturn t (evc Φ .non) (ev Φ e) ρ) (xs.map enc) g1).bind _ = _
  rw [e1]
  rfl
theorem every_ne {n : Nat} (h1 : 3 ≤ n) : every n ≠ [] := fun e => by
  have : (⟨0, 1, 2⟩ : T3) ∈ every n := mem_every.mpr ⟨by decide, by decide, by show 2 < n; omega⟩
  rw [e] at this
  cases this
theorem plan2 {n : Nat} {s t : T3} (hs : valid n s) (ht : valid n t) : isPlan n [s, t] = (tlt s t && !clash s t) := by
  rw [Bool.eq_iff_iff, isPlan_iff, Bool.and_eq_true, Bool.not_eq_true']
  constructor
  · rintro ⟨ha, hq⟩
    have hst : tlt s t = true := by simpa [Sorted] using hq
    refine ⟨hst, ha.nc s (by simp) t (by simp) fun e => ?_⟩
    rw [e, tlt_irr] at hst
    cases hst
  · rintro ⟨h1, h2⟩
    refine ⟨Apart3.snoc (p := [s]) (Apart3.snoc (p := []) .nil hs (by simp)) ht (by simpa using h2), ?_⟩
    simp [Sorted, h1]
theorem sub01 : binD .sub (enc (0 : Nat)) (enc (1 : Nat)) = some (.d (.int (-1))) := nrfl rfl
end TP
/-! growing.py: open threes, completions, greatest plans. -/
namespace TP
open PySem L2
open Enc (enc)
variable {Φ : Nat → Fn} {g : G}
theorem openOf_eq (n : Nat) (p : List T3) : openOf n p = (every n).filter fun t => (pairsOf t).all fun r => mem r (leftOf n p) := by
  unfold openOf every
  rw [List.filter_flatMap]
  congr 1
  funext q
  unfold lastAt thirds
  rw [List.filter_map]
  rfl
theorem open_pairs {n : Nat} {p : List T3} (hp : ∀ s, s ∈ p → valid n s) {t : T3} (ht : valid n t) : ((pairsOf t).all fun r => mem r (leftOf n p)) = p.all fun s => !clash t s := by
  rw [Bool.eq_iff_iff, List.all_eq_true, List.all_eq_true]
  constructor
  · intro h s hs
    rw [Bool.not_eq_true', ← Bool.not_eq_true, clash_iff ht (hp s hs)]
    rintro ⟨q, h1, h2⟩
    have := h q h1
    rw [mem_iff, left_iff] at this
    exact this.2 (mem_met.mpr ⟨s, hs, h2⟩)
  · intro h q hq
    rw [mem_iff, left_iff]
    refine ⟨pair_lt ht hq, fun z => ?_⟩
    obtain ⟨s, hs, h2⟩ := mem_met.mp z
    have := h s hs
    rw [Bool.not_eq_true', ← Bool.not_eq_true, clash_iff ht (hp s hs)] at this
    exact this ⟨q, hq, h2⟩
theorem open_free {n : Nat} {p : List T3} (hp : ∀ s, s ∈ p → valid n s) : openOf n p = freeOf n p := by
  rw [openOf_eq]
  unfold freeOf
  exact List.filter_congr fun t ht => open_pairs hp (mem_every.mp ht)
theorem free_perm {n : Nat} {p q : List T3} (h : ∀ s, s ∈ p ↔ s ∈ q) : freeOf n p = freeOf n q := by
  unfold freeOf
  refine List.filter_congr fun t _ => ?_
  rw [Bool.eq_iff_iff, List.all_eq_true, List.all_eq_true]
  exact ⟨fun k s hs => k s ((h s).mpr hs), fun k s hs => k s ((h s).mp hs)⟩
theorem mem_isort {p : List T3} {s : T3} : s ∈ isort p ↔ s ∈ p := (isort_perm p).mem_iff
theorem v_open_threes {ic io : Nat} (hc : ChPlanOk Φ ic) (ho : OpenListOk Φ io) {n : Nat} {p : List T3} (h : Pl n p) : fnv Φ 2 (x_open_threes ic io) [.d (enc n), .d (enc p)] g = .ok (.own (.lst ((freeOf n p).map enc))) g := by
  have h2 := h.hi
  have h3 := h.len
  refine fnv_rt ?_
  show runs Φ (x_open_threes ic io) [some (.d (enc n)), some (.d (enc p))] g = _
  unfold x_open_threes
  dsimp! [hc _ _ _ h, ho _ _ _ _ _, open_free h.ap.val]
def OpenThreesOk (Φ : Nat → Fn) (i : Nat) : Prop := ∀ (n : Nat) (p : List T3) (g : G), Pl n p → Φ i [.d (enc n), .d (enc p)] g = .ok (.own (.lst ((freeOf n p).map enc))) g
/-- the first completion, step by step -/
def growN (n : Nat) : Nat → List T3 → List T3
  | 0, p => p
  | k + 1, p => match freeOf n p with
    | [] => p
    | t :: _ => growN n k (isort (p ++ [t]))
theorem growN_nil {n : Nat} {p : List T3} (h : freeOf n p = []) : ∀ k, growN n k p = p
  | 0 => rfl
  | k + 1 => by unfold growN; rw [h]
theorem growN_cons {n k : Nat} {p r : List T3} {t : T3} (h : freeOf n p = t :: r) : growN n (k + 1) p = growN n k (isort (p ++ [t])) := by rw [growN, h]
theorem Pl.grow {n : Nat} {p : List T3} (h : Pl n p) {t : T3} (ht : t ∈ freeOf n p) : Pl n (isort (p ++ [t])) := by
  obtain ⟨vt, ct⟩ := freeOf_mem ht
  have ha := h.ap.snoc vt fun s hs => by rw [clash_symm (h.ap.val s hs) vt]; exact ct s hs
  exact ⟨h.lo, h.hi, ha.perm (isort_perm _).symm, isort_sorted ha.nd⟩
theorem v_completion {ic io : Nat} (hc : ChPlanOk Φ ic) (ho : OpenListOk Φ io) {n : Nat} {p : List T3} (h : Pl n p) : fnv Φ 3 (x_completion ic io) [.d (enc n), .d (enc p)] g = .ok (.d (enc (growN n (13 - p.length) p))) g := by
  have h2 := h.hi
  have h3 := h.len
  refine fnv_rt ?_
  show runs Φ (x_completion ic io) [some (.d (enc n)), some (.d (enc p)), none] g = _
  unfold x_completion
  dsimp! [hc _ _ _ h, ho _ _ _ _ _, open_free h.ap.val]
  let st : List T3 → Env' := fun q => [some (.d (enc n)), some (.d (enc q)), some (.d (.list ((freeOf n q).map enc)))]
  let Inv : Nat → Env' → G → Prop := fun m ρ g' => ∃ q, ρ = st q ∧ g' = g ∧ Pl n q ∧ m + q.length = 13 ∧ growN n m q = growN n (13 - p.length) p
  obtain ⟨m', ρ', g', e1, ⟨q, rfl, rfl, hq, hm, hgr⟩, e2⟩ := run_wh (Φ := Φ) (g := g) (ρ := st p) (c := (.o2 .ne (.v 2) (.lst .nil))) (b := (.cons (.asg 1 false (.blt .tup (.cons (.blt .sorted (.cons (.o2 .add (.v 1) (.tup (.cons (.ix (.v 2) (.c (enc (0 : Nat)))) .nil))) .nil)) .nil))) (.cons (.asg 2 false (.call io (.cons (.v 0) (.cons (.v 1) .nil)))) .nil))) Inv (13 - p.length) (by omega) ⟨p, rfl, rfl, h, by omega, rfl⟩ (by
      rintro m ρ g' ⟨q, rfl, rfl, hq, hm, hgr⟩
      refine ⟨!(freeOf n q).isEmpty, by show ev Φ _ [some (.d (enc n)), some (.d (enc q)), some (.d (.list ((freeOf n q).map enc)))] _ = _; dsimp! [], fun hk => ?_⟩
      cases hf : freeOf n q with
      | nil => rw [hf] at hk; cases hk
      | cons t r =>
        have hg := hq.grow (t := t) (by rw [hf]; exact List.mem_cons_self)
        have hgl := hg.len
        have hql := hq.len
        have hl := isort_len (q ++ [t])
        rw [List.length_append, List.length_singleton] at hl
        refine ⟨m - 1, st (isort (q ++ [t])), _, by omega, ?_, isort (q ++ [t]), rfl, rfl, hg, by omega, ?_⟩
        · show td (runs Φ _ [some (.d (enc n)), some (.d (enc q)), some (.d (.list ((freeOf n q).map enc)))] _) (fun ρ2 g2 => .nx (mask [some (.d (enc n)), some (.d (enc q)), some (.d (.list ((freeOf n q).map enc)))] ρ2) g2) ⟨⟩ = .nx [some (.d (enc n)), some (.d (enc (isort (q ++ [t])))), some (.d (.list ((freeOf n (isort (q ++ [t]))).map enc)))] _
          rw [hf]
          dsimp! [ixL (xs := t :: r) (i := 0) (x := t) rfl, sorted_TP, ho _ _ _ _ _, open_free hg.ap.val]
        · rw [← hgr]
          have : m = (m - 1) + 1 := by omega
          rw [this, growN_cons hf]
          rfl)
  have e1' : run Φ _ [some (.d (enc n)), some (.d (enc p)), some (.d (.list ((freeOf n p).map enc)))] g' = .nx [some (.d (enc n)), some (.d (enc q)), some (.d (.list ((freeOf n q).map enc)))] g' := e1
  rw [e1']
  have e3 : freeOf n q = [] := by
    have e4 : ev Φ _ [some (.d (enc n)), some (.d (enc q)), some (.d (.list ((freeOf n q).map enc)))] g' = _ := e2
    cases hf : freeOf n q with
    | nil => rfl
    | cons t r =>
      rw [hf] at e4
      have : ev Φ (.o2 .ne (.v 2) (.lst .nil)) [some (.d (enc n)), some (.d (enc q)), some (.d (.list ((t :: r).map enc)))] g' = .ok (.d (.bool true)) g' := by dsimp! []; rfl
      rw [this] at e4
      cases e4
  rw [growN_nil e3] at hgr
  dsimp! [hgr]
def ComplOk (Φ : Nat → Fn) (i : Nat) : Prop := ∀ (n : Nat) (p : List T3) (g : G), Pl n p → Φ i [.d (enc n), .d (enc p)] g = .ok (.d (enc (growN n (13 - p.length) p))) g
end TP
namespace TP
open PySem L2
open Enc (enc)
variable {Φ : Nat → Fn} {g : G}
/-! no plan is greater than told -/
def tot (p : List T3) : List Nat → Nat
  | [] => 0
  | x :: l => deg p x + tot p l
theorem tot_cons (t : T3) (p : List T3) : ∀ l : List Nat, tot (t :: p) l = (l.filter fun x => has t x).length + tot p l
  | [] => rfl
  | x :: l => by
    have ih := tot_cons t p l
    unfold tot
    rw [ih, List.filter_cons]
    have : deg (t :: p) x = (if has t x then 1 else 0) + deg p x := by
      unfold deg
      rw [List.filter_cons]
      split <;> simp <;> omega
    rw [this]
    split <;> simp <;> omega
theorem tot_nil : ∀ l : List Nat, tot [] l = 0
  | [] => rfl
  | x :: l => by unfold tot; rw [tot_nil l]; rfl
theorem three_in : ∀ n, n ≤ 9 → ∀ t, t ∈ every n → ((List.range n).filter fun x => has t x).length = 3 := by
  have key : ((List.range 10).all fun n => (every n).all fun t => decide (((List.range n).filter fun x => has t x).length = 3)) = true := by decide +kernel
  intro n hn t ht
  rw [List.all_eq_true] at key
  have k1 := key n (by rw [List.mem_range]; omega)
  rw [List.all_eq_true] at k1
  exact of_decide_eq_true (k1 t ht)
theorem tot_three {n : Nat} (hn : n ≤ 9) : ∀ {p : List T3}, (∀ t, t ∈ p → valid n t) → tot p (List.range n) = 3 * p.length
  | [], _ => by rw [tot_nil]; rfl
  | t :: p, h => by
    rw [tot_cons, tot_three hn fun s hs => h s (List.mem_cons_of_mem _ hs), three_in n hn t (mem_every.mpr (h t List.mem_cons_self)), List.length_cons]
    omega
theorem tot_le {p : List T3} {k : Nat} : ∀ {l : List Nat}, (∀ x, x ∈ l → deg p x ≤ k) → tot p l ≤ k * l.length
  | [], _ => Nat.zero_le _
  | x :: l, h => by
    have h1 := h x List.mem_cons_self
    have h2 := tot_le (l := l) fun y hy => h y (List.mem_cons_of_mem _ hy)
    unfold tot
    rw [List.length_cons, Nat.mul_succ]
    omega
theorem not_me : ∀ n, n ≤ 9 → ∀ x, x < n → ((List.range n).filter fun y => !decide (y = x)).length = n - 1 := by
  have key : ((List.range 10).all fun n => (List.range n).all fun x => decide (((List.range n).filter fun y => !decide (y = x)).length = n - 1)) = true := by decide +kernel
  intro n hn x hx
  rw [List.all_eq_true] at key
  have k1 := key n (by rw [List.mem_range]; omega)
  rw [List.all_eq_true] at k1
  exact of_decide_eq_true (k1 x (by rw [List.mem_range]; exact hx))
theorem deg_le {n : Nat} (hn : n ≤ 9) {p : List T3} (h : Apart3 n p) {x : Nat} (hx : x < n) : 2 * deg p x ≤ n - 1 := by
  rw [← due_len hn hx h, ← not_me n hn x hx]
  have : dueOf n p x = ((List.range n).filter fun y => !decide (y = x)).filter fun y => p.any fun t => has t x && has t y := by
    unfold dueOf
    rw [List.filter_filter]
    refine List.filter_congr fun y _ => ?_
    rw [Bool.and_comm]
  rw [this]
  exact List.length_filter_le _ _
theorem five : ∀ s, s ∈ every 5 → ∀ t, t ∈ every 5 → ∀ u, u ∈ every 5 → clash s t = true ∨ clash s u = true ∨ clash t u = true := by
  have key : ((every 5).all fun s => (every 5).all fun t => (every 5).all fun u => clash s t || (clash s u || clash t u)) = true := by decide +kernel
  intro s hs t ht u hu
  rw [List.all_eq_true] at key
  have k1 := key s hs
  rw [List.all_eq_true] at k1
  have k2 := k1 t ht
  rw [List.all_eq_true] at k2
  have k3 := k2 u hu
  rwa [Bool.or_eq_true, Bool.or_eq_true] at k3
def mostOf (n : Nat) : Nat := [1, 1, 2, 4, 7, 8, 12].getD (n - 3) 0
theorem plan_most {n : Nat} {p : List T3} (h1 : 3 ≤ n) (h2 : n ≤ 9) (h : Apart3 n p) : p.length ≤ mostOf n := by
  have e := tot_three h2 h.val
  have k : tot p (List.range n) ≤ (n - 1) / 2 * n := by
    have := tot_le (p := p) (k := (n - 1) / 2) (l := List.range n) fun x hx => by
      have := deg_le h2 h (x := x) (by simpa using hx)
      omega
    rwa [List.length_range] at this
  rw [e] at k
  have : n = 3 ∨ n = 4 ∨ n = 5 ∨ n = 6 ∨ n = 7 ∨ n = 8 ∨ n = 9 := by omega
  rcases this with rfl | rfl | rfl | rfl | rfl | rfl | rfl
  · show p.length ≤ 1; omega
  · show p.length ≤ 1; omega
  · show p.length ≤ 2
    match p, h with
    | [], _ => simp
    | [_], _ => simp
    | [_, _], _ => simp
    | s :: t :: u :: r, h =>
      have vs := mem_every.mpr (h.val s (by simp))
      have vt := mem_every.mpr (h.val t (by simp))
      have vu := mem_every.mpr (h.val u (by simp))
      have nd := h.nd
      simp only [List.nodup_cons, List.mem_cons, not_or] at nd
      have c1 := h.nc s (by simp) t (by simp) nd.1.1
      have c2 := h.nc s (by simp) u (by simp) nd.1.2.1
      have c3 := h.nc t (by simp) u (by simp) nd.2.1.1
      rcases five s vs t vt u vu with z | z | z
      · rw [c1] at z; cases z
      · rw [c2] at z; cases z
      · rw [c3] at z; cases z
  · show p.length ≤ 4; omega
  · show p.length ≤ 7; omega
  · show p.length ≤ 8; omega
  · show p.length ≤ 12; omega
theorem v_greatest {ic : Nat} (hc : ChPlayersOk Φ ic) {n : Nat} (h1 : 3 ≤ n) (h2 : n ≤ 9) : fnv Φ 1 (x_greatest ic) [.d (enc n)] g = .ok (.d (enc (mostOf n))) g := by
  refine fnv_rt ?_
  show runs Φ (x_greatest ic) [some (.d (enc n))] g = _
  unfold x_greatest
  have e0 : ([enc 1, enc 1, enc 2, enc 4, enc 7, enc 8, enc 12] : List PyData) = ([1, 1, 2, 4, 7, 8, 12] : List Nat).map enc := rfl
  have e1 : ([1, 1, 2, 4, 7, 8, 12] : List Nat)[n - 3]? = some (mostOf n) := by
    have : n = 3 ∨ n = 4 ∨ n = 5 ∨ n = 6 ∨ n = 7 ∨ n = 8 ∨ n = 9 := by omega
    rcases this with rfl | rfl | rfl | rfl | rfl | rfl | rfl <;> rfl
  dsimp! [hc _ _ h1 h2, e0, ixL e1]
def GreatestOk (Φ : Nat → Fn) (i : Nat) : Prop := ∀ (n : Nat) (g : G), 3 ≤ n → n ≤ 9 → Φ i [.d (enc n)] g = .ok (.d (enc (mostOf n))) g
end TP
/-! Names, renamed plans, full plans by drawn names. -/
namespace TP
open PySem L2
open Enc (enc)
variable {Φ : Nat → Fn} {g : G}
/-! list.remove -/
def remO (xs : List PyData) (x : PyData) : Option (List PyData) := if sameShape x (.list xs) then (idxOf? x xs).map fun j => xs.eraseIdx j else none
theorem run_rem' {ρ : Env'} {i : Nat} {e : E} : run Φ (.rem i e) ρ g = od (Res.of (ownL ρ i) g) (fun xs g0 => od (ev Φ e ρ g0) (fun w g1 => od (Res.of w.fz g1) (fun y g2 => od (Res.of (remO xs y) g2) (fun zs g3 => .nx (ρ.set i (some (.own (.lst zs)))) g3) ⟨⟩) ⟨⟩) ⟨⟩) ⟨⟩ := by
  unfold od run ownL
  split
  · rename_i xs e1
    simp only [e1, of_some, out_ok]
    cases ev Φ e ρ g with
    | ok w g1 =>
      simp only [out_ok]
      cases w.fz with
      | none => rfl
      | some x =>
        simp only [of_some, out_ok, remO]
        split
        · cases idxOf? x xs <;> rfl
        · rfl
    | ex c g1 => rfl
    | no => rfl
  · rename_i h
    first
      | rfl
      | (split
         · rename_i xs e1
           exact absurd e1 (h xs)
         · rfl)
section
variable {α : Type} [DecidableEq α] [Enc α]
theorem idx_erase (x : α) : ∀ xs : List α, x ∈ xs → ∃ j, idxOf? (enc x) (xs.map enc) = some j ∧ (xs.map enc).eraseIdx j = ((xs.erase x).map enc : List PyData)
  | [], h => by cases h
  | y :: r, h => by
    rw [List.map_cons]
    unfold idxOf?
    rw [Enc.eqv]
    by_cases e : y = x
    · subst e
      exact ⟨0, by rw [decide_eq_true rfl]; rfl, by rw [List.erase_cons_head]; rfl⟩
    · obtain ⟨j, h1, h2⟩ := idx_erase x r ((List.mem_cons.mp h).resolve_left fun z => e z.symm)
      refine ⟨j + 1, by rw [decide_eq_false e, h1]; rfl, ?_⟩
      rw [List.erase_cons_tail (by simpa using e), List.map_cons, List.eraseIdx_cons_succ, h2]
theorem remO_ok {x : α} {xs : List α} (h : x ∈ xs) : remO (xs.map enc) (enc x) = some ((xs.erase x).map enc) := by
  unfold remO
  rw [show sameShape (enc x) (.list (xs.map enc)) = true by unfold sameShape; rw [shp_enc, shp_list]; rfl, if_pos rfl]
  obtain ⟨j, h1, h2⟩ := idx_erase x xs h
  rw [h1, Option.map_some, h2]
end
theorem lrng_N {n : Nat} (h : n ≤ 1000) : bltD .lrng [enc n] = some (.own (.lst ((List.range n).map enc))) := by
  show (if -1000 ≤ (n : Int) ∧ (n : Int) ≤ 1000 then some (W.own (.lst (rngL 0 n))) else none) = _
  rw [if_pos (by omega)]
  have := rng_0 (b := n) (by omega)
  unfold rngD at this
  rw [if_pos (by omega)] at this
  rw [Option.some.inj this]
theorem tup_fold {xs : List Nat} : PyData.tuple (xs.map enc) = enc xs := nrfl rfl
/-- drawn names -/
def NamesOk (Φ : Nat → Fn) (i : Nat) : Prop := ∀ (n : Nat) (g : G), n ≤ 9 → Rm g 10 → ∃ (names : List Nat) (g' : G), Φ i [.scr, .twn, .d (enc n)] g = .ok (.d (enc names)) g' ∧ names.Perm (List.range n) ∧ Gr g g' 10
theorem v_some_names {ip : Nat} (hp : PickT Φ ip) {n : Nat} (hn : n ≤ 9) (hr : Rm g 10) : ∃ (names : List Nat) (g' : G), fnv Φ 5 (x__law_some_names ip) [.scr, .twn, .d (enc n)] g = .ok (.d (enc names)) g' ∧ names.Perm (List.range n) ∧ Gr g g' 10 := by
  let st : List Nat → List Nat → Env' := fun left made => [some .scr, some .twn, some (.d (enc n)), some (.own (.lst (left.map enc))), some (.own (.lst (made.map enc)))]
  obtain ⟨m', ρ', g', e1, ⟨left, made, rfl, hm, hpm, hg⟩, e2⟩ := run_wh (Φ := Φ) (g := g) (ρ := st (List.range n) []) (c := (.o2 .ne (.v 3) (.lst .nil))) (b := (.cons (.app 4 (.call ip (.cons (.v 0) (.cons (.v 1) (.cons (.v 3) .nil))))) (.cons (.rem 3 (.ix (.v 4) (.neg (.c (enc (1 : Nat)))))) .nil))) (fun m ρ g' => ∃ left made, ρ = st left made ∧ left.length = m ∧ (made ++ left).Perm (List.range n) ∧ Gr g g' made.length) n (by omega) ⟨List.range n, [], rfl, List.length_range, List.Perm.refl _, Gr.refl g⟩ (by
      rintro m ρ g' ⟨left, made, rfl, hm, hpm, hg⟩
      refine ⟨!left.isEmpty, by show ev Φ _ [some .scr, some .twn, some (.d (enc n)), some (.own (.lst (left.map enc))), some (.own (.lst (made.map enc)))] _ = _; dsimp! [], fun hk => ?_⟩
      have hne : left ≠ [] := fun z => by rw [z] at hk; cases hk
      have hlen := hpm.length_eq
      rw [List.length_append, List.length_range] at hlen
      have hpos : 0 < left.length := List.length_pos_iff.mpr hne
      obtain ⟨x, hx, g2, e2, hg2⟩ := (hp Nat g' left (hg.rm (k := 1) (hr.mono (by omega))) hne).1
      refine ⟨m - 1, st (left.erase x) (made ++ [x]), g2, by omega, ?_, left.erase x, made ++ [x], rfl, by rw [List.length_erase_of_mem hx]; omega, ?_, (hg.trans hg2).mono (by simp)⟩
      · show td (runs Φ _ [some .scr, some .twn, some (.d (enc n)), some (.own (.lst (left.map enc))), some (.own (.lst (made.map enc)))] _) (fun ρ2 g2 => .nx (mask [some .scr, some .twn, some (.d (enc n)), some (.own (.lst (left.map enc))), some (.own (.lst (made.map enc)))] ρ2) g2) ⟨⟩ = .nx [some .scr, some .twn, some (.d (enc n)), some (.own (.lst ((left.erase x).map enc))), some (.own (.lst ((made ++ [x]).map enc)))] _
        dsimp! [e2, run_rem', ixLast, remO_ok hx]
      · rw [List.append_assoc]
        exact ((List.perm_cons_erase hx).symm.append_left made).trans hpm)
  have e3 : left = [] := by
    have e2 : ev Φ (.o2 .ne (.v 3) (.lst .nil)) [some .scr, some .twn, some (.d (enc n)), some (.own (.lst (left.map enc))), some (.own (.lst (made.map enc)))] g' = .ok (.d (.bool false)) g' := e2
    cases left with
    | nil => rfl
    | cons t r =>
      have : ev Φ (.o2 .ne (.v 3) (.lst .nil)) [some .scr, some .twn, some (.d (enc n)), some (.own (.lst ((t :: r).map enc))), some (.own (.lst (made.map enc)))] g' = .ok (.d (.bool true)) g' := by dsimp! []; rfl
      rw [this] at e2
      cases e2
  subst e3
  rw [List.append_nil] at hpm
  have hlen := hpm.length_eq
  rw [List.length_range] at hlen
  refine ⟨made, g', fnv_rt ?_, hpm, hg.mono (by omega)⟩
  show runs Φ (x__law_some_names ip) [some .scr, some .twn, some (.d (enc n)), none, none] g = _
  unfold x__law_some_names
  dsimp! [lrng_N]
  have e1' : run Φ _ [some .scr, some .twn, some (.d (enc n)), some (.own (.lst ((List.range n).map enc))), some (.own (.lst []))] g = .nx [some .scr, some .twn, some (.d (enc n)), some (.own (.lst (([] : List Nat).map enc))), some (.own (.lst (made.map enc)))] g' := e1
  rw [e1']
  dsimp! []
  rfl
/-! renamed -/
def sort3 (x y z : Nat) : T3 :=
  if y < x then (if z < y then ⟨z, y, x⟩ else if z < x then ⟨y, z, x⟩ else ⟨y, x, z⟩)
  else (if z < x then ⟨z, x, y⟩ else if z < y then ⟨x, z, y⟩ else ⟨x, y, z⟩)
theorem isort3 (x y z : Nat) : isort [x, y, z] = [(sort3 x y z).a, (sort3 x y z).b, (sort3 x y z).c] := by
  simp only [isort, tins, tlt_nat, decide_eq_true_eq, sort3]
  by_cases h1 : z < y
  · simp only [if_pos h1, tins, tlt_nat, decide_eq_true_eq]
    by_cases h2 : y < x
    · have : z < x := by omega
      simp [h1, h2, this, tins, tlt_nat]
    · by_cases h3 : z < x <;> simp [h1, h2, h3, tins, tlt_nat]
  · simp only [if_neg h1, tins, tlt_nat, decide_eq_true_eq]
    by_cases h2 : y < x
    · by_cases h3 : z < x <;> simp [h1, h2, h3, tins, tlt_nat]
    · have : ¬ z < x := by omega
      simp [h1, h2, this, tins, tlt_nat]
def nm (names : List Nat) (x : Nat) : Nat := names.getD x 0
def ren3 (names : List Nat) (t : T3) : T3 := sort3 (nm names t.a) (nm names t.b) (nm names t.c)
def namedOf (p : List T3) (names : List Nat) : List T3 := isort (p.map (ren3 names))
theorem nm_get {names : List Nat} {x : Nat} (h : x < names.length) : names[x]? = some (nm names x) := by
  unfold nm
  rw [List.getD_eq_getElem?_getD, List.getElem?_eq_getElem h]
  rfl
theorem tup_T3 {s : T3} : PyData.tuple ([s.a, s.b, s.c].map enc) = enc s := nrfl rfl
theorem v_named (p : List T3) (names : List Nat) (hp : p.length ≤ 1000) (hv : ∀ t, t ∈ p → t.a < names.length ∧ t.b < names.length ∧ t.c < names.length) : fnv Φ 4 x__law_named [.d (enc p), .d (enc names)] g = .ok (.d (enc (namedOf p names))) g := by
  refine fnv_rt ?_
  show runs Φ x__law_named [some (.d (enc p)), some (.d (enc names)), none, none] g = _
  unfold x__law_named
  dsimp! []
  rw [ev_cm (xs := p) (fun t => enc (ren3 names t))]
  · rw [show (p.map fun t => enc (ren3 names t)) = (p.map (ren3 names)).map enc from by rw [List.map_map]; rfl]
    dsimp! [sorted_T]
    rfl
  · dsimp! []
  · unfold lim; omega
  · intro t ht
    obtain ⟨h1, h2, h3⟩ := hv t ht
    refine ⟨_, rfl, .d (enc (ren3 names t)), ?_, rfl⟩
    dsimp! []
    rw [ev_cm (xs := [t.a, t.b, t.c]) (fun x => enc (nm names x))]
    · rw [show [t.a, t.b, t.c].map (fun x => enc (nm names x)) = [nm names t.a, nm names t.b, nm names t.c].map enc from rfl]
      dsimp! [sorted_N, isort3, tup_T3]
      rfl
    · dsimp! []
    · exact of_decide_eq_true rfl
    · intro x hx
      have hxl : x < names.length := by
        simp only [List.mem_cons, List.not_mem_nil, or_false] at hx
        rcases hx with rfl | rfl | rfl <;> assumption
      refine ⟨_, rfl, .d (enc (nm names x)), ?_, rfl⟩
      have e : ixD (enc names) (enc x) = some (enc (nm names x)) := ixT (nm_get hxl)
      dsimp! [e]
def NamedOk (Φ : Nat → Fn) (i : Nat) : Prop := ∀ (p : List T3) (names : List Nat) (g : G), p.length ≤ 1000 → (∀ t, t ∈ p → t.a < names.length ∧ t.b < names.length ∧ t.c < names.length) → Φ i [.d (enc p), .d (enc names)] g = .ok (.d (enc (namedOf p names))) g
end TP
/-! Full plans by drawn names. -/
namespace TP
open PySem L2
open Enc (enc)
variable {Φ : Nat → Fn} {g : G}
def line9 (t : T3) : Bool := decide ((t.a / 3 + t.b / 3 + t.c / 3) % 3 = 0) && decide ((t.a + t.b + t.c) % 3 = 0)
def knownOf (n : Nat) : List T3 := if n = 7 then (List.range 7).map fun a => sort3 a ((a + 1) % 7) ((a + 3) % 7) else if n = 9 then (every 9).filter line9 else [⟨0, 1, 2⟩]
def FullOneOk (Φ : Nat → Fn) (i : Nat) : Prop := ∀ (n : Nat) (g : G), n = 3 ∨ n = 7 ∨ n = 9 → Rm g 10 → ∃ (names : List Nat) (g' : G), Φ i [.scr, .twn, .d (enc n)] g = .ok (.d (enc (namedOf (knownOf n) names))) g' ∧ names.Perm (List.range n) ∧ Gr g g' 10
theorem known_in : ∀ n, n = 3 ∨ n = 7 ∨ n = 9 → (knownOf n).length ≤ 12 ∧ ∀ t, t ∈ knownOf n → valid n t := by
  have k3 : ((knownOf 3).all fun t => isThree 3 t) = true := by decide +kernel
  have k7 : ((knownOf 7).all fun t => isThree 7 t) = true := by decide +kernel
  have k9 : ((knownOf 9).all fun t => isThree 9 t) = true := by decide +kernel
  rintro n (rfl | rfl | rfl)
  · exact ⟨by decide +kernel, fun t ht => isThree_iff.mp (List.all_eq_true.mp k3 t ht)⟩
  · exact ⟨by decide +kernel, fun t ht => isThree_iff.mp (List.all_eq_true.mp k7 t ht)⟩
  · exact ⟨by decide +kernel, fun t ht => isThree_iff.mp (List.all_eq_true.mp k9 t ht)⟩
theorem full_end {ia iN : Nat} (hN : NamedOk Φ ia) (hS : NamesOk Φ iN) {n : Nat} (h : n = 3 ∨ n = 7 ∨ n = 9) (hr : Rm g 10) (a b c d e : Option W) : ∃ (names : List Nat) (g' : G), runs Φ (.cons (.ret (.call ia (.cons (.v 3) (.cons (.call iN (.cons (.v 0) (.cons (.v 1) (.cons (.v 2) .nil)))) .nil)))) .nil) [some .scr, some .twn, some (.d (enc n)), some (.d (enc (knownOf n))), a, b, c, d, e] g = .rt (.d (enc (namedOf (knownOf n) names))) g' ∧ names.Perm (List.range n) ∧ Gr g g' 10 := by
  have hn : n ≤ 9 := by omega
  obtain ⟨names, g', e1, hp, hg⟩ := hS n g hn hr
  obtain ⟨hl, hv⟩ := known_in n h
  have hlen := hp.length_eq
  rw [List.length_range] at hlen
  have e2 := hN (knownOf n) names g' (by omega) fun t ht => by
    have := hv t ht
    unfold valid at this
    omega
  exact ⟨names, g', by dsimp! [e1, e2], hp, hg⟩
theorem v_full_one {ie ia iN : Nat} (he : EveryOk Φ ie) (hN : NamedOk Φ ia) (hS : NamesOk Φ iN) {n : Nat} (h : n = 3 ∨ n = 7 ∨ n = 9) (hr : Rm g 10) : ∃ (names : List Nat) (g' : G), fnv Φ 9 (x__law_full_one ie ia iN) [.scr, .twn, .d (enc n)] g = .ok (.d (enc (namedOf (knownOf n) names))) g' ∧ names.Perm (List.range n) ∧ Gr g g' 10 := by
  rcases h with rfl | rfl | rfl
  · obtain ⟨names, g', e1, hp, hg⟩ := full_end (g := g) hN hS (.inl rfl) hr none none none none none
    refine ⟨names, g', fnv_rt ?_, hp, hg⟩
    rw [← e1]
    show runs Φ (x__law_full_one ie ia iN) [some .scr, some .twn, some (.d (enc 3)), none, none, none, none, none, none] g = _
    unfold x__law_full_one
    rw [show knownOf 3 = [⟨0, 1, 2⟩] from rfl]
    dsimp! [show decide (3 = 7) = false from rfl, show decide (3 = 9) = false from rfl]
  · obtain ⟨names, g', e1, hp, hg⟩ := full_end (g := g) hN hS (.inr (.inl rfl)) hr none none none none none
    refine ⟨names, g', fnv_rt ?_, hp, hg⟩
    rw [← e1]
    show runs Φ (x__law_full_one ie ia iN) [some .scr, some .twn, some (.d (enc 7)), none, none, none, none, none, none] g = _
    unfold x__law_full_one
    dsimp! [show decide (7 = 9) = false from rfl]
    rw [ev_cm (xs := List.range 7) (fun a => enc (sort3 a ((a + 1) % 7) ((a + 3) % 7)))]
    · rw [show ((List.range 7).map fun a => enc (sort3 a ((a + 1) % 7) ((a + 3) % 7))) = (knownOf 7).map enc from by unfold knownOf; rw [if_pos rfl, List.map_map]; rfl]
      dsimp! [show decide (7 = 9) = false from rfl]
    · dsimp! []
    · rw [List.length_range]; unfold lim; omega
    · intro a ha
      refine ⟨_, rfl, .d (enc (sort3 a ((a + 1) % 7) ((a + 3) % 7))), ?_, rfl⟩
      have e0 : ([enc a, enc ((a + 1) % 7), enc ((a + 3) % 7)] : List PyData) = [a, (a + 1) % 7, (a + 3) % 7].map enc := rfl
      dsimp! [e0, sorted_N, isort3, tup_T3]
  · obtain ⟨names, g', e1, hp, hg⟩ := full_end (g := g) hN hS (.inr (.inr rfl)) hr none (some (.own (.lst ((knownOf 9).map enc)))) none none none
    refine ⟨names, g', fnv_rt ?_, hp, hg⟩
    rw [← e1]
    show runs Φ (x__law_full_one ie ia iN) [some .scr, some .twn, some (.d (enc 9)), none, none, none, none, none, none] g = _
    unfold x__law_full_one
    dsimp! [show decide (9 = 7) = false from rfl]
    have h84 : (every 9).length ≤ 84 := every_le 9 (by decide)
    rw [run_for (xs := every 9) (fun l => [some .scr, some .twn, some (.d (enc 9)), some (.d (enc [(⟨0, 1, 2⟩ : T3)])), none, some (.own (.lst ((l.filter line9).map enc))), none, none, none])]
    · rw [show (every 9).filter line9 = knownOf 9 from rfl]
      dsimp! []
    · dsimp! [he _ _ _]
    · rfl
    · intro l t r e
      have hl := pre_len e
      have b2 := List.length_filter_le line9 l
      rw [snoc_filter]
      dsimp! []
      cases hA : line9 t with
      | false =>
        have hA' : (decide ((t.a / 3 + t.b / 3 + t.c / 3) % 3 = 0) && decide ((t.a + t.b + t.c) % 3 = 0)) = false := hA
        dsimp! [hA', List.append_nil]
      | true =>
        have hA' : (decide ((t.a / 3 + t.b / 3 + t.c / 3) % 3 = 0) && decide ((t.a + t.b + t.c) % 3 = 0)) = true := hA
        dsimp! [hA']
end TP
/-! Full plans that contain a plan. -/
namespace TP
open PySem L2
open Enc (enc)
variable {Φ : Nat → Fn} {g : G}
abbrev Nd := List T3 × Ls P2
/-- may the last player c stand with the pair q -/
def okC (L : List P2) (q : P2) (c : Nat) : Bool := !mem c [q.1, q.2] && (pairsOf (sort3 q.1 q.2 c)).all fun r => mem r L
def kid (h : List T3) (L : List P2) (q : P2) (c : Nat) : Nd := (h ++ [sort3 q.1 q.2 c], ⟨L.filter fun r => !mem r (pairsOf (sort3 q.1 q.2 c))⟩)
def kids (n : Nat) (h : List T3) (L : List P2) (q : P2) : List Nd := ((List.range n).filter (okC L q)).map (kid h L q)
def dfs (n : Nat) : Nat → List T3 → List P2 → List (List T3)
  | 0, _, _ => []
  | k + 1, h, L => match L with
    | [] => [h]
    | q :: r => ((List.range n).filter (okC (q :: r) q)).reverse.flatMap fun c => dfs n k (h ++ [sort3 q.1 q.2 c]) ((q :: r).filter fun s => !mem s (pairsOf (sort3 q.1 q.2 c)))
theorem sort3_pairs (x y z : Nat) : (min x y, max x y) ∈ pairsOf (sort3 x y z) := by
  unfold sort3 pairsOf
  by_cases h1 : y < x
  · rw [if_pos h1, Nat.min_eq_right (by omega), Nat.max_eq_left (by omega)]
    split
    · simp
    · split <;> simp
  · rw [if_neg h1, Nat.min_eq_left (by omega), Nat.max_eq_right (by omega)]
    split
    · simp
    · split <;> simp
theorem kid_lt {n : Nat} {q : P2} {r : List P2} {c : Nat} (hq : q.1 < q.2) : ((q :: r).filter fun s => !mem s (pairsOf (sort3 q.1 q.2 c))).length < (q :: r).length := by
  have h1 := sort3_pairs q.1 q.2 c
  rw [Nat.min_eq_left (by omega), Nat.max_eq_right (by omega)] at h1
  rw [List.filter_cons, if_neg (by rw [mem_iff.mpr h1]; decide)]
  have := List.length_filter_le (fun s => !mem s (pairsOf (sort3 q.1 q.2 c))) r
  rw [List.length_cons]
  omega
/-- pairs as they are meant -/
def Asc2 (L : List P2) : Prop := ∀ q, q ∈ L → q.1 < q.2
theorem Asc2.filter {L : List P2} (h : Asc2 L) (p : P2 → Bool) : Asc2 (L.filter p) := fun q hq => h q (List.mem_filter.mp hq).1
theorem dfs_fuel2 (n : Nat) : ∀ (k k' : Nat) (h : List T3) (L : List P2), Asc2 L → L.length < k → L.length < k' → dfs n k h L = dfs n k' h L
  | 0, _, _, _, _, hk, _ => absurd hk (Nat.not_lt_zero _)
  | _ + 1, 0, _, _, _, _, hk => absurd hk (Nat.not_lt_zero _)
  | k + 1, k' + 1, h, [], _, _, _ => rfl
  | k + 1, k' + 1, h, q :: r, ha, hk, hk' => by
    unfold dfs
    simp only
    congr 1
    funext c
    have hlt := kid_lt (n := n) (r := r) (c := c) (ha q List.mem_cons_self)
    exact dfs_fuel2 n k k' _ _ (ha.filter _) (by omega) (by omega)
theorem dfs_fuel (n : Nat) (k : Nat) (h : List T3) (L : List P2) (ha : Asc2 L) (hk : L.length < k) : dfs n k h L = dfs n (L.length + 1) h L := dfs_fuel2 n k _ h L ha hk (Nat.lt_succ_self _)
def runN (n : Nat) (s : Nd) : List (List T3) := dfs n (s.2.l.length + 1) s.1 s.2.l
theorem runN_nil (n : Nat) (h : List T3) : runN n (h, ⟨[]⟩) = [h] := rfl
theorem runN_cons (n : Nat) (h : List T3) (q : P2) (r : List P2) (ha : Asc2 (q :: r)) : runN n (h, ⟨q :: r⟩) = (kids n h (q :: r) q).reverse.flatMap (runN n) := by
  unfold runN kids
  rw [← List.map_reverse, List.flatMap_map]
  show dfs n ((q :: r).length + 1) h (q :: r) = _
  rw [dfs]
  congr 1
  funext c
  exact dfs_fuel n _ _ _ (ha.filter _) (kid_lt (n := n) (ha q List.mem_cons_self))
/-- a measure that goes down -/
def wt (s : Nd) : Nat := 10 ^ (s.2.l.length)
def wts (l : List Nd) : Nat := (l.map wt).foldl (· + ·) 0
theorem wts_eq (l : List Nd) : wts l = (l.map wt).sum := by
  unfold wts
  rw [List.sum_eq_foldl]
theorem wts_app (a b : List Nd) : wts (a ++ b) = wts a + wts b := by
  rw [wts_eq, wts_eq, wts_eq, List.map_append, List.sum_append]
theorem wts_kids {n : Nat} (hn : n ≤ 9) {h : List T3} {q : P2} {r : List P2} (hq : q.1 < q.2) : wts (kids n h (q :: r) q) < wt (h, ⟨q :: r⟩) := by
  have key : ∀ l : List Nat, l.length ≤ 9 → wts (l.map (kid h (q :: r) q)) ≤ l.length * 10 ^ r.length := by
    intro l
    induction l with
    | nil => intro _; exact Nat.zero_le _
    | cons c l ih =>
      intro hl
      have := ih (by rw [List.length_cons] at hl; omega)
      have e : wts ((c :: l).map (kid h (q :: r) q)) = wt (kid h (q :: r) q c) + wts (l.map (kid h (q :: r) q)) := by
        rw [wts_eq, wts_eq]; rfl
      have h2 : wt (kid h (q :: r) q c) ≤ 10 ^ r.length := by
        have := kid_lt (n := n) (r := r) (c := c) hq
        rw [List.length_cons] at this
        exact Nat.pow_le_pow_right (by decide) (by unfold kid; simp only; omega)
      rw [e, List.length_cons, Nat.succ_mul]
      omega
  have hl : ((List.range n).filter (okC (q :: r) q)).length ≤ 9 := by
    have := List.length_filter_le (okC (q :: r) q) (List.range n)
    rw [List.length_range] at this
    omega
  have := key _ hl
  unfold kids
  have e : wt (h, ⟨q :: r⟩) = 10 ^ r.length * 10 := by
    show 10 ^ (q :: r).length = _
    rw [List.length_cons, Nat.pow_succ]
  rw [e]
  have p : 0 < 10 ^ r.length := Nat.pow_pos (by decide)
  have : ((List.range n).filter (okC (q :: r) q)).length * 10 ^ r.length ≤ 9 * 10 ^ r.length := Nat.mul_le_mul_right _ hl
  omega
end TP
namespace TP
open PySem L2
open Enc (enc)
variable {Φ : Nat → Fn} {g : G}
theorem run_popT' {ρ : Env'} {t : Tg} {l : Nat} : run Φ (.popT t l) ρ g = od (Res.of (ownL ρ l) g) (fun xs g0 => od (Res.of xs.getLast? g0) (fun x g1 => od (Res.of (bindT t x (ρ.set l (some (.own (.lst xs.dropLast))))) g1) (fun ρ' g2 => .nx ρ' g2) ⟨⟩) ⟨⟩) ⟨⟩ := by
  unfold od run ownL
  split
  · rename_i xs e1
    simp only [e1, of_some, out_ok]
    cases xs.getLast? with
    | none => rfl
    | some x =>
      simp only [of_some, out_ok]
      cases bindT t x (ρ.set l (some (.own (.lst xs.dropLast)))) <;> rfl
  · rename_i h
    first
      | rfl
      | (split
         · rename_i xs e1
           exact absurd e1 (h xs)
         · rfl)
theorem last_map {α : Type} [DecidableEq α] [Enc α] {xs : List α} {x : α} : ((xs ++ [x]).map (enc : α → PyData)).getLast? = some (enc x) := by
  rw [List.map_append]
  simp
theorem drop_map {α : Type} [DecidableEq α] [Enc α] {xs : List α} {x : α} : ((xs ++ [x]).map (enc : α → PyData)).dropLast = xs.map enc := by
  rw [List.map_append]
  simp
theorem enc_Ls {α : Type} [DecidableEq α] [Enc α] [Fact' (Enc.dp α ≤ 30)] {L : List α} : enc (⟨L⟩ : Ls α) = PyData.list (L.map enc) := nrfl rfl
theorem fold_nd {h : List T3} {L : List P2} : PyData.tuple [enc h, .list (L.map enc)] = enc ((h, ⟨L⟩) : Nd) := nrfl rfl
theorem fold_l3 {a b c : Nat} : PyData.list [enc a, enc b, enc c] = PyData.list ([a, b, c].map enc) := nrfl rfl
theorem left_asc {n : Nat} {p : List T3} : Asc2 (leftOf n p) := fun q hq => (left_iff.mp hq).1.1
theorem dfs_len {n : Nat} : ∀ (k : Nat) (h : List T3) (L : List P2) (q : List T3), Asc2 L → q ∈ dfs n k h L → q.length ≤ h.length + L.length
  | 0, _, _, _, _, hq => by cases hq
  | k + 1, h, [], q, _, hq => by
    have : q = h := by simpa [dfs] using hq
    rw [this]
    exact Nat.le_add_right _ _
  | k + 1, h, q0 :: r, q, ha, hq => by
    unfold dfs at hq
    simp only [List.mem_flatMap] at hq
    obtain ⟨c, _, hq⟩ := hq
    have := dfs_len k _ _ q (ha.filter _) hq
    have hlt := kid_lt (n := n) (r := r) (c := c) (ha q0 List.mem_cons_self)
    rw [List.length_append, List.length_singleton] at this
    omega
theorem v_full_plans {il ip : Nat} (hl : LeftOk Φ il) (hp : PairsOfOk Φ ip) {n : Nat} (hn : n ≤ 9) (p : List T3) (hpl : p.length ≤ 12) (hb : (runN n (p, ⟨leftOf n p⟩)).length ≤ 16000000) : fnv Φ 11 (x_full_plans il ip) [.d (enc n), .d (enc p)] g = .ok (.own (.lst (((runN n (p, ⟨leftOf n p⟩)).map isort).map enc))) g := by
  refine fnv_rt ?_
  show runs Φ (x_full_plans il ip) [some (.d (enc n)), some (.d (enc p)), none, none, none, none, none, none, none, none, none] g = _
  have hlen : (leftOf n p).length ≤ 36 := Nat.le_trans (List.length_filter_le _ _) (pairs_le n hn)
  let st : List (List T3) → List Nd → Env' := fun found line => [some (.d (enc n)), some (.d (enc p)), some (.own (.lst (found.map enc))), some (.own (.lst (line.map enc))), none, none, none, none, none, none, none]
  let tot := runN n (p, ⟨leftOf n p⟩)
  let Inv : Nat → Env' → G → Prop := fun m ρ g' => ∃ found line, ρ = st found line ∧ g' = g ∧ wts line = m ∧ found ++ line.reverse.flatMap (runN n) = tot ∧ (∀ s, s ∈ line → Asc2 s.2.l ∧ s.2.l.length ≤ 36 ∧ s.1.length + s.2.l.length ≤ 48) ∧ ∀ i s, line[i]? = some s → i + 9 * s.2.l.length ≤ 324
  obtain ⟨m', ρ', g', e1, ⟨found, line, rfl, rfl, hm, ht, ha, hi⟩, e2⟩ := run_wh (Φ := Φ) (g := g) (ρ := st [] [(p, ⟨leftOf n p⟩)]) (c := (.o2 .ne (.v 3) (.lst .nil))) (b := (.cons (.popT (.two 4 5) 3) (.cons (.ife (.o2 .eq (.v 5) (.lst .nil)) (.cons (.app 2 (.v 4)) .nil) (.cons (.asgT (.two 6 7) (.ix (.v 5) (.c (enc (0 : Nat))))) (.cons (.fr [] (.one 8) (.rng1 (.v 0)) (.cons (.asg 9 false (.blt .tup (.cons (.blt .sorted (.cons (.lst (.cons (.v 6) (.cons (.v 7) (.cons (.v 8) .nil)))) .nil)) .nil))) (.cons (.ife (.ban (.cons (.o2 .notin (.v 8) (.tup (.cons (.v 6) (.cons (.v 7) .nil)))) (.cons (.blt .all (.cons (.comp (.o2 .inn (.v 10) (.v 5)) (.one 10) (.seq (.call ip (.cons (.v 9) .nil))) .non) .nil)) .nil))) (.cons (.app 3 (.tup (.cons (.o2 .add (.v 4) (.tup (.cons (.v 9) .nil))) (.cons (.comp (.v 10) (.one 10) (.seq (.v 5)) (.som (.o2 .notin (.v 10) (.call ip (.cons (.v 9) .nil))))) .nil)))) .nil) .nil) .nil))) .nil))) .nil))) Inv (wts [(p, ⟨leftOf n p⟩)]) (by
      rw [wts_eq]
      show 10 ^ (leftOf n p).length + 0 < _
      have := Nat.pow_le_pow_right (n := 10) (by decide) hlen
      omega) ⟨[], [(p, ⟨leftOf n p⟩)], rfl, rfl, rfl, by simp [tot], (fun s hs => by
      rw [List.mem_singleton.mp hs]
      exact ⟨left_asc, hlen, by show p.length + (leftOf n p).length ≤ 48; omega⟩), (fun i s hs => by
      match i, hs with
      | 0, hs =>
        have : s = (p, ⟨leftOf n p⟩) := by simpa using hs.symm
        rw [this]
        show 0 + 9 * (leftOf n p).length ≤ 324
        omega
      | i + 1, hs => simp at hs)⟩ (by
      rintro m ρ g' ⟨found, line, rfl, rfl, hm, ht, ha, hi⟩
      refine ⟨!line.isEmpty, by show ev Φ _ [some (.d (enc n)), some (.d (enc p)), some (.own (.lst (found.map enc))), some (.own (.lst (line.map enc))), none, none, none, none, none, none, none] _ = _; dsimp! [], fun hk => ?_⟩
      have hne : line ≠ [] := fun z => by rw [z] at hk; cases hk
      obtain ⟨init, s, rfl⟩ : ∃ init s, line = init ++ [s] := ⟨_, _, (List.dropLast_concat_getLast hne).symm⟩
      obtain ⟨h, ⟨L⟩⟩ := s
      obtain ⟨has, hL36, hhl⟩ := ha (h, ⟨L⟩) (by simp)
      simp only at has hL36 hhl
      have hpos := hi init.length (h, ⟨L⟩) (by rw [List.getElem?_append_right (Nat.le_refl _), Nat.sub_self]; rfl)
      simp only at hpos
      have hfl : found.length ≤ 16000000 := by
        have := congrArg List.length ht
        rw [List.length_append] at this
        have : tot.length ≤ 16000000 := hb
        omega
      rw [List.reverse_append, List.reverse_singleton, List.singleton_append, List.flatMap_cons] at ht
      cases L with
      | nil =>
        refine ⟨wts init, st (found ++ [h]) init, _, by rw [← hm, wts_app]; show _ < _ + (10 ^ 0); omega, ?_, found ++ [h], init, rfl, rfl, rfl, by rw [runN_nil] at ht; rw [← ht, List.append_assoc], fun s hs => ha s (by simp [hs]), fun i s hs => hi i s (by rw [List.getElem?_append_left (List.getElem?_eq_some_iff.mp hs).1]; exact hs)⟩
        show td (runs Φ _ [some (.d (enc n)), some (.d (enc p)), some (.own (.lst (found.map enc))), some (.own (.lst ((init ++ [((h, ⟨[]⟩) : Nd)]).map enc))), none, none, none, none, none, none, none] _) _ _ = .nx [some (.d (enc n)), some (.d (enc p)), some (.own (.lst ((found ++ [h]).map enc))), some (.own (.lst (init.map enc))), none, none, none, none, none, none, none] _
        unfold st
        dsimp! [run_popT', last_map, drop_map, enc_Ls, List.isEmpty_nil]
      | cons q r =>
        have hq := has q List.mem_cons_self
        have hkl : ((List.range n).filter (okC (q :: r) q)).length ≤ 9 := by
          have := List.length_filter_le (okC (q :: r) q) (List.range n)
          rw [List.length_range] at this
          omega
        rw [List.length_cons] at hpos hL36 hhl
        refine ⟨wts (init ++ kids n h (q :: r) q), st found (init ++ kids n h (q :: r) q), _, ?_, ?_, found, init ++ kids n h (q :: r) q, rfl, rfl, rfl, ?_, ?_, ?_⟩
        · rw [← hm, wts_app, wts_app]
          have := wts_kids hn (h := h) (r := r) hq
          show _ + _ < _ + wts [(h, ⟨q :: r⟩)]
          rw [show wts [(h, ⟨q :: r⟩)] = wt (h, ⟨q :: r⟩) from by rw [wts_eq]; rfl]
          omega
        · show td (runs Φ _ [some (.d (enc n)), some (.d (enc p)), some (.own (.lst (found.map enc))), some (.own (.lst ((init ++ [((h, ⟨q :: r⟩) : Nd)]).map enc))), none, none, none, none, none, none, none] _) _ _ = .nx [some (.d (enc n)), some (.d (enc p)), some (.own (.lst (found.map enc))), some (.own (.lst ((init ++ kids n h (q :: r) q).map enc))), none, none, none, none, none, none, none] _
          unfold st
          dsimp! [run_popT', last_map, drop_map, enc_Ls, List.isEmpty_cons, ixL (xs := q :: r) (i := 0) (x := q) rfl]
          rw [run_for (xs := List.range n) (fun l => [some (.d (enc n)), some (.d (enc p)), some (.own (.lst (found.map enc))), some (.own (.lst ((init ++ (l.filter (okC (q :: r) q)).map (kid h (q :: r) q)).map enc))), some (.d (enc h)), some (.d (.list ((q :: r).map enc))), some (.d (enc q.1)), some (.d (enc q.2)), none, none, none])]
          · rw [show ((List.range n).filter (okC (q :: r) q)).map (kid h (q :: r) q) = kids n h (q :: r) q from rfl]
            dsimp! []
          · dsimp! []
          · simp only [List.filter_nil, List.map_nil, List.append_nil]
          · intro l c r2 e
            have hll := pre_len e
            rw [List.length_range] at hll
            have hfl2 := List.length_filter_le (okC (q :: r) q) l
            rw [snoc_if]
            have ht3 : (pairsOf (sort3 q.1 q.2 c)).length ≤ 3 := Nat.le_refl _
            dsimp! [fold_l3, sorted_N, isort3, tup_T3, hp _ _]
            rw [ev_cm (xs := pairsOf (sort3 q.1 q.2 c)) (fun r2 => .bool (mem r2 (q :: r)))]
            · generalize hB : okC (q :: r) q c = B
              have hB' : (!mem c [q.1, q.2] && (pairsOf (sort3 q.1 q.2 c)).all fun r2 => mem r2 (q :: r)) = B := hB
              cases B with
              | false => dsimp! [hB', List.append_nil]
              | true =>
                dsimp! [hB']
                rw [ev_cf (xs := q :: r) (fun s => !mem s (pairsOf (sort3 q.1 q.2 c))) enc]
                · dsimp! [fold_nd, List.append_assoc]
                  rfl
                · dsimp! []
                · rw [List.length_cons]; unfold lim; omega
                · intro s hs
                  exact ⟨_, rfl, by dsimp! [hp _ _], fun _ => ⟨_, by dsimp! []; rfl, rfl⟩⟩
            · dsimp! [hp _ _]
            · show 3 ≤ lim; unfold lim; omega
            · intro r2 hr2
              exact ⟨_, rfl, _, by dsimp! []; rfl, rfl⟩
        · rw [runN_cons n h q r has] at ht
          rw [← ht, List.reverse_append, List.flatMap_append]
        · intro s hs
          rcases List.mem_append.mp hs with hs | hs
          · exact ha s (by simp [hs])
          · unfold kids at hs
            obtain ⟨c, _, rfl⟩ := List.mem_map.mp hs
            have hlt := kid_lt (n := n) (r := r) (c := c) hq
            rw [List.length_cons] at hlt
            unfold kid
            simp only [List.length_append, List.length_singleton]
            exact ⟨has.filter _, by omega, by omega⟩
        · intro i s hs
          by_cases hil : i < init.length
          · rw [List.getElem?_append_left hil] at hs
            exact hi i s (by rw [List.getElem?_append_left hil]; exact hs)
          · rw [List.getElem?_append_right (by omega)] at hs
            have hj := (List.getElem?_eq_some_iff.mp hs).1
            unfold kids at hs hj
            rw [List.length_map] at hj
            obtain ⟨c, _, rfl⟩ := List.mem_map.mp (List.mem_of_getElem? hs)
            have hlt := kid_lt (n := n) (r := r) (c := c) hq
            rw [List.length_cons] at hlt
            unfold kid
            simp only
            omega)
  have e3 : line = [] := by
    have e2 : ev Φ (.o2 .ne (.v 3) (.lst .nil)) [some (.d (enc n)), some (.d (enc p)), some (.own (.lst (found.map enc))), some (.own (.lst (line.map enc))), none, none, none, none, none, none, none] g' = .ok (.d (.bool false)) g' := e2
    cases line with
    | nil => rfl
    | cons t r =>
      have : ev Φ (.o2 .ne (.v 3) (.lst .nil)) [some (.d (enc n)), some (.d (enc p)), some (.own (.lst (found.map enc))), some (.own (.lst ((t :: r).map enc))), none, none, none, none, none, none, none] g' = .ok (.d (.bool true)) g' := by dsimp! []; rfl
      rw [this] at e2
      cases e2
  subst e3
  have ht' : found = tot := by simpa using ht
  subst ht'
  unfold x_full_plans
  dsimp! [hl _ _ _ _ _]
  have e0 : PyData.tuple [enc p, .list ((leftOf n p).map enc)] = enc ((p, ⟨leftOf n p⟩) : Nd) := rfl
  rw [e0]
  have e1' : run Φ _ [some (.d (enc n)), some (.d (enc p)), some (.own (.lst [])), some (.own (.lst [enc ((p, ⟨leftOf n p⟩) : Nd)])), none, none, none, none, none, none, none] g' = .nx [some (.d (enc n)), some (.d (enc p)), some (.own (.lst (tot.map enc))), some (.own (.lst (([] : List Nd).map enc))), none, none, none, none, none, none, none] g' := e1
  rw [e1']
  dsimp! []
  rw [ev_cm (xs := tot) (fun q => enc (isort q))]
  · rw [show (tot.map fun q => enc (isort q)) = (tot.map isort).map enc from by rw [List.map_map]; rfl]
    dsimp! []
    rfl
  · dsimp! []
  · have : tot.length ≤ 16000000 := hb
    unfold lim; omega
  · intro q hq
    have hql : q.length ≤ p.length + (leftOf n p).length := dfs_len _ _ _ q left_asc hq
    have hq2 : q.length ≤ 16777216 := by omega
    exact ⟨_, rfl, .d (enc (isort q)), by dsimp! [sorted_TP hq2], rfl⟩
end TP
/-! How many full plans the search can find at most; which it finds. -/
namespace TP
open PySem L2
open Enc (enc)
variable {Φ : Nat → Fn} {g : G}
def gg (u : Nat) : Nat := [1, 1, 1, 2, 3, 8, 15, 48, 105].getD u 105
def BB (a : Nat) : Nat := [3628800, 34560, 720, 48, 6, 2, 1, 1, 1, 1].getD a 1
/-- pairs of L that begin with a -/
def fst_ (L : List P2) (a : Nat) : Nat := (L.filter fun q => decide (q.1 = a)).length
/-- as the pairs of n players stand -/
structure Lex (L : List P2) : Prop where
  up : L.Pairwise fun p q => p.1 ≤ q.1
  nd : L.Nodup
  asc : Asc2 L
  few : ∀ a, fst_ L a ≤ 8 - a
  lt9 : ∀ q, q ∈ L → q.1 < 9
theorem fst_filter (L : List P2) (p : P2 → Bool) (a : Nat) : fst_ (L.filter p) a ≤ fst_ L a := by
  unfold fst_
  rw [List.filter_filter, ← List.filter_filter]
  have : (L.filter p).filter (fun q => decide (q.1 = a)) = (L.filter fun q => decide (q.1 = a)).filter p := by
    rw [List.filter_filter, List.filter_filter]
    refine List.filter_congr fun x _ => ?_
    rw [Bool.and_comm]
  first
    | (rw [this]; exact List.length_filter_le _ _)
    | (rw [← List.filter_filter, this]; exact List.length_filter_le _ _)
theorem Lex.filter {L : List P2} (h : Lex L) (p : P2 → Bool) : Lex (L.filter p) :=
  ⟨h.up.filter p, h.nd.filter p, h.asc.filter p, fun a => Nat.le_trans (fst_filter L p a) (h.few a), fun q hq => h.lt9 q (List.mem_filter.mp hq).1⟩
theorem gg_mono : ∀ u, u ≤ 8 → ∀ v, v ≤ u → gg v ≤ gg u := by decide
theorem gg_step : ∀ u, u ≤ 8 → 2 ≤ u → (u - 1) * gg (u - 2) ≤ gg u := by decide
theorem BB_step : ∀ a, a < 9 → gg (8 - a) * BB (a + 1) = BB a := by decide
theorem BB_mono : ∀ a, a < 9 → ∀ b, b ≤ a → BB a ≤ BB b := by decide
theorem gg_pos : ∀ u, u ≤ 8 → 1 ≤ gg u := by decide
theorem BB_pos : ∀ a, a ≤ 9 → 1 ≤ BB a := by decide
theorem okC_iff {L : List P2} {q : P2} {c : Nat} : okC L q c = true ↔ c ≠ q.1 ∧ c ≠ q.2 ∧ ∀ r, r ∈ pairsOf (sort3 q.1 q.2 c) → r ∈ L := by
  unfold okC
  rw [Bool.and_eq_true, Bool.not_eq_true', mem_false, List.all_eq_true]
  simp only [List.mem_cons, List.not_mem_nil, or_false, not_or, mem_iff, and_assoc]
theorem sort3_has (x y z : Nat) : ∀ w, has (sort3 x y z) w = true ↔ w = x ∨ w = y ∨ w = z := by
  intro w
  rw [has_iff]
  unfold sort3
  by_cases h1 : y < x
  · rw [if_pos h1]
    split
    · simp only; omega
    · split <;> first | omega | (simp only; omega) | (simp only)
  · rw [if_neg h1]
    split
    · simp only; omega
    · split <;> first | omega | (simp only; omega) | (simp only)
theorem sort3_valid {n x y z : Nat} (hx : x < n) (hy : y < n) (hz : z < n) (h1 : x ≠ y) (h2 : x ≠ z) (h3 : y ≠ z) : valid n (sort3 x y z) := by
  unfold sort3 valid
  by_cases h : y < x
  · rw [if_pos h]
    split
    · simp only; omega
    · split <;> first | omega | (simp only; omega) | (simp only)
  · rw [if_neg h]
    split
    · simp only; omega
    · split <;> first | omega | (simp only; omega) | (simp only)
theorem sort3_mem (x y z : Nat) {a b : Nat} (ha : a = x ∨ a = y ∨ a = z) (hb : b = x ∨ b = y ∨ b = z) (hx : x ≠ y) (hy : x ≠ z) (hz : y ≠ z) (hab : a < b) : (a, b) ∈ pairsOf (sort3 x y z) := by
  have hv : valid (x + y + z + 1) (sort3 x y z) := sort3_valid (by omega) (by omega) (by omega) hx hy hz
  exact (pair_mem hv hab).mpr ⟨(sort3_has x y z a).mpr ha, (sort3_has x y z b).mpr hb⟩
theorem count_inj {cs : List Nat} {A : List P2} {a b : Nat} (hA : A.Nodup) (hb : (a, b) ∈ A) (hcs : cs.Nodup) (h : ∀ c, c ∈ cs → c ≠ b ∧ (a, c) ∈ A) : cs.length + 1 ≤ A.length := by
  have hn : (((a, b) : P2) :: cs.map fun c => ((a, c) : P2)).Nodup := by
    rw [List.nodup_cons]
    refine ⟨fun z => ?_, ?_⟩
    · obtain ⟨c, hc, e⟩ := List.mem_map.mp z
      exact (h c hc).1 (Prod.mk.inj e).2
    · rw [List.nodup_iff_pairwise_ne, List.pairwise_map]
      exact hcs.imp fun {x y} hxy e => hxy (Prod.mk.inj e).2
  have hs : ∀ x, x ∈ (((a, b) : P2) :: cs.map fun c => ((a, c) : P2)) → x ∈ A := by
    intro x hx
    rcases List.mem_cons.mp hx with rfl | hx
    · exact hb
    · obtain ⟨c, hc, rfl⟩ := List.mem_map.mp hx
      exact (h c hc).2
  have := filter_count hA hn hs
  simp only [List.length_cons, List.length_map] at this
  omega
theorem flat_len' {α β : Type} (f : α → List β) (k : Nat) : ∀ l : List α, (∀ x, x ∈ l → (f x).length ≤ k) → (l.flatMap f).length ≤ l.length * k
  | [], _ => Nat.zero_le _
  | x :: l, h => by
    have := flat_len' f k l fun y hy => h y (List.mem_cons_of_mem _ hy)
    have := h x List.mem_cons_self
    rw [List.flatMap_cons, List.length_append, List.length_cons, Nat.succ_mul]
    omega
theorem dfs_few {n : Nat} : ∀ (k : Nat) (h : List T3) (L : List P2) (a : Nat), Lex L → a < 9 → (∀ q, q ∈ L → a ≤ q.1) → (dfs n k h L).length ≤ gg (fst_ L a) * BB (a + 1)
  | 0, _, _, _, _, _, _ => Nat.zero_le _
  | k + 1, h, [], a, hL, ha, _ => by
    have h1 := gg_pos (fst_ [] a) (by have := hL.few a; omega)
    have h2 := BB_pos (a + 1) (by omega)
    show 1 ≤ _
    exact Nat.mul_pos h1 h2
  | k + 1, h, q :: r, a, hL, ha, hmin => by
    have key : ∀ a, a < 9 → (∀ q', q' ∈ q :: r → a ≤ q'.1) → q.1 = a → (dfs n (k + 1) h (q :: r)).length ≤ gg (fst_ (q :: r) a) * BB (a + 1) := by
      intro a ha hmin hqa
      have hu := hL.few a
      have hq12 := hL.asc q List.mem_cons_self
      let A := (q :: r).filter fun s => decide (s.1 = a)
      have hA : A.length = fst_ (q :: r) a := rfl
      have hqA : (a, q.2) ∈ A := List.mem_filter.mpr ⟨by rw [← hqa]; exact List.mem_cons_self, decide_eq_true rfl⟩
      have hcs : ∀ c, c ∈ ((List.range n).filter (okC (q :: r) q)) → c ≠ q.2 ∧ (a, c) ∈ A := by
        intro c hc
        obtain ⟨c1, c2, c3⟩ := okC_iff.mp (List.mem_filter.mp hc).2
        refine ⟨c2, List.mem_filter.mpr ⟨?_, decide_eq_true rfl⟩⟩
        rcases Nat.lt_or_gt_of_ne c1 with hl | hl
        · have := c3 (c, q.1) (sort3_mem _ _ _ (.inr (.inr rfl)) (.inl rfl) (by omega) (fun e => c1 e.symm) (fun e => c2 e.symm) hl)
          have := hmin _ this
          simp only at this
          omega
        · have := c3 (q.1, c) (sort3_mem _ _ _ (.inl rfl) (.inr (.inr rfl)) (by omega) (fun e => c1 e.symm) (fun e => c2 e.symm) hl)
          rwa [hqa] at this
      have hlen := count_inj (hL.nd.filter _) hqA (List.nodup_range.filter _) hcs
      have hkids : (dfs n (k + 1) h (q :: r)).length ≤ ((List.range n).filter (okC (q :: r) q)).length * (gg (fst_ (q :: r) a - 2) * BB (a + 1)) := by
        unfold dfs
        simp only
        rw [← List.length_reverse (as := (List.range n).filter (okC (q :: r) q))]
        refine flat_len' _ _ _ fun c hc => ?_
        rw [List.mem_reverse] at hc
        obtain ⟨c2, hcA⟩ := hcs c hc
        obtain ⟨c1, c2', c3⟩ := okC_iff.mp (List.mem_filter.mp hc).2
        have ih := dfs_few (n := n) k (h ++ [sort3 q.1 q.2 c]) ((q :: r).filter fun s => !mem s (pairsOf (sort3 q.1 q.2 c))) a (hL.filter _) ha fun q' hq' => hmin q' (List.mem_filter.mp hq').1
        refine Nat.le_trans ih (Nat.mul_le_mul_right _ (gg_mono _ (by omega) _ ?_))
        have hac : a < c := by
          have := hL.asc _ (List.mem_filter.mp hcA).1
          exact this
        have hsub : fst_ ((q :: r).filter fun s => !mem s (pairsOf (sort3 q.1 q.2 c))) a + 2 ≤ A.length := by
          have e : ((q :: r).filter fun s => !mem s (pairsOf (sort3 q.1 q.2 c))).filter (fun s => decide (s.1 = a)) = A.filter fun s => !mem s (pairsOf (sort3 q.1 q.2 c)) := by
            rw [List.filter_filter, List.filter_filter]
            refine List.filter_congr fun x _ => ?_
            rw [Bool.and_comm]
          have e2 := filter_two (fun s => mem s (pairsOf (sort3 q.1 q.2 c))) A
          have : 2 ≤ (A.filter fun s => mem s (pairsOf (sort3 q.1 q.2 c))).length := by
            have hs : ∀ x, x ∈ [((a, q.2) : P2), (a, c)] → x ∈ A.filter fun s => mem s (pairsOf (sort3 q.1 q.2 c)) := by
              intro x hx
              simp only [List.mem_cons, List.not_mem_nil, or_false] at hx
              rcases hx with rfl | rfl
              · exact List.mem_filter.mpr ⟨hqA, mem_iff.mpr (sort3_mem _ _ _ (.inl hqa.symm) (.inr (.inl rfl)) (by omega) (fun e => c1 e.symm) (fun e => c2 e.symm) (by omega))⟩
              · exact List.mem_filter.mpr ⟨hcA, mem_iff.mpr (sort3_mem _ _ _ (.inl hqa.symm) (.inr (.inr rfl)) (by omega) (fun e => c1 e.symm) (fun e => c2 e.symm) hac)⟩
            have hn2 : [((a, q.2) : P2), (a, c)].Nodup := by
              simp only [List.nodup_cons, List.mem_cons, List.not_mem_nil, or_false, Prod.mk.injEq, true_and, not_false_eq_true, List.nodup_nil, and_true]
              exact fun e => c2 e.symm
            have := filter_count ((hL.nd.filter fun s => decide (s.1 = a)).filter _) hn2 hs
            simp only [List.length_cons, List.length_nil] at this
            show 2 ≤ (((q :: r).filter fun s => decide (s.1 = a)).filter fun s => mem s (pairsOf (sort3 q.1 q.2 c))).length
            omega
          unfold fst_
          rw [e]
          omega
        omega
      refine Nat.le_trans hkids ?_
      by_cases h2 : 2 ≤ fst_ (q :: r) a
      · have s1 := gg_step (fst_ (q :: r) a) (by omega) h2
        have s2 : ((List.range n).filter (okC (q :: r) q)).length * gg (fst_ (q :: r) a - 2) ≤ (fst_ (q :: r) a - 1) * gg (fst_ (q :: r) a - 2) := Nat.mul_le_mul_right _ (by have : fst_ (q :: r) a = ((q :: r).filter fun s => decide (s.1 = a)).length := rfl; omega)
        rw [← Nat.mul_assoc]
        exact Nat.mul_le_mul_right _ (Nat.le_trans s2 s1)
      · have : ((List.range n).filter (okC (q :: r) q)).length = 0 := by rw [hA] at hlen; omega
        rw [this, Nat.zero_mul]
        exact Nat.zero_le _
    by_cases hqa : q.1 = a
    · exact key a ha hmin hqa
    · have hq := hmin q List.mem_cons_self
      have hq9 := hL.lt9 q List.mem_cons_self
      have := key q.1 hq9 (fun q' hq' => by
        rcases List.mem_cons.mp hq' with rfl | hq'
        · exact Nat.le_refl _
        · exact (List.pairwise_cons.mp hL.up).1 q' hq') rfl
      refine Nat.le_trans this ?_
      have hu := hL.few q.1
      have b1 := gg_mono (8 - q.1) (by omega) (fst_ (q :: r) q.1) hu
      have b2 := BB_step q.1 hq9
      have b3 : gg (fst_ (q :: r) q.1) * BB (q.1 + 1) ≤ BB q.1 := by rw [← b2]; exact Nat.mul_le_mul_right _ b1
      have b4 := BB_mono q.1 hq9 (a + 1) (by omega)
      have b5 := gg_pos (fst_ (q :: r) a) (by have := hL.few a; omega)
      have : BB (a + 1) ≤ gg (fst_ (q :: r) a) * BB (a + 1) := Nat.le_mul_of_pos_left _ b5
      omega
theorem lex_all : ∀ n, n ≤ 9 → Lex (allPairs n) := by
  intro n hn
  have k1 : ((List.range 10).all fun n => decide ((allPairs n).Pairwise fun p q => p.1 ≤ q.1)) = true := by decide +kernel
  have k2 : ((List.range 10).all fun n => (List.range 9).all fun a => decide (fst_ (allPairs n) a ≤ 8 - a)) = true := by decide +kernel
  rw [List.all_eq_true] at k1 k2
  have hn' : n ∈ List.range 10 := by rw [List.mem_range]; omega
  have k3 := k2 n hn'
  rw [List.all_eq_true] at k3
  refine ⟨of_decide_eq_true (k1 n hn'), pairs_nd n, fun q hq => (mem_pairs.mp hq).1, fun a => ?_, fun q hq => by have := mem_pairs.mp hq; omega⟩
  by_cases ha : a < 9
  · exact of_decide_eq_true (k3 a (by rw [List.mem_range]; exact ha))
  · have : fst_ (allPairs n) a = 0 := by
      unfold fst_
      rw [List.length_eq_zero_iff, List.filter_eq_nil_iff]
      intro q hq
      have := mem_pairs.mp hq
      rw [decide_eq_true_eq]
      omega
    omega
theorem full_few {n : Nat} (hn : n ≤ 9) (p : List T3) : (runN n (p, ⟨leftOf n p⟩)).length ≤ 16000000 := by
  have hL : Lex (leftOf n p) := (lex_all n hn).filter _
  have hd := dfs_few (n := n) ((leftOf n p).length + 1) p (leftOf n p) 0 hL (by decide) fun q _ => Nat.zero_le _
  have h8 := gg_mono 8 (by decide) (fst_ (leftOf n p) 0) (hL.few 0)
  have e : gg 8 * BB 1 = 3628800 := by decide
  have := Nat.mul_le_mul_right (BB 1) h8
  have h0 : BB (0 + 1) = BB 1 := rfl
  rw [h0] at hd
  have : (dfs n ((leftOf n p).length + 1) p (leftOf n p)).length ≤ 16000000 := by omega
  exact this
def FullPlansOk (Φ : Nat → Fn) (i : Nat) : Prop := ∀ (n : Nat) (p : List T3) (g : G), n ≤ 9 → p.length ≤ 12 → Φ i [.d (enc n), .d (enc p)] g = .ok (.own (.lst (((runN n (p, ⟨leftOf n p⟩)).map isort).map enc))) g
end TP
namespace TP
open PySem L2
open Enc (enc)
variable {Φ : Nat → Fn} {g : G}
/-! what the search finds -/
/-- a full plan, in any order -/
def IsFull (n : Nat) (q : List T3) : Prop := Apart3 n q ∧ leftOf n q = []
theorem left_snoc {n : Nat} {h : List T3} {t : T3} : leftOf n (h ++ [t]) = (leftOf n h).filter fun r => !mem r (pairsOf t) := by
  unfold leftOf
  rw [List.filter_filter]
  refine List.filter_congr fun x _ => ?_
  have e : mem x (met (h ++ [t])) = (mem x (met h) || mem x (pairsOf t)) := by
    rw [met_app, Bool.eq_iff_iff, Bool.or_eq_true, mem_iff, mem_iff, mem_iff, List.mem_append]
    unfold met
    simp
  rw [e, Bool.not_or, Bool.and_comm]
theorem okC_snoc {n : Nat} {h : List T3} {q : P2} {r : List P2} {c : Nat} (ha : Apart3 n h) (hl : leftOf n h = q :: r) (hc : okC (q :: r) q c = true) (hcn : c < n) : Apart3 n (h ++ [sort3 q.1 q.2 c]) ∧ leftOf n (h ++ [sort3 q.1 q.2 c]) = (q :: r).filter fun s => !mem s (pairsOf (sort3 q.1 q.2 c)) := by
  obtain ⟨c1, c2, c3⟩ := okC_iff.mp hc
  have hq := left_iff.mp (show q ∈ leftOf n h by rw [hl]; exact List.mem_cons_self)
  have hv : valid n (sort3 q.1 q.2 c) := sort3_valid (by omega) (by omega) hcn (by omega) (fun e => c1 e.symm) (fun e => c2 e.symm)
  refine ⟨ha.snoc hv fun s hs => ?_, by rw [left_snoc, hl]⟩
  rw [← Bool.not_eq_true, clash_iff (ha.val s hs) hv]
  rintro ⟨x, h1, h2⟩
  have := c3 x h2
  rw [← hl, left_iff] at this
  exact this.2 (mem_met.mpr ⟨s, hs, h1⟩)
theorem dfs_sound {n : Nat} : ∀ (k : Nat) (h : List T3) (L : List P2) (q : List T3), Apart3 n h → leftOf n h = L → q ∈ dfs n k h L → IsFull n q ∧ ∀ s, s ∈ h → s ∈ q
  | 0, _, _, _, _, _, hq => by cases hq
  | k + 1, h, [], q, ha, hl, hq => by
    have : q = h := by simpa [dfs] using hq
    subst this
    exact ⟨⟨ha, hl⟩, fun s hs => hs⟩
  | k + 1, h, q0 :: r, q, ha, hl, hq => by
    unfold dfs at hq
    simp only [List.mem_flatMap, List.mem_reverse, List.mem_filter, List.mem_range] at hq
    obtain ⟨c, ⟨hcn, hc⟩, hq⟩ := hq
    obtain ⟨h1, h2⟩ := okC_snoc ha hl hc hcn
    obtain ⟨h3, h4⟩ := dfs_sound k _ _ q h1 h2 hq
    exact ⟨h3, fun s hs => h4 s (List.mem_append_left _ hs)⟩
/-- two threes of a plan with a common pair are one -/
theorem one_pair {n : Nat} {q : List T3} (h : Apart3 n q) {s t : T3} (hs : s ∈ q) (ht : t ∈ q) {x : P2} (h1 : x ∈ pairsOf s) (h2 : x ∈ pairsOf t) : s = t := by
  by_cases e : s = t
  · exact e
  · have := h.nc s hs t ht e
    rw [(clash_iff (h.val s hs) (h.val t ht)).mpr ⟨x, h1, h2⟩] at this
    cases this
theorem third {n : Nat} {t : T3} (hv : valid n t) {a b : Nat} (hab : a < b) (ha : has t a = true) (hb : has t b = true) : ∃ c, c < n ∧ c ≠ a ∧ c ≠ b ∧ t = sort3 a b c := by
  rw [has_iff] at ha hb
  unfold valid at hv
  have e : ∀ x y z, x < y → y < z → sort3 x y z = ⟨x, y, z⟩ ∧ sort3 x z y = ⟨x, y, z⟩ ∧ sort3 y z x = ⟨x, y, z⟩ := by
    intro x y z h1 h2
    unfold sort3
    refine ⟨?_, ?_, ?_⟩
    · rw [if_neg (by omega), if_neg (by omega), if_neg (by omega)]
    · rw [if_neg (by omega), if_neg (by omega), if_pos (by omega)]
    · rw [if_neg (by omega), if_pos (by omega)]
  obtain ⟨e1, e2, e3⟩ := e t.a t.b t.c hv.1 hv.2.1
  rcases ha with rfl | rfl | rfl
  · rcases hb with rfl | rfl | rfl
    · omega
    · exact ⟨t.c, by omega, by omega, by omega, e1.symm⟩
    · exact ⟨t.b, by omega, by omega, by omega, e2.symm⟩
  · rcases hb with rfl | rfl | rfl
    · omega
    · omega
    · exact ⟨t.a, by omega, by omega, by omega, e3.symm⟩
  · omega
theorem dfs_complete {n : Nat} {q : List T3} (hq : IsFull n q) : ∀ (k : Nat) (h : List T3) (L : List P2), Apart3 n h → leftOf n h = L → L.length < k → (∀ s, s ∈ h → s ∈ q) → ∃ r, r ∈ dfs n k h L ∧ ∀ s, s ∈ r ↔ s ∈ q
  | 0, _, _, _, _, hk, _ => absurd hk (Nat.not_lt_zero _)
  | k + 1, h, [], ha, hl, _, hs => by
    refine ⟨h, by simp [dfs], fun s => ⟨hs s, fun hsq => ?_⟩⟩
    have hv := hq.1.val s hsq
    have hp : (s.a, s.b) ∈ pairsOf s := by simp [pairsOf]
    have : (s.a, s.b) ∈ met h := by
      by_cases e : (s.a, s.b) ∈ met h
      · exact e
      · have hlt := pair_lt hv hp
        have : (s.a, s.b) ∈ leftOf n h := left_iff.mpr ⟨hlt, e⟩
        rw [hl] at this
        cases this
    obtain ⟨t, ht, h2⟩ := mem_met.mp this
    rw [one_pair hq.1 hsq (hs t ht) hp h2]
    exact ht
  | k + 1, h, q0 :: r, ha, hl, hk, hs => by
    have h0 := left_iff.mp (show q0 ∈ leftOf n h by rw [hl]; exact List.mem_cons_self)
    have : q0 ∈ met q := by
      by_cases e : q0 ∈ met q
      · exact e
      · have : q0 ∈ leftOf n q := left_iff.mpr ⟨h0.1, e⟩
        rw [hq.2] at this
        cases this
    obtain ⟨t, ht, h2⟩ := mem_met.mp this
    have hv := hq.1.val t ht
    obtain ⟨b1, b2⟩ := (pair_mem hv h0.1.1).mp h2
    obtain ⟨c, hcn, hca, hcb, rfl⟩ := third hv h0.1.1 b1 b2
    have hok : okC (q0 :: r) q0 c = true := by
      refine okC_iff.mpr ⟨hca, hcb, fun x hx => ?_⟩
      rw [← hl]
      refine left_iff.mpr ⟨pair_lt hv hx, fun z => ?_⟩
      obtain ⟨s, hsh, hxs⟩ := mem_met.mp z
      have e := one_pair hq.1 (hs s hsh) ht hxs hx
      exact h0.2 (mem_met.mpr ⟨s, hsh, by rw [e]; exact h2⟩)
    obtain ⟨h3, h4⟩ := okC_snoc ha hl hok hcn
    have hlt := kid_lt (n := n) (r := r) (c := c) h0.1.1
    obtain ⟨r', hr', hm⟩ := dfs_complete hq k _ _ h3 h4 (by omega) fun s hsm => by
      rcases List.mem_append.mp hsm with z | z
      · exact hs s z
      · rw [List.mem_singleton.mp z]; exact ht
    refine ⟨r', ?_, hm⟩
    unfold dfs
    simp only [List.mem_flatMap, List.mem_reverse, List.mem_filter, List.mem_range]
    exact ⟨c, ⟨hcn, hok⟩, hr'⟩
theorem nodup_flat {β γ : Type} (f : β → List γ) : ∀ l : List β, l.Nodup → (∀ c, c ∈ l → (f c).Nodup) → (∀ c, c ∈ l → ∀ d, d ∈ l → c ≠ d → ∀ x, x ∈ f c → x ∉ f d) → (l.flatMap f).Nodup
  | [], _, _, _ => List.nodup_nil
  | c :: l, hn, h1, h2 => by
    obtain ⟨hc, hn⟩ := List.nodup_cons.mp hn
    rw [List.flatMap_cons, List.nodup_append]
    refine ⟨h1 c List.mem_cons_self, nodup_flat f l hn (fun d hd => h1 d (List.mem_cons_of_mem _ hd)) fun d hd e he => h2 d (List.mem_cons_of_mem _ hd) e (List.mem_cons_of_mem _ he), fun x hx y hy e => ?_⟩
    subst e
    obtain ⟨d, hd, hxd⟩ := List.mem_flatMap.mp hy
    exact h2 c List.mem_cons_self d (List.mem_cons_of_mem _ hd) (fun e => hc (e ▸ hd)) x hx hxd
theorem dfs_nodup {n : Nat} : ∀ (k : Nat) (h : List T3) (L : List P2), Apart3 n h → leftOf n h = L → ((dfs n k h L).map isort).Nodup
  | 0, _, _, _, _ => List.nodup_nil
  | k + 1, h, [], _, _ => by simp [dfs]
  | k + 1, h, q0 :: r, ha, hl => by
    have h0 := left_iff.mp (show q0 ∈ leftOf n h by rw [hl]; exact List.mem_cons_self)
    unfold dfs
    simp only
    rw [List.map_flatMap]
    have hcs : ∀ c, c ∈ ((List.range n).filter (okC (q0 :: r) q0)).reverse → c < n ∧ okC (q0 :: r) q0 c = true := fun c hc => by
      rw [List.mem_reverse, List.mem_filter, List.mem_range] at hc
      exact hc
    refine nodup_flat _ _ ((List.reverse_perm _).nodup_iff.mpr (List.nodup_range.filter _)) (fun c hc => ?_) fun c hc d hd hne x hx hxd => ?_
    · obtain ⟨hcn, hok⟩ := hcs c hc
      obtain ⟨h3, h4⟩ := okC_snoc ha hl hok hcn
      exact dfs_nodup k _ _ h3 h4
    · obtain ⟨hcn, hok⟩ := hcs c hc
      obtain ⟨hdn, hokd⟩ := hcs d hd
      obtain ⟨h3, h4⟩ := okC_snoc ha hl hok hcn
      obtain ⟨h5, h6⟩ := okC_snoc ha hl hokd hdn
      obtain ⟨u, hu, rfl⟩ := List.mem_map.mp hx
      obtain ⟨v, hv, e⟩ := List.mem_map.mp hxd
      obtain ⟨⟨hfu, _⟩, hsu⟩ := dfs_sound k _ _ u h3 h4 hu
      obtain ⟨_, hsv⟩ := dfs_sound k _ _ v h5 h6 hv
      have t1 : sort3 q0.1 q0.2 c ∈ u := hsu _ (by simp)
      have t2 : sort3 q0.1 q0.2 d ∈ u := by
        have : sort3 q0.1 q0.2 d ∈ v := hsv _ (by simp)
        rw [← mem_isort, ← e, mem_isort]
        exact this
      obtain ⟨c1, c2, _⟩ := okC_iff.mp hok
      obtain ⟨d1, d2, _⟩ := okC_iff.mp hokd
      have p1 := sort3_mem q0.1 q0.2 c (a := q0.1) (b := q0.2) (.inl rfl) (.inr (.inl rfl)) (by omega) (fun e => c1 e.symm) (fun e => c2 e.symm) h0.1.1
      have p2 := sort3_mem q0.1 q0.2 d (a := q0.1) (b := q0.2) (.inl rfl) (.inr (.inl rfl)) (by omega) (fun e => d1 e.symm) (fun e => d2 e.symm) h0.1.1
      have eq := one_pair hfu t1 t2 p1 p2
      have hc3 : has (sort3 q0.1 q0.2 d) c = true := by rw [← eq]; exact (sort3_has _ _ _ c).mpr (.inr (.inr rfl))
      rcases (sort3_has _ _ _ c).mp hc3 with z | z | z
      · exact c1 z
      · exact c2 z
      · exact hne z
/-- the full plans that contain a plan -/
def fullsOf (n : Nat) (p : List T3) : List (List T3) := (runN n (p, ⟨leftOf n p⟩)).map isort
theorem fulls_nodup {n : Nat} {p : List T3} (hp : Apart3 n p) : (fullsOf n p).Nodup := dfs_nodup _ _ _ hp rfl
theorem mem_fulls {n : Nat} {p q : List T3} (hp : Apart3 n p) : q ∈ fullsOf n p ↔ IsFull n q ∧ Sorted q ∧ ∀ s, s ∈ p → s ∈ q := by
  unfold fullsOf
  rw [List.mem_map]
  constructor
  · rintro ⟨u, hu, rfl⟩
    obtain ⟨⟨h1, h2⟩, h3⟩ := dfs_sound _ _ _ u hp rfl hu
    have hpm := (isort_perm u).symm
    refine ⟨⟨h1.perm hpm, ?_⟩, isort_sorted h1.nd, fun s hs => mem_isort.mpr (h3 s hs)⟩
    rw [← h2]
    unfold leftOf
    refine List.filter_congr fun x _ => ?_
    congr 1
    rw [Bool.eq_iff_iff, mem_iff, mem_iff, mem_met, mem_met]
    exact ⟨fun ⟨t, a, b⟩ => ⟨t, mem_isort.mp a, b⟩, fun ⟨t, a, b⟩ => ⟨t, mem_isort.mpr a, b⟩⟩
  · rintro ⟨h1, h2, h3⟩
    obtain ⟨r, hr, hm⟩ := dfs_complete h1 ((leftOf n p).length + 1) p (leftOf n p) hp rfl (Nat.lt_succ_self _) h3
    refine ⟨r, hr, ?_⟩
    obtain ⟨⟨h5, _⟩, _⟩ := dfs_sound _ _ _ r hp rfl hr
    exact sorted_ext (isort_sorted h5.nd) h2 fun x => by rw [mem_isort]; exact hm x
end TP
/-! Renaming keeps full plans; count_full, full_plan. -/
namespace TP
open PySem L2
open Enc (enc)
variable {Φ : Nat → Fn} {g : G}
/-! the order of plans -/
theorem tlt_self {α : Type} [DecidableEq α] [Enc α] (x y : α) : tlt x y = (cmp3 (enc x) (enc y) == .lt) := rfl
theorem cmp_T3 (s t : T3) : cmp3 (enc s) (enc t) = ((compare s.a t.a).then ((compare s.b t.b).then ((compare s.c t.c).then .eq))) := by
  show cmp3 (.tuple [enc s.a, enc s.b, enc s.c]) (.tuple [enc t.a, enc t.b, enc t.c]) = _
  simp only [cmp3, cmpAll3, cmp_int]
theorem cmp_T3' (s t : T3) : cmp3 (enc s) (enc t) = if tlt s t then .lt else if s = t then .eq else .gt := by
  cases h : cmp3 (enc s) (enc t) with
  | lt => rw [tlt_self, h]; rfl
  | eq =>
    rw [tlt_self, h]
    have e : s = t := by
      rw [cmp_T3, cmp_nat, cmp_nat, cmp_nat] at h
      rw [T3.ext_iff]
      by_cases h1 : s.a < t.a
      · simp [h1] at h
      · by_cases h2 : s.a = t.a
        · by_cases h3 : s.b < t.b
          · simp [h1, h2, h3] at h
          · by_cases h4 : s.b = t.b
            · by_cases h5 : s.c < t.c
              · simp [h1, h2, h3, h4, h5] at h
              · by_cases h6 : s.c = t.c
                · exact ⟨h2, h4, h6⟩
                · simp [h1, h2, h3, h4, h5, h6] at h
            · simp [h1, h2, h3, h4] at h
        · simp [h1, h2] at h
    rw [if_pos e]
    rfl
  | gt =>
    rw [tlt_self, h]
    have e : s ≠ t := by
      rintro rfl
      rw [cmp_T3, cmp_nat, cmp_nat, cmp_nat] at h
      simp at h
    rw [if_neg e]
    rfl
theorem tltP_cons (x y : T3) (xs ys : List T3) : tlt (x :: xs) (y :: ys) = (tlt x y || (decide (x = y) && tlt xs ys)) := by
  show (cmp3 (.tuple ((x :: xs).map enc)) (.tuple ((y :: ys).map enc)) == .lt) = _
  have e : (cmp3 (.tuple (xs.map enc)) (.tuple (ys.map enc)) == .lt) = tlt xs ys := rfl
  simp only [cmp3] at e ⊢
  rw [List.map_cons, List.map_cons]
  simp only [cmpAll3, cmp_T3']
  by_cases h1 : tlt x y = true
  · rw [if_pos h1, h1]; rfl
  · rw [if_neg h1]
    have h1' : tlt x y = false := by simpa using h1
    by_cases h2 : x = y
    · rw [if_pos h2, h1', decide_eq_true h2]
      exact e
    · rw [if_neg h2, h1', decide_eq_false h2]; rfl
theorem tltP_nil (y : T3) (ys : List T3) : tlt ([] : List T3) (y :: ys) = true := rfl
theorem tltP_nilr (xs : List T3) : tlt xs ([] : List T3) = false := by cases xs <;> rfl
theorem tltP_irr : ∀ xs : List T3, tlt xs xs = false
  | [] => rfl
  | x :: xs => by rw [tltP_cons, tlt_irr, tltP_irr xs]; simp
theorem tltP_trans : ∀ {xs ys zs : List T3}, tlt xs ys = true → tlt ys zs = true → tlt xs zs = true
  | [], ys, z :: zs, _, _ => rfl
  | xs, ys, [], _, h => by rw [tltP_nilr] at h; cases h
  | xs, [], z :: zs, h, _ => by rw [tltP_nilr] at h; cases h
  | x :: xs, y :: ys, z :: zs, h, k => by
    rw [tltP_cons, Bool.or_eq_true, Bool.and_eq_true, decide_eq_true_eq] at *
    rcases h with h | ⟨rfl, h⟩
    · rcases k with k | ⟨rfl, k⟩
      · exact .inl (tlt_trans h k)
      · exact .inl h
    · rcases k with k | ⟨rfl, k⟩
      · exact .inl k
      · exact .inr ⟨rfl, tltP_trans h k⟩
theorem tltP_tot : ∀ {xs ys : List T3}, tlt xs ys = false → xs = ys ∨ tlt ys xs = true
  | [], [], _ => .inl rfl
  | [], y :: ys, h => by cases h
  | x :: xs, [], _ => .inr rfl
  | x :: xs, y :: ys, h => by
    rw [tltP_cons, Bool.or_eq_false_iff] at h
    obtain ⟨h1, h2⟩ := h
    rw [tltP_cons]
    rcases tlt_tot h1 with rfl | h3
    · rw [decide_eq_true rfl, Bool.true_and] at h2
      rcases tltP_tot h2 with rfl | h4
      · exact .inl rfl
      · exact .inr (by rw [h4, decide_eq_true rfl]; simp)
    · exact .inr (by rw [h3]; rfl)
/-- the least -/
def leastP (m : List T3) : List (List T3) → List T3
  | [] => m
  | y :: r => if tlt y m then leastP y r else leastP m r
theorem least_map (m : List T3) : ∀ xs : List (List T3), least (enc m) (xs.map enc) = enc (leastP m xs)
  | [] => rfl
  | y :: r => by
    rw [List.map_cons]
    unfold least leastP
    show (if tlt y m = true then _ else _) = _
    split
    · exact least_map y r
    · exact least_map m r
theorem leastP_mem : ∀ (xs : List (List T3)) (m : List T3), leastP m xs = m ∨ leastP m xs ∈ xs
  | [], m => .inl rfl
  | y :: r, m => by
    unfold leastP
    split
    · rcases leastP_mem r y with h | h
      · exact .inr (by rw [h]; exact List.mem_cons_self)
      · exact .inr (List.mem_cons_of_mem _ h)
    · rcases leastP_mem r m with h | h
      · exact .inl h
      · exact .inr (List.mem_cons_of_mem _ h)
theorem leastP_le : ∀ (xs : List (List T3)) (m : List T3), tlt m (leastP m xs) = false ∧ ∀ x, x ∈ xs → tlt x (leastP m xs) = false
  | [], m => ⟨tltP_irr m, fun x h => by cases h⟩
  | y :: r, m => by
    unfold leastP
    split
    · rename_i hy
      obtain ⟨h1, h2⟩ := leastP_le r y
      refine ⟨?_, fun x hx => ?_⟩
      · rw [← Bool.not_eq_true]
        intro z
        rw [tltP_trans hy z] at h1
        cases h1
      · rcases List.mem_cons.mp hx with rfl | hx
        · exact h1
        · exact h2 x hx
    · rename_i hy
      obtain ⟨h1, h2⟩ := leastP_le r m
      refine ⟨h1, fun x hx => ?_⟩
      rcases List.mem_cons.mp hx with rfl | hx
      · rw [← Bool.not_eq_true]
        intro z
        have hy' : tlt x m = false := by simpa using hy
        rcases tltP_tot hy' with rfl | h3
        · rw [z] at h1; cases h1
        · rw [tltP_trans h3 z] at h1; cases h1
      · exact h2 x hx
/-- the first of the sorted ones is the least -/
theorem isort_head {m : List T3} {xs : List (List T3)} : (isort (m :: xs))[0]? = some (leastP m xs) := by
  have key : ∀ l : List (List T3), ∀ h, h ∈ (isort l)[0]? → ∀ x, x ∈ l → tlt x h = false := by
    intro l
    induction l with
    | nil => intro h _ x hx; cases hx
    | cons y r ih =>
      intro h hh x hx
      unfold isort at hh
      cases e : isort r with
      | nil =>
        rw [e] at hh
        have : h = y := by simpa [tins] using hh.symm
        subst this
        have hr : r = [] := List.Perm.eq_nil (by rw [← e]; exact (isort_perm r).symm)
        subst hr
        rw [List.mem_singleton.mp hx]
        exact tltP_irr _
      | cons z zs =>
        have hz : ∀ x, x ∈ r → tlt x z = false := ih z (by rw [e]; rfl)
        rw [e] at hh
        unfold tins at hh
        split at hh
        · rename_i hzy
          have : h = z := by simpa using hh.symm
          subst this
          rcases List.mem_cons.mp hx with rfl | hx
          · rw [← Bool.not_eq_true]
            intro w
            have := tltP_trans hzy w
            rw [tltP_irr] at this
            cases this
          · exact hz x hx
        · rename_i hzy
          have : h = y := by simpa using hh.symm
          subst this
          rcases List.mem_cons.mp hx with rfl | hx
          · exact tltP_irr _
          · have hzy' : tlt z h = false := by simpa using hzy
            rw [← Bool.not_eq_true]
            intro w
            have h5 := hz x hx
            rcases tltP_tot hzy' with rfl | h3
            · rw [w] at h5; cases h5
            · rw [tltP_trans w h3] at h5; cases h5
  have hlen : 0 < (isort (m :: xs)).length := by rw [isort_len]; simp
  obtain ⟨h, hh⟩ : ∃ h, (isort (m :: xs))[0]? = some h := ⟨_, List.getElem?_eq_getElem hlen⟩
  rw [hh]
  have h1 := key (m :: xs) h (by rw [hh]; rfl)
  have hmem : h ∈ m :: xs := (isort_perm _).mem_iff.mp (List.mem_of_getElem? hh)
  have hl := leastP_le xs m
  have hlm : leastP m xs ∈ m :: xs := by
    rcases leastP_mem xs m with e | e
    · rw [e]; exact List.mem_cons_self
    · exact List.mem_cons_of_mem _ e
  have a := h1 _ hlm
  have b : tlt h (leastP m xs) = false := by
    rcases List.mem_cons.mp hmem with rfl | e
    · exact hl.1
    · exact hl.2 h e
  rcases tltP_tot a with e | e
  · rw [e]
  · rw [b] at e; cases e
theorem min_P {m : List T3} {xs : List (List T3)} : bltD .min1 [.list ((m :: xs).map enc)] = some (.d (enc (leastP m xs))) := by
  show bMin1 [.list (enc m :: xs.map enc)] = _
  unfold bMin1
  have := cmS_map (m :: xs)
  rw [List.map_cons] at this
  simp only [this, if_true, least_map]
/-! count_full, full_plan -/
theorem v_count_full {ic im : Nat} (hc : ChPlanOk Φ ic) (hm : FullPlansOk Φ im) {n : Nat} {p : List T3} (h : Pl n p) : fnv Φ 2 (x_count_full ic im) [.d (enc n), .d (enc p)] g = .ok (.d (enc (fullsOf n p).length)) g := by
  have h2 := h.hi
  have h3 := h.len
  refine fnv_rt ?_
  show runs Φ (x_count_full ic im) [some (.d (enc n)), some (.d (enc p))] g = _
  unfold x_count_full
  dsimp! [hc _ _ _ h, hm _ _ _ _ _]
  rfl
def CountOk (Φ : Nat → Fn) (i : Nat) : Prop := ∀ (n : Nat) (p : List T3) (g : G), Pl n p → Φ i [.d (enc n), .d (enc p)] g = .ok (.d (enc (fullsOf n p).length)) g
theorem v_full_plan {ic im : Nat} (hc : ChPlanOk Φ ic) (hm : FullPlansOk Φ im) {n : Nat} {p m : List T3} {xs : List (List T3)} (h : Pl n p) (hf : fullsOf n p = m :: xs) : fnv Φ 3 (x_full_plan ic im) [.d (enc n), .d (enc p)] g = .ok (.d (enc (leastP m xs))) g := by
  have h2 := h.hi
  have h3 := h.len
  have hf' : (runN n (p, ⟨leftOf n p⟩)).map isort = m :: xs := hf
  refine fnv_rt ?_
  show runs Φ (x_full_plan ic im) [some (.d (enc n)), some (.d (enc p)), none] g = _
  unfold x_full_plan
  dsimp! [hc _ _ _ h, hm _ _ _ _ _, hf', List.isEmpty_cons, min_P]
theorem v_full_planX {ic im : Nat} (hc : ChPlanOk Φ ic) (hm : FullPlansOk Φ im) {n : Nat} {p : List T3} (h : Pl n p) (hf : fullsOf n p = []) : fnv Φ 3 (x_full_plan ic im) [.d (enc n), .d (enc p)] g = .ex 6 g := by
  have h2 := h.hi
  have h3 := h.len
  have hf' : (runN n (p, ⟨leftOf n p⟩)).map isort = [] := hf
  refine fnv_ex ?_
  show runs Φ (x_full_plan ic im) [some (.d (enc n)), some (.d (enc p)), none] g = _
  unfold x_full_plan
  dsimp! [hc _ _ _ h, hm _ _ _ _ _, hf', List.isEmpty_nil]
def FullPlanOk (Φ : Nat → Fn) (i : Nat) : Prop := ∀ (n : Nat) (p : List T3) (g : G), Pl n p → (∀ m xs, fullsOf n p = m :: xs → Φ i [.d (enc n), .d (enc p)] g = .ok (.d (enc (leastP m xs))) g) ∧ (fullsOf n p = [] → Φ i [.d (enc n), .d (enc p)] g = .ex 6 g)
end TP
/-! Renaming keeps full plans. -/
namespace TP
open PySem L2
open Enc (enc)
variable {Φ : Nat → Fn} {g : G}
/-- all players in some order -/
structure Nms (n : Nat) (names : List Nat) : Prop where
  pm : names.Perm (List.range n)
theorem Nms.len {n : Nat} {names : List Nat} (h : Nms n names) : names.length = n := by
  have := h.pm.length_eq
  rwa [List.length_range] at this
theorem Nms.lt {n : Nat} {names : List Nat} (h : Nms n names) {x : Nat} (hx : x < n) : nm names x < n := by
  have : nm names x ∈ names := List.mem_of_getElem? (nm_get (by rw [h.len]; exact hx))
  have := h.pm.mem_iff.mp this
  simpa using this
theorem Nms.inj {n : Nat} {names : List Nat} (h : Nms n names) {x y : Nat} (hx : x < n) (hy : y < n) (e : nm names x = nm names y) : x = y := by
  have nd : names.Nodup := h.pm.nodup_iff.mpr List.nodup_range
  have h1 := nm_get (names := names) (x := x) (by rw [h.len]; exact hx)
  have h2 := nm_get (names := names) (x := y) (by rw [h.len]; exact hy)
  rw [← e] at h2
  have hx' : x < names.length := by rw [h.len]; exact hx
  have hy' : y < names.length := by rw [h.len]; exact hy
  rw [List.getElem?_eq_getElem hx'] at h1
  rw [List.getElem?_eq_getElem hy'] at h2
  exact (List.getElem_inj nd).mp ((Option.some.inj h1).trans (Option.some.inj h2).symm)
theorem Nms.surj {n : Nat} {names : List Nat} (h : Nms n names) {y : Nat} (hy : y < n) : ∃ x, x < n ∧ nm names x = y := by
  have : y ∈ names := h.pm.mem_iff.mpr (by simpa using hy)
  obtain ⟨i, hi, e⟩ := List.mem_iff_getElem.mp this
  refine ⟨i, by rw [← h.len]; exact hi, ?_⟩
  have := nm_get hi
  rw [List.getElem?_eq_getElem hi] at this
  rw [← e]
  exact (Option.some.inj this).symm
theorem ren_valid {n : Nat} {names : List Nat} (h : Nms n names) {t : T3} (hv : valid n t) : valid n (ren3 names t) := by
  unfold valid at hv
  refine sort3_valid (h.lt (by omega)) (h.lt (by omega)) (h.lt (by omega)) (fun e => ?_) (fun e => ?_) fun e => ?_
  · have := h.inj (by omega) (by omega) e; omega
  · have := h.inj (by omega) (by omega) e; omega
  · have := h.inj (by omega) (by omega) e; omega
theorem ren_has {n : Nat} {names : List Nat} (h : Nms n names) {t : T3} (hv : valid n t) {x : Nat} (hx : x < n) : has (ren3 names t) (nm names x) = has t x := by
  unfold valid at hv
  rw [Bool.eq_iff_iff, has_iff (t := t)]
  unfold ren3
  rw [sort3_has]
  constructor
  · rintro (e | e | e)
    · exact .inl (h.inj hx (by omega) e)
    · exact .inr (.inl (h.inj hx (by omega) e))
    · exact .inr (.inr (h.inj hx (by omega) e))
  · rintro (e | e | e)
    · exact .inl (by rw [e])
    · exact .inr (.inl (by rw [e]))
    · exact .inr (.inr (by rw [e]))
/-- a clash: two players in both -/
theorem clash_two {n : Nat} {s t : T3} (hs : valid n s) (ht : valid n t) : clash s t = true ↔ ∃ x y, x < y ∧ y < n ∧ has s x = true ∧ has s y = true ∧ has t x = true ∧ has t y = true := by
  rw [clash_iff hs ht]
  constructor
  · rintro ⟨⟨x, y⟩, h1, h2⟩
    obtain ⟨l1, l2⟩ := pair_lt hs h1
    obtain ⟨a, b⟩ := (pair_mem hs l1).mp h1
    obtain ⟨c, d⟩ := (pair_mem ht l1).mp h2
    exact ⟨x, y, l1, l2, a, b, c, d⟩
  · rintro ⟨x, y, l1, _, a, b, c, d⟩
    exact ⟨(x, y), (pair_mem hs l1).mpr ⟨a, b⟩, (pair_mem ht l1).mpr ⟨c, d⟩⟩
theorem ren_clash {n : Nat} {names : List Nat} (h : Nms n names) {s t : T3} (hs : valid n s) (ht : valid n t) : clash (ren3 names s) (ren3 names t) = clash s t := by
  rw [Bool.eq_iff_iff, clash_two (ren_valid h hs) (ren_valid h ht), clash_two hs ht]
  constructor
  · rintro ⟨x, y, hxy, hyn, a, b, c, d⟩
    obtain ⟨x', hx', rfl⟩ := h.surj (y := x) (by omega)
    obtain ⟨y', hy', rfl⟩ := h.surj (y := y) hyn
    rw [ren_has h hs hx'] at a
    rw [ren_has h hs hy'] at b
    rw [ren_has h ht hx'] at c
    rw [ren_has h ht hy'] at d
    have hne : x' ≠ y' := fun e => by rw [e] at hxy; omega
    rcases Nat.lt_or_gt_of_ne hne with hl | hl
    · exact ⟨x', y', hl, hy', a, b, c, d⟩
    · exact ⟨y', x', hl, hx', b, a, d, c⟩
  · rintro ⟨x, y, hxy, hyn, a, b, c, d⟩
    have hxn : x < n := by omega
    rw [← ren_has h hs hxn] at a
    rw [← ren_has h hs hyn] at b
    rw [← ren_has h ht hxn] at c
    rw [← ren_has h ht hyn] at d
    have hne : nm names x ≠ nm names y := fun e => by have := h.inj hxn hyn e; omega
    rcases Nat.lt_or_gt_of_ne hne with hl | hl
    · exact ⟨_, _, hl, h.lt hyn, a, b, c, d⟩
    · exact ⟨_, _, hl, h.lt hxn, b, a, d, c⟩
/-- a three is known by its players -/
theorem three_ext {n : Nat} {s t : T3} (hs : valid n s) (ht : valid n t) (h : ∀ x, x < n → has s x = has t x) : s = t := by
  have a := h s.a (by unfold valid at hs; omega)
  have b := h s.b (by unfold valid at hs; omega)
  have c := h s.c (by unfold valid at hs; omega)
  have e : ∀ x, (x = s.a ∨ x = s.b ∨ x = s.c) → has s x = true := fun x hx => has_iff.mpr hx
  rw [e _ (.inl rfl)] at a
  rw [e _ (.inr (.inl rfl))] at b
  rw [e _ (.inr (.inr rfl))] at c
  have a := has_iff.mp a.symm
  have b := has_iff.mp b.symm
  have c := has_iff.mp c.symm
  unfold valid at hs ht
  rw [T3.ext_iff]
  omega
theorem ren_inj {n : Nat} {names : List Nat} (h : Nms n names) {s t : T3} (hs : valid n s) (ht : valid n t) (e : ren3 names s = ren3 names t) : s = t :=
  three_ext hs ht fun x hx => by rw [← ren_has h hs hx, ← ren_has h ht hx, e]
theorem ren_apart {n : Nat} {names : List Nat} (h : Nms n names) {p : List T3} (hp : Apart3 n p) : Apart3 n (p.map (ren3 names)) := by
  refine ⟨fun t ht => ?_, ?_, fun s hs t ht hne => ?_⟩
  · obtain ⟨u, hu, rfl⟩ := List.mem_map.mp ht
    exact ren_valid h (hp.val u hu)
  · rw [List.nodup_iff_pairwise_ne, List.pairwise_map]
    refine List.Pairwise.imp_of_mem ?_ hp.nd
    intro a b ha hb hab e
    exact hab (ren_inj h (hp.val a ha) (hp.val b hb) e)
  · obtain ⟨u, hu, rfl⟩ := List.mem_map.mp hs
    obtain ⟨v, hv, rfl⟩ := List.mem_map.mp ht
    rw [ren_clash h (hp.val u hu) (hp.val v hv)]
    exact hp.nc u hu v hv fun e => hne (by rw [e])
theorem left_nil {n : Nat} {p : List T3} (hv : ∀ t, t ∈ p → valid n t) : leftOf n p = [] ↔ ∀ a b, a < b → b < n → ∃ t, t ∈ p ∧ has t a = true ∧ has t b = true := by
  constructor
  · intro h a b hab hb
    by_cases e : (a, b) ∈ met p
    · obtain ⟨t, ht, h2⟩ := mem_met.mp e
      exact ⟨t, ht, (pair_mem (hv t ht) hab).mp h2⟩
    · have : (a, b) ∈ leftOf n p := left_iff.mpr ⟨⟨hab, hb⟩, e⟩
      rw [h] at this
      cases this
  · intro h
    rw [List.eq_nil_iff_forall_not_mem]
    intro q hq
    obtain ⟨⟨h1, h2⟩, h3⟩ := left_iff.mp hq
    obtain ⟨t, ht, a, b⟩ := h q.1 q.2 h1 h2
    exact h3 (mem_met.mpr ⟨t, ht, (pair_mem (hv t ht) h1).mpr ⟨a, b⟩⟩)
theorem ren_full {n : Nat} {names : List Nat} (h : Nms n names) {p : List T3} (hp : IsFull n p) : IsFull n (p.map (ren3 names)) := by
  have ha := ren_apart h hp.1
  refine ⟨ha, (left_nil ha.val).mpr fun a b hab hb => ?_⟩
  obtain ⟨x, hx, rfl⟩ := h.surj (y := a) (by omega)
  obtain ⟨y, hy, rfl⟩ := h.surj (y := b) hb
  have hne : x ≠ y := fun e => by rw [e] at hab; omega
  have key := (left_nil hp.1.val).mp hp.2
  have : ∃ t, t ∈ p ∧ has t x = true ∧ has t y = true := by
    rcases Nat.lt_or_gt_of_ne hne with hl | hl
    · exact key x y hl hy
    · obtain ⟨t, ht, a, b⟩ := key y x hl hx
      exact ⟨t, ht, b, a⟩
  obtain ⟨t, ht, a, b⟩ := this
  exact ⟨ren3 names t, List.mem_map.mpr ⟨t, ht, rfl⟩, by rw [ren_has h (hp.1.val t ht) hx]; exact a, by rw [ren_has h (hp.1.val t ht) hy]; exact b⟩
theorem IsFull.perm {n : Nat} {p q : List T3} (h : IsFull n p) (e : p.Perm q) : IsFull n q := by
  have ha := h.1.perm e
  refine ⟨ha, (left_nil ha.val).mpr fun a b hab hb => ?_⟩
  obtain ⟨t, ht, k⟩ := (left_nil h.1.val).mp h.2 a b hab hb
  exact ⟨t, e.mem_iff.mp ht, k⟩
theorem known_full : ∀ n, n = 3 ∨ n = 7 ∨ n = 9 → IsFull n (knownOf n) := by
  have h3 : (isPlan 3 (isort (knownOf 3)) && (leftOf 3 (isort (knownOf 3))).isEmpty) = true := by decide +kernel
  have h7 : (isPlan 7 (isort (knownOf 7)) && (leftOf 7 (isort (knownOf 7))).isEmpty) = true := by decide +kernel
  have h9 : (isPlan 9 (isort (knownOf 9)) && (leftOf 9 (isort (knownOf 9))).isEmpty) = true := by decide +kernel
  have key : ∀ n, (isPlan n (isort (knownOf n)) && (leftOf n (isort (knownOf n))).isEmpty) = true → IsFull n (knownOf n) := by
    intro n h
    rw [Bool.and_eq_true, List.isEmpty_iff] at h
    exact IsFull.perm ⟨(isPlan_iff.mp h.1).1, h.2⟩ (isort_perm _)
  rintro n (rfl | rfl | rfl)
  · exact key 3 h3
  · exact key 7 h7
  · exact key 9 h9
/-- a full plan, sorted -/
structure FullS (n : Nat) (p : List T3) : Prop where
  full : IsFull n p
  so : Sorted p
theorem named_full {n : Nat} {names : List Nat} (h : Nms n names) {p : List T3} (hp : IsFull n p) : FullS n (namedOf p names) := by
  have := ren_full h hp
  exact ⟨this.perm (isort_perm _).symm, isort_sorted this.1.nd⟩
theorem FullS.pl {n : Nat} {p : List T3} (h : FullS n p) (h1 : 3 ≤ n) (h2 : n ≤ 9) : Pl n p := ⟨h1, h2, h.full.1, h.so⟩
theorem FullS.fulls {n : Nat} {p : List T3} (h : FullS n p) : fullsOf n p = [p] := by
  unfold fullsOf
  rw [h.full.2, runN_nil]
  show [isort p] = [p]
  rw [sorted_ext (isort_sorted h.full.1.nd) h.so fun x => mem_isort]
theorem FullS.len {n : Nat} {p : List T3} (h : FullS n p) : 3 * p.length = (allPairs n).length := by
  have := left_count h.full.1
  rw [h.full.2] at this
  simpa using this
/-- every one meets all others -/
theorem full_due {n : Nat} (hn : n ≤ 9) {p : List T3} (h : IsFull n p) {x : Nat} (hx : x < n) : dueOf n p x = (List.range n).filter fun y => !decide (y = x) := by
  unfold dueOf
  refine List.filter_congr fun y hy => ?_
  rw [List.mem_range] at hy
  by_cases e : y = x
  · rw [decide_eq_true e]; rfl
  · rw [decide_eq_false e]
    have key := (left_nil h.1.val).mp h.2
    have : ∃ t, t ∈ p ∧ has t x = true ∧ has t y = true := by
      rcases Nat.lt_or_gt_of_ne e with hl | hl
      · obtain ⟨t, ht, a, b⟩ := key y x hl hx
        exact ⟨t, ht, b, a⟩
      · exact key x y hl hy
    obtain ⟨t, ht, a, b⟩ := this
    rw [List.any_eq_true.mpr ⟨t, ht, by rw [a, b]; rfl⟩]
    rfl
/-- common players -/
def common (s t : T3) : Nat := ([s.a, s.b, s.c].filter fun x => has t x).length
theorem common_range {n : Nat} {s t : T3} (hs : valid n s) : common s t = ((List.range n).filter fun x => has s x && has t x).length := by
  unfold common valid at *
  have e : ((List.range n).filter fun x => has s x).Perm [s.a, s.b, s.c] := by
    refine (List.perm_ext_iff_of_nodup (List.nodup_range.filter _) ?_).mpr fun x => ?_
    · simp only [List.nodup_cons, List.mem_cons, List.not_mem_nil, or_false, not_or, not_false_eq_true, List.nodup_nil, and_true]
      omega
    · rw [List.mem_filter, List.mem_range, has_iff]
      simp only [List.mem_cons, List.not_mem_nil, or_false]
      omega
  have e2 := (e.filter fun x => has t x).length_eq
  rw [← e2, List.filter_filter]
  congr 1
  refine List.filter_congr fun x _ => ?_
  rw [Bool.and_comm]
theorem ren_common {n : Nat} {names : List Nat} (h : Nms n names) {s t : T3} (hs : valid n s) (ht : valid n t) : common (ren3 names s) (ren3 names t) = common s t := by
  rw [common_range (ren_valid h hs), common_range hs]
  have e : ((List.range n).map (nm names)).Perm (List.range n) := by
    have nd : ((List.range n).map (nm names)).Nodup := by
      rw [List.nodup_iff_pairwise_ne, List.pairwise_map]
      refine List.Pairwise.imp_of_mem ?_ (List.nodup_range (n := n))
      intro a b ha hb hab e
      exact hab (h.inj (by simpa using ha) (by simpa using hb) e)
    refine (List.perm_ext_iff_of_nodup nd List.nodup_range).mpr fun x => ?_
    rw [List.mem_map, List.mem_range]
    constructor
    · rintro ⟨y, hy, rfl⟩
      exact h.lt (by simpa using hy)
    · intro hx
      obtain ⟨y, hy, e⟩ := h.surj hx
      exact ⟨y, by simpa using hy, e⟩
  have e2 := (e.filter fun x => has (ren3 names s) x && has (ren3 names t) x).length_eq
  rw [← e2, List.filter_map, List.length_map]
  congr 1
  refine List.filter_congr fun x hx => ?_
  have hx : x < n := by simpa using hx
  show (has (ren3 names s) (nm names x) && has (ren3 names t) (nm names x)) = _
  rw [ren_has h hs hx, ren_has h ht hx]
end TP
/-! k03's own search. -/
namespace TP
open PySem L2
open Enc (enc)
variable {Φ : Nat → Fn} {g : G}
theorem sort3_pairs_iff (x y z : Nat) (r : P2) : r ∈ pairsOf (sort3 x y z) ↔ r = (min x y, max x y) ∨ r = (min x z, max x z) ∨ r = (min y z, max y z) := by
  obtain ⟨r1, r2⟩ := r
  unfold sort3
  by_cases h1 : y < x
  · rw [if_pos h1]
    by_cases h2 : z < y
    · rw [if_pos h2]
      simp only [pairsOf, List.mem_cons, List.not_mem_nil, or_false, Prod.mk.injEq]
      omega
    · rw [if_neg h2]
      by_cases h3 : z < x
      · rw [if_pos h3]
        simp only [pairsOf, List.mem_cons, List.not_mem_nil, or_false, Prod.mk.injEq]
        omega
      · rw [if_neg h3]
        simp only [pairsOf, List.mem_cons, List.not_mem_nil, or_false, Prod.mk.injEq]
        omega
  · rw [if_neg h1]
    by_cases h2 : z < x
    · rw [if_pos h2]
      simp only [pairsOf, List.mem_cons, List.not_mem_nil, or_false, Prod.mk.injEq]
      omega
    · rw [if_neg h2]
      by_cases h3 : z < y
      · rw [if_pos h3]
        simp only [pairsOf, List.mem_cons, List.not_mem_nil, or_false, Prod.mk.injEq]
        omega
      · rw [if_neg h3]
        simp only [pairsOf, List.mem_cons, List.not_mem_nil, or_false, Prod.mk.injEq]
        omega
theorem okC_law {L : List P2} {q : P2} {c : Nat} (hq : q ∈ L) (h : q.1 < q.2) : (!mem c [q.1, q.2] && (mem (min q.1 c, max q.1 c) L && mem (min q.2 c, max q.2 c) L)) = okC L q c := by
  rw [Bool.eq_iff_iff, okC_iff, Bool.and_eq_true, Bool.and_eq_true, Bool.not_eq_true', mem_false, mem_iff, mem_iff]
  simp only [List.mem_cons, List.not_mem_nil, or_false, not_or, and_assoc, sort3_pairs_iff]
  constructor
  · rintro ⟨a, b, c, d⟩
    refine ⟨a, b, fun r hr => ?_⟩
    rcases hr with rfl | rfl | rfl
    · rw [Nat.min_eq_left (by omega), Nat.max_eq_right (by omega)]; exact hq
    · exact c
    · exact d
  · rintro ⟨a, b, c⟩
    exact ⟨a, b, c _ (.inr (.inl rfl)), c _ (.inr (.inr rfl))⟩
theorem gone_law {q : P2} {c : Nat} (h : q.1 < q.2) (s : P2) : mem s [(q.1, q.2), (min q.1 c, max q.1 c), (min q.2 c, max q.2 c)] = mem s (pairsOf (sort3 q.1 q.2 c)) := by
  rw [Bool.eq_iff_iff, mem_iff, mem_iff, sort3_pairs_iff, Nat.min_eq_left (show q.1 ≤ q.2 by omega), Nat.max_eq_right (show q.1 ≤ q.2 by omega)]
  simp only [List.mem_cons, List.not_mem_nil, or_false]
abbrev NdL := Ls T3 × Ls P2
def phi (s : Nd) : NdL := (⟨s.1⟩, s.2)
theorem fold_ndl {h : List T3} {L : List P2} : PyData.tuple [.list (h.map enc), .list (L.map enc)] = enc ((⟨h⟩, ⟨L⟩) : NdL) := nrfl rfl
theorem fold_lp3 {a b c : P2} : PyData.list [enc a, enc b, enc c] = PyData.list ([a, b, c].map enc) := nrfl rfl
theorem sorted_PP {xs : List (List T3)} (hl : xs.length ≤ 16777216) (h : ∀ x, x ∈ xs → x ≠ []) : bltD .sorted [.list (xs.map enc)] = some (.own (.lst ((isort xs).map enc))) := by
  show (if srtOk _ then _ else _) = _
  rw [srtOk_of hl (.inr (by
    rw [List.all_map, List.all_eq_true]
    intro x hx
    cases x with
    | nil => exact absurd rfl (h [] hx)
    | cons a r => rfl)), if_pos rfl, srt_map]
theorem b_addLT {xs ys : List T3} (h : xs.length + ys.length ≤ 16777216) : binD .add (.list (xs.map enc)) (.list (ys.map enc)) = some (.own (.lst ((xs ++ ys).map enc))) := b_addL h
theorem fold_l1 {t : T3} : PyData.list [enc t] = PyData.list ([t].map enc) := nrfl rfl
theorem v_all_full {iu : Nat} (hu : UnmetOk Φ iu) {n : Nat} {p : List T3} (h : Pl n p) : fnv Φ 12 (x__law_all_full iu) [.d (enc n), .d (enc p)] g = .ok (.own (.lst ((isort (fullsOf n p)).map enc))) g := by
  have hn := h.hi
  have hpl := h.len
  have hb := full_few hn p
  refine fnv_rt ?_
  show runs Φ (x__law_all_full iu) [some (.d (enc n)), some (.d (enc p)), none, none, none, none, none, none, none, none, none, none] g = _
  have hlen : (leftOf n p).length ≤ 36 := Nat.le_trans (List.length_filter_le _ _) (pairs_le n hn)
  let st : List (List T3) → List Nd → Env' := fun found line => [some (.d (enc n)), some (.d (enc p)), some (.own (.lst ((found.map isort).map enc))), some (.own (.lst ((line.map phi).map enc))), none, none, none, none, none, none, none, none]
  let tot := runN n (p, ⟨leftOf n p⟩)
  let Inv : Nat → Env' → G → Prop := fun m ρ g' => ∃ found line, ρ = st found line ∧ g' = g ∧ wts line = m ∧ found ++ line.reverse.flatMap (runN n) = tot ∧ (∀ s, s ∈ line → Asc2 s.2.l ∧ s.2.l.length ≤ 36 ∧ s.1.length + s.2.l.length ≤ 48) ∧ ∀ i s, line[i]? = some s → i + 9 * s.2.l.length ≤ 324
  obtain ⟨m', ρ', g', e1, ⟨found, line, rfl, rfl, hm, ht, ha, hi⟩, e2⟩ := run_wh (Φ := Φ) (g := g) (ρ := st [] [(p, ⟨leftOf n p⟩)]) (c := (.o2 .ne (.v 3) (.lst .nil))) (b := (.cons (.popT (.two 4 5) 3) (.cons (.ife (.o2 .eq (.v 5) (.lst .nil)) (.cons (.app 2 (.blt .tup (.cons (.blt .sorted (.cons (.v 4) .nil)) .nil))) .nil) (.cons (.asgT (.two 6 7) (.ix (.v 5) (.c (enc (0 : Nat))))) (.cons (.fr [] (.one 8) (.rng1 (.v 0)) (.cons (.ife (.ban (.cons (.o2 .notin (.v 8) (.tup (.cons (.v 6) (.cons (.v 7) .nil)))) (.cons (.o2 .inn (.tup (.cons (.blt .min2 (.cons (.v 6) (.cons (.v 8) .nil))) (.cons (.blt .max2 (.cons (.v 6) (.cons (.v 8) .nil))) .nil))) (.v 5)) (.cons (.o2 .inn (.tup (.cons (.blt .min2 (.cons (.v 7) (.cons (.v 8) .nil))) (.cons (.blt .max2 (.cons (.v 7) (.cons (.v 8) .nil))) .nil))) (.v 5)) .nil)))) (.cons (.asg 9 false (.lst (.cons (.tup (.cons (.v 6) (.cons (.v 7) .nil))) (.cons (.tup (.cons (.blt .min2 (.cons (.v 6) (.cons (.v 8) .nil))) (.cons (.blt .max2 (.cons (.v 6) (.cons (.v 8) .nil))) .nil))) (.cons (.tup (.cons (.blt .min2 (.cons (.v 7) (.cons (.v 8) .nil))) (.cons (.blt .max2 (.cons (.v 7) (.cons (.v 8) .nil))) .nil))) .nil))))) (.cons (.asg 11 false (.comp (.v 10) (.one 10) (.seq (.v 5)) (.som (.o2 .notin (.v 10) (.v 9))))) (.cons (.app 3 (.tup (.cons (.o2 .add (.v 4) (.lst (.cons (.blt .tup (.cons (.blt .sorted (.cons (.lst (.cons (.v 6) (.cons (.v 7) (.cons (.v 8) .nil)))) .nil)) .nil)) .nil))) (.cons (.v 11) .nil)))) .nil))) .nil) .nil)) .nil))) .nil))) Inv (wts [(p, ⟨leftOf n p⟩)]) (by
      rw [wts_eq]
      show 10 ^ (leftOf n p).length + 0 < _
      have := Nat.pow_le_pow_right (n := 10) (by decide) hlen
      omega) ⟨[], [(p, ⟨leftOf n p⟩)], rfl, rfl, rfl, by simp [tot], (fun s hs => by
      rw [List.mem_singleton.mp hs]
      exact ⟨left_asc, hlen, by show p.length + (leftOf n p).length ≤ 48; omega⟩), (fun i s hs => by
      match i, hs with
      | 0, hs =>
        have : s = (p, ⟨leftOf n p⟩) := by simpa using hs.symm
        rw [this]
        show 0 + 9 * (leftOf n p).length ≤ 324
        omega
      | i + 1, hs => simp at hs)⟩ (by
      rintro m ρ g' ⟨found, line, rfl, rfl, hm, ht, ha, hi⟩
      refine ⟨!line.isEmpty, by
        show ev Φ _ [some (.d (enc n)), some (.d (enc p)), some (.own (.lst ((found.map isort).map enc))), some (.own (.lst ((line.map phi).map enc))), none, none, none, none, none, none, none, none] _ = _
        dsimp! []
        rw [List.isEmpty_map], fun hk => ?_⟩
      have hne : line ≠ [] := fun z => by rw [z] at hk; cases hk
      obtain ⟨init, s, rfl⟩ : ∃ init s, line = init ++ [s] := ⟨_, _, (List.dropLast_concat_getLast hne).symm⟩
      obtain ⟨h, ⟨L⟩⟩ := s
      obtain ⟨has, hL36, hhl⟩ := ha (h, ⟨L⟩) (by simp)
      simp only at has hL36 hhl
      have hpos := hi init.length (h, ⟨L⟩) (by rw [List.getElem?_append_right (Nat.le_refl _), Nat.sub_self]; rfl)
      simp only at hpos
      have hfl : found.length ≤ 16000000 := by
        have := congrArg List.length ht
        rw [List.length_append] at this
        have : tot.length ≤ 16000000 := hb
        omega
      have hfl2 : (found.map isort).length ≤ 16000000 := by rw [List.length_map]; exact hfl
      rw [List.reverse_append, List.reverse_singleton, List.singleton_append, List.flatMap_cons] at ht
      have ephi : ∀ L', (init ++ [((h, ⟨L'⟩) : Nd)]).map phi = init.map phi ++ [((⟨h⟩, ⟨L'⟩) : NdL)] := fun L' => by rw [List.map_append]; rfl
      cases L with
      | nil =>
        refine ⟨wts init, st (found ++ [h]) init, _, by rw [← hm, wts_app]; show _ < _ + (10 ^ 0); omega, ?_, found ++ [h], init, rfl, rfl, rfl, by rw [runN_nil] at ht; rw [← ht, List.append_assoc], fun s hs => ha s (by simp [hs]), fun i s hs => hi i s (by rw [List.getElem?_append_left (List.getElem?_eq_some_iff.mp hs).1]; exact hs)⟩
        show td (runs Φ _ [some (.d (enc n)), some (.d (enc p)), some (.own (.lst ((found.map isort).map enc))), some (.own (.lst (((init ++ [((h, ⟨[]⟩) : Nd)]).map phi).map enc))), none, none, none, none, none, none, none, none] _) _ _ = .nx [some (.d (enc n)), some (.d (enc p)), some (.own (.lst (((found ++ [h]).map isort).map enc))), some (.own (.lst ((init.map phi).map enc))), none, none, none, none, none, none, none, none] _
        have hh : h.length ≤ 16777216 := by omega
        rw [show (found ++ [h]).map isort = found.map isort ++ [isort h] from by rw [List.map_append]; rfl, ephi]
        unfold st
        rw [ephi]
        dsimp! [run_popT', last_map, drop_map, enc_Ls, List.isEmpty_nil, sorted_T hh]
      | cons q r =>
        have hq := has q List.mem_cons_self
        have hkl : ((List.range n).filter (okC (q :: r) q)).length ≤ 9 := by
          have := List.length_filter_le (okC (q :: r) q) (List.range n)
          rw [List.length_range] at this
          omega
        rw [List.length_cons] at hpos hL36 hhl
        refine ⟨wts (init ++ kids n h (q :: r) q), st found (init ++ kids n h (q :: r) q), _, ?_, ?_, found, init ++ kids n h (q :: r) q, rfl, rfl, rfl, ?_, ?_, ?_⟩
        · rw [← hm, wts_app, wts_app]
          have := wts_kids hn (h := h) (r := r) hq
          show _ + _ < _ + wts [(h, ⟨q :: r⟩)]
          rw [show wts [(h, ⟨q :: r⟩)] = wt (h, ⟨q :: r⟩) from by rw [wts_eq]; rfl]
          omega
        · show td (runs Φ _ [some (.d (enc n)), some (.d (enc p)), some (.own (.lst ((found.map isort).map enc))), some (.own (.lst (((init ++ [((h, ⟨q :: r⟩) : Nd)]).map phi).map enc))), none, none, none, none, none, none, none, none] _) _ _ = .nx [some (.d (enc n)), some (.d (enc p)), some (.own (.lst ((found.map isort).map enc))), some (.own (.lst (((init ++ kids n h (q :: r) q).map phi).map enc))), none, none, none, none, none, none, none, none] _
          unfold st
          rw [ephi]
          have hil : (init.map phi).length ≤ 400 := by rw [List.length_map]; omega
          dsimp! [run_popT', last_map, drop_map, enc_Ls, List.isEmpty_cons, ixL (xs := q :: r) (i := 0) (x := q) rfl]
          rw [run_for (xs := List.range n) (fun l => [some (.d (enc n)), some (.d (enc p)), some (.own (.lst ((found.map isort).map enc))), some (.own (.lst ((init.map phi ++ (l.filter (okC (q :: r) q)).map fun c => phi (kid h (q :: r) q c)).map enc))), some (.d (.list (h.map enc))), some (.d (.list ((q :: r).map enc))), some (.d (enc q.1)), some (.d (enc q.2)), none, none, none, none])]
          · rw [show init.map phi ++ (((List.range n).filter (okC (q :: r) q)).map fun c => phi (kid h (q :: r) q c)) = (init ++ kids n h (q :: r) q).map phi from by rw [List.map_append]; unfold kids; rw [List.map_map]; rfl]
            dsimp! []
          · dsimp! []
          · simp only [List.filter_nil, List.map_nil, List.append_nil]
          · intro l c r2 e
            have hll := pre_len e
            rw [List.length_range] at hll
            have hfl3 := List.length_filter_le (okC (q :: r) q) l
            rw [snoc_if]
            dsimp! [min_N, max_N, okC_law List.mem_cons_self hq]
            generalize hB : okC (q :: r) q c = B
            cases B with
            | false => dsimp! [List.append_nil]
            | true =>
              dsimp! [fold_lp3, min_N, max_N]
              rw [ev_cf (xs := q :: r) (fun s => !mem s (pairsOf (sort3 q.1 q.2 c))) enc]
              · dsimp! [fold_l3, sorted_N, isort3, tup_T3, fold_l1, fold_ndl, List.append_assoc]
                rfl
              · dsimp! []
              · rw [List.length_cons]; unfold lim; omega
              · intro s hs
                exact ⟨_, rfl, by dsimp! [gone_law hq], fun _ => ⟨_, by dsimp! []; rfl, rfl⟩⟩
        · rw [runN_cons n h q r has] at ht
          rw [← ht, List.reverse_append, List.flatMap_append]
        · intro s hs
          rcases List.mem_append.mp hs with hs | hs
          · exact ha s (by simp [hs])
          · unfold kids at hs
            obtain ⟨c, _, rfl⟩ := List.mem_map.mp hs
            have hlt := kid_lt (n := n) (r := r) (c := c) hq
            rw [List.length_cons] at hlt
            unfold kid
            simp only [List.length_append, List.length_singleton]
            exact ⟨has.filter _, by omega, by omega⟩
        · intro i s hs
          by_cases hil : i < init.length
          · rw [List.getElem?_append_left hil] at hs
            exact hi i s (by rw [List.getElem?_append_left hil]; exact hs)
          · rw [List.getElem?_append_right (by omega)] at hs
            have hj := (List.getElem?_eq_some_iff.mp hs).1
            unfold kids at hs hj
            rw [List.length_map] at hj
            obtain ⟨c, _, rfl⟩ := List.mem_map.mp (List.mem_of_getElem? hs)
            have hlt := kid_lt (n := n) (r := r) (c := c) hq
            rw [List.length_cons] at hlt
            unfold kid
            simp only
            omega)
  have e3 : line = [] := by
    have e2 : ev Φ (.o2 .ne (.v 3) (.lst .nil)) [some (.d (enc n)), some (.d (enc p)), some (.own (.lst ((found.map isort).map enc))), some (.own (.lst ((line.map phi).map enc))), none, none, none, none, none, none, none, none] g' = .ok (.d (.bool false)) g' := e2
    cases line with
    | nil => rfl
    | cons t r =>
      have : ev Φ (.o2 .ne (.v 3) (.lst .nil)) [some (.d (enc n)), some (.d (enc p)), some (.own (.lst ((found.map isort).map enc))), some (.own (.lst (((t :: r).map phi).map enc))), none, none, none, none, none, none, none, none] g' = .ok (.d (.bool true)) g' := by dsimp! []; rfl
      rw [this] at e2
      cases e2
  subst e3
  have ht' : found = tot := by simpa using ht
  subst ht'
  have hv := h.ap.val
  have hp3 := h.len
  unfold x__law_all_full
  dsimp! [hu _ _ _ _ _, unmet_left hv]
  have e0 : PyData.tuple [.list (p.map enc), .list ((leftOf n p).map enc)] = enc ((⟨p⟩, ⟨leftOf n p⟩) : NdL) := rfl
  rw [e0]
  have e1' : run Φ _ [some (.d (enc n)), some (.d (enc p)), some (.own (.lst [])), some (.own (.lst [enc ((⟨p⟩, ⟨leftOf n p⟩) : NdL)])), none, none, none, none, none, none, none, none] g' = .nx [some (.d (enc n)), some (.d (enc p)), some (.own (.lst ((tot.map isort).map enc))), some (.own (.lst (([] : List NdL).map enc))), none, none, none, none, none, none, none, none] g' := e1
  rw [e1']
  have hne : ∀ x, x ∈ tot.map isort → x ≠ [] := by
    intro x hx hx0
    have hx' : x ∈ fullsOf n p := hx
    rw [mem_fulls h.ap] at hx'
    have h3 := h.lo
    obtain ⟨t, ht, _⟩ := (left_nil hx'.1.1.val).mp hx'.1.2 0 1 (by decide) (by omega)
    rw [hx0] at ht
    cases ht
  have hlt : (tot.map isort).length ≤ 16777216 := by
    rw [List.length_map]
    have : tot.length ≤ 16000000 := hb
    omega
  dsimp! [sorted_PP hlt hne]
  rfl
def AllFullOk (Φ : Nat → Fn) (i : Nat) : Prop := ∀ (n : Nat) (p : List T3) (g : G), Pl n p → Φ i [.d (enc n), .d (enc p)] g = .ok (.own (.lst ((isort (fullsOf n p)).map enc))) g
end TP
/-! How many full plans contain a plan: names do not matter; by the threes of an unmet pair. -/
namespace TP
open PySem L2
open Enc (enc)
variable {Φ : Nat → Fn} {g : G}
theorem Nms.inv {n : Nat} {names : List Nat} (h : Nms n names) : ∃ names', Nms n names' ∧ (∀ x, x < n → nm names' (nm names x) = x) ∧ ∀ x, x < n → nm names (nm names' x) = x := by
  let f : Nat → Nat := fun y => if hy : y < n then (h.surj hy).choose else 0
  have hf : ∀ y, y < n → f y < n ∧ nm names (f y) = y := fun y hy => by
    have := (h.surj hy).choose_spec
    simp only [f, dif_pos hy]
    exact this
  let names' := (List.range n).map f
  have hg : ∀ y, y < n → nm names' y = f y := fun y hy => by
    show ((List.range n).map f).getD y 0 = f y
    rw [List.getD_eq_getElem?_getD, List.getElem?_map, List.getElem?_range hy]
    rfl
  have e2 : ∀ x, x < n → nm names' (nm names x) = x := fun x hx => by
    have hl := h.lt hx
    rw [hg _ hl]
    exact h.inj (hf _ hl).1 hx (hf _ hl).2
  refine ⟨names', ⟨?_⟩, e2, fun x hx => by rw [hg x hx]; exact (hf x hx).2⟩
  have nd : names'.Nodup := by
    rw [List.nodup_iff_pairwise_ne, List.pairwise_map]
    refine List.Pairwise.imp_of_mem ?_ (List.nodup_range (n := n))
    intro a b ha hb hab e
    have ha : a < n := by simpa using ha
    have hb : b < n := by simpa using hb
    exact hab (by rw [← (hf a ha).2, ← (hf b hb).2, e])
  refine (List.perm_ext_iff_of_nodup nd List.nodup_range).mpr fun x => ?_
  rw [List.mem_map, List.mem_range]
  constructor
  · rintro ⟨y, hy, rfl⟩
    exact (hf y (by simpa using hy)).1
  · intro hx
    refine ⟨nm names x, by simpa using h.lt hx, ?_⟩
    rw [← hg _ (h.lt hx)]
    exact e2 x hx
theorem ren_ren {n : Nat} {names names' : List Nat} (h : Nms n names) (h' : Nms n names') (e : ∀ x, x < n → nm names' (nm names x) = x) {t : T3} (hv : valid n t) : ren3 names' (ren3 names t) = t := by
  have hv1 := ren_valid h hv
  refine three_ext (ren_valid h' hv1) hv fun x hx => ?_
  have := ren_has h' hv1 (h.lt hx)
  rw [e x hx] at this
  rw [this, ren_has h hv hx]
theorem sub_len {α : Type} [DecidableEq α] {M L : List α} (hL : L.Nodup) (hM : M.Nodup) (hs : ∀ x, x ∈ M → x ∈ L) : M.length ≤ L.length := by
  have := filter_count hL hM hs
  omega
theorem mem_named {p : List T3} {names : List Nat} {t : T3} : t ∈ namedOf p names ↔ ∃ s, s ∈ p ∧ ren3 names s = t := by
  unfold namedOf
  rw [mem_isort, List.mem_map]
/-- the number hangs on the threes alone -/
theorem count_mem {n : Nat} {p q : List T3} (hp : Apart3 n p) (hq : Apart3 n q) (h : ∀ s, s ∈ p ↔ s ∈ q) : (fullsOf n p).length = (fullsOf n q).length := by
  refine ((List.perm_ext_iff_of_nodup (fulls_nodup hp) (fulls_nodup hq)).mpr fun x => ?_).length_eq
  rw [mem_fulls hp, mem_fulls hq]
  exact ⟨fun ⟨a, b, c⟩ => ⟨a, b, fun s hs => c s ((h s).mpr hs)⟩, fun ⟨a, b, c⟩ => ⟨a, b, fun s hs => c s ((h s).mp hs)⟩⟩
theorem named_apart {n : Nat} {names : List Nat} (h : Nms n names) {p : List T3} (hp : Apart3 n p) : Apart3 n (namedOf p names) := (ren_apart h hp).perm (isort_perm _).symm
theorem count_le {n : Nat} {names : List Nat} (h : Nms n names) {p : List T3} (hp : Apart3 n p) : (fullsOf n p).length ≤ (fullsOf n (namedOf p names)).length := by
  have hq := named_apart h hp
  rw [← List.length_map (f := fun q => namedOf q names)]
  refine sub_len (fulls_nodup hq) ?_ fun x hx => ?_
  · rw [List.nodup_iff_pairwise_ne, List.pairwise_map]
    refine List.Pairwise.imp_of_mem ?_ (fulls_nodup hp)
    intro a b ha hb hab e
    rw [mem_fulls hp] at ha hb
    refine hab (sorted_ext ha.2.1 hb.2.1 fun s => ?_)
    have key : ∀ {u v : List T3}, Apart3 n u → Apart3 n v → namedOf u names = namedOf v names → ∀ s, s ∈ u → s ∈ v := by
      intro u v hu hv e s hs
      have : ren3 names s ∈ namedOf v names := by rw [← e]; exact mem_named.mpr ⟨s, hs, rfl⟩
      obtain ⟨t, ht, e2⟩ := mem_named.mp this
      rw [← ren_inj h (hv.val t ht) (hu.val s hs) e2]
      exact ht
    exact ⟨key ha.1.1 hb.1.1 e s, key hb.1.1 ha.1.1 e.symm s⟩
  · obtain ⟨q, hqm, rfl⟩ := List.mem_map.mp hx
    rw [mem_fulls hp] at hqm
    rw [mem_fulls hq]
    have hF := named_full h hqm.1
    refine ⟨hF.full, hF.so, fun s hs => ?_⟩
    obtain ⟨t, ht, rfl⟩ := mem_named.mp hs
    exact mem_named.mpr ⟨t, hqm.2.2 t ht, rfl⟩
theorem count_ren {n : Nat} {names : List Nat} (h : Nms n names) {p : List T3} (hp : Apart3 n p) : (fullsOf n (namedOf p names)).length = (fullsOf n p).length := by
  obtain ⟨names', h', e, _⟩ := h.inv
  have h1 := count_le h hp
  have h2 := count_le h' (named_apart h hp)
  have h3 : (fullsOf n (namedOf (namedOf p names) names')).length = (fullsOf n p).length := by
    refine count_mem (named_apart h' (named_apart h hp)) hp fun s => ?_
    rw [mem_named]
    constructor
    · rintro ⟨t, ht, rfl⟩
      obtain ⟨u, hu, rfl⟩ := mem_named.mp ht
      rw [ren_ren h h' e (hp.val u hu)]
      exact hu
    · intro hs
      exact ⟨ren3 names s, mem_named.mpr ⟨s, hs, rfl⟩, ren_ren h h' e (hp.val s hs)⟩
  omega
/-- by the threes of an unmet pair -/
theorem count_pair {n : Nat} {p : List T3} (hp : Apart3 n p) {x y : Nat} (hxy : x < y) (hyn : y < n) (hm : (x, y) ∉ met p) : (((freeOf n p).filter fun t => has t x && has t y).flatMap fun t => fullsOf n (isort (p ++ [t]))).length = (fullsOf n p).length := by
  have ha : ∀ t, t ∈ (freeOf n p).filter (fun t => has t x && has t y) → Apart3 n (isort (p ++ [t])) ∧ valid n t ∧ has t x = true ∧ has t y = true := by
    intro t ht
    obtain ⟨h1, h2⟩ := List.mem_filter.mp ht
    obtain ⟨vt, ct⟩ := freeOf_mem h1
    rw [Bool.and_eq_true] at h2
    exact ⟨(hp.snoc vt fun s hs => by rw [clash_symm (hp.val s hs) vt]; exact ct s hs).perm (isort_perm _).symm, vt, h2.1, h2.2⟩
  have nd : (((freeOf n p).filter fun t => has t x && has t y).flatMap fun t => fullsOf n (isort (p ++ [t]))).Nodup := by
    refine nodup_flat _ _ ?_ (fun t ht => fulls_nodup (ha t ht).1) fun t ht u hu hne q hq hqu => ?_
    · have ne : (every n).Nodup := by
        unfold every
        refine nodup_flat _ _ (pairs_nd n) (fun q hq => ?_) fun q hq r hr hne t ht htr => ?_
        · unfold thirds
          rw [List.nodup_iff_pairwise_ne, List.pairwise_map]
          exact (List.nodup_range' (step := 1)).imp fun {a b} hab e => hab (by injection e)
        · unfold thirds at ht htr
          obtain ⟨c, _, rfl⟩ := List.mem_map.mp ht
          obtain ⟨d, _, e⟩ := List.mem_map.mp htr
          injection e with e1 e2 e3
          exact hne (Prod.ext e1.symm e2.symm)
      unfold freeOf
      exact (ne.filter _).filter _
    · obtain ⟨a1, v1, x1, y1⟩ := ha t ht
      obtain ⟨a2, v2, x2, y2⟩ := ha u hu
      rw [mem_fulls a1] at hq
      rw [mem_fulls a2] at hqu
      have h1 := hq.2.2 t (mem_isort.mpr (by simp))
      have h2 := hqu.2.2 u (mem_isort.mpr (by simp))
      exact hne (one_pair hq.1.1 h1 h2 ((pair_mem v1 hxy).mpr ⟨x1, y1⟩) ((pair_mem v2 hxy).mpr ⟨x2, y2⟩))
  refine ((List.perm_ext_iff_of_nodup nd (fulls_nodup hp)).mpr fun q => ?_).length_eq
  rw [List.mem_flatMap, mem_fulls hp]
  constructor
  · rintro ⟨t, ht, hq⟩
    obtain ⟨a1, v1, x1, y1⟩ := ha t ht
    rw [mem_fulls a1] at hq
    exact ⟨hq.1, hq.2.1, fun s hs => hq.2.2 s (mem_isort.mpr (by simp [hs]))⟩
  · rintro ⟨h1, h2, h3⟩
    obtain ⟨t, ht, tx, ty⟩ := (left_nil h1.1.val).mp h1.2 x y hxy hyn
    have vt := h1.1.val t ht
    have hct : ∀ s, s ∈ p → clash t s = false := fun s hs => by
      refine h1.1.nc t ht s (h3 s hs) fun e => hm (mem_met.mpr ⟨s, hs, ?_⟩)
      rw [← e]
      exact (pair_mem vt hxy).mpr ⟨tx, ty⟩
    have hf : t ∈ freeOf n p := by
      unfold freeOf
      rw [List.mem_filter, mem_every, List.all_eq_true]
      exact ⟨vt, fun s hs => by rw [hct s hs]; rfl⟩
    have htl : t ∈ (freeOf n p).filter fun t => has t x && has t y := List.mem_filter.mpr ⟨hf, by rw [tx, ty]; rfl⟩
    refine ⟨t, htl, (mem_fulls (ha t htl).1).mpr ⟨h1, h2, fun s hs => ?_⟩⟩
    rcases List.mem_append.mp (mem_isort.mp hs) with z | z
    · exact h3 s z
    · rw [List.mem_singleton.mp z]; exact ht
/-! renamed -/
theorem v_renamed {ic ii iN : Nat} (hc : ChPlanOk Φ ic) (hi : IsIntOk Φ ii) (hN : NamedOk Φ iN) {n : Nat} {p : List T3} (h : Pl n p) {names : List Nat} (hn : Nms n names) : fnv Φ 4 (x_renamed ic ii iN) [.d (enc n), .d (enc p), .d (enc names)] g = .ok (.d (enc (namedOf p names))) g := by
  have h1 := h.lo
  have h2 := h.hi
  have h3 := h.len
  have hl := hn.len
  refine fnv_rt ?_
  show runs Φ (x_renamed ic ii iN) [some (.d (enc n)), some (.d (enc p)), some (.d (enc names)), none] g = _
  unfold x_renamed
  have e1 : isiD .tuple (enc names) = true := rfl
  have hall : (names.all fun x => decide (0 ≤ x ∧ x ≤ n - 1)) = true := by
    rw [List.all_eq_true]
    intro x hx
    have := hn.pm.mem_iff.mp hx
    rw [List.mem_range] at this
    exact decide_eq_true (by omega)
  have hsort : isort names = List.range n := by
    have key : ∀ {p q : List Nat}, p.Pairwise (· ≤ ·) → q.Pairwise (· ≤ ·) → p.Perm q → p = q := by
      intro p
      induction p with
      | nil => intro q _ _ h; exact List.Perm.nil_eq h
      | cons x p ih =>
        intro q hp hq h
        cases q with
        | nil => exact absurd h.length_eq (by simp)
        | cons y q =>
          obtain ⟨h1, h2⟩ := List.pairwise_cons.mp hp
          obtain ⟨h3, h4⟩ := List.pairwise_cons.mp hq
          have e : x = y := by
            rcases List.mem_cons.mp (h.mem_iff.mp (List.mem_cons_self : x ∈ x :: p)) with e | hx
            · exact e
            · rcases List.mem_cons.mp (h.mem_iff.mpr (List.mem_cons_self : y ∈ y :: q)) with e | hy
              · exact e.symm
              · have := h1 y hy
                have := h3 x hx
                omega
          subst e
          rw [ih h2 h4 h.cons_inv]
    have so : ∀ l : List Nat, (isort l).Pairwise (· ≤ ·) := by
      have ti : ∀ (x : Nat) (p : List Nat), p.Pairwise (· ≤ ·) → (tins x p).Pairwise (· ≤ ·) := by
        intro x p
        induction p with
        | nil => intro _; simp [tins]
        | cons y r ih =>
          intro h
          obtain ⟨h1, h2⟩ := List.pairwise_cons.mp h
          unfold tins
          rw [tlt_nat]
          split
          · rename_i hy
            have hy := of_decide_eq_true hy
            refine List.pairwise_cons.mpr ⟨fun z hz => ?_, ih h2⟩
            rcases List.mem_cons.mp ((tins_perm x r).mem_iff.mp hz) with rfl | hz
            · omega
            · exact h1 z hz
          · rename_i hy
            have hy : ¬ y < x := by simpa using hy
            refine List.pairwise_cons.mpr ⟨fun z hz => ?_, h⟩
            rcases List.mem_cons.mp hz with rfl | hz
            · omega
            · have := h1 z hz; omega
      intro l
      induction l with
      | nil => exact List.Pairwise.nil
      | cons x r ih => exact ti x _ ih
    exact key (so names) (List.pairwise_lt_range.imp fun h => Nat.le_of_lt h) ((isort_perm names).trans hn.pm)
  have hv : ∀ t, t ∈ p → t.a < names.length ∧ t.b < names.length ∧ t.c < names.length := fun t ht => by
    have := h.ap.val t ht
    unfold valid at this
    omega
  have hs : bltD .sorted [enc names] = some (.own (.lst ((isort names).map enc))) := sorted_NT (by omega)
  dsimp! [hc _ _ _ h, e1]
  rw [ev_cm (xs := names) (fun x => .bool (decide (0 ≤ x ∧ x ≤ n - 1)))]
  · dsimp! [hall, hs, hsort, lrng_N, hN _ _ _ _ hv]
  · show evi Φ false (.seq (.v 2)) _ g = _
    have e2 : seq? (enc names) = some (names.map enc) := rfl
    dsimp! [e2]
  · unfold lim; omega
  · intro x hx
    exact ⟨_, rfl, _, by dsimp! [hi.nat _ _ _ _]; rfl, rfl⟩
def RenamedOk (Φ : Nat → Fn) (i : Nat) : Prop := ∀ (n : Nat) (p : List T3) (names : List Nat) (g : G), Pl n p → Nms n names → Φ i [.d (enc n), .d (enc p), .d (enc names)] g = .ok (.d (enc (namedOf p names))) g
end TP
namespace TP
open PySem L2
open Enc (enc)
variable {Φ : Nat → Fn} {g : G}
theorem run_aug' {ρ : Env'} {i : Nat} {e : E} : run Φ (.aug i e) ρ g = od (Res.of (get ρ i >>= W.int?) g) (fun x g0 => od (ev Φ e ρ g0) (fun w g1 => od (Res.of w.int? g1) (fun y g2 => .nx (ρ.set i (some (.d (.int (x + y))))) g2) ⟨⟩) ⟨⟩) ⟨⟩ := by
  unfold od
  rw [run]
  cases get ρ i with
  | none => rfl
  | some w =>
    cases w with
    | d x =>
      cases x with
      | int x =>
        show (ev Φ e ρ g).out _ = (Res.of (some x) g).out _
        rw [of_some, out_ok]
        cases ev Φ e ρ g with
        | ok w g1 =>
          simp only [out_ok]
          cases w.int? <;> rfl
        | ex c g1 => rfl
        | no => rfl
      | _ => rfl
    | _ => rfl
theorem add_enc {a b : Nat} : PyData.int ((a : Int) + (b : Int)) = enc (a + b) := by
  show _ = PyData.int ((a + b : Nat) : Int)
  rw [Int.natCast_add]
theorem gint_e {a : Nat} : (some (W.d (enc a)) >>= W.int?) = some (a : Int) := nrfl rfl
def emp (t o : T3) : Bool := ([t.a, t.b, t.c].filter fun x => has o x).isEmpty
theorem emp_common (t o : T3) : emp t o = decide (common t o = 0) := by
  unfold emp common
  cases ([t.a, t.b, t.c].filter fun x => has o x) <;> simp
theorem named_perm (p : List T3) (names : List Nat) : (namedOf p names).Perm (p.map (ren3 names)) := isort_perm _
theorem filter_named {p : List T3} {names : List Nat} {f f' : T3 → Bool} (h : ∀ t, t ∈ p → f (ren3 names t) = f' t) : ((namedOf p names).filter f).Perm ((p.filter f').map (ren3 names)) := by
  refine ((named_perm p names).filter f).trans ?_
  rw [List.filter_map]
  have : p.filter (f ∘ ren3 names) = p.filter f' := List.filter_congr fun t ht => h t ht
  rw [this]
end TP
/-! days.py by typed values. -/
namespace TP
open PySem L2
open Enc (enc)
variable {Φ : Nat → Fn} {g : G}
def plr (t : T3) : List Nat := [t.a, t.b, t.c]
def makesDay (n : Nat) (d : List T3) : Bool := d.all (isThree n) && (decide (isort (d.flatMap plr) = List.range n) && decide (d = isort d))
theorem plr_len (d : List T3) : (d.flatMap plr).length = 3 * d.length := by
  induction d with
  | nil => rfl
  | cons t d ih => rw [List.flatMap_cons, List.length_append, ih, List.length_cons]; show 3 + _ = _; omega
theorem v_makes_day {ii : Nat} (hi : FitsOk Φ ii) (n : Nat) (d : List T3) (hn : 1 ≤ n) (hn2 : n ≤ 9) (hd : d.length ≤ 1000) : fnv Φ 4 (x_makes_day ii) [.d (enc n), .d (enc d)] g = .ok (.d (.bool (makesDay n d))) g := by
  refine fnv_rt ?_
  show runs Φ (x_makes_day ii) [some (.d (enc n)), some (.d (enc d)), none, none] g = _
  unfold x_makes_day makesDay
  dsimp! [isi_P]
  rw [ev_cm (xs := d) (fun t => .bool (isThree n t))]
  · generalize hA : (d.all fun t => isThree n t) = A
    have hA' : d.all (isThree n) = A := hA
    cases A with
    | false => dsimp! [hA, hA']
    | true =>
      dsimp! [hA, hA']
      rw [run_for (xs := d) (fun l => [some (.d (enc n)), some (.d (enc d)), none, some (.own (.lst ((l.flatMap plr).map enc)))])]
      · have hf := plr_len d
        have e1 := sorted_N (xs := d.flatMap plr) (by omega)
        have e2 := sorted_TP (xs := d) (by omega)
        dsimp! [e1, e2, lrng_N]
      · dsimp! []
      · rfl
      · intro l x r e
        have hl := pre_len e
        have hf := plr_len l
        have hx : (plr x).length ≤ 3 := Nat.le_refl 3
        rw [List.flatMap_append, List.flatMap_singleton]
        have e3 : seq? (enc x) = some ((plr x).map enc) := rfl
        dsimp! [e3]
  · dsimp! []
  · unfold lim; omega
  · intro x hx
    exact ⟨_, rfl, _, by dsimp! [hi _ _ _]; rfl, rfl⟩
def MakesDayOk (Φ : Nat → Fn) (i : Nat) : Prop := ∀ (n : Nat) (d : List T3) (g : G), 1 ≤ n → n ≤ 9 → d.length ≤ 1000 → Φ i [.d (enc n), .d (enc d)] g = .ok (.d (.bool (makesDay n d))) g
theorem v_is_day {ic im : Nat} (hc : ChPlayersOk Φ ic) (hm : MakesDayOk Φ im) (n : Nat) (d : List T3) (h1 : 3 ≤ n) (h2 : n ≤ 9) (hd : d.length ≤ 1000) : fnv Φ 2 (x_is_day ic im) [.d (enc n), .d (enc d)] g = .ok (.d (.bool (makesDay n d))) g := by
  refine fnv_rt ?_
  show runs Φ (x_is_day ic im) [some (.d (enc n)), some (.d (enc d))] g = _
  unfold x_is_day
  dsimp! [hc _ _ _ _, hm _ _ _ _ _ _]
def IsDayOk (Φ : Nat → Fn) (i : Nat) : Prop := ∀ (n : Nat) (d : List T3) (g : G), 3 ≤ n → n ≤ 9 → d.length ≤ 1000 → Φ i [.d (enc n), .d (enc d)] g = .ok (.d (.bool (makesDay n d))) g
/-- may be put behind -/
def okD (one : List T3) (t : T3) : Bool := !((plr t).any fun x => mem x (one.flatMap plr)) && (one.isEmpty || tlt (one.getLastD ⟨0, 0, 0⟩) t)
def extD (p one : List T3) : List (List T3) := (p.filter (okD one)).map fun t => one ++ [t]
def daysK (p : List T3) : Nat → List (List T3)
  | 0 => [[]]
  | k + 1 => (daysK p k).flatMap (extD p)
def dayList (n : Nat) (p : List T3) : List (List T3) := (daysK p (n / 3)).filter (makesDay n)
theorem extD_len (p one : List T3) : (extD p one).length ≤ p.length := by
  unfold extD
  rw [List.length_map]
  exact List.length_filter_le _ _
theorem daysK_len (p : List T3) (hp : p.length ≤ 12) : ∀ k, k ≤ 3 → (daysK p k).length ≤ 12 ^ k
  | 0, _ => Nat.le_refl 1
  | k + 1, hk => by
    have ih := daysK_len p hp k (by omega)
    have := flat_len' (extD p) 12 (daysK p k) fun x _ => Nat.le_trans (extD_len p x) hp
    show (List.flatMap _ _).length ≤ _
    rw [Nat.pow_succ]
    have := Nat.mul_le_mul_right 12 ih
    omega
theorem daysK_one (p : List T3) : ∀ k, ∀ d, d ∈ daysK p k → d.length = k
  | 0, d, h => by rw [List.mem_singleton.mp h]; rfl
  | k + 1, d, h => by
    obtain ⟨one, h1, h2⟩ := List.mem_flatMap.mp h
    obtain ⟨t, _, rfl⟩ := List.mem_map.mp h2
    rw [List.length_append, daysK_one p k one h1]
    rfl
theorem ixLastP {d : List T3} (h : d ≠ []) : ixD (enc d) (.int (-((1 : Nat) : Int))) = some (enc (d.getLastD ⟨0, 0, 0⟩)) := by
  obtain ⟨init, x, rfl⟩ : ∃ init x, d = init ++ [x] := ⟨_, _, (List.dropLast_concat_getLast h).symm⟩
  rw [List.getLastD_concat]
  have := ixLast (xs := init) (x := x)
  exact this
end TP
namespace TP
open PySem L2
open Enc (enc)
variable {Φ : Nat → Fn} {g : G}
def movE : Option (Option W) → Option PyData
  | some (some (.own (.lst xs))) => some (.list xs)
  | some (some (.d x)) => some x
  | _ => none
theorem movE_own {xs : List PyData} : movE (some (some (.own (.lst xs)))) = some (.list xs) := nrfl rfl
theorem movE_d {x : PyData} : movE (some (some (.d x))) = some x := nrfl rfl
theorem set_same {α : Type} {l : List α} {j : Nat} {x : α} (h : l[j]? = some x) : l.set j x = l := by
  obtain ⟨hj, e⟩ := List.getElem?_eq_some_iff.mp h
  rw [← e, List.set_getElem_self]
theorem run_mov' {ρ : Env'} {i j : Nat} : run Φ (.mov i j) ρ g = od (Res.of (movE ρ[j]?) g) (fun x g1 => .nx ((ρ.set j (some (.d x))).set i (some (.d x))) g1) ⟨⟩ := by
  unfold od
  rw [run]
  split
  · rename_i xs e
    rw [e, movE_own]
    rfl
  · rename_i x e
    rw [e, movE_d, of_some, out_ok, set_same e]
  · rename_i h1 h2
    unfold movE
    split
    · rename_i xs e
      exact absurd e (h1 xs)
    · rename_i x e
      exact absurd e (h2 x)
    · rfl
theorem v_day_list {im : Nat} (hm : MakesDayOk Φ im) {n : Nat} {p : List T3} (h : Pl n p) : fnv Φ 9 (x_day_list im) [.d (enc n), .d (enc p)] g = .ok (.own (.lst ((dayList n p).map enc))) g := by
  have h1 := h.lo
  have h2 := h.hi
  have h3 := h.len
  have hk : n / 3 ≤ 3 := by omega
  have hl3 : (daysK p (n / 3)).length ≤ 1728 := by
    have := daysK_len p h3 (n / 3) hk
    have := Nat.pow_le_pow_right (n := 12) (by decide) hk
    omega
  refine fnv_rt ?_
  show runs Φ (x_day_list im) [some (.d (enc n)), some (.d (enc p)), none, none, none, none, none, none, none] g = _
  unfold x_day_list
  dsimp! []
  rw [run_for (xs := List.range (n / 3)) (fun l => [some (.d (enc n)), some (.d (enc p)), some (.d (.list ((daysK p l.length).map enc))), none, none, none, none, none, none])]
  · rw [List.length_range]
    dsimp! []
    rw [ev_cf (xs := daysK p (n / 3)) (makesDay n) enc]
    · rfl
    · dsimp! []
    · unfold lim; omega
    · intro d hd
      have hdl := daysK_one p _ d hd
      exact ⟨_, rfl, by dsimp! [hm _ _ _ _ _ _], fun _ => ⟨_, by dsimp! []; rfl, rfl⟩⟩
  · dsimp! []
  · rfl
  · intro l x r e
    have hl := pre_len e
    rw [List.length_range] at hl
    have hk2 : l.length ≤ 3 := by omega
    have hdl := daysK_len p h3 l.length hk2
    have hdl2 := Nat.pow_le_pow_right (n := 12) (by decide) hk2
    rw [List.length_append, List.length_singleton]
    dsimp! []
    rw [run_for (xs := daysK p l.length) (fun m => [some (.d (enc n)), some (.d (enc p)), some (.d (.list ((daysK p l.length).map enc))), some (.d (enc x)), some (.own (.lst ((m.flatMap (extD p)).map enc))), none, none, none, none])]
    · dsimp! [run_mov', List.getElem?_cons_succ, List.getElem?_cons_zero, movE_own]
      rfl
    · dsimp! []
    · rfl
    · intro m one r2 e2
      have hml := pre_len e2
      have hm1 : one ∈ daysK p l.length := by rw [e2]; simp
      have hol := daysK_one p _ one hm1
      have hfl := flat_len' (extD p) 12 m fun x _ => Nat.le_trans (extD_len p x) h3
      dsimp! []
      rw [run_for (xs := one) (fun q => [some (.d (enc n)), some (.d (enc p)), some (.d (.list ((daysK p l.length).map enc))), some (.d (enc x)), some (.own (.lst ((m.flatMap (extD p)).map enc))), some (.d (enc one)), some (.own (.lst ((q.flatMap plr).map enc))), none, none])]
      · dsimp! []
        rw [run_for (xs := p) (fun q => [some (.d (enc n)), some (.d (enc p)), some (.d (.list ((daysK p l.length).map enc))), some (.d (enc x)), some (.own (.lst ((m.flatMap (extD p) ++ (q.filter (okD one)).map fun t => one ++ [t]).map enc))), some (.d (enc one)), some (.own (.lst ((one.flatMap plr).map enc))), none, none])]
        · rw [List.flatMap_append, List.flatMap_singleton]
          dsimp! []
          rfl
        · dsimp! []
        · simp only [List.filter_nil, List.map_nil, List.append_nil]
        · intro q t r3 e3
          have hql := pre_len e3
          have hqf := List.length_filter_le (okD one) q
          rw [snoc_if]
          dsimp! []
          rw [ev_cm (xs := plr t) (fun y => .bool (mem y (one.flatMap plr)))]
          · have hA : okD one t = (!((plr t).any fun x => mem x (one.flatMap plr)) && (one.isEmpty || tlt (one.getLastD ⟨0, 0, 0⟩) t)) := rfl
            generalize hB : ((plr t).any fun x => mem x (one.flatMap plr)) = B at hA
            cases B with
            | true =>
              rw [hA]
              dsimp! [hB, List.append_nil]
            | false =>
              by_cases ho : one = []
              · have hd : decide (one = []) = true := decide_eq_true ho
                have hone : one.isEmpty = true := by rw [ho]; rfl
                rw [hA, hone]
                dsimp! [hB, hd, List.append_assoc]
              · have hd : decide (one = []) = false := decide_eq_false ho
                have hone : one.isEmpty = false := by cases one with | nil => exact absurd rfl ho | cons _ _ => rfl
                rw [hA, hone]
                have hLL := ixLastP ho
                generalize hC : tlt (one.getLastD ⟨0, 0, 0⟩) t = C
                cases C with
                | true => dsimp! [hB, hd, hLL, hC, List.append_assoc]
                | false => dsimp! [hB, hd, hLL, hC, List.append_nil]
          · have e4 : seq? (enc t) = some ((plr t).map enc) := rfl
            dsimp! [e4]
          · show 3 ≤ lim; unfold lim; omega
          · intro y hy
            exact ⟨_, rfl, _, by dsimp! []; rfl, rfl⟩
      · dsimp! []
      · rfl
      · intro q t r3 e3
        have hql := pre_len e3
        have hf := plr_len q
        have hx : (plr t).length ≤ 3 := Nat.le_refl 3
        rw [List.flatMap_append, List.flatMap_singleton]
        have e4 : seq? (enc t) = some ((plr t).map enc) := rfl
        dsimp! [e4]
end TP
/-! days_in, into_days. -/
namespace TP
open PySem L2
open Enc (enc)
variable {Φ : Nat → Fn} {g : G}
/-- a while loop that goes down, or returns -/
theorem while_exR {cond : Env' → G → Res Bool} {body : Env' → G → Out} (Inv : Nat → Env' → G → Prop) (R : W → G → Prop) (hs : ∀ m ρ g, Inv m ρ g → cond ρ g = .ok false g ∨ (cond ρ g = .ok true g ∧ ((∃ m' ρ' g', m' < m ∧ (body ρ g).then (fun ρ2 g2 => .nx (mask ρ ρ2) g2) = .nx ρ' g' ∧ Inv m' ρ' g') ∨ ∃ w g', (body ρ g).then (fun ρ2 g2 => .nx (mask ρ ρ2) g2) = .rt w g' ∧ R w g'))) :
    ∀ (m fuel : Nat) (ρ : Env') (g : G), Inv m ρ g → m < fuel → (∃ m' ρ' g', whileL cond body fuel ρ g = .nx ρ' g' ∧ Inv m' ρ' g' ∧ cond ρ' g' = .ok false g') ∨ ∃ w g', whileL cond body fuel ρ g = .rt w g' ∧ R w g'
  | m, 0, ρ, g, _, hf => absurd hf (Nat.not_lt_zero _)
  | m, fuel + 1, ρ, g, h, hf => by
    rcases hs m ρ g h with e | ⟨e, ⟨m', ρ', g', hm, e2, h2⟩ | ⟨w, g', e2, h2⟩⟩
    · refine .inl ⟨m, ρ, g, ?_, h, e⟩
      unfold whileL
      rw [e]
      rfl
    · have ih := while_exR Inv R hs m' fuel ρ' g' h2 (by omega)
      have key : whileL cond body (fuel + 1) ρ g = whileL cond body fuel ρ' g' := by
        rw [whileL]
        rw [e]
        simp only [out_ok, if_true]
        cases q : body ρ g with
        | nx ρ4 g4 =>
          rw [q] at e2
          simp only [then_nx] at e2 ⊢
          injection e2 with e4 e5
          subst e4 e5
          rfl
        | rt w g4 => rw [q] at e2; cases e2
        | ex c g4 => rw [q] at e2; cases e2
        | no => rw [q] at e2; cases e2
      rw [key]
      exact ih
    · refine .inr ⟨w, g', ?_, h2⟩
      unfold whileL
      rw [e]
      simp only [out_ok, if_true]
      cases q : body ρ g with
      | nx ρ4 g4 => rw [q] at e2; cases e2
      | rt w2 g4 => rw [q] at e2; exact e2
      | ex c g4 => rw [q] at e2; cases e2
      | no => rw [q] at e2; cases e2
theorem run_whR {ρ : Env'} {c : E} {b : SL} (Inv : Nat → Env' → G → Prop) (R : W → G → Prop) (m : Nat) (hm : m < 10000000000000000000000000000000000000000) (h0 : Inv m ρ g) (hs : ∀ m ρ g, Inv m ρ g → ∃ k : Bool, ev Φ c ρ g = .ok (.d (.bool k)) g ∧ (k = true → (∃ m' ρ' g', m' < m ∧ td (runs Φ b ρ g) (fun ρ2 g2 => .nx (mask ρ ρ2) g2) ⟨⟩ = .nx ρ' g' ∧ Inv m' ρ' g') ∨ ∃ w g', td (runs Φ b ρ g) (fun ρ2 g2 => .nx (mask ρ ρ2) g2) ⟨⟩ = .rt w g' ∧ R w g')) :
    (∃ m' ρ' g', run Φ (.wh c b) ρ g = .nx ρ' g' ∧ Inv m' ρ' g' ∧ ev Φ c ρ' g' = .ok (.d (.bool false)) g') ∨ ∃ w g', run Φ (.wh c b) ρ g = .rt w g' ∧ R w g' := by
  rcases while_exR (cond := fun ρ g => (ev Φ c ρ g).bind fun w g1 => .of w.bl? g1) (body := fun ρ g => runs Φ b ρ g) Inv R (fun m ρ g h => by
    obtain ⟨k, e1, h1⟩ := hs m ρ g h
    cases k with
    | false => exact .inl (by simp only [e1, bind_ok]; rfl)
    | true => exact .inr ⟨by simp only [e1, bind_ok]; rfl, h1 rfl⟩) m fuel ρ g h0 hm with ⟨m', ρ', g', e, h1, h2⟩ | ⟨w, g', e, h1⟩
  · refine .inl ⟨m', ρ', g', e, h1, ?_⟩
    obtain ⟨k, e1, _⟩ := hs m' ρ' g' h1
    simp only [e1, bind_ok] at h2
    cases k with
    | false => exact e1
    | true => cases h2
  · exact .inr ⟨w, g', e, h1⟩
def DayListOk (Φ : Nat → Fn) (i : Nat) : Prop := ∀ (n : Nat) (p : List T3) (g : G), Pl n p → Φ i [.d (enc n), .d (enc p)] g = .ok (.own (.lst ((dayList n p).map enc))) g
theorem v_days_in {ic il : Nat} (hc : ChPlanOk Φ ic) (hl : DayListOk Φ il) {n : Nat} {p : List T3} (h : Pl n p) : fnv Φ 2 (x_days_in ic il) [.d (enc n), .d (enc p)] g = .ok (.own (.lst ((dayList n p).map enc))) g := by
  refine fnv_rt ?_
  show runs Φ (x_days_in ic il) [some (.d (enc n)), some (.d (enc p))] g = _
  unfold x_days_in
  dsimp! [hc _ _ _ h, hl _ _ _ h]
def DaysInOk (Φ : Nat → Fn) (i : Nat) : Prop := ∀ (n : Nat) (p : List T3) (g : G), Pl n p → Φ i [.d (enc n), .d (enc p)] g = .ok (.own (.lst ((dayList n p).map enc))) g
/-! into_days -/
abbrev Day := List T3
abbrev NdI := Ls Day × Ls T3
instance : Fact' (Enc.dp (Ls Day) ≤ 30) := ⟨by decide⟩
theorem fold_ndi {f : List Day} {L : List T3} : PyData.tuple [.list (f.map enc), .list (L.map enc)] = enc ((⟨f⟩, ⟨L⟩) : NdI) := nrfl rfl
def okI (L : List T3) (t : T3) (d : Day) : Bool := mem t d && d.all fun s => mem s L
def kidI (s : NdI) (d : Day) : NdI := (⟨s.1.l ++ [d]⟩, ⟨s.2.l.filter fun t => !mem t d⟩)
def kidsI (days : List Day) (s : NdI) (t : T3) : List NdI := (days.filter (okI s.2.l t)).map (kidI s)
def allI (days : List Day) : Nat → NdI → List (List Day)
  | 0, _ => []
  | k + 1, s => match s.2.l with
    | [] => [s.1.l]
    | t :: _ => (kidsI days s t).flatMap (allI days k)
theorem kidI_lt {t : T3} {r : List T3} {f : List Day} {d : Day} (h : okI (t :: r) t d = true) : (kidI (⟨f⟩, ⟨t :: r⟩) d).2.l.length ≤ r.length := by
  unfold okI at h
  rw [Bool.and_eq_true] at h
  unfold kidI
  simp only [List.filter_cons, h.1, Bool.not_true, Bool.false_eq_true, if_false]
  exact List.length_filter_le _ _
theorem flat_congr {α β : Type} {f f' : α → List β} : ∀ l : List α, (∀ x, x ∈ l → f x = f' x) → l.flatMap f = l.flatMap f'
  | [], _ => rfl
  | x :: l, h => by rw [List.flatMap_cons, List.flatMap_cons, h x List.mem_cons_self, flat_congr l fun y hy => h y (List.mem_cons_of_mem _ hy)]
theorem mem_kidsI {days : List Day} {s c : NdI} {t : T3} : c ∈ kidsI days s t ↔ ∃ d, d ∈ days ∧ okI s.2.l t d = true ∧ kidI s d = c := by
  unfold kidsI
  rw [List.mem_map]
  constructor
  · rintro ⟨d, hd, rfl⟩
    exact ⟨d, (List.mem_filter.mp hd).1, (List.mem_filter.mp hd).2, rfl⟩
  · rintro ⟨d, h1, h2, rfl⟩
    exact ⟨d, List.mem_filter.mpr ⟨h1, h2⟩, rfl⟩
theorem allI_fuel (days : List Day) : ∀ (k m : Nat) (s : NdI), s.2.l.length < k → s.2.l.length < m → allI days k s = allI days m s
  | 0, _, _, h, _ => absurd h (Nat.not_lt_zero _)
  | _, 0, _, _, h => absurd h (Nat.not_lt_zero _)
  | k + 1, m + 1, (⟨f⟩, ⟨[]⟩), _, _ => rfl
  | k + 1, m + 1, (⟨f⟩, ⟨t :: r⟩), h1, h2 => by
    show (kidsI days (⟨f⟩, ⟨t :: r⟩) t).flatMap (allI days k) = (kidsI days (⟨f⟩, ⟨t :: r⟩) t).flatMap (allI days m)
    have h1 : r.length + 1 < k + 1 := h1
    have h2 : r.length + 1 < m + 1 := h2
    refine flat_congr _ fun c hc => ?_
    obtain ⟨d, _, hd, rfl⟩ := mem_kidsI.mp hc
    have := kidI_lt (f := f) hd
    exact allI_fuel days k m _ (by omega) (by omega)
def runI (days : List Day) (s : NdI) : List (List Day) := allI days (s.2.l.length + 1) s
theorem runI_nil (days : List Day) (f : List Day) : runI days (⟨f⟩, ⟨[]⟩) = [f] := rfl
theorem runI_cons (days : List Day) (f : List Day) (t : T3) (r : List T3) : runI days (⟨f⟩, ⟨t :: r⟩) = (kidsI days (⟨f⟩, ⟨t :: r⟩) t).flatMap (runI days) := by
  show (kidsI days (⟨f⟩, ⟨t :: r⟩) t).flatMap (allI days (r.length + 1)) = _
  refine flat_congr _ fun c hc => ?_
  obtain ⟨d, _, hd, rfl⟩ := mem_kidsI.mp hc
  have := kidI_lt (f := f) hd
  exact allI_fuel days _ _ _ (by omega) (Nat.lt_succ_self _)
def wtI (s : NdI) : Nat := 2000 ^ (s.2.l.length)
def wtsI (l : List NdI) : Nat := (l.map wtI).sum
theorem wtsI_app (a b : List NdI) : wtsI (a ++ b) = wtsI a + wtsI b := by
  unfold wtsI
  rw [List.map_append, List.sum_append]
theorem wtsI_kids {days : List Day} (hd : days.length ≤ 1728) {f : List Day} {t : T3} {r : List T3} : wtsI (kidsI days (⟨f⟩, ⟨t :: r⟩) t).reverse < wtI (⟨f⟩, ⟨t :: r⟩) := by
  have key : ∀ l : List NdI, (∀ c, c ∈ l → c.2.l.length ≤ r.length) → wtsI l ≤ l.length * 2000 ^ r.length := by
    intro l
    induction l with
    | nil => intro _; exact Nat.zero_le _
    | cons c l ih =>
      intro hl
      have := ih fun x hx => hl x (List.mem_cons_of_mem _ hx)
      have e : wtsI (c :: l) = wtI c + wtsI l := rfl
      have h2 : wtI c ≤ 2000 ^ r.length := Nat.pow_le_pow_right (by decide) (hl c List.mem_cons_self)
      rw [e, List.length_cons, Nat.succ_mul]
      omega
  have h1 := key (kidsI days (⟨f⟩, ⟨t :: r⟩) t).reverse fun c hc => by
    obtain ⟨d, _, hd, rfl⟩ := mem_kidsI.mp (List.mem_reverse.mp hc)
    exact kidI_lt hd
  have hl : (kidsI days (⟨f⟩, ⟨t :: r⟩) t).reverse.length ≤ 1728 := by
    rw [List.length_reverse]
    unfold kidsI
    rw [List.length_map]
    exact Nat.le_trans (List.length_filter_le _ _) hd
  have e : wtI (⟨f⟩, ⟨t :: r⟩) = 2000 ^ r.length * 2000 := by
    show 2000 ^ (t :: r).length = _
    rw [List.length_cons, Nat.pow_succ]
  rw [e]
  have p : 0 < 2000 ^ r.length := Nat.pow_pos (by decide)
  have := Nat.mul_le_mul_right (2000 ^ r.length) hl
  omega
theorem rev_L {α : Type} [DecidableEq α] [Enc α] {xs : List α} : revD (.list (xs.map enc)) = some (.own (.lst (xs.reverse.map enc))) := by
  show some (W.own (.lst (xs.map enc).reverse)) = _
  rw [List.map_reverse]
theorem dayList_len {n : Nat} {p : List T3} (h : Pl n p) : (dayList n p).length ≤ 1728 := by
  have h2 := h.hi
  have hk : n / 3 ≤ 3 := by omega
  have := daysK_len p h.len (n / 3) hk
  have := Nat.pow_le_pow_right (n := 12) (by decide) hk
  have := List.length_filter_le (makesDay n) (daysK p (n / 3))
  unfold dayList
  omega
theorem mem_dayList_len {n : Nat} {p : List T3} {d : Day} (hn : n ≤ 9) (h : d ∈ dayList n p) : d.length ≤ 3 := by
  have := daysK_one p _ d (List.mem_filter.mp h).1
  omega
theorem b_add1 {α : Type} [DecidableEq α] [Enc α] {xs : List α} {x : α} (h : xs.length + 1 ≤ 16777216) : binD .add (.list (xs.map enc)) (.list [enc x]) = some (.own (.lst ((xs ++ [x]).map enc))) := b_addL (ys := [x]) h
theorem v_into_days {ic il : Nat} (hc : ChPlanOk Φ ic) (hl : DayListOk Φ il) {n : Nat} {p : List T3} (h : Pl n p) : fnv Φ 8 (x_into_days ic il) [.d (enc n), .d (enc p)] g = match (runI (dayList n p) (⟨[]⟩, ⟨p⟩)).head? with
    | some f => .ok (.d (enc (⟨f⟩ : Ls Day))) g
    | none => .ex 7 g := by
  have h3 := h.len
  have h2 := h.hi
  have hdl := dayList_len h
  have hd3 : ∀ d, d ∈ dayList n p → d.length ≤ 3 := fun d hd => mem_dayList_len h2 hd
  generalize hD : dayList n p = days at hdl hd3
  let st : List NdI → Env' := fun line => [some (.d (enc n)), some (.d (enc p)), some (.d (.list (days.map enc))), some (.own (.lst (line.map enc))), none, none, none, none]
  let s0 : NdI := (⟨[]⟩, ⟨p⟩)
  let Inv : Nat → Env' → G → Prop := fun m ρ g' => ∃ line, ρ = st line ∧ g' = g ∧ wtsI line = m ∧ line.reverse.flatMap (runI days) = runI days s0 ∧ (∀ s, s ∈ line → s.1.l.length + s.2.l.length ≤ 12) ∧ ∀ i s, line[i]? = some s → i + 1728 * s.2.l.length ≤ 20736
  let R : W → G → Prop := fun w g' => g' = g ∧ ∃ f, (runI days s0).head? = some f ∧ w = .d (enc (⟨f⟩ : Ls Day))
  have key := run_whR (Φ := Φ) (g := g) (ρ := st [s0]) (c := (.o2 .ne (.v 3) (.lst .nil))) (b := (.cons (.popT (.two 4 5) 3) (.cons (.ife (.o2 .eq (.v 5) (.lst .nil)) (.cons (.ret (.v 4)) .nil) .nil) (.cons (.fr [] (.one 6) (.seq (.rev (.v 2))) (.cons (.ife (.ban (.cons (.o2 .inn (.ix (.v 5) (.c (enc (0 : Nat)))) (.v 6)) (.cons (.blt .all (.cons (.comp (.o2 .inn (.v 7) (.v 5)) (.one 7) (.seq (.v 6)) .non) .nil)) .nil))) (.cons (.app 3 (.tup (.cons (.o2 .add (.v 4) (.lst (.cons (.v 6) .nil))) (.cons (.comp (.v 7) (.one 7) (.seq (.v 5)) (.som (.o2 .notin (.v 7) (.v 6)))) .nil)))) .nil) .nil) .nil)) .nil)))) Inv R (wtsI [s0]) (by
      show 2000 ^ p.length + 0 < _
      have := Nat.pow_le_pow_right (n := 2000) (by decide) h3
      omega) ⟨[s0], rfl, rfl, rfl, by simp, (fun s hs => by
      rw [List.mem_singleton.mp hs]
      show 0 + p.length ≤ 12
      omega), (fun i s hs => by
      match i, hs with
      | 0, hs =>
        have : s = s0 := by simpa using hs.symm
        rw [this]
        show 0 + 1728 * p.length ≤ 20736
        omega
      | i + 1, hs => simp at hs)⟩ (by
      rintro m ρ g' ⟨line, rfl, rfl, hm, ht, ha, hi⟩
      refine ⟨!line.isEmpty, by show ev Φ _ [some (.d (enc n)), some (.d (enc p)), some (.d (.list (days.map enc))), some (.own (.lst (line.map enc))), none, none, none, none] _ = _; dsimp! [], fun hk => ?_⟩
      have hne : line ≠ [] := fun z => by rw [z] at hk; cases hk
      obtain ⟨init, s, rfl⟩ : ∃ init s, line = init ++ [s] := ⟨_, _, (List.dropLast_concat_getLast hne).symm⟩
      obtain ⟨⟨f⟩, ⟨L⟩⟩ := s
      have hL := ha (⟨f⟩, ⟨L⟩) (by simp)
      have hpos := hi init.length (⟨f⟩, ⟨L⟩) (by rw [List.getElem?_append_right (Nat.le_refl _), Nat.sub_self]; rfl)
      simp only at hpos hL
      rw [List.reverse_append, List.reverse_singleton, List.singleton_append, List.flatMap_cons] at ht
      cases L with
      | nil =>
        refine .inr ⟨.d (enc (⟨f⟩ : Ls Day)), _, ?_, rfl, f, ?_, rfl⟩
        · show td (runs Φ _ [some (.d (enc n)), some (.d (enc p)), some (.d (.list (days.map enc))), some (.own (.lst ((init ++ [((⟨f⟩, ⟨[]⟩) : NdI)]).map enc))), none, none, none, none] _) _ _ = _
          dsimp! [run_popT', last_map, drop_map, enc_Ls, List.isEmpty_nil]
        · rw [← ht, runI_nil]
          rfl
      | cons t r =>
        rw [List.length_cons] at hpos hL
        have hkl : (kidsI days (⟨f⟩, ⟨t :: r⟩) t).length ≤ 1728 := by
          unfold kidsI
          rw [List.length_map]
          exact Nat.le_trans (List.length_filter_le _ _) hdl
        refine .inl ⟨wtsI (init ++ (kidsI days (⟨f⟩, ⟨t :: r⟩) t).reverse), st (init ++ (kidsI days (⟨f⟩, ⟨t :: r⟩) t).reverse), _, ?_, ?_, init ++ (kidsI days (⟨f⟩, ⟨t :: r⟩) t).reverse, rfl, rfl, rfl, ?_, ?_, ?_⟩
        · rw [← hm, wtsI_app, wtsI_app]
          have := wtsI_kids hdl (f := f) (t := t) (r := r)
          show _ + _ < _ + (wtI (⟨f⟩, ⟨t :: r⟩) + 0)
          omega
        · show td (runs Φ _ [some (.d (enc n)), some (.d (enc p)), some (.d (.list (days.map enc))), some (.own (.lst ((init ++ [((⟨f⟩, ⟨t :: r⟩) : NdI)]).map enc))), none, none, none, none] _) _ _ = .nx [some (.d (enc n)), some (.d (enc p)), some (.d (.list (days.map enc))), some (.own (.lst ((init ++ (kidsI days (⟨f⟩, ⟨t :: r⟩) t).reverse).map enc))), none, none, none, none] _
          unfold st
          dsimp! [run_popT', last_map, drop_map, enc_Ls, List.isEmpty_cons]
          rw [run_for (xs := days.reverse) (fun l => [some (.d (enc n)), some (.d (enc p)), some (.d (.list (days.map enc))), some (.own (.lst ((init ++ (l.filter (okI (t :: r) t)).map (kidI (⟨f⟩, ⟨t :: r⟩))).map enc))), some (.d (.list (f.map enc))), some (.d (.list ((t :: r).map enc))), none, none])]
          · have e5 : (days.reverse.filter (okI (t :: r) t)).map (kidI (⟨f⟩, ⟨t :: r⟩)) = (kidsI days (⟨f⟩, ⟨t :: r⟩) t).reverse := by
              unfold kidsI
              rw [List.filter_reverse, List.map_reverse]
            rw [e5]
            dsimp! []
          · dsimp! [rev_L]
          · simp only [List.filter_nil, List.map_nil, List.append_nil]
          · intro l d r2 e
            have hll := pre_len e
            rw [List.length_reverse] at hll
            have hfl2 := List.length_filter_le (okI (t :: r) t) l
            have hdm : d ∈ days := List.mem_reverse.mp (by rw [e]; simp)
            have hd4 := hd3 d hdm
            rw [snoc_if]
            dsimp! [ixL (xs := t :: r) (i := 0) (x := t) rfl]
            rw [ev_cm (xs := d) (fun s => .bool (mem s (t :: r)))]
            · have hA : okI (t :: r) t d = (mem t d && d.all fun s => mem s (t :: r)) := rfl
              generalize hB : mem t d = B at hA
              generalize hC : (d.all fun s => mem s (t :: r)) = C at hA
              cases hBC : (B && C) with
              | false =>
                rw [hA, hBC]
                dsimp! [hB, hC, hBC, List.append_nil]
              | true =>
                rw [hA, hBC]
                dsimp! [hB, hC, hBC, b_add1]
                rw [ev_cf (xs := t :: r) (fun s => !mem s d) enc]
                · dsimp! [fold_ndi, List.append_assoc]
                  rfl
                · dsimp! []
                · rw [List.length_cons]; unfold lim; omega
                · intro s hs
                  exact ⟨_, rfl, by dsimp! [], fun _ => ⟨_, by dsimp! []; rfl, rfl⟩⟩
            · dsimp! []
            · unfold lim; omega
            · intro s hs
              exact ⟨_, rfl, _, by dsimp! []; rfl, rfl⟩
        · rw [runI_cons] at ht
          rw [← ht, List.reverse_append, List.reverse_reverse, List.flatMap_append]
        · intro s hs
          rcases List.mem_append.mp hs with hs | hs
          · exact ha s (by simp [hs])
          · obtain ⟨d, _, hd, rfl⟩ := mem_kidsI.mp (List.mem_reverse.mp hs)
            have := kidI_lt (f := f) hd
            have e6 : (kidI (⟨f⟩, ⟨t :: r⟩) d).1.l.length = f.length + 1 := by
              unfold kidI
              simp
            omega
        · intro i s hs
          by_cases hil : i < init.length
          · rw [List.getElem?_append_left hil] at hs
            exact hi i s (by rw [List.getElem?_append_left hil]; exact hs)
          · rw [List.getElem?_append_right (by omega)] at hs
            have hj := (List.getElem?_eq_some_iff.mp hs).1
            rw [List.length_reverse] at hj
            obtain ⟨d, _, hd, rfl⟩ := mem_kidsI.mp (List.mem_reverse.mp (List.mem_of_getElem? hs))
            have := kidI_lt (f := f) hd
            omega)
  have e0 : PyData.tuple [.list [], .list (p.map enc)] = enc s0 := rfl
  rcases key with ⟨m', ρ', g', e1, ⟨line, rfl, rfl, hm, ht, ha, hi⟩, e2⟩ | ⟨w, g', e1, rfl, f, hf, rfl⟩
  · have e3 : line = [] := by
      have e2 : ev Φ (.o2 .ne (.v 3) (.lst .nil)) [some (.d (enc n)), some (.d (enc p)), some (.d (.list (days.map enc))), some (.own (.lst (line.map enc))), none, none, none, none] g' = .ok (.d (.bool false)) g' := e2
      cases line with
      | nil => rfl
      | cons t r =>
        have : ev Φ (.o2 .ne (.v 3) (.lst .nil)) [some (.d (enc n)), some (.d (enc p)), some (.d (.list (days.map enc))), some (.own (.lst ((t :: r).map enc))), none, none, none, none] g' = .ok (.d (.bool true)) g' := by dsimp! []; rfl
        rw [this] at e2
        cases e2
    subst e3
    have ht' : runI days (⟨[]⟩, ⟨p⟩) = [] := ht.symm
    rw [ht']
    refine fnv_ex ?_
    show runs Φ (x_into_days ic il) [some (.d (enc n)), some (.d (enc p)), none, none, none, none, none, none] g' = _
    unfold x_into_days
    dsimp! [hc _ _ _ h, hl _ _ _ h, hD]
    rw [e0]
    have e1' : run Φ _ [some (.d (enc n)), some (.d (enc p)), some (.d (.list (days.map enc))), some (.own (.lst [enc s0])), none, none, none, none] g' = .nx [some (.d (enc n)), some (.d (enc p)), some (.d (.list (days.map enc))), some (.own (.lst (([] : List NdI).map enc))), none, none, none, none] g' := e1
    rw [e1']
    dsimp! []
  · have hf' : (runI days (⟨[]⟩, ⟨p⟩)).head? = some f := hf
    rw [hf']
    refine fnv_rt ?_
    show runs Φ (x_into_days ic il) [some (.d (enc n)), some (.d (enc p)), none, none, none, none, none, none] g' = _
    unfold x_into_days
    dsimp! [hc _ _ _ h, hl _ _ _ h, hD]
    rw [e0]
    have e1' : run Φ _ [some (.d (enc n)), some (.d (enc p)), some (.d (.list (days.map enc))), some (.own (.lst [enc s0])), none, none, none, none] g' = .rt (.d (enc (⟨f⟩ : Ls Day))) g' := e1
    rw [e1']
    dsimp! []
def IntoOk (Φ : Nat → Fn) (i : Nat) : Prop := ∀ (n : Nat) (p : List T3) (g : G), Pl n p → Φ i [.d (enc n), .d (enc p)] g = match (runI (dayList n p) (⟨[]⟩, ⟨p⟩)).head? with
    | some f => .ok (.d (enc (⟨f⟩ : Ls Day))) g
    | none => .ex 7 g
end TP
/-! Plain facts on days. -/
namespace TP
open PySem L2
open Enc (enc)
theorem plr_nd {n : Nat} {t : T3} (h : valid n t) : (plr t).Nodup := by
  unfold valid at h
  unfold plr
  simp only [List.nodup_cons, List.mem_cons, List.not_mem_nil, or_false, not_or, not_false_eq_true, List.nodup_nil, and_true]
  omega
theorem plr_lt {n : Nat} {t : T3} (h : valid n t) {x : Nat} (hx : x ∈ plr t) : x < n := by
  unfold valid at h
  simp only [plr, List.mem_cons, List.not_mem_nil, or_false] at hx
  omega
theorem mem_plr {t : T3} {x : Nat} : x ∈ plr t ↔ has t x = true := by
  unfold has plr
  rw [mem_iff]
theorem sorted_snoc {d : List T3} {t : T3} : Sorted (d ++ [t]) ↔ Sorted d ∧ (d = [] ∨ tlt (d.getLastD ⟨0, 0, 0⟩) t = true) := by
  constructor
  · intro h
    refine ⟨(List.pairwise_append.mp h).1, ?_⟩
    by_cases e : d = []
    · exact .inl e
    · obtain ⟨init, x, rfl⟩ : ∃ init x, d = init ++ [x] := ⟨_, _, (List.dropLast_concat_getLast e).symm⟩
      rw [List.getLastD_concat]
      exact .inr ((List.pairwise_append.mp h).2.2 x (by simp) t (by simp))
  · rintro ⟨h1, h2⟩
    refine List.pairwise_append.mpr ⟨h1, by simp, fun s hs u hu => ?_⟩
    rw [List.mem_singleton.mp hu]
    rcases h2 with rfl | h2
    · cases hs
    · by_cases e : d = []
      · rw [e] at hs; cases hs
      · obtain ⟨init, x, rfl⟩ : ∃ init x, d = init ++ [x] := ⟨_, _, (List.dropLast_concat_getLast e).symm⟩
        rw [List.getLastD_concat] at h2
        rcases List.mem_append.mp hs with hs | hs
        · exact tlt_trans ((List.pairwise_append.mp h1).2.2 s hs x (by simp)) h2
        · rw [List.mem_singleton.mp hs]; exact h2
theorem okD_iff {n : Nat} {d : List T3} {t : T3} (hv : valid n t) (hd : (d.flatMap plr).Nodup) (hs : Sorted d) : okD d t = true ↔ Sorted (d ++ [t]) ∧ ((d ++ [t]).flatMap plr).Nodup := by
  unfold okD
  rw [sorted_snoc, List.flatMap_append, List.flatMap_singleton, List.nodup_append, Bool.and_eq_true, Bool.or_eq_true, Bool.not_eq_true', ← Bool.not_eq_true, List.any_eq_true, List.isEmpty_iff]
  constructor
  · rintro ⟨h1, h2⟩
    refine ⟨⟨hs, h2⟩, hd, plr_nd hv, fun a ha b hb e => h1 ⟨b, hb, ?_⟩⟩
    rw [mem_iff]
    exact e ▸ ha
  · rintro ⟨⟨_, h2⟩, _, _, h3⟩
    refine ⟨?_, h2⟩
    rintro ⟨x, hx, h⟩
    exact h3 x (mem_iff.mp h) x hx rfl
/-- days in the making -/
theorem mem_daysK {n : Nat} {p : List T3} (hv : ∀ t, t ∈ p → valid n t) : ∀ (k : Nat) (d : List T3), d ∈ daysK p k ↔ d.length = k ∧ Sorted d ∧ (∀ t, t ∈ d → t ∈ p) ∧ (d.flatMap plr).Nodup
  | 0, d => by
    show d ∈ [[]] ↔ _
    rw [List.mem_singleton]
    constructor
    · rintro rfl
      exact ⟨rfl, List.Pairwise.nil, (fun t h => by cases h), List.nodup_nil⟩
    · rintro ⟨h, _⟩
      exact List.length_eq_zero_iff.mp h
  | k + 1, d => by
    show d ∈ (daysK p k).flatMap (extD p) ↔ _
    rw [List.mem_flatMap]
    constructor
    · rintro ⟨one, h1, h2⟩
      obtain ⟨t, ht, rfl⟩ := List.mem_map.mp h2
      obtain ⟨ht, ho⟩ := List.mem_filter.mp ht
      obtain ⟨a, b, c, e⟩ := (mem_daysK hv k one).mp h1
      obtain ⟨h3, h4⟩ := (okD_iff (hv t ht) e b).mp ho
      refine ⟨by rw [List.length_append, a]; rfl, h3, fun s hs => ?_, h4⟩
      rcases List.mem_append.mp hs with hs | hs
      · exact c s hs
      · rw [List.mem_singleton.mp hs]; exact ht
    · rintro ⟨h1, h2, h3, h4⟩
      have hne : d ≠ [] := fun e => by rw [e] at h1; cases h1
      obtain ⟨one, t, rfl⟩ : ∃ init x, d = init ++ [x] := ⟨_, _, (List.dropLast_concat_getLast hne).symm⟩
      have ht : t ∈ p := h3 t (by simp)
      have hs1 : Sorted one := (List.pairwise_append.mp h2).1
      have hn1 : (one.flatMap plr).Nodup := by
        rw [List.flatMap_append, List.nodup_append] at h4
        exact h4.1
      refine ⟨one, (mem_daysK hv k one).mpr ⟨by simpa using h1, hs1, fun s hs => h3 s (by simp [hs]), hn1⟩, ?_⟩
      exact List.mem_map.mpr ⟨t, List.mem_filter.mpr ⟨ht, (okD_iff (hv t ht) hn1 hs1).mpr ⟨h2, h4⟩⟩, rfl⟩
/-- sorted numbers -/
theorem isort_le (l : List Nat) : (isort l).Pairwise (· ≤ ·) := by
  have ti : ∀ (x : Nat) (p : List Nat), p.Pairwise (· ≤ ·) → (tins x p).Pairwise (· ≤ ·) := by
    intro x p
    induction p with
    | nil => intro _; simp [tins]
    | cons y r ih =>
      intro h
      obtain ⟨h1, h2⟩ := List.pairwise_cons.mp h
      unfold tins
      rw [tlt_nat]
      split
      · rename_i hy
        have hy := of_decide_eq_true hy
        refine List.pairwise_cons.mpr ⟨fun z hz => ?_, ih h2⟩
        rcases List.mem_cons.mp ((tins_perm x r).mem_iff.mp hz) with rfl | hz
        · omega
        · exact h1 z hz
      · rename_i hy
        have hy : ¬ y < x := by simpa using hy
        refine List.pairwise_cons.mpr ⟨fun z hz => ?_, h⟩
        rcases List.mem_cons.mp hz with rfl | hz
        · omega
        · have := h1 z hz; omega
  induction l with
  | nil => exact List.Pairwise.nil
  | cons x r ih => exact ti x _ ih
theorem le_ext : ∀ {p q : List Nat}, p.Pairwise (· ≤ ·) → q.Pairwise (· ≤ ·) → p.Perm q → p = q := by
  intro p
  induction p with
  | nil => intro q _ _ h; exact List.Perm.nil_eq h
  | cons x p ih =>
    intro q hp hq h
    cases q with
    | nil => exact absurd h.length_eq (by simp)
    | cons y q =>
      obtain ⟨h1, h2⟩ := List.pairwise_cons.mp hp
      obtain ⟨h3, h4⟩ := List.pairwise_cons.mp hq
      have e : x = y := by
        rcases List.mem_cons.mp (h.mem_iff.mp (List.mem_cons_self : x ∈ x :: p)) with e | hx
        · exact e
        · rcases List.mem_cons.mp (h.mem_iff.mpr (List.mem_cons_self : y ∈ y :: q)) with e | hy
          · exact e.symm
          · have := h1 y hy
            have := h3 x hx
            omega
      subst e
      rw [ih h2 h4 h.cons_inv]
theorem isort_eq_iff {l q : List Nat} (hq : q.Pairwise (· ≤ ·)) : isort l = q ↔ l.Perm q :=
  ⟨fun e => e ▸ (isort_perm l).symm, fun h => le_ext (isort_le l) hq ((isort_perm l).trans h)⟩
theorem range_le (n : Nat) : (List.range n).Pairwise (· ≤ ·) := List.pairwise_lt_range.imp fun h => Nat.le_of_lt h
theorem isort_id {d : List T3} (h : Sorted d) : isort d = d := sorted_ext (isort_sorted (sorted_nodup h)) h fun x => (isort_perm d).mem_iff
theorem isort_so : ∀ l : List T3, (isort l).Pairwise fun s t => tlt t s = false := by
  have ti : ∀ (x : T3) (p : List T3), (p.Pairwise fun s t => tlt t s = false) → (tins x p).Pairwise fun s t => tlt t s = false := by
    intro x p
    induction p with
    | nil => intro _; simp [tins]
    | cons y r ih =>
      intro h
      obtain ⟨h1, h2⟩ := List.pairwise_cons.mp h
      unfold tins
      split
      · rename_i hy
        refine List.pairwise_cons.mpr ⟨fun z hz => ?_, ih h2⟩
        rcases List.mem_cons.mp ((tins_perm x r).mem_iff.mp hz) with rfl | hz
        · rw [← Bool.not_eq_true]
          intro e
          have := tlt_trans hy e
          rw [tlt_irr] at this
          cases this
        · exact h1 z hz
      · rename_i hy
        refine List.pairwise_cons.mpr ⟨fun z hz => ?_, h⟩
        rcases List.mem_cons.mp hz with rfl | hz
        · simpa using hy
        · have hyz := h1 z hz
          rw [← Bool.not_eq_true]
          intro e
          rcases tlt_tot hyz with e1 | e1
          · rw [e1] at e; exact hy e
          · exact hy (tlt_trans e1 e)
  intro l
  induction l with
  | nil => exact List.Pairwise.nil
  | cons x r ih => exact ti x _ ih
/-- makesDay told plainly -/
theorem makesDay_iff {n : Nat} {d : List T3} : makesDay n d = true ↔ (∀ t, t ∈ d → valid n t) ∧ (d.flatMap plr).Perm (List.range n) ∧ Sorted d := by
  unfold makesDay
  rw [Bool.and_eq_true, Bool.and_eq_true, List.all_eq_true, decide_eq_true_eq, decide_eq_true_eq, isort_eq_iff (range_le n)]
  constructor
  · rintro ⟨h1, h2, h3⟩
    refine ⟨fun t ht => isThree_iff.mp (h1 t ht), h2, ?_⟩
    have hnd : d.Nodup := by
      have hf : (d.flatMap plr).Nodup := h2.nodup_iff.mpr List.nodup_range
      have : ∀ l : List T3, (l.flatMap plr).Nodup → l.Nodup := by
        intro l
        induction l with
        | nil => intro _; exact List.nodup_nil
        | cons x l ih =>
          intro h
          rw [List.flatMap_cons, List.nodup_append] at h
          refine List.nodup_cons.mpr ⟨fun hx => ?_, ih h.2.1⟩
          exact h.2.2 x.a (by simp [plr]) x.a (List.mem_flatMap.mpr ⟨x, hx, by simp [plr]⟩) rfl
      exact this d hf
    rw [h3]
    exact isort_sorted hnd
  · rintro ⟨h1, h2, h3⟩
    exact ⟨fun t ht => isThree_iff.mpr (h1 t ht), h2, (isort_id h3).symm⟩
theorem mem_dayList {n : Nat} {p : List T3} (hv : ∀ t, t ∈ p → valid n t) {d : List T3} : d ∈ dayList n p ↔ Sorted d ∧ (∀ t, t ∈ d → t ∈ p) ∧ (d.flatMap plr).Perm (List.range n) := by
  unfold dayList
  rw [List.mem_filter, mem_daysK hv, makesDay_iff]
  constructor
  · rintro ⟨⟨_, h2, h3, _⟩, h5, h6, _⟩
    exact ⟨h2, h3, h6⟩
  · rintro ⟨h1, h2, h3⟩
    have hl := h3.length_eq
    rw [plr_len, List.length_range] at hl
    exact ⟨⟨by omega, h1, h2, h3.nodup_iff.mpr List.nodup_range⟩, fun t ht => hv t (h2 t ht), h3, h1⟩
/-- in the making: all players within, so only their number counts -/
theorem makesDay_len {n : Nat} {p : List T3} (hv : ∀ t, t ∈ p → valid n t) {k : Nat} {d : List T3} (h : d ∈ daysK p k) : makesDay n d = decide ((d.flatMap plr).length = n) := by
  obtain ⟨h1, h2, h3, h4⟩ := (mem_daysK hv k d).mp h
  rw [Bool.eq_iff_iff, makesDay_iff, decide_eq_true_eq]
  constructor
  · rintro ⟨_, h, _⟩
    rw [h.length_eq, List.length_range]
  · intro hl
    refine ⟨fun t ht => hv t (h3 t ht), ?_, h2⟩
    have hs : ∀ x, x ∈ d.flatMap plr → x ∈ List.range n := fun x hx => by
      obtain ⟨t, ht, hx⟩ := List.mem_flatMap.mp hx
      exact List.mem_range.mpr (plr_lt (hv t (h3 t ht)) hx)
    refine (List.perm_ext_iff_of_nodup h4 List.nodup_range).mpr fun x => ⟨hs x, fun hx => ?_⟩
    have hc := filter_count (L := List.range n) (M := d.flatMap plr) List.nodup_range h4 hs
    rw [hl, List.length_range] at hc
    have he : (List.range n).filter (fun x => !mem x (d.flatMap plr)) = [] := List.length_eq_zero_iff.mp (by omega)
    have := List.filter_eq_nil_iff.mp he x hx
    rw [Bool.not_eq_true', mem_false] at this
    exact Classical.not_not.mp this
/-! ascending -/
theorem tltP_same (d : List T3) (x y : T3) : tlt (d ++ [x]) (d ++ [y]) = tlt x y := by
  induction d with
  | nil =>
    show tlt [x] [y] = _
    rw [tltP_cons, tltP_irr]
    simp
  | cons z d ih =>
    rw [List.cons_append, List.cons_append, tltP_cons, tlt_irr, ih]
    simp
theorem tltP_app : ∀ {d e : List T3} (x y : List T3), d.length = e.length → tlt d e = true → tlt (d ++ x) (e ++ y) = true
  | [], [], x, y, _, h => by rw [tltP_irr] at h; cases h
  | [], _ :: _, _, _, h, _ => by cases h
  | _ :: _, [], _, _, h, _ => by cases h
  | a :: d, b :: e, x, y, hl, h => by
    rw [tltP_cons, Bool.or_eq_true, Bool.and_eq_true] at h
    rw [List.cons_append, List.cons_append, tltP_cons, Bool.or_eq_true, Bool.and_eq_true]
    rcases h with h | ⟨h1, h2⟩
    · exact .inl h
    · exact .inr ⟨h1, tltP_app x y (by simpa using hl) h2⟩
abbrev SortedP (l : List (List T3)) : Prop := l.Pairwise fun s t => tlt s t = true
theorem daysK_sorted {p : List T3} (hp : Sorted p) : ∀ k, SortedP (daysK p k)
  | 0 => by simp [daysK]
  | k + 1 => by
    show SortedP ((daysK p k).flatMap (extD p))
    have ih := daysK_sorted hp k
    have key : ∀ l : List (List T3), SortedP l → (∀ d, d ∈ l → d.length = k) → SortedP (l.flatMap (extD p)) := by
      intro l
      induction l with
      | nil => intro _ _; exact List.Pairwise.nil
      | cons d l ih =>
        intro h hl
        obtain ⟨h1, h2⟩ := List.pairwise_cons.mp h
        rw [List.flatMap_cons]
        refine List.pairwise_append.mpr ⟨?_, ih h2 fun e he => hl e (List.mem_cons_of_mem _ he), ?_⟩
        · unfold extD
          rw [List.pairwise_map]
          refine (List.Pairwise.filter _ hp).imp fun {a b} hab => ?_
          rw [tltP_same]
          exact hab
        · intro a ha b hb
          obtain ⟨s, _, rfl⟩ := List.mem_map.mp ha
          obtain ⟨e, he, hb⟩ := List.mem_flatMap.mp hb
          obtain ⟨u, _, rfl⟩ := List.mem_map.mp hb
          exact tltP_app _ _ (by rw [hl d List.mem_cons_self, hl e (List.mem_cons_of_mem _ he)]) (h1 e he)
    exact key _ ih (daysK_one p k)
theorem dayList_sorted {n : Nat} {p : List T3} (hp : Sorted p) : SortedP (dayList n p) := (daysK_sorted hp _).filter _
theorem sortedP_ext {p q : List (List T3)} (hp : SortedP p) (hq : SortedP q) (h : ∀ x, x ∈ p ↔ x ∈ q) : p = q := by
  induction p generalizing q with
  | nil =>
    cases q with
    | nil => rfl
    | cons y q => exact absurd ((h y).mpr List.mem_cons_self) (by simp)
  | cons x p ih =>
    cases q with
    | nil => exact absurd ((h x).mp List.mem_cons_self) (by simp)
    | cons y q =>
      obtain ⟨h1, h2⟩ := List.pairwise_cons.mp hp
      obtain ⟨h3, h4⟩ := List.pairwise_cons.mp hq
      have e : x = y := by
        rcases List.mem_cons.mp ((h x).mp List.mem_cons_self) with e | e
        · exact e
        · rcases List.mem_cons.mp ((h y).mpr List.mem_cons_self) with e' | e'
          · exact e'.symm
          · have := tltP_trans (h3 x e) (h1 y e')
            rw [tltP_irr] at this
            cases this
      subst e
      rw [ih h2 h4 fun z => ?_]
      constructor
      · intro hz
        exact (List.mem_cons.mp ((h z).mp (List.mem_cons_of_mem _ hz))).resolve_left fun e => by
          subst e
          have := h1 z hz
          rw [tltP_irr] at this
          cases this
      · intro hz
        exact (List.mem_cons.mp ((h z).mpr (List.mem_cons_of_mem _ hz))).resolve_left fun e => by
          subst e
          have := h3 z hz
          rw [tltP_irr] at this
          cases this
end TP
/-! Full plans for nine players: days. -/
namespace TP
open PySem L2
open Enc (enc)
theorem line_un {n : Nat} {p : List T3} (h : Apart3 n p) {s u : T3} (hs : s ∈ p) (hu : u ∈ p) {x y : Nat} (hxy : x ≠ y) (h1 : has s x = true) (h2 : has s y = true) (h3 : has u x = true) (h4 : has u y = true) : s = u := by
  rcases Nat.lt_or_gt_of_ne hxy with e | e
  · exact one_pair h hs hu (x := (x, y)) ((pair_mem (h.val s hs) e).mpr ⟨h1, h2⟩) ((pair_mem (h.val u hu) e).mpr ⟨h3, h4⟩)
  · exact one_pair h hs hu (x := (y, x)) ((pair_mem (h.val s hs) e).mpr ⟨h2, h1⟩) ((pair_mem (h.val u hu) e).mpr ⟨h4, h3⟩)
theorem line_ex {n : Nat} {p : List T3} (h : IsFull n p) {x y : Nat} (hxy : x ≠ y) (hx : x < n) (hy : y < n) : ∃ s, s ∈ p ∧ has s x = true ∧ has s y = true := by
  have hl := (left_nil h.1.val).mp h.2
  rcases Nat.lt_or_gt_of_ne hxy with e | e
  · exact hl x y e hy
  · obtain ⟨s, a, b, c⟩ := hl y x e hx
    exact ⟨s, a, c, b⟩
theorem has_lt {n : Nat} {t : T3} (h : valid n t) {x : Nat} (hx : has t x = true) : x < n := plr_lt h (mem_plr.mpr hx)
theorem emp_iff {t o : T3} : emp t o = true ↔ ∀ x, has t x = true → has o x = false := by
  unfold emp
  rw [List.isEmpty_iff, List.filter_eq_nil_iff]
  constructor
  · intro h x hx
    have := h x (mem_plr.mpr hx)
    simpa using this
  · intro h x hx
    have := h x (mem_plr.mp hx)
    simp [this]
theorem emp_symm {t o : T3} (h : emp t o = true) : emp o t = true := by
  rw [emp_iff] at h ⊢
  intro x hx
  rw [← Bool.not_eq_true]
  intro e
  rw [h x e] at hx
  cases hx
theorem deg9 {p : List T3} (h : IsFull 9 p) {x : Nat} (hx : x < 9) : deg p x = 4 := by
  have h1 := due_len (Nat.le_refl 9) hx h.1
  rw [full_due (Nat.le_refl 9) h hx] at h1
  have h2 : ∀ y, y < 9 → ((List.range 9).filter fun z => !decide (z = y)).length = 8 := by decide
  have := h2 x hx
  omega
/-- through a player apart from a three: one three without its players -/
theorem one_par {p : List T3} (h : IsFull 9 p) {t : T3} (ht : t ∈ p) {x : Nat} (hx : x < 9) (hxt : has t x = false) : ((p.filter fun s => has s x).filter fun s => emp s t).length = 1 := by
  have hv := h.1.val t ht
  have hd : (p.filter fun s => has s x).length = 4 := deg9 h hx
  have hne : ∀ y, has t y = true → x ≠ y := fun y hy e => by rw [e, hy] at hxt; cases hxt
  have ha : has t t.a = true := has_iff.mpr (.inl rfl)
  have hb : has t t.b = true := has_iff.mpr (.inr (.inl rfl))
  have hc : has t t.c = true := has_iff.mpr (.inr (.inr rfl))
  obtain ⟨sa, a1, a2, a3⟩ := line_ex h (hne _ ha) hx (has_lt hv ha)
  obtain ⟨sb, b1, b2, b3⟩ := line_ex h (hne _ hb) hx (has_lt hv hb)
  obtain ⟨sc, c1, c2, c3⟩ := line_ex h (hne _ hc) hx (has_lt hv hc)
  have hv' := hv
  unfold valid at hv'
  have hnt : ∀ s, has s x = true → s ≠ t := fun s hs e => by rw [e, hxt] at hs; cases hs
  have hab : sa ≠ sb := fun e => hnt sa a2 (line_un h.1 a1 ht (x := t.a) (y := t.b) (by omega) a3 (e ▸ b3) ha hb)
  have hac : sa ≠ sc := fun e => hnt sa a2 (line_un h.1 a1 ht (x := t.a) (y := t.c) (by omega) a3 (e ▸ c3) ha hc)
  have hbc : sb ≠ sc := fun e => hnt sb b2 (line_un h.1 b1 ht (x := t.b) (y := t.c) (by omega) b3 (e ▸ c3) hb hc)
  have hp : ((p.filter fun s => has s x).filter fun s => !emp s t).Perm [sa, sb, sc] := by
    refine (List.perm_ext_iff_of_nodup ((h.1.nd.filter _).filter _) (by simp [hab, hac, hbc])).mpr fun s => ?_
    rw [List.mem_filter, List.mem_filter, Bool.not_eq_true', ← Bool.not_eq_true, emp_iff]
    constructor
    · rintro ⟨⟨h1, h2⟩, h3⟩
      have : ∃ y, has s y = true ∧ has t y = true := by
        refine Classical.byContradiction fun hn => h3 fun y hy => ?_
        rw [← Bool.not_eq_true]
        exact fun e => hn ⟨y, hy, e⟩
      obtain ⟨y, h4, h5⟩ := this
      rcases has_iff.mp h5 with rfl | rfl | rfl
      · rw [line_un h.1 h1 a1 (hne _ ha) h2 h4 a2 a3]; simp
      · rw [line_un h.1 h1 b1 (hne _ hb) h2 h4 b2 b3]; simp
      · rw [line_un h.1 h1 c1 (hne _ hc) h2 h4 c2 c3]; simp
    · intro hs
      simp only [List.mem_cons, List.not_mem_nil, or_false] at hs
      rcases hs with rfl | rfl | rfl
      · exact ⟨⟨a1, a2⟩, fun e => by rw [e _ a3] at ha; cases ha⟩
      · exact ⟨⟨b1, b2⟩, fun e => by rw [e _ b3] at hb; cases hb⟩
      · exact ⟨⟨c1, c2⟩, fun e => by rw [e _ c3] at hc; cases hc⟩
  have hl := hp.length_eq
  have h2 := filter_two (fun s => emp s t) (p.filter fun s => has s x)
  have h3 : [sa, sb, sc].length = 3 := rfl
  omega
theorem par_un {p : List T3} (h : IsFull 9 p) {t s u : T3} (ht : t ∈ p) (hs : s ∈ p) (hu : u ∈ p) (es : emp s t = true) (eu : emp u t = true) {x : Nat} (h1 : has s x = true) (h2 : has u x = true) : s = u := by
  have hxt := emp_iff.mp es x h1
  have hl := one_par h ht (has_lt (h.1.val s hs) h1) hxt
  obtain ⟨w, hw⟩ := List.length_eq_one_iff.mp hl
  have m1 : s ∈ (p.filter fun s => has s x).filter fun s => emp s t := List.mem_filter.mpr ⟨List.mem_filter.mpr ⟨hs, h1⟩, es⟩
  have m2 : u ∈ (p.filter fun s => has s x).filter fun s => emp s t := List.mem_filter.mpr ⟨List.mem_filter.mpr ⟨hu, h2⟩, eu⟩
  rw [hw] at m1 m2
  rw [List.mem_singleton.mp m1, List.mem_singleton.mp m2]
theorem par_ex {p : List T3} (h : IsFull 9 p) {t : T3} (ht : t ∈ p) {x : Nat} (hx : x < 9) (hxt : has t x = false) : ∃ s, s ∈ p ∧ has s x = true ∧ emp s t = true := by
  obtain ⟨w, hw⟩ := List.length_eq_one_iff.mp (one_par h ht hx hxt)
  have m : w ∈ (p.filter fun s => has s x).filter fun s => emp s t := by rw [hw]; simp
  obtain ⟨m1, m2⟩ := List.mem_filter.mp m
  obtain ⟨m3, m4⟩ := List.mem_filter.mp m1
  exact ⟨w, m3, m4, m2⟩
def dayOf (p : List T3) (t : T3) : List T3 := p.filter fun s => decide (s = t) || emp s t
theorem mem_dayOf {p : List T3} {t s : T3} : s ∈ dayOf p t ↔ s ∈ p ∧ (s = t ∨ emp s t = true) := by
  unfold dayOf
  rw [List.mem_filter, Bool.or_eq_true, decide_eq_true_eq]
theorem not_emp_self (t : T3) : emp t t = false := by
  rw [← Bool.not_eq_true, emp_iff]
  intro h
  have := h t.a (has_iff.mpr (.inl rfl))
  rw [has_iff.mpr (.inl rfl)] at this
  cases this
theorem flat_nd {n : Nat} : ∀ {d : List T3}, d.Nodup → (∀ t, t ∈ d → valid n t) → (∀ s, s ∈ d → ∀ u, u ∈ d → ∀ x, has s x = true → has u x = true → s = u) → (d.flatMap plr).Nodup
  | [], _, _, _ => List.nodup_nil
  | t :: d, hn, hv, h => by
    obtain ⟨h1, h2⟩ := List.nodup_cons.mp hn
    rw [List.flatMap_cons, List.nodup_append]
    refine ⟨plr_nd (hv t List.mem_cons_self), flat_nd h2 (fun s hs => hv s (List.mem_cons_of_mem _ hs)) fun s hs u hu => h s (List.mem_cons_of_mem _ hs) u (List.mem_cons_of_mem _ hu), fun a ha b hb e => ?_⟩
    subst e
    obtain ⟨s, hs, hx⟩ := List.mem_flatMap.mp hb
    have := h t List.mem_cons_self s (List.mem_cons_of_mem _ hs) a (mem_plr.mp ha) (mem_plr.mp hx)
    exact h1 (this ▸ hs)
theorem flat_un {d : List T3} (h : (d.flatMap plr).Nodup) {s u : T3} (hs : s ∈ d) (hu : u ∈ d) {x : Nat} (h1 : has s x = true) (h2 : has u x = true) : s = u := by
  induction d with
  | nil => cases hs
  | cons t d ih =>
    rw [List.flatMap_cons, List.nodup_append] at h
    rcases List.mem_cons.mp hs with e | hs'
    · rcases List.mem_cons.mp hu with e2 | hu'
      · rw [e, e2]
      · subst e
        exact absurd rfl (h.2.2 x (mem_plr.mpr h1) x (List.mem_flatMap.mpr ⟨u, hu', mem_plr.mpr h2⟩))
    · rcases List.mem_cons.mp hu with e2 | hu'
      · subst e2
        exact absurd rfl (h.2.2 x (mem_plr.mpr h2) x (List.mem_flatMap.mpr ⟨s, hs', mem_plr.mpr h1⟩))
      · exact ih h.2.1 hs' hu'
theorem day_flat {p : List T3} (h : IsFull 9 p) {t : T3} (ht : t ∈ p) : ((dayOf p t).flatMap plr).Perm (List.range 9) := by
  have hin : ∀ s, s ∈ dayOf p t → s ∈ p := fun s hs => (mem_dayOf.mp hs).1
  have hnd : ((dayOf p t).flatMap plr).Nodup := by
    refine flat_nd (h.1.nd.filter _) (fun s hs => h.1.val s (hin s hs)) fun s hs u hu x h1 h2 => ?_
    obtain ⟨s1, s2⟩ := mem_dayOf.mp hs
    obtain ⟨u1, u2⟩ := mem_dayOf.mp hu
    rcases s2 with rfl | s2
    · rcases u2 with rfl | u2
      · rfl
      · rw [emp_iff.mp u2 x h2] at h1; cases h1
    · rcases u2 with rfl | u2
      · rw [emp_iff.mp s2 x h1] at h2; cases h2
      · exact par_un h ht s1 u1 s2 u2 h1 h2
  refine (List.perm_ext_iff_of_nodup hnd List.nodup_range).mpr fun x => ?_
  rw [List.mem_range, List.mem_flatMap]
  constructor
  · rintro ⟨s, hs, hx⟩
    exact plr_lt (h.1.val s (hin s hs)) hx
  · intro hx
    cases hxt : has t x with
    | true => exact ⟨t, mem_dayOf.mpr ⟨ht, .inl rfl⟩, mem_plr.mpr hxt⟩
    | false =>
      obtain ⟨s, a, b, c⟩ := par_ex h ht hx hxt
      exact ⟨s, mem_dayOf.mpr ⟨a, .inr c⟩, mem_plr.mpr b⟩
theorem dayOf_sorted {p : List T3} (h : Sorted p) (t : T3) : Sorted (dayOf p t) := List.Pairwise.filter _ h
theorem mem_days9 {p : List T3} (h : FullS 9 p) {d : List T3} : d ∈ dayList 9 p ↔ ∃ t, t ∈ p ∧ d = dayOf p t := by
  rw [mem_dayList h.full.1.val]
  constructor
  · rintro ⟨h1, h2, h3⟩
    have hne : d ≠ [] := fun e => by rw [e] at h3; exact absurd h3.length_eq (by decide)
    obtain ⟨t, ht⟩ := List.exists_mem_of_ne_nil d hne
    have hnd : (d.flatMap plr).Nodup := h3.nodup_iff.mpr List.nodup_range
    refine ⟨t, h2 t ht, sorted_ext h1 (dayOf_sorted h.so t) fun s => ?_⟩
    rw [mem_dayOf]
    constructor
    · intro hs
      refine ⟨h2 s hs, ?_⟩
      by_cases e : s = t
      · exact .inl e
      · refine .inr (emp_iff.mpr fun x hx => ?_)
        rw [← Bool.not_eq_true]
        exact fun e2 => e (flat_un hnd hs ht hx e2)
    · rintro ⟨hs, rfl | he⟩
      · exact ht
      · have hsa : has s s.a = true := has_iff.mpr (.inl rfl)
        have : s.a ∈ d.flatMap plr := h3.mem_iff.mpr (List.mem_range.mpr (has_lt (h.full.1.val s hs) hsa))
        obtain ⟨u, hu, hx⟩ := List.mem_flatMap.mp this
        have hux := mem_plr.mp hx
        have hut : u ≠ t := fun e => by rw [e, emp_iff.mp he _ hsa] at hux; cases hux
        have hue : emp u t = true := emp_iff.mpr fun x hx => by
          rw [← Bool.not_eq_true]
          exact fun e2 => hut (flat_un hnd hu ht hx e2)
        rw [par_un h.full (h2 t ht) hs (h2 u hu) he hue hsa hux]
        exact hu
  · rintro ⟨t, ht, rfl⟩
    exact ⟨dayOf_sorted h.so t, fun s hs => (mem_dayOf.mp hs).1, day_flat h.full ht⟩
theorem dayOf_same {p : List T3} (h : FullS 9 p) {t s : T3} (ht : t ∈ p) (hs : s ∈ dayOf p t) : dayOf p s = dayOf p t := by
  have hsp := (mem_dayOf.mp hs).1
  have hnd : ((dayOf p t).flatMap plr).Nodup := (day_flat h.full ht).nodup_iff.mpr List.nodup_range
  have hns : ((dayOf p s).flatMap plr).Nodup := (day_flat h.full hsp).nodup_iff.mpr List.nodup_range
  have key : ∀ t s, t ∈ p → s ∈ dayOf p t → ∀ u, u ∈ dayOf p t → u ∈ dayOf p s := by
    intro t s ht hs u hu
    have hnd : ((dayOf p t).flatMap plr).Nodup := (day_flat h.full ht).nodup_iff.mpr List.nodup_range
    refine mem_dayOf.mpr ⟨(mem_dayOf.mp hu).1, ?_⟩
    by_cases e : u = s
    · exact .inl e
    · refine .inr (emp_iff.mpr fun x hx => ?_)
      rw [← Bool.not_eq_true]
      exact fun e2 => e (flat_un hnd hu hs hx e2)
  have hts : t ∈ dayOf p s := key t s ht hs t (mem_dayOf.mpr ⟨ht, .inl rfl⟩)
  exact sorted_ext (dayOf_sorted h.so s) (dayOf_sorted h.so t) fun u => ⟨fun hu => key s t hsp hts u hu, fun hu => key t s ht hs u hu⟩
theorem day_len9 {p : List T3} (h : FullS 9 p) {d : List T3} (hd : d ∈ dayList 9 p) : d.length = 3 := daysK_one p _ d (List.mem_filter.mp hd).1
theorem full_len9 {p : List T3} (h : FullS 9 p) : p.length = 12 := by
  have := h.len
  have e : (allPairs 9).length = 36 := by decide
  omega
theorem sortedP_nodup {p : List (List T3)} (h : SortedP p) : p.Nodup := h.imp fun {a b} e z => by rw [z, tltP_irr] at e; cases e
theorem days_flat9 {p : List T3} (h : FullS 9 p) : ((dayList 9 p).flatMap fun d => d).Perm p := by
  refine (List.perm_ext_iff_of_nodup (nodup_flat _ _ (sortedP_nodup (dayList_sorted h.so)) (fun d hd => ?_) fun c hc d hd hne x hx hx2 => ?_) h.full.1.nd).mpr fun x => ?_
  · obtain ⟨t, ht, rfl⟩ := (mem_days9 h).mp hd
    exact h.full.1.nd.filter _
  · obtain ⟨t, ht, rfl⟩ := (mem_days9 h).mp hc
    obtain ⟨u, hu, rfl⟩ := (mem_days9 h).mp hd
    exact hne ((dayOf_same h ht hx).symm.trans (dayOf_same h hu hx2))
  · rw [List.mem_flatMap]
    constructor
    · rintro ⟨d, hd, hx⟩
      obtain ⟨t, ht, rfl⟩ := (mem_days9 h).mp hd
      exact (mem_dayOf.mp hx).1
    · intro hx
      exact ⟨dayOf p x, (mem_days9 h).mpr ⟨x, hx, rfl⟩, mem_dayOf.mpr ⟨hx, .inl rfl⟩⟩
theorem flat_len3 : ∀ l : List (List T3), (∀ d, d ∈ l → d.length = 3) → (l.flatMap fun d => d).length = 3 * l.length
  | [], _ => rfl
  | d :: l, h => by
    rw [List.flatMap_cons, List.length_append, flat_len3 l fun e he => h e (List.mem_cons_of_mem _ he), h d List.mem_cons_self, List.length_cons]
    omega
theorem days_four {p : List T3} (h : FullS 9 p) : (dayList 9 p).length = 4 := by
  have h1 := (days_flat9 h).length_eq
  rw [flat_len3 _ fun d hd => day_len9 h hd, full_len9 h] at h1
  omega
end TP
/-! Parts of full plans: days of a part, what completes it. -/
namespace TP
open PySem L2
open Enc (enc)
def within (q d : List T3) : Bool := d.all fun s => mem s q
theorem within_iff {q d : List T3} : within q d = true ↔ ∀ s, s ∈ d → s ∈ q := by
  unfold within
  rw [List.all_eq_true]
  exact ⟨fun h s hs => mem_iff.mp (h s hs), fun h s hs => mem_iff.mpr (h s hs)⟩
theorem dayList_within {n : Nat} {p q : List T3} (hv : ∀ t, t ∈ p → valid n t) (hp : Sorted p) (hq : Sorted q) (hs : ∀ t, t ∈ q → t ∈ p) : dayList n q = (dayList n p).filter (within q) := by
  refine sortedP_ext (dayList_sorted hq) ((dayList_sorted hp).filter _) fun d => ?_
  rw [List.mem_filter, mem_dayList hv, mem_dayList fun t ht => hv t (hs t ht), within_iff]
  constructor
  · rintro ⟨h1, h2, h3⟩
    exact ⟨⟨h1, fun t ht => hs t (h2 t ht), h3⟩, h2⟩
  · rintro ⟨⟨h1, _, h3⟩, h2⟩
    exact ⟨h1, h2, h3⟩
/-- with a three, its day -/
structure Clo (p q : List T3) : Prop where
  so : Sorted q
  sub : ∀ t, t ∈ q → t ∈ p
  cl : ∀ t, t ∈ q → ∀ s, s ∈ dayOf p t → s ∈ q
theorem filter_single {α : Type} {f : α → Bool} {x : α} : ∀ {l : List α}, l.Nodup → x ∈ l → (∀ y, y ∈ l → (f y = true ↔ y = x)) → l.filter f = [x]
  | [], _, h, _ => by cases h
  | y :: l, hn, hx, h => by
    obtain ⟨h1, h2⟩ := List.nodup_cons.mp hn
    rw [List.filter_cons]
    by_cases e : y = x
    · rw [if_pos ((h y List.mem_cons_self).mpr e), e]
      congr 1
      refine List.filter_eq_nil_iff.mpr fun z hz hf => ?_
      have := (h z (List.mem_cons_of_mem _ hz)).mp hf
      exact h1 (e ▸ this ▸ hz)
    · rw [if_neg fun hf => e ((h y List.mem_cons_self).mp hf)]
      exact filter_single h2 ((List.mem_cons.mp hx).resolve_left fun z => e z.symm) fun z hz => h z (List.mem_cons_of_mem _ hz)
theorem sorted_head {d : List T3} {t : T3} (hd : Sorted d) (ht : t ∈ d) (h : ∀ s, s ∈ d → s = t ∨ tlt t s = true) : ∃ r, d = t :: r := by
  cases d with
  | nil => cases ht
  | cons a r =>
    rcases List.mem_cons.mp ht with rfl | ht'
    · exact ⟨r, rfl⟩
    · have h1 := (List.pairwise_cons.mp hd).1 t ht'
      rcases h a List.mem_cons_self with e | e
      · exact ⟨r, by rw [e]⟩
      · have := tlt_trans h1 e
        rw [tlt_irr] at this
        cases this
theorem day_of_mem {p : List T3} (h : FullS 9 p) {d : List T3} (hd : d ∈ dayList 9 p) {t : T3} (ht : t ∈ d) : t ∈ p ∧ d = dayOf p t := by
  obtain ⟨u, hu, rfl⟩ := (mem_days9 h).mp hd
  exact ⟨(mem_dayOf.mp ht).1, (dayOf_same h hu ht).symm⟩
theorem self_day {p : List T3} {t : T3} (ht : t ∈ p) : t ∈ dayOf p t := mem_dayOf.mpr ⟨ht, .inl rfl⟩
theorem runI_clo {p q : List T3} (h : FullS 9 p) (hq : Clo p q) : ∀ (k : Nat) (L : List T3) (f : List Day), L.length ≤ k → Clo p L → (∀ t, t ∈ L → t ∈ q) → runI (dayList 9 q) (⟨f⟩, ⟨L⟩) = [f ++ (dayList 9 q).filter (within L)] := by
  have hmem : ∀ d, d ∈ dayList 9 q ↔ d ∈ dayList 9 p ∧ within q d = true := fun d => by
    rw [dayList_within h.full.1.val h.so hq.so hq.sub, List.mem_filter]
  have hnil : (dayList 9 q).filter (within []) = [] := List.filter_eq_nil_iff.mpr fun d hd => by
    have := day_len9 h ((hmem d).mp hd).1
    rw [within_iff]
    intro hw
    cases d with
    | nil => cases this
    | cons a r => exact absurd (hw a List.mem_cons_self) (by simp)
  intro k
  induction k with
  | zero =>
    intro L f hl _ _
    rw [List.length_eq_zero_iff.mp (Nat.le_zero.mp hl), runI_nil, hnil, List.append_nil]
  | succ k ih =>
    intro L f hl hL hLq
    cases L with
    | nil => rw [runI_nil, hnil, List.append_nil]
    | cons t r =>
      have ht : t ∈ t :: r := List.mem_cons_self
      have htp := hL.sub t ht
      have hdt : dayOf p t ∈ dayList 9 q := (hmem _).mpr ⟨(mem_days9 h).mpr ⟨t, htp, rfl⟩, within_iff.mpr fun s hs => hLq s (hL.cl t ht s hs)⟩
      have hk : kidsI (dayList 9 q) (⟨f⟩, ⟨t :: r⟩) t = [kidI (⟨f⟩, ⟨t :: r⟩) (dayOf p t)] := by
        unfold kidsI
        rw [filter_single (x := dayOf p t) (sortedP_nodup (dayList_sorted hq.so)) hdt fun d hd => ?_]
        · rfl
        · unfold okI
          rw [Bool.and_eq_true, mem_iff]
          constructor
          · rintro ⟨h1, _⟩
            exact (day_of_mem h ((hmem d).mp hd).1 h1).2
          · rintro rfl
            exact ⟨self_day htp, within_iff.mpr (hL.cl t ht)⟩
      have hne : ∀ s, s ∈ (t :: r).filter (fun u => !mem u (dayOf p t)) ↔ s ∈ t :: r ∧ s ∉ dayOf p t := fun s => by
        rw [List.mem_filter, Bool.not_eq_true', mem_false]
      have hC : Clo p ((t :: r).filter fun u => !mem u (dayOf p t)) := by
        refine ⟨List.Pairwise.filter _ hL.so, fun s hs => hL.sub s ((hne s).mp hs).1, fun s hs u hu => ?_⟩
        obtain ⟨h1, h2⟩ := (hne s).mp hs
        refine (hne u).mpr ⟨hL.cl s h1 u hu, fun e => h2 ?_⟩
        rw [← dayOf_same h htp e, dayOf_same h (hL.sub s h1) hu]
        exact self_day (hL.sub s h1)
      have hlen : ((t :: r).filter fun u => !mem u (dayOf p t)).length ≤ k := by
        rw [List.filter_cons, if_neg (by rw [mem_iff.mpr (self_day htp)]; decide)]
        have := List.length_filter_le (fun u => !mem u (dayOf p t)) r
        rw [List.length_cons] at hl
        omega
      rw [runI_cons, hk, List.flatMap_singleton]
      show runI (dayList 9 q) (⟨f ++ [dayOf p t]⟩, ⟨(t :: r).filter fun u => !mem u (dayOf p t)⟩) = _
      rw [ih _ (f ++ [dayOf p t]) hlen hC fun s hs => hLq s ((hne s).mp hs).1, List.append_assoc]
      congr 2
      rw [List.singleton_append]
      refine sortedP_ext (List.pairwise_cons.mpr ⟨fun d hd => ?_, (dayList_sorted hq.so).filter _⟩) ((dayList_sorted hq.so).filter _) fun d => ?_
      · obtain ⟨hd1, hd2⟩ := List.mem_filter.mp hd
        have h3 := day_len9 h ((hmem d).mp hd1).1
        obtain ⟨r1, e1⟩ := sorted_head (dayOf_sorted h.so t) (self_day htp) fun s hs => by
          rcases List.mem_cons.mp (hL.cl t ht s hs) with e | e
          · exact .inl e
          · exact .inr ((List.pairwise_cons.mp hL.so).1 s e)
        cases d with
        | nil => cases h3
        | cons a r2 =>
          rw [e1, tltP_cons, Bool.or_eq_true]
          have ha := within_iff.mp hd2 a List.mem_cons_self
          obtain ⟨h4, h5⟩ := (hne a).mp ha
          rcases List.mem_cons.mp h4 with e | e
          · subst e
            exact absurd (self_day htp) h5
          · exact .inl ((List.pairwise_cons.mp hL.so).1 a e)
      · rw [List.mem_cons, List.mem_filter, List.mem_filter, within_iff, within_iff]
        constructor
        · rintro (rfl | ⟨h1, h2⟩)
          · exact ⟨hdt, hL.cl t ht⟩
          · exact ⟨h1, fun s hs => ((hne s).mp (h2 s hs)).1⟩
        · rintro ⟨h1, h2⟩
          by_cases e : d = dayOf p t
          · exact .inl e
          · refine .inr ⟨h1, fun s hs => (hne s).mpr ⟨h2 s hs, fun z => e ?_⟩⟩
            rw [(day_of_mem h ((hmem d).mp h1).1 hs).2, dayOf_same h htp z]
/-- into days in one way -/
theorem into_clo {p q : List T3} (h : FullS 9 p) (hq : Clo p q) : runI (dayList 9 q) (⟨[]⟩, ⟨q⟩) = [dayList 9 q] := by
  rw [runI_clo h hq q.length q [] (Nat.le_refl _) hq fun t ht => ht]
  show [List.filter _ _] = _
  congr 1
  refine List.filter_eq_self.mpr fun d hd => ?_
  rw [dayList_within h.full.1.val h.so hq.so hq.sub] at hd
  exact (List.mem_filter.mp hd).2
theorem Clo.all {p : List T3} (h : FullS 9 p) : Clo p p := ⟨h.so, fun t ht => ht, fun t ht s hs => (mem_dayOf.mp hs).1⟩
/-- without a day -/
theorem Clo.rest {p : List T3} (h : FullS 9 p) {d : List T3} (hd : d ∈ dayList 9 p) : Clo p (p.filter fun t => !mem t d) := by
  refine ⟨List.Pairwise.filter _ h.so, fun t ht => (List.mem_filter.mp ht).1, fun t ht s hs => ?_⟩
  obtain ⟨h1, h2⟩ := List.mem_filter.mp ht
  rw [Bool.not_eq_true', mem_false] at h2
  refine List.mem_filter.mpr ⟨(mem_dayOf.mp hs).1, ?_⟩
  rw [Bool.not_eq_true', mem_false]
  intro e
  refine h2 ?_
  rw [(day_of_mem h hd e).2, dayOf_same h h1 hs]
  exact self_day h1
theorem days_rest {p : List T3} (h : FullS 9 p) {d : List T3} (hd : d ∈ dayList 9 p) : dayList 9 (p.filter fun t => !mem t d) = (dayList 9 p).filter fun e => !decide (e = d) := by
  have hc := Clo.rest h hd
  rw [dayList_within h.full.1.val h.so hc.so hc.sub]
  refine List.filter_congr fun e he => ?_
  rw [Bool.eq_iff_iff, within_iff, Bool.not_eq_true', decide_eq_false_iff_not]
  have h3 := day_len9 h he
  constructor
  · rintro h1 rfl
    cases e with
    | nil => cases h3
    | cons a r =>
      have := (List.mem_filter.mp (h1 a List.mem_cons_self)).2
      rw [Bool.not_eq_true', mem_false] at this
      exact this List.mem_cons_self
  · intro hne s hs
    refine List.mem_filter.mpr ⟨(day_of_mem h he hs).1, ?_⟩
    rw [Bool.not_eq_true', mem_false]
    intro z
    exact hne ((day_of_mem h he hs).2.trans (day_of_mem h hd z).2.symm)
/-- threes that are apart are put back in one way -/
theorem back_mem {n : Nat} {p gone q : List T3} (h : FullS n p) (hg : ∀ s, s ∈ gone → ∀ u, u ∈ gone → ∀ x, has s x = true → has u x = true → s = u) (hq : Apart3 n q) (hr : ∀ s, s ∈ p.filter (fun t => !mem t gone) → s ∈ q) : ∀ u, u ∈ q → u ∈ p := by
  intro u hu
  have hv := hq.val u hu
  have hv' := hv
  unfold valid at hv'
  have a1 : has u u.a = true := has_iff.mpr (.inl rfl)
  have a2 : has u u.b = true := has_iff.mpr (.inr (.inl rfl))
  have a3 : has u u.c = true := has_iff.mpr (.inr (.inr rfl))
  obtain ⟨s, s1, s2, s3⟩ := line_ex h.full (x := u.a) (y := u.b) (by omega) (by omega) (by omega)
  obtain ⟨w, w1, w2, w3⟩ := line_ex h.full (x := u.b) (y := u.c) (by omega) (by omega) (by omega)
  have rest : ∀ t, t ∈ p → t ∉ gone → t ∈ q := fun t ht hn => hr t (List.mem_filter.mpr ⟨ht, by rw [Bool.not_eq_true', mem_false]; exact hn⟩)
  by_cases es : s ∈ gone
  · by_cases ew : w ∈ gone
    · have e := hg s es w ew u.b s3 w2
      subst e
      have : s = u := three_ext (h.full.1.val s s1) hv fun x hx => by
        have hs := h.full.1.val s s1
        rw [Bool.eq_iff_iff, has_iff, has_iff]
        rw [has_iff] at s2 s3 w3
        unfold valid at hs
        omega
      exact this ▸ s1
    · rw [line_un hq hu (rest w w1 ew) (x := u.b) (y := u.c) (by omega) a2 a3 w2 w3]
      exact w1
  · rw [line_un hq hu (rest s s1 es) (x := u.a) (y := u.b) (by omega) a1 a2 s2 s3]
    exact s1
theorem fulls_back {n : Nat} {p gone : List T3} (h : FullS n p) (hg : ∀ s, s ∈ gone → ∀ u, u ∈ gone → ∀ x, has s x = true → has u x = true → s = u) : fullsOf n (p.filter fun t => !mem t gone) = [p] := by
  have ha : Apart3 n (p.filter fun t => !mem t gone) := h.full.1.sub (h.full.1.nd.filter _) fun t ht => (List.mem_filter.mp ht).1
  have hm : ∀ q, q ∈ fullsOf n (p.filter fun t => !mem t gone) ↔ q = p := fun q => by
    rw [mem_fulls ha]
    constructor
    · rintro ⟨h1, h2, h3⟩
      have hsub := back_mem h hg h1.1 h3
      have l1 := FullS.len ⟨h1, h2⟩
      have l2 := h.len
      refine sorted_ext h2 h.so fun x => ⟨hsub x, fun hx => ?_⟩
      have hc := filter_count (L := p) (M := q) h.full.1.nd h1.1.nd hsub
      have he : p.filter (fun x => !mem x q) = [] := List.length_eq_zero_iff.mp (by omega)
      have := List.filter_eq_nil_iff.mp he x hx
      rw [Bool.not_eq_true', mem_false] at this
      exact Classical.not_not.mp this
    · rintro rfl
      exact ⟨h.full, h.so, fun s hs => (List.mem_filter.mp hs).1⟩
  have hnd := fulls_nodup ha
  generalize fullsOf n (p.filter fun t => !mem t gone) = l at hm hnd
  cases l with
  | nil => exact absurd ((hm p).mpr rfl) (by simp)
  | cons x l =>
    rw [(hm x).mp List.mem_cons_self] at hnd ⊢
    cases l with
    | nil => rfl
    | cons y l =>
      have := (hm y).mp (by simp)
      rw [this] at hnd
      exact absurd rfl (List.nodup_cons.mp hnd |>.1 |> fun z => fun _ => z (by simp))
theorem every_sorted : ∀ n, n ≤ 9 → asc (every n) = true := by decide +kernel
/-- all that is open, of which some were taken away -/
theorem free_back {n : Nat} {p gone : List T3} (h : FullS n p) (hn : n ≤ 9) (hgp : ∀ s, s ∈ gone → s ∈ p) (hgs : Sorted gone) (hg : ∀ s, s ∈ gone → ∀ u, u ∈ gone → ∀ x, has s x = true → has u x = true → s = u) : (freeOf n (p.filter fun t => !mem t gone)) = gone := by
  have hfs : Sorted (freeOf n (p.filter fun t => !mem t gone)) := List.Pairwise.filter _ (asc_iff.mp (every_sorted n hn))
  refine sorted_ext hfs hgs fun t => ?_
  unfold freeOf
  rw [List.mem_filter, mem_every, List.all_eq_true]
  constructor
  · rintro ⟨h1, h2⟩
    have ha : Apart3 n (p.filter fun t => !mem t gone) := h.full.1.sub (h.full.1.nd.filter _) fun t ht => (List.mem_filter.mp ht).1
    have hs := ha.snoc h1 fun s hs => by
      have := h2 s hs
      rw [Bool.not_eq_true'] at this
      rw [clash_symm (ha.val s hs) h1]
      exact this
    have htp := back_mem h hg hs (fun s hs => List.mem_append.mpr (.inl hs)) t (by simp)
    refine Classical.byContradiction fun hn => ?_
    have := h2 t (List.mem_filter.mpr ⟨htp, by rw [Bool.not_eq_true', mem_false]; exact hn⟩)
    rw [clash_self h1] at this
    cases this
  · intro ht
    refine ⟨h.full.1.val t (hgp t ht), fun s hs => ?_⟩
    obtain ⟨h1, h2⟩ := List.mem_filter.mp hs
    rw [Bool.not_eq_true', mem_false] at h2
    rw [h.full.1.nc t (hgp t ht) s h1 fun e => h2 (e ▸ ht)]
    rfl
end TP
/-! exchanging.py by typed values. -/
namespace TP
open PySem L2
open Enc (enc)
section
variable {Φ : Nat → Fn} {ρ : Env'} {g : G}
def ownD (ρ : Env') (i : Nat) : Option (List (Int × PyData)) := match ρ[i]? with
  | some (some (.own (.dct kvs))) => some kvs
  | _ => none
theorem ownD_z {kvs : List (Int × PyData)} {ρ : Env'} : ownD (some (.own (.dct kvs)) :: ρ) 0 = some kvs := nrfl rfl
theorem ownD_s {x : Option W} {ρ : Env'} {i : Nat} : ownD (x :: ρ) (i + 1) = ownD ρ i := by unfold ownD; rw [List.getElem?_cons_succ]
theorem run_dnew' {i : Nat} (h : i < ρ.length) : run Φ (.dnew i) ρ g = .nx (ρ.set i (some (.own (.dct [])))) g := by
  rw [run, if_pos h]
def dsetD (kvs : List (Int × PyData)) (w u : W) : Option (List (Int × PyData)) := match w, u.int? with
  | .d x, some n => if noL x = true ∧ kvs.length < 1000 then some (putK kvs n x) else none
  | _, _ => none
theorem run_dset' {i : Nat} {k v : E} : run Φ (.dset i k v) ρ g = od (Res.of (ownD ρ i) g) (fun kvs g0 => od (ev Φ v ρ g0) (fun w g1 => od (ev Φ k ρ g1) (fun u g2 => od (Res.of (dsetD kvs w u) g2) (fun kvs' g3 => .nx (ρ.set i (some (.own (.dct kvs')))) g3) ⟨⟩) ⟨⟩) ⟨⟩) ⟨⟩ := by
  unfold od ownD
  rw [run]
  split
  · rename_i kvs e
    simp only [e, of_some, out_ok]
    cases ev Φ v ρ g with
    | ok w g1 =>
      simp only [out_ok]
      cases ev Φ k ρ g1 with
      | ok u g2 =>
        simp only [out_ok]
        unfold dsetD
        cases w with
        | d x =>
          cases u.int? with
          | some n =>
            simp only []
            split <;> rfl
          | none => rfl
        | own c => rfl
        | pk c => rfl
        | twn => rfl
        | scr => rfl
        | obj i => rfl
      | ex c g2 => rfl
      | no => rfl
    | ex c g1 => rfl
    | no => rfl
  · rename_i h
    first
      | rfl
      | (split
         · rename_i kvs e
           exact absurd e (h kvs)
         · rfl)
def dgetD (kvs : List (Int × PyData)) (n : Int) : Option W := (kvs.find? fun p => decide (p.1 = n)).map fun p => .d p.2
theorem ev_dget' {i : Nat} {k : E} : ev Φ (.dget i k) ρ g = bd (Res.of (ownD ρ i) g) (fun kvs g0 => bd (ev Φ k ρ g0) (fun w g1 => bd (Res.of w.int? g1) (fun n g2 => .of (dgetD kvs n) g2) ⟨⟩) ⟨⟩) ⟨⟩ := by
  unfold bd ownD
  rw [ev]
  split
  · rename_i kvs e
    simp only [e, of_some, bind_ok]
    cases ev Φ k ρ g with
    | ok w g1 =>
      simp only [bind_ok]
      cases w.int? with
      | some n => rfl
      | none => rfl
    | ex c g1 => rfl
    | no => rfl
  · rename_i h
    first
      | rfl
      | (split
         · rename_i kvs e
           exact absurd e (h kvs)
         · rfl)
def dsortD (kvs : List (Int × PyData)) : Option W := if kvs.length < 64 then some (.own (.lst (srt (kvs.map fun p => .int p.1)))) else none
theorem ev_dsort' {i : Nat} : ev Φ (.dsort i) ρ g = bd (Res.of (ownD ρ i) g) (fun kvs g0 => .of (dsortD kvs) g0) ⟨⟩ := by
  unfold bd ownD
  rw [ev]
  split
  · rename_i kvs e
    simp only [e, of_some, bind_ok, dsortD]
    split <;> rfl
  · rename_i h
    first
      | rfl
      | (split
         · rename_i kvs e
           exact absurd e (h kvs)
         · rfl)
end
/-! players_of -/
def addK (ks : List Nat) (x : Nat) : List Nat := if mem x ks then ks else ks ++ [x]
def keysOf (l : List Nat) : List Nat := l.foldl addK []
theorem keys_snoc (l : List Nat) (x : Nat) : keysOf (l ++ [x]) = addK (keysOf l) x := by
  unfold keysOf
  rw [List.foldl_append]
  rfl
def dT (ks : List Nat) : List (Int × PyData) := ks.map fun (k : Nat) => (((k : Nat) : Int), PyData.bool true)
theorem put_dT {ks : List Nat} {x : Nat} : putK (dT ks) (x : Int) (.bool true) = dT (addK ks x) := by
  unfold putK addK
  have e : ((dT ks).any fun p => decide (p.1 = (x : Int))) = mem x ks := by
    unfold dT mem
    rw [List.any_map]
    congr 1
    funext y
    exact decide_eq_decide.mpr Int.ofNat_inj
  rw [e]
  cases mem x ks with
  | true =>
    rw [if_pos rfl, if_pos rfl]
    unfold dT
    rw [List.map_map]
    refine List.map_congr_left fun y _ => ?_
    show (if _ then _ else _) = _
    split <;> rfl
  | false =>
    rw [if_neg (by decide), if_neg (by decide)]
    unfold dT
    rw [List.map_append]
    rfl
theorem keys_mem {x : Nat} : ∀ l : List Nat, x ∈ keysOf l ↔ x ∈ l := by
  have key : ∀ (l ks : List Nat), x ∈ l.foldl addK ks ↔ x ∈ ks ∨ x ∈ l := by
    intro l
    induction l with
    | nil => intro ks; simp
    | cons y l ih =>
      intro ks
      rw [List.foldl_cons, ih]
      unfold addK
      split
      · rename_i h
        have := mem_iff.mp h
        simp only [List.mem_cons]
        constructor
        · rintro (h | h)
          · exact .inl h
          · exact .inr (.inr h)
        · rintro (h | h | h)
          · exact .inl h
          · exact .inl (h ▸ this)
          · exact .inr h
      · simp only [List.mem_append, List.mem_singleton, List.mem_cons, or_assoc, List.not_mem_nil, false_or]
  intro l
  unfold keysOf
  rw [key]
  simp
theorem keys_nd : ∀ l : List Nat, (keysOf l).Nodup := by
  have key : ∀ (l ks : List Nat), ks.Nodup → (l.foldl addK ks).Nodup := by
    intro l
    induction l with
    | nil => intro ks h; exact h
    | cons y l ih =>
      intro ks h
      rw [List.foldl_cons]
      refine ih _ ?_
      unfold addK
      split
      · exact h
      · rename_i hy
        rw [Bool.not_eq_true, mem_false] at hy
        rw [List.nodup_append]
        exact ⟨h, by simp, fun a ha b hb e => hy (by rw [List.mem_singleton.mp hb] at e; exact e ▸ ha)⟩
  intro l
  exact key l [] List.nodup_nil
def plsOf (l : List T3) : List Nat := (List.range 9).filter fun x => l.any fun t => has t x
theorem keys_pls {l : List T3} (hv : ∀ t, t ∈ l → valid 9 t) : isort (keysOf (l.flatMap plr)) = plsOf l := by
  unfold plsOf
  rw [isort_eq_iff ((range_le 9).filter _)]
  refine (List.perm_ext_iff_of_nodup (keys_nd _) (List.nodup_range.filter _)).mpr fun x => ?_
  rw [keys_mem, List.mem_flatMap, List.mem_filter, List.any_eq_true, List.mem_range]
  constructor
  · rintro ⟨t, ht, hx⟩
    exact ⟨plr_lt (hv t ht) hx, t, ht, mem_plr.mp hx⟩
  · rintro ⟨_, t, ht, hx⟩
    exact ⟨t, ht, mem_plr.mpr hx⟩
theorem keys_len {l : List Nat} (h : ∀ x, x ∈ l → x < 9) : (keysOf l).length ≤ 9 := by
  have := sub_len (M := keysOf l) (L := List.range 9) List.nodup_range (keys_nd l) fun x hx => List.mem_range.mpr (h x ((keys_mem l).mp hx))
  rw [List.length_range] at this
  exact this
variable {Φ : Nat → Fn} {g : G}
theorem dset_T {ks : List Nat} {x : Nat} (h : ks.length < 1000) : dsetD (dT ks) (.d (.bool true)) (.d (enc x)) = some (dT (addK ks x)) := by
  show (if _ then some (putK _ _ _) else none) = _
  rw [if_pos ⟨rfl, by unfold dT; rw [List.length_map]; exact h⟩, put_dT]
theorem dsort_T {ks : List Nat} (h : ks.length < 64) : dsortD (dT ks) = some (.own (.lst ((isort ks).map enc))) := by
  unfold dsortD
  rw [if_pos (by unfold dT; rw [List.length_map]; exact h), show (dT ks).map (fun p => PyData.int p.1) = ks.map enc from by unfold dT; rw [List.map_map]; rfl, srt_map]
theorem v_players_of (l : List T3) (hv : ∀ t, t ∈ l → valid 9 t) (hl : l.length ≤ 1000) : fnv Φ 4 x_players_of [.d (enc l)] g = .ok (.own (.lst ((plsOf l).map enc))) g := by
  refine fnv_rt ?_
  show runs Φ x_players_of [some (.d (enc l)), none, none, none] g = _
  unfold x_players_of
  dsimp! [run_dnew']
  rw [run_for (xs := l) (fun m => [some (.d (enc l)), some (.own (.dct (dT (keysOf (m.flatMap plr))))), none, none])]
  · have h9 : ∀ x, x ∈ l.flatMap plr → x < 9 := fun x hx => by
      obtain ⟨t, ht, hx⟩ := List.mem_flatMap.mp hx
      exact plr_lt (hv t ht) hx
    have hk := keys_len h9
    dsimp! [ev_dsort', ownD_z, ownD_s, dsort_T, keys_pls hv]
  · dsimp! []
  · rfl
  · intro m t r e
    have hm : ∀ s, s ∈ m ++ [t] → valid 9 s := fun s hs => hv s (by rw [e]; rcases List.mem_append.mp hs with h | h <;> simp_all)
    have e3 : seq? (enc t) = some ((plr t).map enc) := rfl
    dsimp! []
    rw [run_for (xs := plr t) (fun q => [some (.d (enc l)), some (.own (.dct (dT (keysOf (m.flatMap plr ++ q))))), some (.d (enc t)), none])]
    · rw [List.flatMap_append, List.flatMap_singleton]
      dsimp! []
    · dsimp! [e3]
    · rw [List.append_nil]
    · intro q x r2 e2
      have hk : (keysOf (m.flatMap plr ++ q)).length ≤ 9 := keys_len fun y hy => by
        have : y ∈ (m ++ [t]).flatMap plr := by
          rw [List.flatMap_append, List.flatMap_singleton, e2]
          rcases List.mem_append.mp hy with h | h <;> simp_all
        obtain ⟨s, hs, hy⟩ := List.mem_flatMap.mp this
        exact plr_lt (hm s hs) hy
      rw [← List.append_assoc, keys_snoc]
      dsimp! [run_dset', ownD_z, ownD_s, dset_T]
def PlayersOfOk (Φ : Nat → Fn) (i : Nat) : Prop := ∀ (l : List T3) (g : G), (∀ t, t ∈ l → valid 9 t) → l.length ≤ 1000 → Φ i [.d (enc l)] g = .ok (.own (.lst ((plsOf l).map enc))) g
/-! four_list -/
def stepF (some : List (List T3)) (t : T3) : List (List T3) := some ++ (some.filter fun o => decide (o.length < 4)).map fun o => o ++ [t]
def subsF (p : List T3) : List (List T3) := p.foldl stepF [[]]
theorem subs_snoc (p : List T3) (t : T3) : subsF (p ++ [t]) = stepF (subsF p) t := by
  unfold subsF
  rw [List.foldl_append]
  rfl
theorem snoc_ind {α : Type} {P : List α → Prop} (h0 : P []) (hs : ∀ l x, P l → P (l ++ [x])) (l : List α) : P l := by
  have key : ∀ m : List α, P m.reverse := by
    intro m
    induction m with
    | nil => exact h0
    | cons x m ih => rw [List.reverse_cons]; exact hs _ x ih
  have := key l.reverse
  rwa [List.reverse_reverse] at this
theorem subs_len (p : List T3) : (subsF p).length ≤ 2 ^ p.length := by
  refine snoc_ind (P := fun p => (subsF p).length ≤ 2 ^ p.length) (by decide) (fun p t ih => ?_) p
  rw [subs_snoc]
  unfold stepF
  rw [List.length_append, List.length_map, List.length_append, List.length_singleton, Nat.pow_succ]
  have := List.length_filter_le (fun o : List T3 => decide (o.length < 4)) (subsF p)
  omega
def fourB (o : List T3) : Bool := (decide (o.length = 4) && decide ((plsOf o).length = 6)) && (plsOf o).all fun x => decide ((o.filter fun t => has t x).length = 2)
def fourList (p : List T3) : List (List T3) := isort ((subsF p).filter fourB)
/-- parts of at most four threes -/
theorem mem_subs {p : List T3} (hp : Sorted p) : ∀ o : List T3, o ∈ subsF p ↔ Sorted o ∧ (∀ t, t ∈ o → t ∈ p) ∧ o.length ≤ 4 := by
  refine snoc_ind (P := fun p => Sorted p → ∀ o : List T3, o ∈ subsF p ↔ Sorted o ∧ (∀ t, t ∈ o → t ∈ p) ∧ o.length ≤ 4) ?_ ?_ p hp
  · intro _ o
    show o ∈ [[]] ↔ _
    rw [List.mem_singleton]
    constructor
    · rintro rfl
      exact ⟨List.Pairwise.nil, (fun t h => by cases h), Nat.zero_le _⟩
    · rintro ⟨_, h, _⟩
      cases o with
      | nil => rfl
      | cons x o => exact absurd (h x List.mem_cons_self) (by simp)
  · intro p t ih hp o
    have hp1 : Sorted p := (List.pairwise_append.mp hp).1
    have hpt : ∀ s, s ∈ p → tlt s t = true := fun s hs => (List.pairwise_append.mp hp).2.2 s hs t (by simp)
    have ih := ih hp1
    rw [subs_snoc]
    unfold stepF
    rw [List.mem_append, List.mem_map, ih]
    constructor
    · rintro (⟨h1, h2, h3⟩ | ⟨o', ho, rfl⟩)
      · exact ⟨h1, fun s hs => List.mem_append.mpr (.inl (h2 s hs)), h3⟩
      · obtain ⟨ho, hl⟩ := List.mem_filter.mp ho
        obtain ⟨h1, h2, h3⟩ := (ih o').mp ho
        refine ⟨List.pairwise_append.mpr ⟨h1, by simp, fun s hs u hu => ?_⟩, fun s hs => ?_, ?_⟩
        · rw [List.mem_singleton.mp hu]
          exact hpt s (h2 s hs)
        · rcases List.mem_append.mp hs with h | h
          · exact List.mem_append.mpr (.inl (h2 s h))
          · exact List.mem_append.mpr (.inr h)
        · rw [List.length_append, List.length_singleton]
          exact of_decide_eq_true hl
    · rintro ⟨h1, h2, h3⟩
      by_cases hto : t ∈ o
      · refine .inr ?_
        have hne : o ≠ [] := fun e => by rw [e] at hto; cases hto
        obtain ⟨o', x, rfl⟩ : ∃ init x, o = init ++ [x] := ⟨_, _, (List.dropLast_concat_getLast hne).symm⟩
        have hx : x = t := by
          rcases List.mem_append.mp hto with h | h
          · have h5 := (List.pairwise_append.mp h1).2.2 t h x (by simp)
            rcases List.mem_append.mp (h2 x (by simp)) with h6 | h6
            · have := tlt_trans h5 (hpt x h6)
              rw [tlt_irr] at this
              cases this
            · exact List.mem_singleton.mp h6
          · exact (List.mem_singleton.mp h).symm
        subst hx
        refine ⟨o', List.mem_filter.mpr ⟨(ih o').mpr ⟨(List.pairwise_append.mp h1).1, fun s hs => ?_, ?_⟩, ?_⟩, rfl⟩
        · rcases List.mem_append.mp (h2 s (List.mem_append.mpr (.inl hs))) with h | h
          · exact h
          · have := (List.pairwise_append.mp h1).2.2 s hs x (by simp)
            rw [List.mem_singleton.mp h, tlt_irr] at this
            cases this
        · rw [List.length_append, List.length_singleton] at h3; omega
        · rw [List.length_append, List.length_singleton] at h3
          exact decide_eq_true (by omega)
      · refine .inl ⟨h1, fun s hs => ?_, h3⟩
        rcases List.mem_append.mp (h2 s hs) with h | h
        · exact h
        · exact absurd (List.mem_singleton.mp h ▸ hs) hto
theorem mem_fours {p o : List T3} (hp : Sorted p) : o ∈ fourList p ↔ (Sorted o ∧ ∀ t, t ∈ o → t ∈ p) ∧ fourB o = true := by
  unfold fourList
  rw [(isort_perm _).mem_iff, List.mem_filter, mem_subs hp]
  constructor
  · rintro ⟨⟨h1, h2, _⟩, h3⟩
    exact ⟨⟨h1, h2⟩, h3⟩
  · rintro ⟨⟨h1, h2⟩, h3⟩
    refine ⟨⟨h1, h2, ?_⟩, h3⟩
    unfold fourB at h3
    rw [Bool.and_eq_true, Bool.and_eq_true, decide_eq_true_eq] at h3
    omega
theorem v_four_list {ip : Nat} (hp : PlayersOfOk Φ ip) {p : List T3} (hv : ∀ t, t ∈ p → valid 9 t) (hl : p.length ≤ 12) (hs : Sorted p) : fnv Φ 6 (x_four_list ip) [.d (enc p)] g = .ok (.own (.lst ((fourList p).map enc))) g := by
  refine fnv_rt ?_
  show runs Φ (x_four_list ip) [some (.d (enc p)), none, none, none, none, none] g = _
  unfold x_four_list
  dsimp! []
  have hsl := subs_len p
  have hp2 := Nat.pow_le_pow_right (n := 2) (by decide) hl
  have hsb : (subsF p).length ≤ 4096 := by omega
  rw [run_for (xs := p) (fun l => [some (.d (enc p)), some (.d (.list ((subsF l).map enc))), none, none, none, none])]
  · dsimp! []
    rw [run_for (xs := subsF p) (fun l => [some (.d (enc p)), some (.d (.list ((subsF p).map enc))), none, none, some (.own (.lst ((l.filter fourB).map enc))), none])]
    · have e := List.length_filter_le fourB (subsF p)
      have hne : ∀ x, x ∈ (subsF p).filter fourB → x ≠ [] := fun x hx e => by
        have := (List.mem_filter.mp hx).2
        rw [e] at this
        exact absurd this (by decide)
      have es := sorted_PP (xs := (subsF p).filter fourB) (by omega) hne
      dsimp! [es]
      rfl
    · dsimp! []
    · rfl
    · intro l o r e
      have hll := pre_len e
      have hlf := List.length_filter_le fourB l
      have ho : o ∈ subsF p := by rw [e]; simp
      obtain ⟨o1, o2, o3⟩ := (mem_subs hs o).mp ho
      have ov : ∀ t, t ∈ o → valid 9 t := fun t ht => hv t (o2 t ht)
      have opl : o.length ≤ 1000 := by omega
      rw [snoc_filter]
      have hA : fourB o = ((decide (o.length = 4) && decide ((plsOf o).length = 6)) && (plsOf o).all fun x => decide ((o.filter fun t => has t x).length = 2)) := rfl
      rw [hA]
      generalize hB : decide (o.length = 4) = B
      cases B with
      | false => dsimp! [hB, List.append_nil]
      | true =>
        dsimp! [hB, hp _ _ ov opl]
        generalize hC : decide ((plsOf o).length = 6) = C
        cases C with
        | false => dsimp! [hC, List.append_nil]
        | true =>
          dsimp! [hC, hp _ _ ov opl]
          have hpl : (plsOf o).length ≤ 9 := by
            have := List.length_filter_le (fun x => o.any fun t => has t x) (List.range 9)
            rw [List.length_range] at this
            exact this
          rw [ev_cm (xs := plsOf o) (fun x => .bool (decide ((o.filter fun t => has t x).length = 2)))]
          · generalize hD : ((plsOf o).all fun x => decide ((o.filter fun t => has t x).length = 2)) = D
            cases D with
            | false => dsimp! [hD, List.append_nil]
            | true => dsimp! [hD]
          · dsimp! [hp _ _ ov opl]
          · unfold lim; omega
          · intro x hx
            refine ⟨_, rfl, .d (.bool (decide ((o.filter fun t => has t x).length = 2))), ?_, rfl⟩
            dsimp! []
            rw [ev_cf (xs := o) (fun t => has t x) (fun _ => enc (1 : Nat))]
            · rw [const_map]
              have e1 : ((o.filter fun t => has t x).map fun _ => (1 : Nat)).length = (o.filter fun t => has t x).length := List.length_map _
              dsimp! [e1]
            · dsimp! []
            · unfold lim; omega
            · intro t ht
              exact ⟨_, rfl, by dsimp! [], fun _ => ⟨_, by dsimp! []; rfl, rfl⟩⟩
  · dsimp! []
  · rfl
  · intro l t r e
    have hll := pre_len e
    have hsl := subs_len l
    have hp2 := Nat.pow_le_pow_right (n := 2) (by decide) (show l.length ≤ 12 by omega)
    have hsb : (subsF l).length ≤ 4096 := by omega
    have hfl := List.length_filter_le (fun o : List T3 => decide (o.length < 4)) (subsF l)
    rw [subs_snoc]
    unfold stepF
    dsimp! []
    rw [ev_cf (xs := subsF l) (fun o => decide (o.length < 4)) (fun o => enc (o ++ [t]))]
    · rw [show (((subsF l).filter fun o => decide (o.length < 4)).map fun o => enc (o ++ [t])) = (((subsF l).filter fun o => decide (o.length < 4)).map fun o => o ++ [t]).map enc from by rw [List.map_map]; rfl]
      dsimp! []
    · dsimp! []
    · unfold lim; omega
    · intro o ho
      exact ⟨_, rfl, by dsimp! [], fun ht => ⟨_, by have := of_decide_eq_true ht; dsimp! []; rfl, rfl⟩⟩
def FourListOk (Φ : Nat → Fn) (i : Nat) : Prop := ∀ (p : List T3) (g : G), (∀ t, t ∈ p → valid 9 t) → p.length ≤ 12 → Sorted p → Φ i [.d (enc p)] g = .ok (.own (.lst ((fourList p).map enc))) g
theorem Pl.v9 {n : Nat} {p : List T3} (h : Pl n p) : ∀ t, t ∈ p → valid 9 t := fun t ht => by
  have := h.ap.val t ht
  have := h.hi
  unfold valid at *
  omega
theorem v_fours {ic il : Nat} (hc : ChPlanOk Φ ic) (hl : FourListOk Φ il) {n : Nat} {p : List T3} (h : Pl n p) : fnv Φ 2 (x_fours ic il) [.d (enc n), .d (enc p)] g = .ok (.own (.lst ((fourList p).map enc))) g := by
  refine fnv_rt ?_
  show runs Φ (x_fours ic il) [some (.d (enc n)), some (.d (enc p))] g = _
  unfold x_fours
  dsimp! [hc _ _ _ h, hl _ _ h.v9 h.len h.so]
def FoursOk (Φ : Nat → Fn) (i : Nat) : Prop := ∀ (n : Nat) (p : List T3) (g : G), Pl n p → Φ i [.d (enc n), .d (enc p)] g = .ok (.own (.lst ((fourList p).map enc))) g
end TP
/-! Fours and names. -/
namespace TP
open PySem L2
open Enc (enc)
theorem mem_pls {l : List T3} {x : Nat} : x ∈ plsOf l ↔ x < 9 ∧ ∃ t, t ∈ l ∧ has t x = true := by
  unfold plsOf
  rw [List.mem_filter, List.mem_range, List.any_eq_true]
theorem pls_nd (l : List T3) : (plsOf l).Nodup := List.nodup_range.filter _
theorem pls_ren {n : Nat} (hn : n ≤ 9) {names : List Nat} (h : Nms n names) {f : List T3} (hv : ∀ t, t ∈ f → valid n t) : (plsOf (namedOf f names)).Perm ((plsOf f).map (nm names)) := by
  have hlt : ∀ x, x ∈ plsOf f → x < n := fun x hx => by
    obtain ⟨_, t, ht, hx⟩ := mem_pls.mp hx
    exact has_lt (hv t ht) hx
  have hnd : ((plsOf f).map (nm names)).Nodup := by
    rw [List.nodup_iff_pairwise_ne, List.pairwise_map]
    refine List.Pairwise.imp_of_mem (fun {a b} ha hb hab e => hab (h.inj (hlt a ha) (hlt b hb) e)) (List.nodup_iff_pairwise_ne.mp (pls_nd f))
  refine (List.perm_ext_iff_of_nodup (pls_nd _) hnd).mpr fun y => ?_
  rw [mem_pls, List.mem_map]
  constructor
  · rintro ⟨hy, t, ht, hty⟩
    obtain ⟨s, hs, rfl⟩ := mem_named.mp ht
    obtain ⟨x, hx, rfl⟩ := h.surj (has_lt (ren_valid h (hv s hs)) hty)
    rw [ren_has h (hv s hs) hx] at hty
    exact ⟨x, mem_pls.mpr ⟨by omega, s, hs, hty⟩, rfl⟩
  · rintro ⟨x, hx, rfl⟩
    obtain ⟨_, t, ht, htx⟩ := mem_pls.mp hx
    exact ⟨by have := h.lt (hlt x hx); omega, ren3 names t, mem_named.mpr ⟨t, ht, rfl⟩, by rw [ren_has h (hv t ht) (hlt x hx)]; exact htx⟩
theorem count_has {n : Nat} {names : List Nat} (h : Nms n names) {f : List T3} (hv : ∀ t, t ∈ f → valid n t) {x : Nat} (hx : x < n) : ((namedOf f names).filter fun t => has t (nm names x)).length = (f.filter fun t => has t x).length := by
  have := (filter_named (p := f) (names := names) (f := fun t => has t (nm names x)) (f' := fun t => has t x) fun t ht => ren_has h (hv t ht) hx).length_eq
  rw [List.length_map] at this
  exact this
theorem fourB_iff {o : List T3} : fourB o = true ↔ (o.length = 4 ∧ (plsOf o).length = 6) ∧ ∀ x, x ∈ plsOf o → (o.filter fun t => has t x).length = 2 := by
  unfold fourB
  rw [Bool.and_eq_true, Bool.and_eq_true, decide_eq_true_eq, decide_eq_true_eq, List.all_eq_true]
  exact ⟨fun ⟨h1, h2⟩ => ⟨h1, fun x hx => of_decide_eq_true (h2 x hx)⟩, fun ⟨h1, h2⟩ => ⟨h1, fun x hx => decide_eq_true (h2 x hx)⟩⟩
theorem four_ren {n : Nat} (hn : n ≤ 9) {names : List Nat} (h : Nms n names) {f : List T3} (hv : ∀ t, t ∈ f → valid n t) (hf : fourB f = true) : fourB (namedOf f names) = true := by
  rw [fourB_iff] at hf ⊢
  obtain ⟨⟨h1, h2⟩, h3⟩ := hf
  have hp := pls_ren hn h hv
  refine ⟨⟨?_, ?_⟩, fun y hy => ?_⟩
  · unfold namedOf
    rw [isort_len, List.length_map, h1]
  · rw [hp.length_eq, List.length_map, h2]
  · obtain ⟨x, hx, rfl⟩ := List.mem_map.mp (hp.mem_iff.mp hy)
    obtain ⟨_, t, ht, htx⟩ := mem_pls.mp hx
    rw [count_has h hv (has_lt (hv t ht) htx)]
    exact h3 x hx
theorem k9sorted : asc (isort (knownOf 9)) = true := by decide +kernel
theorem k9fours : fourList (isort (knownOf 9)) = [] := by
  have : ((subsF (isort (knownOf 9))).filter fourB).isEmpty = true := by decide +kernel
  unfold fourList
  rw [List.isEmpty_iff.mp this]
  rfl
/-- a full plan for nine players has no four -/
theorem no_four9 {names : List Nat} (h : Nms 9 names) : fourList (namedOf (knownOf 9) names) = [] := by
  have hK := known_full 9 (.inr (.inr rfl))
  have hF := named_full h hK
  obtain ⟨names', h', e1, e2⟩ := h.inv
  rw [List.eq_nil_iff_forall_not_mem]
  intro o ho
  obtain ⟨⟨o1, o2⟩, o3⟩ := (mem_fours hF.so).mp ho
  have ov : ∀ t, t ∈ o → valid 9 t := fun t ht => hF.full.1.val t (o2 t ht)
  have : namedOf o names' ∈ fourList (isort (knownOf 9)) := by
    refine (mem_fours (asc_iff.mp k9sorted)).mpr ⟨⟨?_, fun t ht => ?_⟩, four_ren (Nat.le_refl 9) h' ov o3⟩
    · refine isort_sorted ?_
      rw [List.nodup_iff_pairwise_ne, List.pairwise_map]
      exact List.Pairwise.imp_of_mem (fun {a b} ha hb hab e => hab (ren_inj h' (ov a ha) (ov b hb) e)) (List.nodup_iff_pairwise_ne.mp (sorted_nodup o1))
    · obtain ⟨s, hs, rfl⟩ := mem_named.mp ht
      obtain ⟨u, hu, rfl⟩ := mem_named.mp (o2 s hs)
      rw [ren_ren h h' e1 (hK.1.val u hu)]
      exact (isort_perm _).mem_iff.mpr hu
  rw [k9fours] at this
  cases this
end TP
/-! k05's own ways to days. -/
namespace TP
open PySem L2
open Enc (enc)
variable {Φ : Nat → Fn} {g : G}
instance : Fact' (Enc.dp (List Nat) ≤ 30) := ⟨by decide⟩
abbrev DG := List T3 × List Nat
def dg (d : List T3) : DG := (d, d.flatMap plr)
theorem b_addG {gone : List Nat} {t : T3} (h : gone.length + 3 ≤ 16777216) : binD .add (enc gone) (enc t) = some (.d (enc (gone ++ plr t))) := b_addT (xs := gone) (ys := plr t) h
theorem eqE_nil {d : List T3} : binD .eq (enc d) (enc ([] : List T3)) = some (.d (.bool d.isEmpty)) := by
  rw [b_eqE]
  cases d <;> rfl
theorem v_law_sets {n : Nat} {p : List T3} (h : Pl n p) : fnv Φ 9 x__law_sets [.d (enc n), .d (enc p)] g = .ok (.own (.lst ((dayList n p).map enc))) g := by
  have h1 := h.lo
  have h2 := h.hi
  have h3 := h.len
  have hk : n / 3 ≤ 3 := by omega
  have hl3 : (daysK p (n / 3)).length ≤ 1728 := by
    have := daysK_len p h3 (n / 3) hk
    have := Nat.pow_le_pow_right (n := 12) (by decide) hk
    omega
  refine fnv_rt ?_
  show runs Φ x__law_sets [some (.d (enc n)), some (.d (enc p)), none, none, none, none, none, none, none] g = _
  unfold x__law_sets
  dsimp! []
  rw [run_for (xs := List.range (n / 3)) (fun l => [some (.d (enc n)), some (.d (enc p)), some (.d (.list (((daysK p l.length).map dg).map enc))), none, none, none, none, none, none])]
  · rw [List.length_range]
    dsimp! []
    rw [ev_cf (xs := (daysK p (n / 3)).map dg) (fun x => decide (x.2.length = n)) (fun x => enc x.1)]
    · have e : (((daysK p (n / 3)).map dg).filter fun x => decide (x.2.length = n)).map (fun x => enc x.1) = (dayList n p).map enc := by
        rw [List.filter_map, List.map_map]
        unfold dayList
        rw [List.filter_congr fun d hd => makesDay_len h.ap.val hd]
        rfl
      rw [e]
      dsimp! []
    · dsimp! []
    · rw [List.length_map]; unfold lim; omega
    · intro x hx
      obtain ⟨d, hd, rfl⟩ := List.mem_map.mp hx
      have e5 : bltD .len [enc (dg d).2] = some (.d (enc (dg d).2.length)) := len_T
      exact ⟨_, bind2, by dsimp! [e5], fun _ => ⟨_, by dsimp! []; rfl, rfl⟩⟩
  · dsimp! []
  · rfl
  · intro l x r e
    have hl := pre_len e
    rw [List.length_range] at hl
    have hk2 : l.length ≤ 3 := by omega
    have hdl := daysK_len p h3 l.length hk2
    have hdl2 := Nat.pow_le_pow_right (n := 12) (by decide) hk2
    rw [List.length_append, List.length_singleton]
    dsimp! []
    rw [run_for (xs := (daysK p l.length).map dg) (fun m => [some (.d (enc n)), some (.d (enc p)), some (.d (.list (((daysK p l.length).map dg).map enc))), some (.d (enc x)), some (.own (.lst (((m.flatMap fun z => extD p z.1).map dg).map enc))), none, none, none, none])]
    · have e6 : ((daysK p l.length).map dg).flatMap (fun z => extD p z.1) = daysK p (l.length + 1) := by
        rw [List.flatMap_map]
        rfl
      rw [e6]
      dsimp! [run_mov', List.getElem?_cons_succ, List.getElem?_cons_zero, movE_own]
    · dsimp! []
    · rfl
    · intro m one r2 e2
      have hml := pre_len e2
      rw [List.length_map] at hml
      have hm1 : one ∈ (daysK p l.length).map dg := by rw [e2]; simp
      obtain ⟨d, hd, rfl⟩ := List.mem_map.mp hm1
      have hol := daysK_one p _ d hd
      have hfl := flat_len' (fun z : DG => extD p z.1) 12 m fun x _ => Nat.le_trans (extD_len p x.1) h3
      have hpl := plr_len d
      dsimp! []
      rw [run_for (xs := p) (fun q => [some (.d (enc n)), some (.d (enc p)), some (.d (.list (((daysK p l.length).map dg).map enc))), some (.d (enc x)), some (.own (.lst ((((m.flatMap fun z => extD p z.1) ++ (q.filter (okD d)).map fun t => d ++ [t]).map dg).map enc))), some (.d (enc (dg d).1)), some (.d (enc (dg d).2)), none, none])]
      · rw [List.flatMap_append, List.flatMap_singleton]
        dsimp! []
        rfl
      · dsimp! []
      · simp only [List.filter_nil, List.map_nil, List.append_nil]
      · intro q t r3 e3
        have hql := pre_len e3
        have hqf := List.length_filter_le (okD d) q
        have hA : okD d t = ((d.isEmpty || tlt (d.getLastD ⟨0, 0, 0⟩) t) && ((plr t).filter fun x => mem x (d.flatMap plr)).isEmpty) := by
          unfold okD
          rw [Bool.and_comm]
          congr 1
          rw [Bool.eq_iff_iff, Bool.not_eq_true', ← Bool.not_eq_true, List.any_eq_true, List.isEmpty_iff, List.filter_eq_nil_iff]
          constructor
          · intro h1 x hx h2
            exact h1 ⟨x, hx, h2⟩
          · rintro h1 ⟨x, hx, h2⟩
            exact h1 x hx h2
        have key : ∀ ρ : Env', get ρ 7 = some (.d (enc t)) → True := fun _ _ => trivial
        rw [snoc_if]
        show turn _ _ _ [some (.d (enc n)), some (.d (enc p)), some (.d (.list (((daysK p l.length).map dg).map enc))), some (.d (enc x)), some (.own (.lst ((((m.flatMap fun z => extD p z.1) ++ (q.filter (okD d)).map fun t => d ++ [t]).map dg).map enc))), some (.d (enc d)), some (.d (enc (d.flatMap plr))), none, none] g = _
        rw [hA]
        have hX : ∀ a : Bool, a = (d.isEmpty || tlt (d.getLastD ⟨0, 0, 0⟩) t) → True := fun _ _ => trivial
        have hcomp : ev Φ (.comp (.c (enc (1 : Nat))) (.one 8) (.seq (.v 7)) (.som (.o2 .inn (.v 8) (.v 6)))) [some (.d (enc n)), some (.d (enc p)), some (.d (.list (((daysK p l.length).map dg).map enc))), some (.d (enc x)), some (.own (.lst ((((m.flatMap fun z => extD p z.1) ++ (q.filter (okD d)).map fun t => d ++ [t]).map dg).map enc))), some (.d (enc d)), some (.d (enc (d.flatMap plr))), some (.d (enc t)), none] g = .ok (.own (.lst (((plr t).filter fun x => mem x (d.flatMap plr)).map fun _ => enc (1 : Nat)))) g := by
          rw [ev_cf (xs := plr t) (fun x => mem x (d.flatMap plr)) (fun _ => enc (1 : Nat))]
          · have e4 : seq? (enc t) = some ((plr t).map enc) := rfl
            dsimp! [e4]
          · show 3 ≤ lim; unfold lim; omega
          · intro y hy
            have e7 : binD .inn (enc y) (enc (d.flatMap plr)) = some (.d (.bool (mem y (d.flatMap plr)))) := b_inT
            exact ⟨_, rfl, by dsimp! [e7], fun _ => ⟨_, by dsimp! []; rfl, rfl⟩⟩
        have e8 : (((plr t).filter fun x => mem x (d.flatMap plr)).map fun _ => (1 : Nat)).isEmpty = ((plr t).filter fun x => mem x (d.flatMap plr)).isEmpty := by
          cases ((plr t).filter fun x => mem x (d.flatMap plr)) <;> rfl
        rw [const_map] at hcomp
        have e9 : ((d ++ [t], d.flatMap plr ++ plr t) : DG) = dg (d ++ [t]) := by
          unfold dg
          rw [List.flatMap_append, List.flatMap_singleton]
        by_cases ho : d = []
        · have hd' : decide (d = []) = true := decide_eq_true ho
          have hone : d.isEmpty = true := by rw [ho]; rfl
          rw [hone]
          generalize hB : ((plr t).filter fun x => mem x (d.flatMap plr)).isEmpty = B
          cases B with
          | false =>
            dsimp! [hd', hcomp, e8, hB, List.append_nil]
            rfl
          | true =>
            dsimp! [hd', hcomp, e8, hB, b_addG, e9]
            simp only [List.map_append, List.append_assoc]
            rfl
        · have hd' : decide (d = []) = false := decide_eq_false ho
          have hone : d.isEmpty = false := by cases d with | nil => exact absurd rfl ho | cons _ _ => rfl
          rw [hone]
          have hLL := ixLastP ho
          generalize hC : tlt (d.getLastD ⟨0, 0, 0⟩) t = C
          cases C with
          | false =>
            dsimp! [hd', hLL, hC, List.append_nil]
            rfl
          | true =>
            generalize hB : ((plr t).filter fun x => mem x (d.flatMap plr)).isEmpty = B
            cases B with
            | false =>
              dsimp! [hd', hLL, hC, hcomp, e8, hB, List.append_nil]
              rfl
            | true =>
              dsimp! [hd', hLL, hC, hcomp, e8, hB, b_addG, e9]
              simp only [List.map_append, List.append_assoc]
              rfl
end TP
/-! k05's covers. -/
namespace TP
open PySem L2
open Enc (enc)
variable {Φ : Nat → Fn} {g : G}
def allT (L : List T3) : Nat → List (List T3)
  | 0 => [[]]
  | m + 1 => L.flatMap fun x => (allT L m).map fun d => x :: d
theorem allT_len (L : List T3) : ∀ m, (allT L m).length = L.length ^ m
  | 0 => rfl
  | m + 1 => by
    have key : ∀ l : List T3, (l.flatMap fun x => (allT L m).map fun d => x :: d).length = l.length * (allT L m).length := by
      intro l
      induction l with
      | nil => simp
      | cons x l ih => rw [List.flatMap_cons, List.length_append, List.length_map, ih, List.length_cons, Nat.succ_mul, Nat.add_comm]
    show (L.flatMap fun x => (allT L m).map fun d => x :: d).length = _
    rw [key, allT_len L m, Nat.pow_succ, Nat.mul_comm]
theorem mem_allT {L : List T3} : ∀ {d : List T3}, (∀ s, s ∈ d → s ∈ L) → d ∈ allT L d.length
  | [], _ => by simp [allT]
  | x :: d, h => List.mem_flatMap.mpr ⟨x, h x List.mem_cons_self, List.mem_map.mpr ⟨d, mem_allT fun s hs => h s (List.mem_cons_of_mem _ hs), rfl⟩⟩
structure Dys (days : List Day) (k : Nat) : Prop where
  nd : days.Nodup
  so : ∀ d, d ∈ days → Sorted d
  ln : ∀ d, d ∈ days → d.length = k
theorem okI_iff {L : List T3} {t : T3} {d : Day} : okI L t d = true ↔ t ∈ d ∧ ∀ s, s ∈ d → s ∈ L := by
  unfold okI
  rw [Bool.and_eq_true, mem_iff]
  exact and_congr Iff.rfl within_iff
theorem kid_head {L r : List T3} {t : T3} {d : Day} (hL : Sorted (t :: r)) (hd : Sorted d) (h : okI (t :: r) t d = true) : ∃ d', d = t :: d' := by
  obtain ⟨h1, h2⟩ := okI_iff.mp h
  exact sorted_head hd h1 fun s hs => by
    rcases List.mem_cons.mp (h2 s hs) with e | e
    · exact .inl e
    · exact .inr ((List.pairwise_cons.mp hL).1 s e)
theorem kids_few {days : List Day} {k : Nat} (h : Dys days k) {f : List Day} {t : T3} {r : List T3} (hL : Sorted (t :: r)) : (kidsI days (⟨f⟩, ⟨t :: r⟩) t).length ≤ (t :: r).length ^ (k - 1) := by
  unfold kidsI
  rw [List.length_map]
  have := sub_len (M := days.filter (okI (t :: r) t)) (L := (allT (t :: r) (k - 1)).map fun d => t :: d) ?_ (h.nd.filter _) fun d hd => ?_
  · rw [List.length_map, allT_len] at this
    exact this
  · have key : ∀ (L : List T3) (m : Nat), L.Nodup → (allT L m).Nodup := by
      intro L m hL
      induction m with
      | zero => simp [allT]
      | succ m ih =>
        refine nodup_flat _ _ hL (fun x _ => ?_) fun c _ d _ hcd x hx hx2 => ?_
        · rw [List.nodup_iff_pairwise_ne, List.pairwise_map]
          exact (List.nodup_iff_pairwise_ne.mp ih).imp fun hab e => hab (List.cons.inj e).2
        · obtain ⟨a, _, rfl⟩ := List.mem_map.mp hx
          obtain ⟨b, _, e⟩ := List.mem_map.mp hx2
          exact hcd (List.cons.inj e).1.symm
    rw [List.nodup_iff_pairwise_ne, List.pairwise_map]
    exact (List.nodup_iff_pairwise_ne.mp (key _ (k - 1) (sorted_nodup hL))).imp fun hab e => hab (List.cons.inj e).2
  · obtain ⟨h1, h2⟩ := List.mem_filter.mp hd
    obtain ⟨d', rfl⟩ := kid_head (L := []) hL (h.so d h1) h2
    have hl := h.ln _ h1
    rw [List.length_cons] at hl
    refine List.mem_map.mpr ⟨d', ?_, rfl⟩
    have := mem_allT (L := t :: r) (d := d') fun s hs => (okI_iff.mp h2).2 s (List.mem_cons_of_mem _ hs)
    rw [show k - 1 = d'.length by omega]
    exact this
def Wd (k : Nat) : Nat → Nat → Nat
  | 0, _ => 1
  | fuel + 1, m => if m = 0 then 1 else m ^ (k - 1) * Wd k fuel (m - k)
theorem kid_left {days : List Day} {k : Nat} (h : Dys days k) {f : List Day} {t : T3} {r : List T3} (hL : Sorted (t :: r)) {d : Day} (hd : d ∈ days) (ho : okI (t :: r) t d = true) : (kidI (⟨f⟩, ⟨t :: r⟩) d).2.l.length = (t :: r).length - k ∧ Sorted (kidI (⟨f⟩, ⟨t :: r⟩) d).2.l := by
  have hc := filter_count (L := t :: r) (M := d) (sorted_nodup hL) (sorted_nodup (h.so d hd)) (okI_iff.mp ho).2
  rw [h.ln d hd] at hc
  exact ⟨by unfold kidI; simp only; omega, List.Pairwise.filter _ hL⟩
theorem runI_few {days : List Day} {k : Nat} (hk : 1 ≤ k) (h : Dys days k) : ∀ (fuel : Nat) (L : List T3) (f : List Day), Sorted L → L.length ≤ fuel → (runI days (⟨f⟩, ⟨L⟩)).length ≤ Wd k fuel L.length
  | fuel, [], f, _, _ => by
    rw [runI_nil]
    cases fuel with
    | zero => exact Nat.le_refl 1
    | succ m => show 1 ≤ Wd k (m + 1) 0; unfold Wd; rw [if_pos rfl]; exact Nat.le_refl 1
  | 0, t :: r, _, _, hl => absurd hl (Nat.not_succ_le_zero _)
  | fuel + 1, t :: r, f, hs, hl => by
    rw [runI_cons]
    have h1 := flat_len' (runI days) (Wd k fuel ((t :: r).length - k)) (kidsI days (⟨f⟩, ⟨t :: r⟩) t) fun c hc => by
      obtain ⟨d, hd, ho, rfl⟩ := mem_kidsI.mp hc
      obtain ⟨e1, e2⟩ := kid_left h (f := f) hs hd ho
      have := runI_few hk h fuel (kidI (⟨f⟩, ⟨t :: r⟩) d).2.l (kidI (⟨f⟩, ⟨t :: r⟩) d).1.l e2 (by rw [e1]; omega)
      rw [e1] at this
      exact this
    have h2 := kids_few h (f := f) hs
    unfold Wd
    rw [if_neg (by simp)]
    exact Nat.le_trans h1 (Nat.mul_le_mul_right _ h2)
theorem Wd_le : ∀ k, k < 4 → ∀ m, m < 13 → Wd k 12 m ≤ 4000000 := by decide +kernel
theorem dys_of {n : Nat} {p : List T3} (h : Pl n p) : Dys (dayList n p) (n / 3) := ⟨sortedP_nodup (dayList_sorted h.so), fun d hd => ((mem_dayList h.ap.val).mp hd).1, fun d hd => daysK_one p _ d (List.mem_filter.mp hd).1⟩
theorem runI_bound {n : Nat} {p : List T3} (h : Pl n p) : (runI (dayList n p) (⟨[]⟩, ⟨p⟩)).length ≤ 4000000 := by
  have h1 := h.lo
  have h2 := h.hi
  have h3 := h.len
  exact Nat.le_trans (runI_few (by omega) (dys_of h) 12 p [] h.so h3) (Wd_le _ (by omega) _ (by omega))
/-! the law's loop -/
def runR (days : List Day) (s : NdI) : List (List Day) := (runI days s).reverse
theorem runR_cons (days : List Day) (f : List Day) (t : T3) (r : List T3) : runR days (⟨f⟩, ⟨t :: r⟩) = (kidsI days (⟨f⟩, ⟨t :: r⟩) t).reverse.flatMap (runR days) := by
  unfold runR
  rw [runI_cons]
  generalize kidsI days (⟨f⟩, ⟨t :: r⟩) t = l
  induction l with
  | nil => rfl
  | cons x l ih => rw [List.flatMap_cons, List.reverse_append, ih, List.reverse_cons, List.flatMap_append, List.flatMap_singleton]
instance : Fact' (Enc.ord (Ls Day) = true) := ⟨rfl⟩
theorem sorted_LL {xs : List (Ls Day)} (hl : xs.length ≤ 16777216) : bltD .sorted [.list (xs.map enc)] = some (.own (.lst ((isort xs).map enc))) := by
  show (if srtOk _ then _ else _) = _
  have : srtOk (xs.map (enc : Ls Day → PyData)) = true := by
    unfold srtOk
    have e : (xs.map (enc : Ls Day → PyData)).all isLst = true := by
      rw [List.all_map, List.all_eq_true]; intro x _; rfl
    rw [List.length_map, decide_eq_true (by unfold lim; exact hl), cmS_map, e]
    simp
  rw [this, if_pos rfl, srt_map]
theorem appL_ls {made : List (Ls Day)} {f : List Day} (h : made.length < 16777216) : appL (made.map enc) (.list (f.map enc)) = some ((made ++ [(⟨f⟩ : Ls Day)]).map enc) := appL_ok (y := (⟨f⟩ : Ls Day)) h
def srtF (f : List Day) : Ls Day := ⟨isort f⟩
theorem v_law_covers {n : Nat} {p : List T3} (h : Pl n p) {days : List Day} (hD : days = dayList n p) : fnv Φ 8 x__law_covers [.d (.list (days.map enc)), .d (enc p)] g = .ok (.own (.lst ((isort ((runR days (⟨[]⟩, ⟨p⟩)).map srtF)).map enc))) g := by
  have h3 := h.len
  have h2 := h.hi
  have h1 := h.lo
  have hdl : days.length ≤ 1728 := hD ▸ dayList_len h
  have hd3 : ∀ d, d ∈ days → d.length ≤ 3 ∧ d ≠ [] := fun d hd => by
    have := (dys_of h).ln d (hD ▸ hd)
    exact ⟨by omega, fun e => by rw [e, List.length_nil] at this; omega⟩
  have hbd : (runR days (⟨[]⟩, ⟨p⟩)).length ≤ 4000000 := by
    unfold runR
    rw [List.length_reverse, hD]
    exact runI_bound h
  refine fnv_rt ?_
  show runs Φ x__law_covers [some (.d (.list (days.map enc))), some (.d (enc p)), none, none, none, none, none, none] g = _
  let st : List (Ls Day) → List NdI → Env' := fun made line => [some (.d (.list (days.map enc))), some (.d (enc p)), some (.own (.lst (made.map enc))), some (.own (.lst (line.map enc))), none, none, none, none]
  let s0 : NdI := (⟨[]⟩, ⟨p⟩)
  let tot := (runR days s0).map srtF
  let Inv : Nat → Env' → G → Prop := fun m ρ g' => ∃ made line, ρ = st made line ∧ g' = g ∧ wtsI line = m ∧ made ++ (line.reverse.flatMap (runR days)).map srtF = tot ∧ (∀ s, s ∈ line → s.1.l.length + s.2.l.length ≤ 12 ∧ ∀ d, d ∈ s.1.l → d ≠ []) ∧ ∀ i s, line[i]? = some s → i + 1728 * s.2.l.length ≤ 20736
  obtain ⟨m', ρ', g', e1, ⟨made, line, rfl, rfl, hm, ht, ha, hi⟩, e2⟩ := run_wh (Φ := Φ) (g := g) (ρ := st [] [s0]) (c := (.o2 .ne (.v 3) (.lst .nil))) (b := (.cons (.popT (.two 4 5) 3) (.cons (.ife (.o2 .eq (.v 5) (.lst .nil)) (.cons (.app 2 (.blt .sorted (.cons (.v 4) .nil))) .nil) (.cons (.fr [] (.one 6) (.seq (.v 0)) (.cons (.ife (.ban (.cons (.o2 .inn (.ix (.v 5) (.c (enc (0 : Nat)))) (.v 6)) (.cons (.o2 .eq (.comp (.c (enc (1 : Nat))) (.one 7) (.seq (.v 6)) (.som (.o2 .notin (.v 7) (.v 5)))) (.lst .nil)) .nil))) (.cons (.app 3 (.tup (.cons (.o2 .add (.v 4) (.lst (.cons (.v 6) .nil))) (.cons (.comp (.v 7) (.one 7) (.seq (.v 5)) (.som (.o2 .notin (.v 7) (.v 6)))) .nil)))) .nil) .nil) .nil)) .nil)) .nil))) Inv (wtsI [s0]) (by
      show 2000 ^ p.length + 0 < _
      have := Nat.pow_le_pow_right (n := 2000) (by decide) h3
      omega) ⟨[], [s0], rfl, rfl, rfl, by simp [tot], (fun s hs => by
      rw [List.mem_singleton.mp hs]
      exact ⟨by show 0 + p.length ≤ 12; omega, fun d hd => by cases hd⟩), (fun i s hs => by
      match i, hs with
      | 0, hs =>
        have : s = s0 := by simpa using hs.symm
        rw [this]
        show 0 + 1728 * p.length ≤ 20736
        omega
      | i + 1, hs => simp at hs)⟩ (by
      rintro m ρ g' ⟨made, line, rfl, rfl, hm, ht, ha, hi⟩
      refine ⟨!line.isEmpty, by show ev Φ _ [some (.d (.list (days.map enc))), some (.d (enc p)), some (.own (.lst (made.map enc))), some (.own (.lst (line.map enc))), none, none, none, none] _ = _; dsimp! [], fun hk => ?_⟩
      have hne : line ≠ [] := fun z => by rw [z] at hk; cases hk
      obtain ⟨init, s, rfl⟩ : ∃ init s, line = init ++ [s] := ⟨_, _, (List.dropLast_concat_getLast hne).symm⟩
      obtain ⟨⟨f⟩, ⟨L⟩⟩ := s
      obtain ⟨hL, hfn⟩ := ha (⟨f⟩, ⟨L⟩) (by simp)
      have hpos := hi init.length (⟨f⟩, ⟨L⟩) (by rw [List.getElem?_append_right (Nat.le_refl _), Nat.sub_self]; rfl)
      simp only at hpos hL hfn
      have hml : made.length ≤ 4000000 := by
        have := congrArg List.length ht
        rw [List.length_append, show tot.length = (runR days s0).length from List.length_map _] at this
        have hb2 : (runR days s0).length ≤ 4000000 := hbd
        omega
      rw [List.reverse_append, List.reverse_singleton, List.singleton_append, List.flatMap_cons] at ht
      cases L with
      | nil =>
        refine ⟨wtsI init, st (made ++ [srtF f]) init, _, by rw [← hm, wtsI_app]; show _ < _ + (1 + 0); omega, ?_, made ++ [srtF f], init, rfl, rfl, rfl, by rw [← ht, List.map_append, List.append_assoc]; rfl, fun s hs => ha s (by simp [hs]), fun i s hs => hi i s (by rw [List.getElem?_append_left (List.getElem?_eq_some_iff.mp hs).1]; exact hs)⟩
        show td (runs Φ _ [some (.d (.list (days.map enc))), some (.d (enc p)), some (.own (.lst (made.map enc))), some (.own (.lst ((init ++ [((⟨f⟩, ⟨[]⟩) : NdI)]).map enc))), none, none, none, none] _) _ _ = .nx [some (.d (.list (days.map enc))), some (.d (enc p)), some (.own (.lst ((made ++ [srtF f]).map enc))), some (.own (.lst (init.map enc))), none, none, none, none] _
        have es := sorted_PP (xs := f) (by omega) hfn
        unfold st srtF
        dsimp! [run_popT', last_map, drop_map, enc_Ls, List.isEmpty_nil, es, appL_ls]
      | cons t r =>
        rw [List.length_cons] at hpos hL
        have hkl : (kidsI days (⟨f⟩, ⟨t :: r⟩) t).length ≤ 1728 := by
          unfold kidsI
          rw [List.length_map]
          exact Nat.le_trans (List.length_filter_le _ _) hdl
        refine ⟨wtsI (init ++ kidsI days (⟨f⟩, ⟨t :: r⟩) t), st made (init ++ kidsI days (⟨f⟩, ⟨t :: r⟩) t), _, ?_, ?_, made, init ++ kidsI days (⟨f⟩, ⟨t :: r⟩) t, rfl, rfl, rfl, ?_, ?_, ?_⟩
        · rw [← hm, wtsI_app, wtsI_app]
          have := wtsI_kids hdl (f := f) (t := t) (r := r)
          have e : wtsI (kidsI days (⟨f⟩, ⟨t :: r⟩) t).reverse = wtsI (kidsI days (⟨f⟩, ⟨t :: r⟩) t) := by
            unfold wtsI
            rw [List.map_reverse, List.sum_reverse]
          show _ + _ < _ + (wtI (⟨f⟩, ⟨t :: r⟩) + 0)
          omega
        · show td (runs Φ _ [some (.d (.list (days.map enc))), some (.d (enc p)), some (.own (.lst (made.map enc))), some (.own (.lst ((init ++ [((⟨f⟩, ⟨t :: r⟩) : NdI)]).map enc))), none, none, none, none] _) _ _ = .nx [some (.d (.list (days.map enc))), some (.d (enc p)), some (.own (.lst (made.map enc))), some (.own (.lst ((init ++ kidsI days (⟨f⟩, ⟨t :: r⟩) t).map enc))), none, none, none, none] _
          unfold st
          dsimp! [run_popT', last_map, drop_map, enc_Ls, List.isEmpty_cons]
          rw [run_for (xs := days) (fun l => [some (.d (.list (days.map enc))), some (.d (enc p)), some (.own (.lst (made.map enc))), some (.own (.lst ((init ++ (l.filter (okI (t :: r) t)).map (kidI (⟨f⟩, ⟨t :: r⟩))).map enc))), some (.d (.list (f.map enc))), some (.d (.list ((t :: r).map enc))), none, none])]
          · have e5 : (days.filter (okI (t :: r) t)).map (kidI (⟨f⟩, ⟨t :: r⟩)) = kidsI days (⟨f⟩, ⟨t :: r⟩) t := rfl
            rw [e5]
            dsimp! []
          · dsimp! []
          · simp only [List.filter_nil, List.map_nil, List.append_nil]
          · intro l d r2 e
            have hll := pre_len e
            have hfl2 := List.length_filter_le (okI (t :: r) t) l
            have hdm : d ∈ days := by rw [e]; simp
            have hd4 := (hd3 d hdm).1
            rw [snoc_if]
            dsimp! [ixL (xs := t :: r) (i := 0) (x := t) rfl]
            have hcomp : ∀ ρ : Env', ρ = [some (.d (.list (days.map enc))), some (.d (enc p)), some (.own (.lst (made.map enc))), some (.own (.lst ((init ++ (l.filter (okI (t :: r) t)).map (kidI (⟨f⟩, ⟨t :: r⟩))).map enc))), some (.d (.list (f.map enc))), some (.d (.list ((t :: r).map enc))), some (.d (enc d)), none] → ev Φ (.comp (.c (enc (1 : Nat))) (.one 7) (.seq (.v 6)) (.som (.o2 .notin (.v 7) (.v 5)))) ρ g' = .ok (.own (.lst ((((d.filter fun s => !mem s (t :: r)).map fun _ => (1 : Nat))).map enc))) g' := by
              rintro ρ rfl
              rw [ev_cf (xs := d) (fun s => !mem s (t :: r)) (fun _ => enc (1 : Nat))]
              · rw [const_map]
              · dsimp! []
              · unfold lim; omega
              · intro s hs
                exact ⟨_, rfl, by dsimp! [], fun _ => ⟨_, by dsimp! []; rfl, rfl⟩⟩
            have hcomp := hcomp _ rfl
            have e8 : ((d.filter fun s => !mem s (t :: r)).map fun _ => (1 : Nat)).isEmpty = d.all fun s => mem s (t :: r) := by
              rw [Bool.eq_iff_iff, List.isEmpty_iff, List.map_eq_nil_iff, List.filter_eq_nil_iff, List.all_eq_true]
              exact ⟨fun h s hs => by simpa using h s hs, fun h s hs => by simp [h s hs]⟩
            have hA : okI (t :: r) t d = (mem t d && d.all fun s => mem s (t :: r)) := rfl
            generalize hB : mem t d = B at hA
            generalize hC : (d.all fun s => mem s (t :: r)) = C at hA e8
            cases hBC : (B && C) with
            | false =>
              rw [hA, hBC]
              dsimp! [hB, hcomp, e8, hBC, List.append_nil]
            | true =>
              rw [hA, hBC]
              dsimp! [hB, hcomp, e8, hBC, b_add1]
              rw [ev_cf (xs := t :: r) (fun s => !mem s d) enc]
              · dsimp! [fold_ndi, List.append_assoc]
                rfl
              · dsimp! []
              · rw [List.length_cons]; unfold lim; omega
              · intro s hs
                exact ⟨_, rfl, by dsimp! [], fun _ => ⟨_, by dsimp! []; rfl, rfl⟩⟩
        · rw [runR_cons] at ht
          rw [← ht, List.reverse_append, List.flatMap_append]
        · intro s hs
          rcases List.mem_append.mp hs with hs | hs
          · exact ha s (by simp [hs])
          · obtain ⟨d, hdm, hd, rfl⟩ := mem_kidsI.mp hs
            have := kidI_lt (f := f) hd
            have e6 : (kidI (⟨f⟩, ⟨t :: r⟩) d).1.l = f ++ [d] := rfl
            refine ⟨by rw [e6, List.length_append, List.length_singleton]; omega, fun d2 hd2 => ?_⟩
            rw [e6] at hd2
            rcases List.mem_append.mp hd2 with h5 | h5
            · exact hfn d2 h5
            · rw [List.mem_singleton.mp h5]
              exact (hd3 d hdm).2
        · intro i s hs
          by_cases hil : i < init.length
          · rw [List.getElem?_append_left hil] at hs
            exact hi i s (by rw [List.getElem?_append_left hil]; exact hs)
          · rw [List.getElem?_append_right (by omega)] at hs
            have hj := (List.getElem?_eq_some_iff.mp hs).1
            obtain ⟨d, _, hd, rfl⟩ := mem_kidsI.mp (List.mem_of_getElem? hs)
            have := kidI_lt (f := f) hd
            omega)
  have e3 : line = [] := by
    have e2 : ev Φ (.o2 .ne (.v 3) (.lst .nil)) [some (.d (.list (days.map enc))), some (.d (enc p)), some (.own (.lst (made.map enc))), some (.own (.lst (line.map enc))), none, none, none, none] g' = .ok (.d (.bool false)) g' := e2
    cases line with
    | nil => rfl
    | cons t r =>
      have : ev Φ (.o2 .ne (.v 3) (.lst .nil)) [some (.d (.list (days.map enc))), some (.d (enc p)), some (.own (.lst (made.map enc))), some (.own (.lst ((t :: r).map enc))), none, none, none, none] g' = .ok (.d (.bool true)) g' := by dsimp! []; rfl
      rw [this] at e2
      cases e2
  subst e3
  have ht' : made = tot := by simpa using ht
  subst ht'
  have e0 : PyData.tuple [.list [], .list (p.map enc)] = enc s0 := rfl
  have hsl := sorted_LL (xs := tot) (by show ((runR days s0).map srtF).length ≤ _; rw [List.length_map]; exact Nat.le_trans hbd (by decide))
  unfold x__law_covers
  dsimp! []
  rw [e0]
  have e1' : run Φ _ [some (.d (.list (days.map enc))), some (.d (enc p)), some (.own (.lst [])), some (.own (.lst [enc s0])), none, none, none, none] g' = .nx [some (.d (.list (days.map enc))), some (.d (enc p)), some (.own (.lst (tot.map enc))), some (.own (.lst (([] : List NdI).map enc))), none, none, none, none] g' := e1
  rw [e1']
  dsimp! [hsl]
  rfl
end TP
/-! The first cover is the least. -/
namespace TP
open PySem L2
open Enc (enc)
theorem cmp_PT (x y : T3) (xs ys : List T3) : cmp3 (enc (x :: xs)) (enc (y :: ys)) = (cmp3 (enc x) (enc y)).then (cmp3 (enc xs) (enc ys)) := by
  show cmp3 (.tuple (enc x :: xs.map enc)) (.tuple (enc y :: ys.map enc)) = (cmp3 (enc x) (enc y)).then (cmp3 (.tuple (xs.map enc)) (.tuple (ys.map enc)))
  simp only [cmp3, cmpAll3]
theorem cmp_PE : ∀ xs : List T3, cmp3 (enc xs) (enc xs) = .eq
  | [] => rfl
  | x :: xs => by rw [cmp_PT, cmp_PE xs, cmp_T3', tlt_irr]; simp
theorem cmp_PL {xs ys : List T3} (h : tlt xs ys = true) : cmp3 (enc xs) (enc ys) = .lt := by
  rw [tlt_self] at h
  exact eq_of_beq h
theorem cmp_PG : ∀ {xs ys : List T3}, tlt xs ys = true → cmp3 (enc ys) (enc xs) = .gt
  | [], [], h => by rw [tltP_irr] at h; cases h
  | [], y :: ys, _ => rfl
  | x :: xs, [], h => by rw [tltP_nilr] at h; cases h
  | x :: xs, y :: ys, h => by
    rw [tltP_cons, Bool.or_eq_true, Bool.and_eq_true, decide_eq_true_eq] at h
    rw [cmp_PT, cmp_T3']
    rcases h with h | ⟨rfl, h⟩
    · have h1 : tlt y x = false := by
        rw [← Bool.not_eq_true]
        intro e
        have := tlt_trans h e
        rw [tlt_irr] at this
        cases this
      have h2 : y ≠ x := fun e => by rw [e, tlt_irr] at h; cases h
      rw [h1, if_neg (by decide), if_neg h2]
      rfl
    · rw [tlt_irr, if_neg (by decide), if_pos rfl, cmp_PG h]
      rfl
/-- the first difference is a smaller day -/
def lt2 (a b : List Day) : Prop := ∃ (pre : List Day) (d1 d2 : Day) (r1 r2 : List Day), a = pre ++ d1 :: r1 ∧ b = pre ++ d2 :: r2 ∧ tlt d1 d2 = true
theorem lt2_tlt {a b : List Day} (h : lt2 a b) : tlt (⟨a⟩ : Ls Day) ⟨b⟩ = true ∧ tlt (⟨b⟩ : Ls Day) ⟨a⟩ = false := by
  obtain ⟨pre, d1, d2, r1, r2, rfl, rfl, h⟩ := h
  have key : cmpAll3 ((pre ++ d1 :: r1).map enc) ((pre ++ d2 :: r2).map enc) = .lt ∧ cmpAll3 ((pre ++ d2 :: r2).map enc) ((pre ++ d1 :: r1).map enc) = .gt := by
    induction pre with
    | nil =>
      rw [List.nil_append, List.nil_append, List.map_cons, List.map_cons]
      constructor
      · unfold cmpAll3
        rw [cmp_PL h]
        rfl
      · unfold cmpAll3
        rw [cmp_PG h]
        rfl
    | cons x pre ih =>
      rw [List.cons_append, List.cons_append, List.map_cons, List.map_cons]
      constructor
      · unfold cmpAll3
        rw [cmp_PE x, ih.1]
        rfl
      · unfold cmpAll3
        rw [cmp_PE x, ih.2]
        rfl
  constructor
  · show (cmp3 (.list _) (.list _) == .lt) = true
    rw [cmp3, key.1]
    rfl
  · show (cmp3 (.list _) (.list _) == .lt) = false
    rw [cmp3, key.2]
    rfl
theorem isort_least {α : Type} [DecidableEq α] [Enc α] {m : α} (hself : tlt m m = false) : ∀ {l : List α}, m ∈ l → (∀ x, x ∈ l → x ≠ m → tlt m x = true ∧ tlt x m = false) → (isort l)[0]? = some m
  | [], h, _ => by cases h
  | x :: r, h, hl => by
    unfold isort
    by_cases e : x = m
    · subst e
      cases hs : isort r with
      | nil => rfl
      | cons y ys =>
        have hy : y ∈ r := (isort_perm r).mem_iff.mp (by rw [hs]; simp)
        have hyx : tlt y x = false := by
          by_cases e2 : y = x
          · rw [e2]; exact hself
          · exact (hl y (List.mem_cons_of_mem _ hy) e2).2
        unfold tins
        rw [if_neg (by rw [hyx]; decide)]
        rfl
    · have hm : m ∈ r := (List.mem_cons.mp h).resolve_left fun z => e z.symm
      have ih := isort_least hself hm fun y hy => hl y (List.mem_cons_of_mem _ hy)
      cases hs : isort r with
      | nil => rw [hs] at ih; cases ih
      | cons y ys =>
        rw [hs] at ih
        have : y = m := by simpa using ih
        subst this
        unfold tins
        rw [if_pos (hl x List.mem_cons_self e).1]
        rfl
theorem isortP_id : ∀ {l : List Day}, SortedP l → isort l = l
  | [], _ => rfl
  | x :: l, h => by
    obtain ⟨h1, h2⟩ := List.pairwise_cons.mp h
    unfold isort
    rw [isortP_id h2]
    cases l with
    | nil => rfl
    | cons y l =>
      unfold tins
      rw [if_neg]
      intro e
      have := tltP_trans (h1 y List.mem_cons_self) e
      rw [tltP_irr] at this
      cases this
theorem runI_pre {days : List Day} : ∀ (k : Nat) (s : NdI) (a : List Day), s.2.l.length ≤ k → a ∈ runI days s → ∃ r, a = s.1.l ++ r := by
  intro k
  induction k with
  | zero =>
    rintro ⟨⟨f⟩, ⟨L⟩⟩ a hl ha
    have : L = [] := List.length_eq_zero_iff.mp (Nat.le_zero.mp hl)
    subst this
    rw [runI_nil, List.mem_singleton] at ha
    exact ⟨[], by rw [ha, List.append_nil]⟩
  | succ k ih =>
    rintro ⟨⟨f⟩, ⟨L⟩⟩ a hl ha
    cases L with
    | nil =>
      rw [runI_nil, List.mem_singleton] at ha
      exact ⟨[], by rw [ha, List.append_nil]⟩
    | cons t r =>
      rw [runI_cons, List.mem_flatMap] at ha
      obtain ⟨c, hc, ha⟩ := ha
      obtain ⟨d, _, ho, rfl⟩ := mem_kidsI.mp hc
      have hlt := kidI_lt (f := f) ho
      have hl : r.length + 1 ≤ k + 1 := hl
      obtain ⟨r2, e⟩ := ih _ a (by omega) ha
      exact ⟨d :: r2, by rw [e]; show (f ++ [d]) ++ r2 = _; rw [List.append_assoc]; rfl⟩
theorem runI_asc {days : List Day} (hd : SortedP days) : ∀ (k : Nat) (s : NdI), s.2.l.length ≤ k → (runI days s).Pairwise lt2 := by
  intro k
  induction k with
  | zero =>
    rintro ⟨⟨f⟩, ⟨L⟩⟩ hl
    have : L = [] := List.length_eq_zero_iff.mp (Nat.le_zero.mp hl)
    subst this
    rw [runI_nil]
    simp
  | succ k ih =>
    rintro ⟨⟨f⟩, ⟨L⟩⟩ hl
    cases L with
    | nil => rw [runI_nil]; simp
    | cons t r =>
      rw [runI_cons]
      unfold kidsI
      have hl : r.length + 1 ≤ k + 1 := hl
      have key : ∀ l : List Day, SortedP l → (∀ d, d ∈ l → okI (t :: r) t d = true) → ((l.map (kidI (⟨f⟩, ⟨t :: r⟩))).flatMap (runI days)).Pairwise lt2 := by
        intro l
        induction l with
        | nil => intro _ _; exact List.Pairwise.nil
        | cons d l ih2 =>
          intro hs ho
          obtain ⟨h1, h2⟩ := List.pairwise_cons.mp hs
          rw [List.map_cons, List.flatMap_cons]
          have hlt := kidI_lt (f := f) (ho d List.mem_cons_self)
          refine List.pairwise_append.mpr ⟨ih _ (by omega), ih2 h2 fun e he => ho e (List.mem_cons_of_mem _ he), ?_⟩
          intro a ha b hb
          obtain ⟨c, hc, hb⟩ := List.mem_flatMap.mp hb
          obtain ⟨e, he, rfl⟩ := List.mem_map.mp hc
          have hlt2 := kidI_lt (f := f) (ho e (List.mem_cons_of_mem _ he))
          obtain ⟨r1, e1⟩ := runI_pre k _ a (by omega) ha
          obtain ⟨r2, e2⟩ := runI_pre k _ b (by omega) hb
          refine ⟨f, d, e, r1, r2, ?_, ?_, h1 e he⟩
          · rw [e1]; show (f ++ [d]) ++ r1 = _; rw [List.append_assoc]; rfl
          · rw [e2]; show (f ++ [e]) ++ r2 = _; rw [List.append_assoc]; rfl
      exact key _ (hd.filter _) fun d hd => (List.mem_filter.mp hd).2
theorem runI_so {days : List Day} (hso : ∀ d, d ∈ days → Sorted d) : ∀ (k : Nat) (L : List T3) (f : List Day) (a : List Day), L.length ≤ k → Sorted L → SortedP f → (∀ e, e ∈ f → ∃ a e', e = a :: e' ∧ ∀ s, s ∈ L → tlt a s = true) → a ∈ runI days (⟨f⟩, ⟨L⟩) → SortedP a := by
  intro k
  induction k with
  | zero =>
    intro L f a hl _ hf _ ha
    have : L = [] := List.length_eq_zero_iff.mp (Nat.le_zero.mp hl)
    subst this
    rw [runI_nil, List.mem_singleton] at ha
    rw [ha]; exact hf
  | succ k ih =>
    intro L f a hl hL hf hh ha
    cases L with
    | nil =>
      rw [runI_nil, List.mem_singleton] at ha
      rw [ha]; exact hf
    | cons t r =>
      rw [runI_cons, List.mem_flatMap] at ha
      obtain ⟨c, hc, ha⟩ := ha
      obtain ⟨d, hdm, ho, rfl⟩ := mem_kidsI.mp hc
      have hlt := kidI_lt (f := f) ho
      obtain ⟨d', ed⟩ := kid_head (L := []) hL (hso d hdm) ho
      have ho' : okI (t :: r) t d = true := ho
      have hin : ∀ s, s ∈ (t :: r).filter (fun u => !mem u d) → s ∈ r := fun s hs => by
        obtain ⟨h1, h2⟩ := List.mem_filter.mp hs
        rw [Bool.not_eq_true', mem_false] at h2
        exact (List.mem_cons.mp h1).resolve_left fun e => h2 (by rw [e, ed]; simp)
      rw [List.length_cons] at hl
      refine ih ((t :: r).filter fun u => !mem u d) (f ++ [d]) a (by have : ((t :: r).filter fun u => !mem u d).length ≤ r.length := hlt; omega) (List.Pairwise.filter _ hL) ?_ ?_ ha
      · refine List.pairwise_append.mpr ⟨hf, by simp, fun e he d2 hd2 => ?_⟩
        rw [List.mem_singleton.mp hd2]
        obtain ⟨b, e', rfl, hb⟩ := hh e he
        rw [ed, tltP_cons, hb t List.mem_cons_self]
        rfl
      · intro e he
        rcases List.mem_append.mp he with he | he
        · obtain ⟨b, e', rfl, hb⟩ := hh e he
          exact ⟨b, e', rfl, fun s hs => hb s (List.mem_cons_of_mem _ (hin s hs))⟩
        · rw [List.mem_singleton.mp he]
          exact ⟨t, d', ed, fun s hs => (List.pairwise_cons.mp hL).1 s (hin s hs)⟩
/-- the law's covers: their first is the walk's, their number alike -/
theorem covers_head {n : Nat} {p : List T3} (h : Pl n p) : (isort ((runR (dayList n p) ((⟨[]⟩, ⟨p⟩) : NdI)).map srtF))[0]? = ((runI (dayList n p) (⟨[]⟩, ⟨p⟩)).head?).map fun f => (⟨f⟩ : Ls Day) := by
  have hso := dayList_sorted (n := n) h.so
  have hasc := runI_asc hso p.length ((⟨[]⟩, ⟨p⟩) : NdI) (Nat.le_refl _)
  have hds := (dys_of h).so
  have hid : ∀ a, a ∈ runI (dayList n p) (⟨[]⟩, ⟨p⟩) → srtF a = ⟨a⟩ := fun a ha => by
    unfold srtF
    rw [isortP_id (runI_so hds p.length p [] a (Nat.le_refl _) h.so List.Pairwise.nil (fun e he => by cases he) ha)]
  have hm : (runR (dayList n p) ((⟨[]⟩, ⟨p⟩) : NdI)).map srtF = (runI (dayList n p) (⟨[]⟩, ⟨p⟩)).reverse.map fun a => (⟨a⟩ : Ls Day) := by
    unfold runR
    exact List.map_congr_left fun a ha => hid a (List.mem_reverse.mp ha)
  rw [hm]
  generalize runI (dayList n p) (⟨[]⟩, ⟨p⟩) = l at hasc
  cases l with
  | nil => rfl
  | cons a l =>
    obtain ⟨h1, h2⟩ := List.pairwise_cons.mp hasc
    have hself : tlt (⟨a⟩ : Ls Day) ⟨a⟩ = false := by
      show (cmp3 (.list _) (.list _) == .lt) = false
      have key : ∀ b : List Day, cmpAll3 (b.map enc) (b.map enc) = .eq := by
        intro b
        induction b with
        | nil => rfl
        | cons x b ih =>
          rw [List.map_cons]
          unfold cmpAll3
          rw [cmp_PE x, ih]
          rfl
      rw [cmp3, key]
      rfl
    refine (isort_least (m := (⟨a⟩ : Ls Day)) hself ?_ fun x hx hne => ?_)
    · rw [List.mem_map]
      exact ⟨a, List.mem_reverse.mpr List.mem_cons_self, rfl⟩
    · obtain ⟨b, hb, rfl⟩ := List.mem_map.mp hx
      rcases List.mem_cons.mp (List.mem_reverse.mp hb) with rfl | hb
      · exact absurd rfl hne
      · exact lt2_tlt (h1 b hb)
theorem covers_len {n : Nat} {p : List T3} : (isort ((runR (dayList n p) ((⟨[]⟩, ⟨p⟩) : NdI)).map srtF)).length = (runI (dayList n p) (⟨[]⟩, ⟨p⟩)).length := by
  rw [isort_len, List.length_map]
  unfold runR
  rw [List.length_reverse]
def SetsOk (Φ : Nat → Fn) (i : Nat) : Prop := ∀ (n : Nat) (p : List T3) (g : G), Pl n p → Φ i [.d (enc n), .d (enc p)] g = .ok (.own (.lst ((dayList n p).map enc))) g
def CoversOk (Φ : Nat → Fn) (i : Nat) : Prop := ∀ (n : Nat) (p : List T3) (g : G), Pl n p → Φ i [.d (.list ((dayList n p).map enc)), .d (enc p)] g = .ok (.own (.lst ((isort ((runR (dayList n p) ((⟨[]⟩, ⟨p⟩) : NdI)).map srtF)).map (enc : Ls Day → PyData)))) g
end TP
/-! opposite, exchanged by typed values. -/
namespace TP
open PySem L2
open Enc (enc)
variable {Φ : Nat → Fn} {g : G}
def cb (f : List T3) (x y : Nat) : Bool := !decide (x = y) && !mem (min x y, max x y) (met f)
def cand (f : List T3) (x : Nat) : List Nat := (plsOf f).filter (cb f x)
def ag (f : List T3) (x : Nat) : Nat := (cand f x).getLastD 0
def dN (kvs : List (Nat × Nat)) : List (Int × PyData) := kvs.map fun (p : Nat × Nat) => (((p.1 : Nat) : Int), enc p.2)
def lastP (x : Nat) (l : List Nat) : List (Nat × Nat) := match l.getLast? with
  | none => []
  | some y => [(x, y)]
theorem put_dN {base : List (Nat × Nat)} {x y : Nat} (hb : ∀ p, p ∈ base → p.1 ≠ x) (l : List Nat) : putK (dN (base ++ lastP x l)) (x : Int) (enc y) = dN (base ++ lastP x (l ++ [y])) := by
  have h2 : lastP x (l ++ [y]) = [(x, y)] := by
    unfold lastP
    rw [List.getLast?_concat]
  rw [h2]
  have hno : (dN base).any (fun p => decide (p.1 = (x : Int))) = false := by
    rw [← Bool.not_eq_true, List.any_eq_true]
    rintro ⟨p, hp, e⟩
    obtain ⟨q, hq, rfl⟩ := List.mem_map.mp hp
    exact hb q hq (Int.ofNat_inj.mp (of_decide_eq_true e))
  have hmap : (dN base).map (fun p => if p.1 = (x : Int) then (p.1, enc y) else p) = dN base := by
    rw [← List.map_id (dN base), List.map_map]
    refine List.map_congr_left fun p hp => ?_
    obtain ⟨q, hq, rfl⟩ := List.mem_map.mp hp
    show (if ((q.1 : Nat) : Int) = (x : Int) then _ else _) = _
    rw [if_neg fun e => hb q hq (Int.ofNat_inj.mp e)]
  have dapp : ∀ a b, dN (a ++ b) = dN a ++ dN b := fun a b => List.map_append
  unfold putK
  cases hl : l.getLast? with
  | none =>
    have e : lastP x l = [] := by unfold lastP; rw [hl]
    rw [e, List.append_nil, hno, if_neg (by decide), dapp]
    rfl
  | some z =>
    have e : lastP x l = [(x, z)] := by unfold lastP; rw [hl]
    rw [e, dapp, List.any_append, hno]
    have : (dN [(x, z)]).any (fun p => decide (p.1 = (x : Int))) = true := by
      show (decide ((x : Int) = (x : Int)) || false) = true
      rw [decide_eq_true rfl]
      rfl
    rw [this, if_pos (by decide), List.map_append, hmap, dapp]
    congr 1
    show [if ((x : Nat) : Int) = (x : Int) then _ else _] = _
    rw [if_pos rfl]
    rfl
theorem dset_N {base : List (Nat × Nat)} {x y : Nat} (hb : ∀ p, p ∈ base → p.1 ≠ x) {l : List Nat} (hl : (base ++ lastP x l).length < 1000) : dsetD (dN (base ++ lastP x l)) (.d (enc y)) (.d (enc x)) = some (dN (base ++ lastP x (l ++ [y]))) := by
  show (if _ then some (putK _ _ _) else none) = _
  rw [if_pos ⟨EncN.nl y, by unfold dN; rw [List.length_map]; exact hl⟩, put_dN hb]
def baseD (f : List T3) (l : List Nat) : List (Nat × Nat) := l.flatMap fun x => lastP x (cand f x)
theorem baseD_key {f : List T3} {l : List Nat} {p : Nat × Nat} (h : p ∈ baseD f l) : p.1 ∈ l := by
  obtain ⟨x, hx, hp⟩ := List.mem_flatMap.mp h
  unfold lastP at hp
  split at hp
  · cases hp
  · rw [List.mem_singleton.mp hp]; exact hx
theorem lastP_len (x : Nat) (l : List Nat) : (lastP x l).length ≤ 1 := by
  unfold lastP
  split <;> simp
theorem baseD_len (f : List T3) (l : List Nat) : (baseD f l).length ≤ l.length := by
  have := flat_len' (fun x => lastP x (cand f x)) 1 l fun x _ => lastP_len x _
  unfold baseD
  omega
theorem find_base {f : List T3} {x : Nat} : ∀ {l : List Nat}, l.Nodup → x ∈ l → cand f x ≠ [] → dgetD (dN (baseD f l)) (x : Int) = some (.d (enc (ag f x)))
  | [], _, h, _ => by cases h
  | z :: l, hn, hx, hc => by
    obtain ⟨h1, h2⟩ := List.nodup_cons.mp hn
    have e : dN (baseD f (z :: l)) = dN (lastP z (cand f z)) ++ dN (baseD f l) := by
      unfold baseD dN
      rw [List.flatMap_cons, List.map_append]
    unfold dgetD
    rw [e, List.find?_append]
    by_cases ez : z = x
    · subst ez
      have hl : lastP z (cand f z) = [(z, ag f z)] := by
        unfold lastP ag
        rw [List.getLast?_eq_some_getLast hc, List.getLastD_eq_getLast?, List.getLast?_eq_some_getLast hc]
        rfl
      rw [hl]
      have hfi : (dN [(z, ag f z)]).find? (fun p => decide (p.1 = (z : Int))) = some ((z : Int), enc (ag f z)) := List.find?_cons_of_pos (by show decide ((z : Int) = (z : Int)) = true; exact decide_eq_true rfl)
      rw [hfi]
      rfl
    · have hno : (dN (lastP z (cand f z))).find? (fun p => decide (p.1 = (x : Int))) = none := by
        rw [List.find?_eq_none]
        intro p hp
        obtain ⟨q, hq, rfl⟩ := List.mem_map.mp hp
        unfold lastP at hq
        split at hq
        · cases hq
        · rw [List.mem_singleton.mp hq]
          simp only [decide_eq_true_eq]
          exact fun e => ez (Int.ofNat_inj.mp e)
      rw [hno, Option.none_or]
      exact find_base h2 ((List.mem_cons.mp hx).resolve_left fun z => ez z.symm) hc
def oppOf (f : List T3) : List T3 := f.map fun t => sort3 (ag f t.a) (ag f t.b) (ag f t.c)
theorem v_opposite {im ip : Nat} (hm : PairsMetOk Φ im) (hp : PlayersOfOk Φ ip) {f : List T3} (hv : ∀ t, t ∈ f → valid 9 t) (hl : f.length ≤ 12) (hc : ∀ x, x ∈ plsOf f → cand f x ≠ []) : fnv Φ 7 (x_opposite im ip) [.d (enc f)] g = .ok (.own (.lst ((oppOf f).map enc))) g := by
  refine fnv_rt ?_
  show runs Φ (x_opposite im ip) [some (.d (enc f)), none, none, none, none, none, none] g = _
  have hf1 : f.length ≤ 1000 := by omega
  have hpl : (plsOf f).length ≤ 9 := by
    have := List.length_filter_le (fun x => f.any fun t => has t x) (List.range 9)
    rw [List.length_range] at this
    exact this
  have hml := met_len f
  unfold x_opposite
  dsimp! [hm _ _ _, hp _ _ hv hf1, run_dnew']
  rw [run_for (xs := plsOf f) (fun l => [some (.d (enc f)), some (.d (.list ((met f).map enc))), some (.d (.list ((plsOf f).map enc))), some (.own (.dct (dN (baseD f l)))), none, none, none])]
  · dsimp! []
    rw [ev_cm (xs := f) (fun t => enc (sort3 (ag f t.a) (ag f t.b) (ag f t.c)))]
    · rw [show (f.map fun t => enc (sort3 (ag f t.a) (ag f t.b) (ag f t.c))) = (oppOf f).map enc from by unfold oppOf; rw [List.map_map]; rfl]
      dsimp! []
    · dsimp! []
    · unfold lim; omega
    · intro t ht
      refine ⟨_, rfl, .d (enc (sort3 (ag f t.a) (ag f t.b) (ag f t.c))), ?_, rfl⟩
      dsimp! []
      rw [ev_cm (xs := [t.a, t.b, t.c]) (fun x => enc (ag f x))]
      · show _ = _
        have e1 : ([t.a, t.b, t.c].map fun x => enc (ag f x)) = [ag f t.a, ag f t.b, ag f t.c].map enc := rfl
        rw [e1]
        dsimp! [sorted_N, isort3, tup_T3]
      · dsimp! []
      · exact of_decide_eq_true rfl
      · intro x hx
        have hxp : x ∈ plsOf f := mem_pls.mpr ⟨has_lt (hv t ht) (mem_plr.mp hx), t, ht, mem_plr.mp hx⟩
        exact ⟨_, rfl, _, by dsimp! [ev_dget', ownD_z, ownD_s, find_base (pls_nd f) hxp (hc x hxp)]; rfl, rfl⟩
  · dsimp! []
  · rfl
  · intro l x r e
    have hll := pre_len e
    have hnd := pls_nd f
    rw [e] at hnd
    have hxl : x ∉ l := fun z => (List.nodup_append.mp hnd).2.2 x z x (by simp) rfl
    have hb : ∀ p, p ∈ baseD f l → p.1 ≠ x := fun p hp e => hxl (e ▸ baseD_key hp)
    have hbl := baseD_len f l
    dsimp! []
    rw [run_for (xs := plsOf f) (fun m => [some (.d (enc f)), some (.d (.list ((met f).map enc))), some (.d (.list ((plsOf f).map enc))), some (.own (.dct (dN (baseD f l ++ lastP x (m.filter (cb f x)))))), some (.d (enc x)), none, none])]
    · have e2 : baseD f (l ++ [x]) = baseD f l ++ lastP x ((plsOf f).filter (cb f x)) := by
        unfold baseD cand
        rw [List.flatMap_append, List.flatMap_singleton]
      rw [e2]
      dsimp! []
    · dsimp! []
    · show _ = _
      have e2 : lastP x (([] : List Nat).filter (cb f x)) = [] := rfl
      rw [e2, List.append_nil]
    · intro m y r2 e2
      have hlast := lastP_len x (m.filter (cb f x))
      have hlen : (baseD f l ++ lastP x (m.filter (cb f x))).length < 1000 := by
        rw [List.length_append]
        omega
      have hA : cb f x y = (!decide (x = y) && !mem (min x y, max x y) (met f)) := rfl
      rw [snoc_filter]
      generalize hB : decide (x = y) = B at hA
      cases B with
      | true =>
        rw [hA]
        dsimp! [hB, List.append_nil]
      | false =>
        generalize hC : mem (min x y, max x y) (met f) = C' at hA
        cases C' with
        | true =>
          rw [hA]
          dsimp! [hB, min_N, max_N, hC, List.append_nil]
        | false =>
          rw [hA]
          dsimp! [hB, min_N, max_N, hC, run_dset', ownD_z, ownD_s, dset_N hb hlen]
def OppOk (Φ : Nat → Fn) (i : Nat) : Prop := ∀ (f : List T3) (g : G), (∀ t, t ∈ f → valid 9 t) → f.length ≤ 12 → (∀ x, x ∈ plsOf f → cand f x ≠ []) → Φ i [.d (enc f)] g = .ok (.own (.lst ((oppOf f).map enc))) g
def exchOf (p f : List T3) : List T3 := isort (p.filter (fun t => !mem t f) ++ oppOf f)
theorem v_exchanged {ic il io : Nat} (hc : ChPlanOk Φ ic) (hl : FourListOk Φ il) (ho : OppOk Φ io) {n : Nat} {p f : List T3} (h : Pl n p) (hf : f ∈ fourList p) (hcd : ∀ x, x ∈ plsOf f → cand f x ≠ []) : fnv Φ 5 (x_exchanged ic il io) [.d (enc n), .d (enc p), .d (enc f)] g = .ok (.d (enc (exchOf p f))) g := by
  have h3 := h.len
  obtain ⟨⟨f1, f2⟩, f3⟩ := (mem_fours h.so).mp hf
  have hv : ∀ t, t ∈ f → valid 9 t := fun t ht => h.v9 t (f2 t ht)
  have f4 : f.length = 4 := (fourB_iff.mp f3).1.1
  have hm : mem f (fourList p) = true := mem_iff.mpr hf
  have hol : (oppOf f).length = 4 := by unfold oppOf; rw [List.length_map, f4]
  have hfl := List.length_filter_le (fun t => !mem t f) p
  have e1 : isiD .tuple (enc f) = true := rfl
  refine fnv_rt ?_
  show runs Φ (x_exchanged ic il io) [some (.d (enc n)), some (.d (enc p)), some (.d (enc f)), none, none] g = _
  unfold x_exchanged
  dsimp! [hc _ _ _ h, e1, hl _ _ h.v9 h3 h.so, hm]
  rw [ev_cf (xs := p) (fun t => !mem t f) enc]
  · have hadd : (p.filter (fun t => !mem t f)).length + (oppOf f).length ≤ 16777216 := by omega
    have hs := sorted_T (xs := p.filter (fun t => !mem t f) ++ oppOf f) (by rw [List.length_append]; omega)
    dsimp! [ho _ _ hv (by omega : f.length ≤ 12) hcd, b_addL hadd, hs]
    rfl
  · dsimp! []
  · unfold lim; omega
  · intro t ht
    exact ⟨_, rfl, by dsimp! [], fun _ => ⟨_, by dsimp! []; rfl, rfl⟩⟩
def ExchOk (Φ : Nat → Fn) (i : Nat) : Prop := ∀ (n : Nat) (p f : List T3) (g : G), Pl n p → f ∈ fourList p → (∀ x, x ∈ plsOf f → cand f x ≠ []) → Φ i [.d (enc n), .d (enc p), .d (enc f)] g = .ok (.d (enc (exchOf p f))) g
end TP
/-! Four threes, exchanged, by names. -/
namespace TP
open PySem L2
open Enc (enc)
theorem sort3_perm {x y z x' y' z' : Nat} (h : [x, y, z].Perm [x', y', z']) : sort3 x y z = sort3 x' y' z' := by
  have e : isort [x, y, z] = isort [x', y', z'] := le_ext (isort_le _) (isort_le _) (((isort_perm _).trans h).trans (isort_perm _).symm)
  rw [isort3, isort3] at e
  injection e with e1 e
  injection e with e2 e
  injection e with e3 e
  exact T3.ext e1 e2 e3
theorem sort3_items (x y z : Nat) : [(sort3 x y z).a, (sort3 x y z).b, (sort3 x y z).c].Perm [x, y, z] := by
  rw [← isort3]
  exact isort_perm _
theorem ren3_sort3 (names : List Nat) (u v w : Nat) : ren3 names (sort3 u v w) = sort3 (nm names u) (nm names v) (nm names w) := by
  unfold ren3
  exact sort3_perm ((sort3_items u v w).map (nm names))
theorem pair_met {n : Nat} {f : List T3} (hv : ∀ t, t ∈ f → valid n t) {x y : Nat} (hxy : x ≠ y) : mem (min x y, max x y) (met f) = true ↔ ∃ t, t ∈ f ∧ has t x = true ∧ has t y = true := by
  rw [mem_iff, mem_met]
  rcases Nat.lt_or_gt_of_ne hxy with e | e
  · rw [Nat.min_eq_left (by omega), Nat.max_eq_right (by omega)]
    exact ⟨fun ⟨t, h1, h2⟩ => ⟨t, h1, (pair_mem (hv t h1) e).mp h2⟩, fun ⟨t, h1, h2⟩ => ⟨t, h1, (pair_mem (hv t h1) e).mpr h2⟩⟩
  · rw [Nat.min_eq_right (by omega), Nat.max_eq_left (by omega)]
    exact ⟨fun ⟨t, h1, h2⟩ => ⟨t, h1, ((pair_mem (hv t h1) e).mp h2).symm⟩, fun ⟨t, h1, h2⟩ => ⟨t, h1, (pair_mem (hv t h1) e).mpr h2.symm⟩⟩
section
variable {n : Nat} {names : List Nat} (h : Nms n names) (hn : n ≤ 9) {f : List T3} (hv : ∀ t, t ∈ f → valid n t)
include h hv
theorem met_ren {x y : Nat} (hx : x < n) (hy : y < n) (hxy : x ≠ y) : mem (min (nm names x) (nm names y), max (nm names x) (nm names y)) (met (namedOf f names)) = mem (min x y, max x y) (met f) := by
  have hv' : ∀ t, t ∈ namedOf f names → valid n t := fun t ht => by
    obtain ⟨s, hs, rfl⟩ := mem_named.mp ht
    exact ren_valid h (hv s hs)
  rw [Bool.eq_iff_iff, pair_met hv' fun e => hxy (h.inj hx hy e), pair_met hv hxy]
  constructor
  · rintro ⟨t, ht, a, b⟩
    obtain ⟨s, hs, rfl⟩ := mem_named.mp ht
    exact ⟨s, hs, by rw [← ren_has h (hv s hs) hx]; exact a, by rw [← ren_has h (hv s hs) hy]; exact b⟩
  · rintro ⟨s, hs, a, b⟩
    exact ⟨ren3 names s, mem_named.mpr ⟨s, hs, rfl⟩, by rw [ren_has h (hv s hs) hx]; exact a, by rw [ren_has h (hv s hs) hy]; exact b⟩
theorem cb_ren {x y : Nat} (hx : x < n) (hy : y < n) : cb (namedOf f names) (nm names x) (nm names y) = cb f x y := by
  unfold cb
  by_cases e : x = y
  · rw [decide_eq_true e, decide_eq_true (by rw [e])]
    rfl
  · rw [decide_eq_false e, decide_eq_false fun z => e (h.inj hx hy z), met_ren h hv hx hy e]
include hn
theorem cand_ren {x : Nat} (hx : x < n) : (cand (namedOf f names) (nm names x)).Perm ((cand f x).map (nm names)) := by
  unfold cand
  refine ((pls_ren hn h hv).filter _).trans ?_
  rw [List.filter_map]
  have : (plsOf f).filter (cb (namedOf f names) (nm names x) ∘ nm names) = (plsOf f).filter (cb f x) := by
    refine List.filter_congr fun y hy => ?_
    obtain ⟨_, t, ht, hy⟩ := mem_pls.mp hy
    exact cb_ren h hv hx (has_lt (hv t ht) hy)
  rw [this]
theorem ag_ren {x : Nat} (hx : x < n) (h1 : (cand f x).length = 1) : cand (namedOf f names) (nm names x) = [nm names (ag f x)] ∧ ag (namedOf f names) (nm names x) = nm names (ag f x) := by
  obtain ⟨y, hy⟩ := List.length_eq_one_iff.mp h1
  have hp := cand_ren h hn hv hx
  rw [hy] at hp
  have e : cand (namedOf f names) (nm names x) = [nm names y] := List.perm_singleton.mp hp
  have e2 : ag f x = y := by unfold ag; rw [hy]; rfl
  refine ⟨by rw [e, e2], ?_⟩
  unfold ag
  rw [e]
  rw [show (cand f x).getLastD 0 = y from e2]
  rfl
theorem opp_ren (h1 : ∀ x, x ∈ plsOf f → (cand f x).length = 1) : (oppOf (namedOf f names)).Perm ((oppOf f).map (ren3 names)) := by
  have hitem : ∀ t, t ∈ f → sort3 (ag (namedOf f names) (ren3 names t).a) (ag (namedOf f names) (ren3 names t).b) (ag (namedOf f names) (ren3 names t).c) = ren3 names (sort3 (ag f t.a) (ag f t.b) (ag f t.c)) := fun t ht => by
    have key : ∀ x, has t x = true → ag (namedOf f names) (nm names x) = nm names (ag f x) := fun x hx => (ag_ren h hn hv (has_lt (hv t ht) hx) (h1 x (mem_pls.mpr ⟨by have := has_lt (hv t ht) hx; omega, t, ht, hx⟩))).2
    rw [ren3_sort3, ← key t.a (has_iff.mpr (.inl rfl)), ← key t.b (has_iff.mpr (.inr (.inl rfl))), ← key t.c (has_iff.mpr (.inr (.inr rfl)))]
    exact sort3_perm ((sort3_items (nm names t.a) (nm names t.b) (nm names t.c)).map (ag (namedOf f names)))
  unfold oppOf
  refine ((named_perm f names).map _).trans ?_
  rw [List.map_map, List.map_map]
  exact List.Perm.of_eq (List.map_congr_left fun t ht => hitem t ht)
end
/-! the two fours -/
def qA : List T3 := [⟨0, 1, 2⟩, ⟨0, 3, 4⟩, ⟨1, 3, 5⟩, ⟨2, 4, 5⟩]
def qB : List T3 := [⟨0, 1, 3⟩, ⟨0, 2, 4⟩, ⟨1, 2, 5⟩, ⟨3, 4, 5⟩]
theorem qA_v : ∀ t, t ∈ qA → valid 6 t := fun t ht => isThree_iff.mp (List.all_eq_true.mp (show qA.all (isThree 6) = true by decide) t ht)
theorem qB_v : ∀ t, t ∈ qB → valid 6 t := fun t ht => isThree_iff.mp (List.all_eq_true.mp (show qB.all (isThree 6) = true by decide) t ht)
theorem up {n m : Nat} (h : n ≤ m) {t : T3} (hv : valid n t) : valid m t := by unfold valid at *; omega
theorem qA_c : ∀ x, x ∈ plsOf qA → (cand qA x).length = 1 := fun x hx => of_decide_eq_true (List.all_eq_true.mp (show (plsOf qA).all (fun x => decide ((cand qA x).length = 1)) = true by decide +kernel) x hx)
theorem qB_c : ∀ x, x ∈ plsOf qB → (cand qB x).length = 1 := fun x hx => of_decide_eq_true (List.all_eq_true.mp (show (plsOf qB).all (fun x => decide ((cand qB x).length = 1)) = true by decide +kernel) x hx)
theorem qA_4 : fourB qA = true := by decide +kernel
theorem qB_4 : fourB qB = true := by decide +kernel
theorem qA_o : isort (oppOf qA) = qB := by decide +kernel
theorem qB_o : isort (oppOf qB) = qA := by decide +kernel
theorem qAB_met : ((List.range 6).all fun x => (List.range 6).all fun y => mem (x, y) (met qA) == mem (x, y) (met qB)) = true := by decide +kernel
section
variable {n : Nat} {names : List Nat} (h : Nms n names) (h6 : 6 ≤ n) (hn : n ≤ 9)
include h h6 hn
theorem four_cand {f : List T3} (hv : ∀ t, t ∈ f → valid 6 t) (hc : ∀ x, x ∈ plsOf f → (cand f x).length = 1) : ∀ x, x ∈ plsOf (namedOf f names) → cand (namedOf f names) x ≠ [] := fun x hx => by
  have hv' : ∀ t, t ∈ f → valid n t := fun t ht => up h6 (hv t ht)
  obtain ⟨y, hy, rfl⟩ := List.mem_map.mp ((pls_ren hn h hv').mem_iff.mp hx)
  obtain ⟨_, t, ht, hty⟩ := mem_pls.mp hy
  rw [(ag_ren h hn hv' (has_lt (hv' t ht) hty) (hc y hy)).1]
  simp
theorem four_opp {f f2 : List T3} (hv : ∀ t, t ∈ f → valid 6 t) (hc : ∀ x, x ∈ plsOf f → (cand f x).length = 1) (ho : isort (oppOf f) = f2) : (oppOf (namedOf f names)).Perm (namedOf f2 names) := by
  have hv' : ∀ t, t ∈ f → valid n t := fun t ht => up h6 (hv t ht)
  refine (opp_ren h hn hv' hc).trans ?_
  refine List.Perm.trans ?_ (named_perm f2 names).symm
  rw [← ho]
  exact ((isort_perm _).symm).map _
theorem four_met {x y : Nat} (hx : x < n) (hy : y < n) (hxy : x < y) : mem (x, y) (met (namedOf qA names)) = mem (x, y) (met (namedOf qB names)) := by
  obtain ⟨a, ha, rfl⟩ := h.surj hx
  obtain ⟨b, hb, rfl⟩ := h.surj hy
  have hab : a ≠ b := fun e => by rw [e] at hxy; omega
  have e1 := met_ren h (f := qA) (fun t ht => up h6 (qA_v t ht)) ha hb hab
  have e2 := met_ren h (f := qB) (fun t ht => up h6 (qB_v t ht)) ha hb hab
  rw [Nat.min_eq_left (by omega), Nat.max_eq_right (by omega)] at e1 e2
  rw [e1, e2]
  by_cases h66 : max a b < 6
  · have := List.all_eq_true.mp (List.all_eq_true.mp qAB_met (min a b) (List.mem_range.mpr (by omega))) (max a b) (List.mem_range.mpr h66)
    exact eq_of_beq this
  · have key : ∀ f : List T3, (∀ t, t ∈ f → valid 6 t) → mem (min a b, max a b) (met f) = false := fun f hf => by
      rw [mem_false]
      intro z
      obtain ⟨t, ht, hq⟩ := mem_met.mp z
      have := pair_lt (hf t ht) hq
      simp only at this
      omega
    rw [key qA qA_v, key qB qB_v]
end
end TP
namespace K20
open PySem L2 TP
def body : List Stmt := PySem.Challenge.pw_threeplans_k20_whole_exchanged_plans.main.body
def st (i : Nat) : Stmt := body.getD i (.Pass ⟨0, 0, 0, 0⟩)
def t_is_integer : SL := (.cons (.ret (.ban (.cons (.isi .int (.v 0)) (.cons (.bno (.isi .bool (.v 0))) (.cons (.chain .le .le (.v 1) (.v 0) (.v 2)) .nil))))) .nil)
def t_check_players : SL := (.cons (.ife (.bno (.call 0 (.cons (.v 0) (.cons (.c (PyData.int 3)) (.cons (.c (PyData.int 9)) .nil))))) (.cons (.rse 0) .nil) .nil) .nil)
def t_fits : SL := (.cons (.ife (.bor (.cons (.bno (.isi .tuple (.v 1))) (.cons (.o2 .ne (.blt .len (.cons (.v 1) .nil)) (.c (PyData.int 3))) (.cons (.bno (.blt .all (.cons (.comp (.call 0 (.cons (.v 2) (.cons (.c (PyData.int 0)) (.cons (.o2 .sub (.v 0) (.c (PyData.int 1))) .nil)))) (.one 2) (.seq (.v 1)) .non) .nil))) .nil)))) (.cons (.ret (.c (PyData.bool false))) .nil) .nil) (.cons (.ret (.chain .lt .lt (.ix (.v 1) (.c (PyData.int 0))) (.ix (.v 1) (.c (PyData.int 1))) (.ix (.v 1) (.c (PyData.int 2))))) .nil))
def t_pairs_of : SL := (.cons (.ret (.lst (.cons (.sl (.v 0) .non (.som (.c (PyData.int 2)))) (.cons (.tup (.cons (.ix (.v 0) (.c (PyData.int 0))) (.cons (.ix (.v 0) (.c (PyData.int 2))) .nil))) (.cons (.sl (.v 0) (.som (.c (PyData.int 1))) .non) .nil))))) .nil)
def t_pairs_met : SL := (.cons (.asg 1 true (.lst .nil)) (.cons (.fr [] (.one 2) (.seq (.v 0)) (.cons (.ext 1 (.call 3 (.cons (.v 2) .nil))) .nil)) (.cons (.ret (.v 1)) .nil)))
def t_stands : SL := (.cons (.ife (.bor (.cons (.bno (.isi .tuple (.v 1))) (.cons (.bno (.blt .all (.cons (.comp (.call 2 (.cons (.v 0) (.cons (.v 2) .nil))) (.one 2) (.seq (.v 1)) .non) .nil))) .nil))) (.cons (.ret (.c (PyData.bool false))) .nil) .nil) (.cons (.asg 3 false (.call 4 (.cons (.v 1) .nil))) (.cons (.ret (.ban (.cons (.o2 .eq (.blt .lenset (.cons (.v 3) .nil)) (.blt .len (.cons (.v 3) .nil))) (.cons (.blt .all (.cons (.comp (.o2 .lt (.v 4) (.v 5)) (.two 4 5) (.zip (.v 1) (.sl (.v 1) (.som (.c (PyData.int 1))) .non)) .non) .nil)) .nil)))) .nil)))
def t_is_plan : SL := (.cons (.ex (.call 1 (.cons (.v 0) .nil))) (.cons (.ret (.call 5 (.cons (.v 0) (.cons (.v 1) .nil)))) .nil))
def t_check_plan : SL := (.cons (.ex (.call 1 (.cons (.v 0) .nil))) (.cons (.ife (.bno (.call 5 (.cons (.v 0) (.cons (.v 1) .nil)))) (.cons (.rse 2) .nil) .nil) .nil))
def t_all_pairs : SL := (.cons (.asg 1 true (.lst .nil)) (.cons (.fr [] (.one 2) (.rng1 (.v 0)) (.cons (.ext 1 (.comp (.tup (.cons (.v 2) (.cons (.v 3) .nil))) (.one 3) (.rng2 (.o2 .add (.v 2) (.c (PyData.int 1))) (.v 0)) .non)) .nil)) (.cons (.ret (.v 1)) .nil)))
def t_left_of : SL := (.cons (.asg 2 false (.call 4 (.cons (.v 1) .nil))) (.cons (.ret (.comp (.v 3) (.one 3) (.seq (.call 8 (.cons (.v 0) .nil))) (.som (.o2 .notin (.v 3) (.v 2))))) .nil))
def t_pairs_left : SL := (.cons (.ex (.call 7 (.cons (.v 0) (.cons (.v 1) .nil)))) (.cons (.ret (.call 9 (.cons (.v 0) (.cons (.v 1) .nil)))) .nil))
def t_partners : SL := (.cons (.ex (.call 7 (.cons (.v 0) (.cons (.v 1) .nil)))) (.cons (.ife (.bno (.call 0 (.cons (.v 2) (.cons (.c (PyData.int 0)) (.cons (.o2 .sub (.v 0) (.c (PyData.int 1))) .nil))))) (.cons (.rse 3) .nil) .nil) (.cons (.ret (.comp (.v 3) (.one 3) (.rng1 (.v 0)) (.som (.o2 .inn (.tup (.cons (.blt .min2 (.cons (.v 3) (.cons (.v 2) .nil))) (.cons (.blt .max2 (.cons (.v 3) (.cons (.v 2) .nil))) .nil))) (.call 4 (.cons (.v 1) .nil)))))) .nil)))
def t_players_of : SL := (.cons (.dnew 1) (.cons (.fr [] (.one 2) (.seq (.v 0)) (.cons (.fr [] (.one 3) (.seq (.v 2)) (.cons (.dset 1 (.v 3) (.c (PyData.bool true))) .nil)) .nil)) (.cons (.ret (.dsort 1)) .nil)))
def t_four_list : SL := (.cons (.asg 1 false (.lst (.cons (.tup .nil) .nil))) (.cons (.fr [] (.one 2) (.seq (.v 0)) (.cons (.asg 1 false (.o2 .add (.v 1) (.comp (.o2 .add (.v 3) (.tup (.cons (.v 2) .nil))) (.one 3) (.seq (.v 1)) (.som (.o2 .lt (.blt .len (.cons (.v 3) .nil)) (.c (PyData.int 4))))))) .nil)) (.cons (.asg 4 true (.lst .nil)) (.cons (.fr [] (.one 3) (.seq (.v 1)) (.cons (.ife (.ban (.cons (.o2 .eq (.blt .len (.cons (.v 3) .nil)) (.c (PyData.int 4))) (.cons (.o2 .eq (.blt .len (.cons (.call 12 (.cons (.v 3) .nil)) .nil)) (.c (PyData.int 6))) .nil))) (.cons (.ife (.blt .all (.cons (.comp (.o2 .eq (.blt .len (.cons (.comp (.c (PyData.int 1)) (.one 2) (.seq (.v 3)) (.som (.o2 .inn (.v 5) (.v 2)))) .nil)) (.c (PyData.int 2))) (.one 5) (.seq (.call 12 (.cons (.v 3) .nil))) .non) .nil)) (.cons (.app 4 (.v 3)) .nil) .nil) .nil) .nil) .nil)) (.cons (.ret (.blt .sorted (.cons (.v 4) .nil))) .nil)))))
def t_fours : SL := (.cons (.ex (.call 7 (.cons (.v 0) (.cons (.v 1) .nil)))) (.cons (.ret (.call 13 (.cons (.v 1) .nil))) .nil))
def t_opposite : SL := (.cons (.asg2 1 2 false false (.call 4 (.cons (.v 0) .nil)) (.call 12 (.cons (.v 0) .nil))) (.cons (.dnew 3) (.cons (.fr [] (.one 4) (.seq (.v 2)) (.cons (.fr [] (.one 5) (.seq (.v 2)) (.cons (.ife (.ban (.cons (.o2 .ne (.v 4) (.v 5)) (.cons (.o2 .notin (.tup (.cons (.blt .min2 (.cons (.v 4) (.cons (.v 5) .nil))) (.cons (.blt .max2 (.cons (.v 4) (.cons (.v 5) .nil))) .nil))) (.v 1)) .nil))) (.cons (.dset 3 (.v 4) (.v 5)) .nil) .nil) .nil)) .nil)) (.cons (.ret (.comp (.blt .tup (.cons (.blt .sorted (.cons (.comp (.dget 3 (.v 4)) (.one 4) (.seq (.v 6)) .non) .nil)) .nil)) (.one 6) (.seq (.v 0)) .non)) .nil))))
def t_exchanged : SL := (.cons (.ex (.call 7 (.cons (.v 0) (.cons (.v 1) .nil)))) (.cons (.ife (.bor (.cons (.bno (.isi .tuple (.v 2))) (.cons (.o2 .notin (.v 2) (.call 13 (.cons (.v 1) .nil))) .nil))) (.cons (.rse 4) .nil) .nil) (.cons (.asg 4 false (.comp (.v 3) (.one 3) (.seq (.v 1)) (.som (.o2 .notin (.v 3) (.v 2))))) (.cons (.ret (.blt .tup (.cons (.blt .sorted (.cons (.o2 .add (.v 4) (.call 15 (.cons (.v 2) .nil))) .nil)) .nil))) .nil))))
def t_makes_day : SL := (.cons (.ife (.bor (.cons (.bno (.isi .tuple (.v 1))) (.cons (.bno (.blt .all (.cons (.comp (.call 2 (.cons (.v 0) (.cons (.v 2) .nil))) (.one 2) (.seq (.v 1)) .non) .nil))) .nil))) (.cons (.ret (.c (PyData.bool false))) .nil) .nil) (.cons (.asg 3 true (.lst .nil)) (.cons (.fr [] (.one 2) (.seq (.v 1)) (.cons (.ext 3 (.v 2)) .nil)) (.cons (.ret (.ban (.cons (.o2 .eq (.blt .sorted (.cons (.v 3) .nil)) (.blt .lrng (.cons (.v 0) .nil))) (.cons (.o2 .eq (.blt .lst (.cons (.v 1) .nil)) (.blt .sorted (.cons (.v 1) .nil))) .nil)))) .nil))))
def t_day_list : SL := (.cons (.asg 2 false (.lst (.cons (.tup .nil) .nil))) (.cons (.fr [] (.one 3) (.rng1 (.o2 .fdiv (.v 0) (.c (PyData.int 3)))) (.cons (.asg 4 true (.lst .nil)) (.cons (.fr [] (.one 5) (.seq (.v 2)) (.cons (.asg 6 true (.lst .nil)) (.cons (.fr [] (.one 7) (.seq (.v 5)) (.cons (.ext 6 (.v 7)) .nil)) (.cons (.fr [] (.one 7) (.seq (.v 1)) (.cons (.ife (.ban (.cons (.bno (.blt .any (.cons (.comp (.o2 .inn (.v 8) (.v 6)) (.one 8) (.seq (.v 7)) .non) .nil))) (.cons (.bor (.cons (.o2 .eq (.v 5) (.tup .nil)) (.cons (.o2 .lt (.ix (.v 5) (.neg (.c (PyData.int 1)))) (.v 7)) .nil))) .nil))) (.cons (.app 4 (.o2 .add (.v 5) (.tup (.cons (.v 7) .nil)))) .nil) .nil) .nil)) .nil)))) (.cons (.mov 2 4) .nil)))) (.cons (.ret (.comp (.v 5) (.one 5) (.seq (.v 2)) (.som (.call 17 (.cons (.v 0) (.cons (.v 5) .nil)))))) .nil)))
def t_days_in : SL := (.cons (.ex (.call 7 (.cons (.v 0) (.cons (.v 1) .nil)))) (.cons (.ret (.call 18 (.cons (.v 0) (.cons (.v 1) .nil)))) .nil))
def t_open_list : SL := (.cons (.asg 2 false (.call 9 (.cons (.v 0) (.cons (.v 1) .nil)))) (.cons (.asg 3 true (.lst .nil)) (.cons (.fr [] (.two 4 5) (.seq (.call 8 (.cons (.v 0) .nil))) (.cons (.fr [] (.one 6) (.rng2 (.o2 .add (.v 5) (.c (PyData.int 1))) (.v 0)) (.cons (.ife (.blt .all (.cons (.comp (.o2 .inn (.v 7) (.v 2)) (.one 7) (.seq (.call 3 (.cons (.tup (.cons (.v 4) (.cons (.v 5) (.cons (.v 6) .nil)))) .nil))) .non) .nil)) (.cons (.app 3 (.tup (.cons (.v 4) (.cons (.v 5) (.cons (.v 6) .nil))))) .nil) .nil) .nil)) .nil)) (.cons (.ret (.v 3)) .nil))))
def t_open_threes : SL := (.cons (.ex (.call 7 (.cons (.v 0) (.cons (.v 1) .nil)))) (.cons (.ret (.call 20 (.cons (.v 0) (.cons (.v 1) .nil)))) .nil))
def t__law_cell_at : SL := (.cons (.ife (.o2 .lt (.v 1) (.slen 0)) (.cons (.ret (.six 0 (.v 1))) .nil) .nil) (.cons (.ife (.semp 0) (.cons (.ret (.c (PyData.int 0))) .nil) .nil) (.cons (.asg 2 false (.six 0 (.o2 .mod (.v 1) (.slen 0)))) (.cons (.fr [] (.one 3) (.rng1 (.blt .min2 (.cons (.o2 .fdiv (.v 1) (.slen 0)) (.cons (.c (PyData.int 60)) .nil)))) (.cons (.asg 2 false (.o2 .fdiv (.v 2) (.c (PyData.int 1000003)))) .nil)) (.cons (.ret (.o2 .add (.o2 .add (.o2 .mul (.six 0 (.o2 .mod (.v 1) (.slen 0))) (.c (PyData.int 31))) (.v 1)) (.o2 .mul (.v 2) (.c (PyData.int 101))))) .nil)))))
def t__law_mixed : SL := (.cons (.asg 3 false (.o2 .mod (.o2 .add (.o2 .add (.o2 .mul (.call 22 (.cons (.v 0) (.cons (.v 1) .nil))) (.c (PyData.int 1103515245))) (.o2 .mul (.c (PyData.int 7919)) (.v 1))) (.c (PyData.int 12345))) (.c (PyData.int 2147483647)))) (.cons (.ret (.o2 .mod (.o2 .mod (.o2 .mod (.o2 .pow (.v 3) (.c (PyData.int 5))) (.c (PyData.int 2147483647))) (.c (PyData.int 999983))) (.v 2))) .nil))
def t__law_draw : SL := (.cons (.tapp 1) (.cons (.ret (.call 23 (.cons (.v 0) (.cons (.tlen 1) (.cons (.v 2) .nil))))) .nil))
def t__law_pick : SL := (.cons (.ret (.ix (.v 2) (.call 24 (.cons (.v 0) (.cons (.v 1) (.cons (.blt .len (.cons (.v 2) .nil)) .nil)))))) .nil)
def t__law_some_names : SL := (.cons (.asg2 3 4 true true (.blt .lrng (.cons (.v 2) .nil)) (.lst .nil)) (.cons (.wh (.o2 .ne (.v 3) (.lst .nil)) (.cons (.app 4 (.call 25 (.cons (.v 0) (.cons (.v 1) (.cons (.v 3) .nil))))) (.cons (.rem 3 (.ix (.v 4) (.neg (.c (PyData.int 1))))) .nil))) (.cons (.ret (.blt .tup (.cons (.v 4) .nil))) .nil)))
def t__law_named : SL := (.cons (.ret (.blt .tup (.cons (.blt .sorted (.cons (.comp (.blt .tup (.cons (.blt .sorted (.cons (.comp (.ix (.v 1) (.v 3)) (.one 3) (.seq (.v 2)) .non) .nil)) .nil)) (.one 2) (.seq (.v 0)) .non) .nil)) .nil))) .nil)
def t_law : SL := (.cons (.asg 2 false (.o2 .add (.c (PyData.int 6)) (.call 24 (.cons (.v 0) (.cons (.v 1) (.cons (.c (PyData.int 4)) .nil)))))) (.cons (.asg 3 false (.call 26 (.cons (.v 0) (.cons (.v 1) (.cons (.v 2) .nil))))) (.cons (.asg 4 false (.call 27 (.cons (.tup (.cons (.tup (.cons (.c (PyData.int 0)) (.cons (.c (PyData.int 1)) (.cons (.c (PyData.int 2)) .nil)))) (.cons (.tup (.cons (.c (PyData.int 0)) (.cons (.c (PyData.int 3)) (.cons (.c (PyData.int 4)) .nil)))) (.cons (.tup (.cons (.c (PyData.int 1)) (.cons (.c (PyData.int 3)) (.cons (.c (PyData.int 5)) .nil)))) (.cons (.tup (.cons (.c (PyData.int 2)) (.cons (.c (PyData.int 4)) (.cons (.c (PyData.int 5)) .nil)))) .nil))))) (.cons (.v 3) .nil)))) (.cons (.asg2 5 6 true false (.blt .lst (.cons (.v 4) .nil)) (.call 21 (.cons (.v 2) (.cons (.v 4) .nil)))) (.cons (.fr [] (.one 7) (.rng1 (.call 24 (.cons (.v 0) (.cons (.v 1) (.cons (.c (PyData.int 5)) .nil))))) (.cons (.ife (.o2 .ne (.v 6) (.lst .nil)) (.cons (.app 5 (.call 25 (.cons (.v 0) (.cons (.v 1) (.cons (.v 6) .nil))))) (.cons (.asg 6 false (.call 21 (.cons (.v 2) (.cons (.blt .tup (.cons (.blt .sorted (.cons (.v 5) .nil)) .nil)) .nil)))) .nil)) .nil) .nil)) (.cons (.asg 8 false (.blt .tup (.cons (.blt .sorted (.cons (.v 5) .nil)) .nil))) (.cons (.ife (.bor (.cons (.o2 .isnt (.call 6 (.cons (.v 2) (.cons (.v 8) .nil))) (.c (PyData.bool true))) (.cons (.o2 .notin (.v 4) (.call 14 (.cons (.v 2) (.cons (.v 8) .nil)))) .nil))) (.cons (.ret (.c (PyData.bool false))) .nil) .nil) (.cons (.asg 9 false (.call 16 (.cons (.v 2) (.cons (.v 8) (.cons (.v 4) .nil))))) (.cons (.asg 10 false (.call 27 (.cons (.tup (.cons (.tup (.cons (.c (PyData.int 0)) (.cons (.c (PyData.int 1)) (.cons (.c (PyData.int 3)) .nil)))) (.cons (.tup (.cons (.c (PyData.int 0)) (.cons (.c (PyData.int 2)) (.cons (.c (PyData.int 4)) .nil)))) (.cons (.tup (.cons (.c (PyData.int 1)) (.cons (.c (PyData.int 2)) (.cons (.c (PyData.int 5)) .nil)))) (.cons (.tup (.cons (.c (PyData.int 3)) (.cons (.c (PyData.int 4)) (.cons (.c (PyData.int 5)) .nil)))) .nil))))) (.cons (.v 3) .nil)))) (.cons (.ife (.bor (.cons (.o2 .ne (.comp (.v 11) (.one 11) (.seq (.v 9)) (.som (.o2 .notin (.v 11) (.v 8)))) (.blt .lst (.cons (.v 10) .nil))) (.cons (.o2 .ne (.call 21 (.cons (.v 2) (.cons (.v 9) .nil))) (.v 6)) .nil))) (.cons (.ret (.c (PyData.bool false))) .nil) .nil) (.cons (.ife (.o2 .ne (.call 10 (.cons (.v 2) (.cons (.v 9) .nil))) (.call 10 (.cons (.v 2) (.cons (.v 8) .nil)))) (.cons (.ret (.c (PyData.bool false))) .nil) .nil) (.cons (.fr [] (.one 12) (.rng1 (.v 2)) (.cons (.ife (.o2 .ne (.call 11 (.cons (.v 2) (.cons (.v 9) (.cons (.v 12) .nil)))) (.call 11 (.cons (.v 2) (.cons (.v 8) (.cons (.v 12) .nil))))) (.cons (.ret (.c (PyData.bool false))) .nil) .nil) .nil)) (.cons (.asg 14 false (.comp (.v 13) (.one 13) (.seq (.call 19 (.cons (.v 2) (.cons (.v 8) .nil)))) (.som (.o2 .eq (.comp (.v 11) (.one 11) (.seq (.v 13)) (.som (.o2 .inn (.v 11) (.v 4)))) (.lst .nil))))) (.cons (.asg 15 false (.comp (.v 13) (.one 13) (.seq (.call 19 (.cons (.v 2) (.cons (.v 9) .nil)))) (.som (.o2 .eq (.comp (.v 11) (.one 11) (.seq (.v 13)) (.som (.o2 .inn (.v 11) (.v 10)))) (.lst .nil))))) (.cons (.ret (.ban (.cons (.o2 .eq (.v 14) (.v 15)) (.cons (.o2 .eq (.call 16 (.cons (.v 2) (.cons (.v 9) (.cons (.v 10) .nil)))) (.v 8)) .nil)))) .nil)))))))))))))))
def cs : List (Str × Nat) := [("InvalidPlayers", 0), ("InvalidPlan", 2), ("InvalidPlayer", 3), ("InvalidFour", 4)]
def gs : List (Str × Str) := []
def F0 : List (Str × Nat × Nat) := []
def P0 : Nat → Fn := noFn
def F1 : List (Str × Nat × Nat) := F0 ++ [(("is_integer" : Str), 0, 3)]
def P1 : Nat → Fn := fun j => if j = 0 then fnv P0 3 t_is_integer else P0 j
def F2 : List (Str × Nat × Nat) := F1 ++ [(("check_players" : Str), 1, 1)]
def P2 : Nat → Fn := fun j => if j = 1 then fnv P1 1 t_check_players else P1 j
def F3 : List (Str × Nat × Nat) := F2 ++ [(("fits" : Str), 2, 2)]
def P3 : Nat → Fn := fun j => if j = 2 then fnv P2 3 t_fits else P2 j
def F4 : List (Str × Nat × Nat) := F3 ++ [(("pairs_of" : Str), 3, 1)]
def P4 : Nat → Fn := fun j => if j = 3 then fnv P3 1 t_pairs_of else P3 j
def F5 : List (Str × Nat × Nat) := F4 ++ [(("pairs_met" : Str), 4, 1)]
def P5 : Nat → Fn := fun j => if j = 4 then fnv P4 3 t_pairs_met else P4 j
def F6 : List (Str × Nat × Nat) := F5 ++ [(("stands" : Str), 5, 2)]
def P6 : Nat → Fn := fun j => if j = 5 then fnv P5 6 t_stands else P5 j
def F7 : List (Str × Nat × Nat) := F6 ++ [(("is_plan" : Str), 6, 2)]
def P7 : Nat → Fn := fun j => if j = 6 then fnv P6 2 t_is_plan else P6 j
def F8 : List (Str × Nat × Nat) := F7 ++ [(("check_plan" : Str), 7, 2)]
def P8 : Nat → Fn := fun j => if j = 7 then fnv P7 2 t_check_plan else P7 j
def F9 : List (Str × Nat × Nat) := F8 ++ [(("all_pairs" : Str), 8, 1)]
def P9 : Nat → Fn := fun j => if j = 8 then fnv P8 4 t_all_pairs else P8 j
def F10 : List (Str × Nat × Nat) := F9 ++ [(("left_of" : Str), 9, 2)]
def P10 : Nat → Fn := fun j => if j = 9 then fnv P9 4 t_left_of else P9 j
def F11 : List (Str × Nat × Nat) := F10 ++ [(("pairs_left" : Str), 10, 2)]
def P11 : Nat → Fn := fun j => if j = 10 then fnv P10 2 t_pairs_left else P10 j
def F12 : List (Str × Nat × Nat) := F11 ++ [(("partners" : Str), 11, 3)]
def P12 : Nat → Fn := fun j => if j = 11 then fnv P11 4 t_partners else P11 j
def F13 : List (Str × Nat × Nat) := F12 ++ [(("players_of" : Str), 12, 1)]
def P13 : Nat → Fn := fun j => if j = 12 then fnv P12 4 t_players_of else P12 j
def F14 : List (Str × Nat × Nat) := F13 ++ [(("four_list" : Str), 13, 1)]
def P14 : Nat → Fn := fun j => if j = 13 then fnv P13 6 t_four_list else P13 j
def F15 : List (Str × Nat × Nat) := F14 ++ [(("fours" : Str), 14, 2)]
def P15 : Nat → Fn := fun j => if j = 14 then fnv P14 2 t_fours else P14 j
def F16 : List (Str × Nat × Nat) := F15 ++ [(("opposite" : Str), 15, 1)]
def P16 : Nat → Fn := fun j => if j = 15 then fnv P15 7 t_opposite else P15 j
def F17 : List (Str × Nat × Nat) := F16 ++ [(("exchanged" : Str), 16, 3)]
def P17 : Nat → Fn := fun j => if j = 16 then fnv P16 5 t_exchanged else P16 j
def F18 : List (Str × Nat × Nat) := F17 ++ [(("makes_day" : Str), 17, 2)]
def P18 : Nat → Fn := fun j => if j = 17 then fnv P17 4 t_makes_day else P17 j
def F19 : List (Str × Nat × Nat) := F18 ++ [(("day_list" : Str), 18, 2)]
def P19 : Nat → Fn := fun j => if j = 18 then fnv P18 9 t_day_list else P18 j
def F20 : List (Str × Nat × Nat) := F19 ++ [(("days_in" : Str), 19, 2)]
def P20 : Nat → Fn := fun j => if j = 19 then fnv P19 2 t_days_in else P19 j
def F21 : List (Str × Nat × Nat) := F20 ++ [(("open_list" : Str), 20, 2)]
def P21 : Nat → Fn := fun j => if j = 20 then fnv P20 8 t_open_list else P20 j
def F22 : List (Str × Nat × Nat) := F21 ++ [(("open_threes" : Str), 21, 2)]
def P22 : Nat → Fn := fun j => if j = 21 then fnv P21 2 t_open_threes else P21 j
def F23 : List (Str × Nat × Nat) := F22 ++ [(("_law_cell_at" : Str), 22, 2)]
def P23 : Nat → Fn := fun j => if j = 22 then fnv P22 4 t__law_cell_at else P22 j
def F24 : List (Str × Nat × Nat) := F23 ++ [(("_law_mixed" : Str), 23, 3)]
def P24 : Nat → Fn := fun j => if j = 23 then fnv P23 4 t__law_mixed else P23 j
def F25 : List (Str × Nat × Nat) := F24 ++ [(("_law_draw" : Str), 24, 3)]
def P25 : Nat → Fn := fun j => if j = 24 then fnv P24 3 t__law_draw else P24 j
def F26 : List (Str × Nat × Nat) := F25 ++ [(("_law_pick" : Str), 25, 3)]
def P26 : Nat → Fn := fun j => if j = 25 then fnv P25 3 t__law_pick else P25 j
def F27 : List (Str × Nat × Nat) := F26 ++ [(("_law_some_names" : Str), 26, 3)]
def P27 : Nat → Fn := fun j => if j = 26 then fnv P26 5 t__law_some_names else P26 j
def F28 : List (Str × Nat × Nat) := F27 ++ [(("_law_named" : Str), 27, 2)]
def P28 : Nat → Fn := fun j => if j = 27 then fnv P27 4 t__law_named else P27 j
def DL : List (Nat × SL) := [(3, t_is_integer), (1, t_check_players), (3, t_fits), (1, t_pairs_of), (3, t_pairs_met), (6, t_stands), (2, t_is_plan), (2, t_check_plan), (4, t_all_pairs), (4, t_left_of), (2, t_pairs_left), (4, t_partners), (4, t_players_of), (6, t_four_list), (2, t_fours), (7, t_opposite), (5, t_exchanged), (4, t_makes_day), (9, t_day_list), (2, t_days_in), (8, t_open_list), (2, t_open_threes), (4, t__law_cell_at), (4, t__law_mixed), (3, t__law_draw), (3, t__law_pick), (5, t__law_some_names), (4, t__law_named)]
abbrev Pm : Nat → Fn := P28
theorem Pm_tab : Pm = tab DL 0 noFn := by kernel_rfl
theorem ties_ok : ties DL 0 = true := by kernel_rfl
theorem tie {k : Nat} {p : Nat × SL} (h : DL[k]? = some p) : Pm k = fnv Pm p.1 p.2 := by rw [Pm_tab]; have := tab_tie DL 0 noFn ties_ok k p h; rwa [Nat.zero_add] at this
theorem q_is_integer : Pm 0 = fnv Pm 3 t_is_integer := tie (k := 0) rfl
theorem q_check_players : Pm 1 = fnv Pm 1 t_check_players := tie (k := 1) rfl
theorem q_fits : Pm 2 = fnv Pm 3 t_fits := tie (k := 2) rfl
theorem q_pairs_of : Pm 3 = fnv Pm 1 t_pairs_of := tie (k := 3) rfl
theorem q_pairs_met : Pm 4 = fnv Pm 3 t_pairs_met := tie (k := 4) rfl
theorem q_stands : Pm 5 = fnv Pm 6 t_stands := tie (k := 5) rfl
theorem q_is_plan : Pm 6 = fnv Pm 2 t_is_plan := tie (k := 6) rfl
theorem q_check_plan : Pm 7 = fnv Pm 2 t_check_plan := tie (k := 7) rfl
theorem q_all_pairs : Pm 8 = fnv Pm 4 t_all_pairs := tie (k := 8) rfl
theorem q_left_of : Pm 9 = fnv Pm 4 t_left_of := tie (k := 9) rfl
theorem q_pairs_left : Pm 10 = fnv Pm 2 t_pairs_left := tie (k := 10) rfl
theorem q_partners : Pm 11 = fnv Pm 4 t_partners := tie (k := 11) rfl
theorem q_players_of : Pm 12 = fnv Pm 4 t_players_of := tie (k := 12) rfl
theorem q_four_list : Pm 13 = fnv Pm 6 t_four_list := tie (k := 13) rfl
theorem q_fours : Pm 14 = fnv Pm 2 t_fours := tie (k := 14) rfl
theorem q_opposite : Pm 15 = fnv Pm 7 t_opposite := tie (k := 15) rfl
theorem q_exchanged : Pm 16 = fnv Pm 5 t_exchanged := tie (k := 16) rfl
theorem q_makes_day : Pm 17 = fnv Pm 4 t_makes_day := tie (k := 17) rfl
theorem q_day_list : Pm 18 = fnv Pm 9 t_day_list := tie (k := 18) rfl
theorem q_days_in : Pm 19 = fnv Pm 2 t_days_in := tie (k := 19) rfl
theorem q_open_list : Pm 20 = fnv Pm 8 t_open_list := tie (k := 20) rfl
theorem q_open_threes : Pm 21 = fnv Pm 2 t_open_threes := tie (k := 21) rfl
theorem q__law_cell_at : Pm 22 = fnv Pm 4 t__law_cell_at := tie (k := 22) rfl
theorem q__law_mixed : Pm 23 = fnv Pm 4 t__law_mixed := tie (k := 23) rfl
theorem q__law_draw : Pm 24 = fnv Pm 3 t__law_draw := tie (k := 24) rfl
theorem q__law_pick : Pm 25 = fnv Pm 3 t__law_pick := tie (k := 25) rfl
theorem q__law_some_names : Pm 26 = fnv Pm 5 t__law_some_names := tie (k := 26) rfl
theorem q__law_named : Pm 27 = fnv Pm 4 t__law_named := tie (k := 27) rfl
theorem h_is_integer : compF (st 7) F0 cs gs false = some t_is_integer := by kernel_rfl
theorem h_check_players : compF (st 8) F1 cs gs false = some t_check_players := by kernel_rfl
theorem h_fits : compF (st 9) F2 cs gs false = some t_fits := by kernel_rfl
theorem h_pairs_of : compF (st 10) F3 cs gs false = some t_pairs_of := by kernel_rfl
theorem h_pairs_met : compF (st 11) F4 cs gs false = some t_pairs_met := by kernel_rfl
theorem h_stands : compF (st 12) F5 cs gs false = some t_stands := by kernel_rfl
theorem h_is_plan : compF (st 13) F6 cs gs false = some t_is_plan := by kernel_rfl
theorem h_check_plan : compF (st 14) F7 cs gs false = some t_check_plan := by kernel_rfl
theorem h_all_pairs : compF (st 15) F8 cs gs false = some t_all_pairs := by kernel_rfl
theorem h_left_of : compF (st 16) F9 cs gs false = some t_left_of := by kernel_rfl
theorem h_pairs_left : compF (st 17) F10 cs gs false = some t_pairs_left := by kernel_rfl
theorem h_partners : compF (st 18) F11 cs gs false = some t_partners := by kernel_rfl
theorem h_players_of : compF (st 20) F12 cs gs false = some t_players_of := by kernel_rfl
theorem h_four_list : compF (st 21) F13 cs gs false = some t_four_list := by kernel_rfl
theorem h_fours : compF (st 22) F14 cs gs false = some t_fours := by kernel_rfl
theorem h_opposite : compF (st 23) F15 cs gs false = some t_opposite := by kernel_rfl
theorem h_exchanged : compF (st 24) F16 cs gs false = some t_exchanged := by kernel_rfl
theorem h_makes_day : compF (st 26) F17 cs gs false = some t_makes_day := by kernel_rfl
theorem h_day_list : compF (st 27) F18 cs gs false = some t_day_list := by kernel_rfl
theorem h_days_in : compF (st 28) F19 cs gs false = some t_days_in := by kernel_rfl
theorem h_open_list : compF (st 30) F20 cs gs false = some t_open_list := by kernel_rfl
theorem h_open_threes : compF (st 31) F21 cs gs false = some t_open_threes := by kernel_rfl
theorem h__law_cell_at : compF (st 33) F22 cs gs false = some t__law_cell_at := by kernel_rfl
theorem h__law_mixed : compF (st 34) F23 cs gs false = some t__law_mixed := by kernel_rfl
theorem h__law_draw : compF (st 35) F24 cs gs false = some t__law_draw := by kernel_rfl
theorem h__law_pick : compF (st 36) F25 cs gs false = some t__law_pick := by kernel_rfl
theorem h__law_some_names : compF (st 37) F26 cs gs false = some t__law_some_names := by kernel_rfl
theorem h__law_named : compF (st 38) F27 cs gs false = some t__law_named := by kernel_rfl
theorem h_law : compSL (compS 40 (mkSc (st 39) F28 cs gs)) (defBody (st 39)).tail = some t_law := by kernel_rfl
theorem s_is_integer : FnScope (slotN (defScope (st 7))) ["value", "low", "high"] (defScope (st 7)) := ⟨by kernel_rfl, by kernel_rfl, by kernel_rfl, by decide +kernel, by decide +kernel, by decide +kernel, by decide +kernel⟩
theorem s_check_players : FnScope (slotN (defScope (st 8))) ["players"] (defScope (st 8)) := ⟨by kernel_rfl, by kernel_rfl, by kernel_rfl, by decide +kernel, by decide +kernel, by decide +kernel, by decide +kernel⟩
theorem s_fits : FnScope (slotN (defScope (st 9))) ["players", "value"] (defScope (st 9)) := ⟨by kernel_rfl, by kernel_rfl, by kernel_rfl, by decide +kernel, by decide +kernel, by decide +kernel, by decide +kernel⟩
theorem s_pairs_of : FnScope (slotN (defScope (st 10))) ["three"] (defScope (st 10)) := ⟨by kernel_rfl, by kernel_rfl, by kernel_rfl, by decide +kernel, by decide +kernel, by decide +kernel, by decide +kernel⟩
theorem s_pairs_met : FnScope (slotN (defScope (st 11))) ["plan"] (defScope (st 11)) := ⟨by kernel_rfl, by kernel_rfl, by kernel_rfl, by decide +kernel, by decide +kernel, by decide +kernel, by decide +kernel⟩
theorem s_stands : FnScope (slotN (defScope (st 12))) ["players", "value"] (defScope (st 12)) := ⟨by kernel_rfl, by kernel_rfl, by kernel_rfl, by decide +kernel, by decide +kernel, by decide +kernel, by decide +kernel⟩
theorem s_is_plan : FnScope (slotN (defScope (st 13))) ["players", "value"] (defScope (st 13)) := ⟨by kernel_rfl, by kernel_rfl, by kernel_rfl, by decide +kernel, by decide +kernel, by decide +kernel, by decide +kernel⟩
theorem s_check_plan : FnScope (slotN (defScope (st 14))) ["players", "plan"] (defScope (st 14)) := ⟨by kernel_rfl, by kernel_rfl, by kernel_rfl, by decide +kernel, by decide +kernel, by decide +kernel, by decide +kernel⟩
theorem s_all_pairs : FnScope (slotN (defScope (st 15))) ["players"] (defScope (st 15)) := ⟨by kernel_rfl, by kernel_rfl, by kernel_rfl, by decide +kernel, by decide +kernel, by decide +kernel, by decide +kernel⟩
theorem s_left_of : FnScope (slotN (defScope (st 16))) ["players", "plan"] (defScope (st 16)) := ⟨by kernel_rfl, by kernel_rfl, by kernel_rfl, by decide +kernel, by decide +kernel, by decide +kernel, by decide +kernel⟩
theorem s_pairs_left : FnScope (slotN (defScope (st 17))) ["players", "plan"] (defScope (st 17)) := ⟨by kernel_rfl, by kernel_rfl, by kernel_rfl, by decide +kernel, by decide +kernel, by decide +kernel, by decide +kernel⟩
theorem s_partners : FnScope (slotN (defScope (st 18))) ["players", "plan", "player"] (defScope (st 18)) := ⟨by kernel_rfl, by kernel_rfl, by kernel_rfl, by decide +kernel, by decide +kernel, by decide +kernel, by decide +kernel⟩
theorem s_players_of : FnScope (slotN (defScope (st 20))) ["some"] (defScope (st 20)) := ⟨by kernel_rfl, by kernel_rfl, by kernel_rfl, by decide +kernel, by decide +kernel, by decide +kernel, by decide +kernel⟩
theorem s_four_list : FnScope (slotN (defScope (st 21))) ["plan"] (defScope (st 21)) := ⟨by kernel_rfl, by kernel_rfl, by kernel_rfl, by decide +kernel, by decide +kernel, by decide +kernel, by decide +kernel⟩
theorem s_fours : FnScope (slotN (defScope (st 22))) ["players", "plan"] (defScope (st 22)) := ⟨by kernel_rfl, by kernel_rfl, by kernel_rfl, by decide +kernel, by decide +kernel, by decide +kernel, by decide +kernel⟩
theorem s_opposite : FnScope (slotN (defScope (st 23))) ["four"] (defScope (st 23)) := ⟨by kernel_rfl, by kernel_rfl, by kernel_rfl, by decide +kernel, by decide +kernel, by decide +kernel, by decide +kernel⟩
theorem s_exchanged : FnScope (slotN (defScope (st 24))) ["players", "plan", "four"] (defScope (st 24)) := ⟨by kernel_rfl, by kernel_rfl, by kernel_rfl, by decide +kernel, by decide +kernel, by decide +kernel, by decide +kernel⟩
theorem s_makes_day : FnScope (slotN (defScope (st 26))) ["players", "value"] (defScope (st 26)) := ⟨by kernel_rfl, by kernel_rfl, by kernel_rfl, by decide +kernel, by decide +kernel, by decide +kernel, by decide +kernel⟩
theorem s_day_list : FnScope (slotN (defScope (st 27))) ["players", "plan"] (defScope (st 27)) := ⟨by kernel_rfl, by kernel_rfl, by kernel_rfl, by decide +kernel, by decide +kernel, by decide +kernel, by decide +kernel⟩
theorem s_days_in : FnScope (slotN (defScope (st 28))) ["players", "plan"] (defScope (st 28)) := ⟨by kernel_rfl, by kernel_rfl, by kernel_rfl, by decide +kernel, by decide +kernel, by decide +kernel, by decide +kernel⟩
theorem s_open_list : FnScope (slotN (defScope (st 30))) ["players", "plan"] (defScope (st 30)) := ⟨by kernel_rfl, by kernel_rfl, by kernel_rfl, by decide +kernel, by decide +kernel, by decide +kernel, by decide +kernel⟩
theorem s_open_threes : FnScope (slotN (defScope (st 31))) ["players", "plan"] (defScope (st 31)) := ⟨by kernel_rfl, by kernel_rfl, by kernel_rfl, by decide +kernel, by decide +kernel, by decide +kernel, by decide +kernel⟩
theorem s__law_cell_at : FnScope (slotN (defScope (st 33))) ["_law_script", "_law_k"] (defScope (st 33)) := ⟨by kernel_rfl, by kernel_rfl, by kernel_rfl, by decide +kernel, by decide +kernel, by decide +kernel, by decide +kernel⟩
theorem s__law_mixed : FnScope (slotN (defScope (st 34))) ["_law_script", "_law_k", "_law_many"] (defScope (st 34)) := ⟨by kernel_rfl, by kernel_rfl, by kernel_rfl, by decide +kernel, by decide +kernel, by decide +kernel, by decide +kernel⟩
theorem s__law_draw : FnScope (slotN (defScope (st 35))) ["_law_script", "_law_town", "_law_many"] (defScope (st 35)) := ⟨by kernel_rfl, by kernel_rfl, by kernel_rfl, by decide +kernel, by decide +kernel, by decide +kernel, by decide +kernel⟩
theorem s__law_pick : FnScope (slotN (defScope (st 36))) ["_law_script", "_law_town", "_law_some"] (defScope (st 36)) := ⟨by kernel_rfl, by kernel_rfl, by kernel_rfl, by decide +kernel, by decide +kernel, by decide +kernel, by decide +kernel⟩
theorem s__law_some_names : FnScope (slotN (defScope (st 37))) ["_law_script", "_law_town", "_law_n"] (defScope (st 37)) := ⟨by kernel_rfl, by kernel_rfl, by kernel_rfl, by decide +kernel, by decide +kernel, by decide +kernel, by decide +kernel⟩
theorem s__law_named : FnScope (slotN (defScope (st 38))) ["_law_plan", "_law_names"] (defScope (st 38)) := ⟨by kernel_rfl, by kernel_rfl, by kernel_rfl, by decide +kernel, by decide +kernel, by decide +kernel, by decide +kernel⟩
theorem s_law : FnScope (slotN (defScope (st 39))) ["_law_script"] (defScope (st 39)) := ⟨by kernel_rfl, by kernel_rfl, by kernel_rfl, by decide +kernel, by decide +kernel, by decide +kernel, by decide +kernel⟩
section
variable {w : World} {K : PySem.W.Frag} {mg : Str → Option Value} {base : Heap}
theorem d_is_integer {f : Addr} {fd : FuncData} (F : Fun K "is_integer" "is_integer" (st 7) f fd) (hm : mg "is_integer" = some (.ref f)) : DefOk K mg (st 7) "is_integer" ["value", "low", "high"] :=
  ⟨⟨f, fd, F, hm, F.binds fun _ _ _ _ _ _ us hl => match us, hl with | [_, _, _], _ => rfl⟩, s_is_integer, by decide +kernel⟩
theorem d_check_players {f : Addr} {fd : FuncData} (F : Fun K "check_players" "check_players" (st 8) f fd) (hm : mg "check_players" = some (.ref f)) : DefOk K mg (st 8) "check_players" ["players"] :=
  ⟨⟨f, fd, F, hm, F.binds fun _ _ _ _ _ _ us hl => match us, hl with | [_], _ => rfl⟩, s_check_players, by decide +kernel⟩
theorem d_fits {f : Addr} {fd : FuncData} (F : Fun K "fits" "fits" (st 9) f fd) (hm : mg "fits" = some (.ref f)) : DefOk K mg (st 9) "fits" ["players", "value"] :=
  ⟨⟨f, fd, F, hm, F.binds fun _ _ _ _ _ _ us hl => match us, hl with | [_, _], _ => rfl⟩, s_fits, by decide +kernel⟩
theorem d_pairs_of {f : Addr} {fd : FuncData} (F : Fun K "pairs_of" "pairs_of" (st 10) f fd) (hm : mg "pairs_of" = some (.ref f)) : DefOk K mg (st 10) "pairs_of" ["three"] :=
  ⟨⟨f, fd, F, hm, F.binds fun _ _ _ _ _ _ us hl => match us, hl with | [_], _ => rfl⟩, s_pairs_of, by decide +kernel⟩
theorem d_pairs_met {f : Addr} {fd : FuncData} (F : Fun K "pairs_met" "pairs_met" (st 11) f fd) (hm : mg "pairs_met" = some (.ref f)) : DefOk K mg (st 11) "pairs_met" ["plan"] :=
  ⟨⟨f, fd, F, hm, F.binds fun _ _ _ _ _ _ us hl => match us, hl with | [_], _ => rfl⟩, s_pairs_met, by decide +kernel⟩
theorem d_stands {f : Addr} {fd : FuncData} (F : Fun K "stands" "stands" (st 12) f fd) (hm : mg "stands" = some (.ref f)) : DefOk K mg (st 12) "stands" ["players", "value"] :=
  ⟨⟨f, fd, F, hm, F.binds fun _ _ _ _ _ _ us hl => match us, hl with | [_, _], _ => rfl⟩, s_stands, by decide +kernel⟩
theorem d_is_plan {f : Addr} {fd : FuncData} (F : Fun K "is_plan" "is_plan" (st 13) f fd) (hm : mg "is_plan" = some (.ref f)) : DefOk K mg (st 13) "is_plan" ["players", "value"] :=
  ⟨⟨f, fd, F, hm, F.binds fun _ _ _ _ _ _ us hl => match us, hl with | [_, _], _ => rfl⟩, s_is_plan, by decide +kernel⟩
theorem d_check_plan {f : Addr} {fd : FuncData} (F : Fun K "check_plan" "check_plan" (st 14) f fd) (hm : mg "check_plan" = some (.ref f)) : DefOk K mg (st 14) "check_plan" ["players", "plan"] :=
  ⟨⟨f, fd, F, hm, F.binds fun _ _ _ _ _ _ us hl => match us, hl with | [_, _], _ => rfl⟩, s_check_plan, by decide +kernel⟩
theorem d_all_pairs {f : Addr} {fd : FuncData} (F : Fun K "all_pairs" "all_pairs" (st 15) f fd) (hm : mg "all_pairs" = some (.ref f)) : DefOk K mg (st 15) "all_pairs" ["players"] :=
  ⟨⟨f, fd, F, hm, F.binds fun _ _ _ _ _ _ us hl => match us, hl with | [_], _ => rfl⟩, s_all_pairs, by decide +kernel⟩
theorem d_left_of {f : Addr} {fd : FuncData} (F : Fun K "left_of" "left_of" (st 16) f fd) (hm : mg "left_of" = some (.ref f)) : DefOk K mg (st 16) "left_of" ["players", "plan"] :=
  ⟨⟨f, fd, F, hm, F.binds fun _ _ _ _ _ _ us hl => match us, hl with | [_, _], _ => rfl⟩, s_left_of, by decide +kernel⟩
theorem d_pairs_left {f : Addr} {fd : FuncData} (F : Fun K "pairs_left" "pairs_left" (st 17) f fd) (hm : mg "pairs_left" = some (.ref f)) : DefOk K mg (st 17) "pairs_left" ["players", "plan"] :=
  ⟨⟨f, fd, F, hm, F.binds fun _ _ _ _ _ _ us hl => match us, hl with | [_, _], _ => rfl⟩, s_pairs_left, by decide +kernel⟩
theorem d_partners {f : Addr} {fd : FuncData} (F : Fun K "partners" "partners" (st 18) f fd) (hm : mg "partners" = some (.ref f)) : DefOk K mg (st 18) "partners" ["players", "plan", "player"] :=
  ⟨⟨f, fd, F, hm, F.binds fun _ _ _ _ _ _ us hl => match us, hl with | [_, _, _], _ => rfl⟩, s_partners, by decide +kernel⟩
theorem d_players_of {f : Addr} {fd : FuncData} (F : Fun K "players_of" "players_of" (st 20) f fd) (hm : mg "players_of" = some (.ref f)) : DefOk K mg (st 20) "players_of" ["some"] :=
  ⟨⟨f, fd, F, hm, F.binds fun _ _ _ _ _ _ us hl => match us, hl with | [_], _ => rfl⟩, s_players_of, by decide +kernel⟩
theorem d_four_list {f : Addr} {fd : FuncData} (F : Fun K "four_list" "four_list" (st 21) f fd) (hm : mg "four_list" = some (.ref f)) : DefOk K mg (st 21) "four_list" ["plan"] :=
  ⟨⟨f, fd, F, hm, F.binds fun _ _ _ _ _ _ us hl => match us, hl with | [_], _ => rfl⟩, s_four_list, by decide +kernel⟩
theorem d_fours {f : Addr} {fd : FuncData} (F : Fun K "fours" "fours" (st 22) f fd) (hm : mg "fours" = some (.ref f)) : DefOk K mg (st 22) "fours" ["players", "plan"] :=
  ⟨⟨f, fd, F, hm, F.binds fun _ _ _ _ _ _ us hl => match us, hl with | [_, _], _ => rfl⟩, s_fours, by decide +kernel⟩
theorem d_opposite {f : Addr} {fd : FuncData} (F : Fun K "opposite" "opposite" (st 23) f fd) (hm : mg "opposite" = some (.ref f)) : DefOk K mg (st 23) "opposite" ["four"] :=
  ⟨⟨f, fd, F, hm, F.binds fun _ _ _ _ _ _ us hl => match us, hl with | [_], _ => rfl⟩, s_opposite, by decide +kernel⟩
theorem d_exchanged {f : Addr} {fd : FuncData} (F : Fun K "exchanged" "exchanged" (st 24) f fd) (hm : mg "exchanged" = some (.ref f)) : DefOk K mg (st 24) "exchanged" ["players", "plan", "four"] :=
  ⟨⟨f, fd, F, hm, F.binds fun _ _ _ _ _ _ us hl => match us, hl with | [_, _, _], _ => rfl⟩, s_exchanged, by decide +kernel⟩
theorem d_makes_day {f : Addr} {fd : FuncData} (F : Fun K "makes_day" "makes_day" (st 26) f fd) (hm : mg "makes_day" = some (.ref f)) : DefOk K mg (st 26) "makes_day" ["players", "value"] :=
  ⟨⟨f, fd, F, hm, F.binds fun _ _ _ _ _ _ us hl => match us, hl with | [_, _], _ => rfl⟩, s_makes_day, by decide +kernel⟩
theorem d_day_list {f : Addr} {fd : FuncData} (F : Fun K "day_list" "day_list" (st 27) f fd) (hm : mg "day_list" = some (.ref f)) : DefOk K mg (st 27) "day_list" ["players", "plan"] :=
  ⟨⟨f, fd, F, hm, F.binds fun _ _ _ _ _ _ us hl => match us, hl with | [_, _], _ => rfl⟩, s_day_list, by decide +kernel⟩
theorem d_days_in {f : Addr} {fd : FuncData} (F : Fun K "days_in" "days_in" (st 28) f fd) (hm : mg "days_in" = some (.ref f)) : DefOk K mg (st 28) "days_in" ["players", "plan"] :=
  ⟨⟨f, fd, F, hm, F.binds fun _ _ _ _ _ _ us hl => match us, hl with | [_, _], _ => rfl⟩, s_days_in, by decide +kernel⟩
theorem d_open_list {f : Addr} {fd : FuncData} (F : Fun K "open_list" "open_list" (st 30) f fd) (hm : mg "open_list" = some (.ref f)) : DefOk K mg (st 30) "open_list" ["players", "plan"] :=
  ⟨⟨f, fd, F, hm, F.binds fun _ _ _ _ _ _ us hl => match us, hl with | [_, _], _ => rfl⟩, s_open_list, by decide +kernel⟩
theorem d_open_threes {f : Addr} {fd : FuncData} (F : Fun K "open_threes" "open_threes" (st 31) f fd) (hm : mg "open_threes" = some (.ref f)) : DefOk K mg (st 31) "open_threes" ["players", "plan"] :=
  ⟨⟨f, fd, F, hm, F.binds fun _ _ _ _ _ _ us hl => match us, hl with | [_, _], _ => rfl⟩, s_open_threes, by decide +kernel⟩
theorem d__law_cell_at {f : Addr} {fd : FuncData} (F : Fun K "_law_cell_at" "_law_cell_at" (st 33) f fd) (hm : mg "_law_cell_at" = some (.ref f)) : DefOk K mg (st 33) "_law_cell_at" ["_law_script", "_law_k"] :=
  ⟨⟨f, fd, F, hm, F.binds fun _ _ _ _ _ _ us hl => match us, hl with | [_, _], _ => rfl⟩, s__law_cell_at, by decide +kernel⟩
theorem d__law_mixed {f : Addr} {fd : FuncData} (F : Fun K "_law_mixed" "_law_mixed" (st 34) f fd) (hm : mg "_law_mixed" = some (.ref f)) : DefOk K mg (st 34) "_law_mixed" ["_law_script", "_law_k", "_law_many"] :=
  ⟨⟨f, fd, F, hm, F.binds fun _ _ _ _ _ _ us hl => match us, hl with | [_, _, _], _ => rfl⟩, s__law_mixed, by decide +kernel⟩
theorem d__law_draw {f : Addr} {fd : FuncData} (F : Fun K "_law_draw" "_law_draw" (st 35) f fd) (hm : mg "_law_draw" = some (.ref f)) : DefOk K mg (st 35) "_law_draw" ["_law_script", "_law_town", "_law_many"] :=
  ⟨⟨f, fd, F, hm, F.binds fun _ _ _ _ _ _ us hl => match us, hl with | [_, _, _], _ => rfl⟩, s__law_draw, by decide +kernel⟩
theorem d__law_pick {f : Addr} {fd : FuncData} (F : Fun K "_law_pick" "_law_pick" (st 36) f fd) (hm : mg "_law_pick" = some (.ref f)) : DefOk K mg (st 36) "_law_pick" ["_law_script", "_law_town", "_law_some"] :=
  ⟨⟨f, fd, F, hm, F.binds fun _ _ _ _ _ _ us hl => match us, hl with | [_, _, _], _ => rfl⟩, s__law_pick, by decide +kernel⟩
theorem d__law_some_names {f : Addr} {fd : FuncData} (F : Fun K "_law_some_names" "_law_some_names" (st 37) f fd) (hm : mg "_law_some_names" = some (.ref f)) : DefOk K mg (st 37) "_law_some_names" ["_law_script", "_law_town", "_law_n"] :=
  ⟨⟨f, fd, F, hm, F.binds fun _ _ _ _ _ _ us hl => match us, hl with | [_, _, _], _ => rfl⟩, s__law_some_names, by decide +kernel⟩
theorem d__law_named {f : Addr} {fd : FuncData} (F : Fun K "_law_named" "_law_named" (st 38) f fd) (hm : mg "_law_named" = some (.ref f)) : DefOk K mg (st 38) "_law_named" ["_law_plan", "_law_names"] :=
  ⟨⟨f, fd, F, hm, F.binds fun _ _ _ _ _ _ us hl => match us, hl with | [_, _], _ => rfl⟩, s__law_named, by decide +kernel⟩
def clsOf (E0 E2 E3 E4 : Addr) : Nat → Addr := fun c => if c = 0 then E0 else if c = 2 then E2 else if c = 3 then E3 else if c = 4 then E4 else 0
theorem all_mk {h : Heap} {fa : Addr} (X : K.In h) (G : h.Ns mainGlobals mg) (hfa : mg "law" = some (.ref fa))
    {f0 : Addr} {od0 an0 : Option Addr} {sl0 : Array (Option Value)} {oc0 kV0 dc0 pm0 cd0 ct0 : Value}
    {f1 : Addr} {od1 an1 : Option Addr} {sl1 : Array (Option Value)} {oc1 kV1 dc1 pm1 cd1 ct1 : Value}
    {f2 : Addr} {od2 an2 : Option Addr} {sl2 : Array (Option Value)} {oc2 kV2 dc2 pm2 cd2 ct2 : Value}
    {f3 : Addr} {od3 an3 : Option Addr} {sl3 : Array (Option Value)} {oc3 kV3 dc3 pm3 cd3 ct3 : Value}
    {f4 : Addr} {od4 an4 : Option Addr} {sl4 : Array (Option Value)} {oc4 kV4 dc4 pm4 cd4 ct4 : Value}
    {f5 : Addr} {od5 an5 : Option Addr} {sl5 : Array (Option Value)} {oc5 kV5 dc5 pm5 cd5 ct5 : Value}
    {f6 : Addr} {od6 an6 : Option Addr} {sl6 : Array (Option Value)} {oc6 kV6 dc6 pm6 cd6 ct6 : Value}
    {f7 : Addr} {od7 an7 : Option Addr} {sl7 : Array (Option Value)} {oc7 kV7 dc7 pm7 cd7 ct7 : Value}
    {f8 : Addr} {od8 an8 : Option Addr} {sl8 : Array (Option Value)} {oc8 kV8 dc8 pm8 cd8 ct8 : Value}
    {f9 : Addr} {od9 an9 : Option Addr} {sl9 : Array (Option Value)} {oc9 kV9 dc9 pm9 cd9 ct9 : Value}
    {f10 : Addr} {od10 an10 : Option Addr} {sl10 : Array (Option Value)} {oc10 kV10 dc10 pm10 cd10 ct10 : Value}
    {f11 : Addr} {od11 an11 : Option Addr} {sl11 : Array (Option Value)} {oc11 kV11 dc11 pm11 cd11 ct11 : Value}
    {f12 : Addr} {od12 an12 : Option Addr} {sl12 : Array (Option Value)} {oc12 kV12 dc12 pm12 cd12 ct12 : Value}
    {f13 : Addr} {od13 an13 : Option Addr} {sl13 : Array (Option Value)} {oc13 kV13 dc13 pm13 cd13 ct13 : Value}
    {f14 : Addr} {od14 an14 : Option Addr} {sl14 : Array (Option Value)} {oc14 kV14 dc14 pm14 cd14 ct14 : Value}
    {f15 : Addr} {od15 an15 : Option Addr} {sl15 : Array (Option Value)} {oc15 kV15 dc15 pm15 cd15 ct15 : Value}
    {f16 : Addr} {od16 an16 : Option Addr} {sl16 : Array (Option Value)} {oc16 kV16 dc16 pm16 cd16 ct16 : Value}
    {f17 : Addr} {od17 an17 : Option Addr} {sl17 : Array (Option Value)} {oc17 kV17 dc17 pm17 cd17 ct17 : Value}
    {f18 : Addr} {od18 an18 : Option Addr} {sl18 : Array (Option Value)} {oc18 kV18 dc18 pm18 cd18 ct18 : Value}
    {f19 : Addr} {od19 an19 : Option Addr} {sl19 : Array (Option Value)} {oc19 kV19 dc19 pm19 cd19 ct19 : Value}
    {f20 : Addr} {od20 an20 : Option Addr} {sl20 : Array (Option Value)} {oc20 kV20 dc20 pm20 cd20 ct20 : Value}
    {f21 : Addr} {od21 an21 : Option Addr} {sl21 : Array (Option Value)} {oc21 kV21 dc21 pm21 cd21 ct21 : Value}
    {f22 : Addr} {od22 an22 : Option Addr} {sl22 : Array (Option Value)} {oc22 kV22 dc22 pm22 cd22 ct22 : Value}
    {f23 : Addr} {od23 an23 : Option Addr} {sl23 : Array (Option Value)} {oc23 kV23 dc23 pm23 cd23 ct23 : Value}
    {f24 : Addr} {od24 an24 : Option Addr} {sl24 : Array (Option Value)} {oc24 kV24 dc24 pm24 cd24 ct24 : Value}
    {f25 : Addr} {od25 an25 : Option Addr} {sl25 : Array (Option Value)} {oc25 kV25 dc25 pm25 cd25 ct25 : Value}
    {f26 : Addr} {od26 an26 : Option Addr} {sl26 : Array (Option Value)} {oc26 kV26 dc26 pm26 cd26 ct26 : Value}
    {f27 : Addr} {od27 an27 : Option Addr} {sl27 : Array (Option Value)} {oc27 kV27 dc27 pm27 cd27 ct27 : Value}
    {f28 : Addr} {od28 an28 : Option Addr} {sl28 : Array (Option Value)} {oc28 kV28 dc28 pm28 cd28 ct28 : Value}
    {E0 : Addr}
    {E2 : Addr}
    {E3 : Addr}
    {E4 : Addr}
    (a0 : PySem.W.nsIn K mainGlobals "is_integer" = some (some (.ref f0))) (l0 : K.lookup f0 = some ⟨oc0, od0, .func (PySem.W.fnOf "is_integer" "is_integer" (defArgs (st 7)) (defBody (st 7)) (defScope (st 7)) .none kV0 dc0 pm0 an0 cd0 ct0), sl0⟩) (c0 : PySem.W.codeIn K cd0 "is_integer" = true) (k0 : PySem.W.keepIn K (.ref f0) = true)
    (a1 : PySem.W.nsIn K mainGlobals "check_players" = some (some (.ref f1))) (l1 : K.lookup f1 = some ⟨oc1, od1, .func (PySem.W.fnOf "check_players" "check_players" (defArgs (st 8)) (defBody (st 8)) (defScope (st 8)) .none kV1 dc1 pm1 an1 cd1 ct1), sl1⟩) (c1 : PySem.W.codeIn K cd1 "check_players" = true) (k1 : PySem.W.keepIn K (.ref f1) = true)
    (a2 : PySem.W.nsIn K mainGlobals "fits" = some (some (.ref f2))) (l2 : K.lookup f2 = some ⟨oc2, od2, .func (PySem.W.fnOf "fits" "fits" (defArgs (st 9)) (defBody (st 9)) (defScope (st 9)) .none kV2 dc2 pm2 an2 cd2 ct2), sl2⟩) (c2 : PySem.W.codeIn K cd2 "fits" = true) (k2 : PySem.W.keepIn K (.ref f2) = true)
    (a3 : PySem.W.nsIn K mainGlobals "pairs_of" = some (some (.ref f3))) (l3 : K.lookup f3 = some ⟨oc3, od3, .func (PySem.W.fnOf "pairs_of" "pairs_of" (defArgs (st 10)) (defBody (st 10)) (defScope (st 10)) .none kV3 dc3 pm3 an3 cd3 ct3), sl3⟩) (c3 : PySem.W.codeIn K cd3 "pairs_of" = true) (k3 : PySem.W.keepIn K (.ref f3) = true)
    (a4 : PySem.W.nsIn K mainGlobals "pairs_met" = some (some (.ref f4))) (l4 : K.lookup f4 = some ⟨oc4, od4, .func (PySem.W.fnOf "pairs_met" "pairs_met" (defArgs (st 11)) (defBody (st 11)) (defScope (st 11)) .none kV4 dc4 pm4 an4 cd4 ct4), sl4⟩) (c4 : PySem.W.codeIn K cd4 "pairs_met" = true) (k4 : PySem.W.keepIn K (.ref f4) = true)
    (a5 : PySem.W.nsIn K mainGlobals "stands" = some (some (.ref f5))) (l5 : K.lookup f5 = some ⟨oc5, od5, .func (PySem.W.fnOf "stands" "stands" (defArgs (st 12)) (defBody (st 12)) (defScope (st 12)) .none kV5 dc5 pm5 an5 cd5 ct5), sl5⟩) (c5 : PySem.W.codeIn K cd5 "stands" = true) (k5 : PySem.W.keepIn K (.ref f5) = true)
    (a6 : PySem.W.nsIn K mainGlobals "is_plan" = some (some (.ref f6))) (l6 : K.lookup f6 = some ⟨oc6, od6, .func (PySem.W.fnOf "is_plan" "is_plan" (defArgs (st 13)) (defBody (st 13)) (defScope (st 13)) .none kV6 dc6 pm6 an6 cd6 ct6), sl6⟩) (c6 : PySem.W.codeIn K cd6 "is_plan" = true) (k6 : PySem.W.keepIn K (.ref f6) = true)
    (a7 : PySem.W.nsIn K mainGlobals "check_plan" = some (some (.ref f7))) (l7 : K.lookup f7 = some ⟨oc7, od7, .func (PySem.W.fnOf "check_plan" "check_plan" (defArgs (st 14)) (defBody (st 14)) (defScope (st 14)) .none kV7 dc7 pm7 an7 cd7 ct7), sl7⟩) (c7 : PySem.W.codeIn K cd7 "check_plan" = true) (k7 : PySem.W.keepIn K (.ref f7) = true)
    (a8 : PySem.W.nsIn K mainGlobals "all_pairs" = some (some (.ref f8))) (l8 : K.lookup f8 = some ⟨oc8, od8, .func (PySem.W.fnOf "all_pairs" "all_pairs" (defArgs (st 15)) (defBody (st 15)) (defScope (st 15)) .none kV8 dc8 pm8 an8 cd8 ct8), sl8⟩) (c8 : PySem.W.codeIn K cd8 "all_pairs" = true) (k8 : PySem.W.keepIn K (.ref f8) = true)
    (a9 : PySem.W.nsIn K mainGlobals "left_of" = some (some (.ref f9))) (l9 : K.lookup f9 = some ⟨oc9, od9, .func (PySem.W.fnOf "left_of" "left_of" (defArgs (st 16)) (defBody (st 16)) (defScope (st 16)) .none kV9 dc9 pm9 an9 cd9 ct9), sl9⟩) (c9 : PySem.W.codeIn K cd9 "left_of" = true) (k9 : PySem.W.keepIn K (.ref f9) = true)
    (a10 : PySem.W.nsIn K mainGlobals "pairs_left" = some (some (.ref f10))) (l10 : K.lookup f10 = some ⟨oc10, od10, .func (PySem.W.fnOf "pairs_left" "pairs_left" (defArgs (st 17)) (defBody (st 17)) (defScope (st 17)) .none kV10 dc10 pm10 an10 cd10 ct10), sl10⟩) (c10 : PySem.W.codeIn K cd10 "pairs_left" = true) (k10 : PySem.W.keepIn K (.ref f10) = true)
    (a11 : PySem.W.nsIn K mainGlobals "partners" = some (some (.ref f11))) (l11 : K.lookup f11 = some ⟨oc11, od11, .func (PySem.W.fnOf "partners" "partners" (defArgs (st 18)) (defBody (st 18)) (defScope (st 18)) .none kV11 dc11 pm11 an11 cd11 ct11), sl11⟩) (c11 : PySem.W.codeIn K cd11 "partners" = true) (k11 : PySem.W.keepIn K (.ref f11) = true)
    (a12 : PySem.W.nsIn K mainGlobals "players_of" = some (some (.ref f12))) (l12 : K.lookup f12 = some ⟨oc12, od12, .func (PySem.W.fnOf "players_of" "players_of" (defArgs (st 20)) (defBody (st 20)) (defScope (st 20)) .none kV12 dc12 pm12 an12 cd12 ct12), sl12⟩) (c12 : PySem.W.codeIn K cd12 "players_of" = true) (k12 : PySem.W.keepIn K (.ref f12) = true)
    (a13 : PySem.W.nsIn K mainGlobals "four_list" = some (some (.ref f13))) (l13 : K.lookup f13 = some ⟨oc13, od13, .func (PySem.W.fnOf "four_list" "four_list" (defArgs (st 21)) (defBody (st 21)) (defScope (st 21)) .none kV13 dc13 pm13 an13 cd13 ct13), sl13⟩) (c13 : PySem.W.codeIn K cd13 "four_list" = true) (k13 : PySem.W.keepIn K (.ref f13) = true)
    (a14 : PySem.W.nsIn K mainGlobals "fours" = some (some (.ref f14))) (l14 : K.lookup f14 = some ⟨oc14, od14, .func (PySem.W.fnOf "fours" "fours" (defArgs (st 22)) (defBody (st 22)) (defScope (st 22)) .none kV14 dc14 pm14 an14 cd14 ct14), sl14⟩) (c14 : PySem.W.codeIn K cd14 "fours" = true) (k14 : PySem.W.keepIn K (.ref f14) = true)
    (a15 : PySem.W.nsIn K mainGlobals "opposite" = some (some (.ref f15))) (l15 : K.lookup f15 = some ⟨oc15, od15, .func (PySem.W.fnOf "opposite" "opposite" (defArgs (st 23)) (defBody (st 23)) (defScope (st 23)) .none kV15 dc15 pm15 an15 cd15 ct15), sl15⟩) (c15 : PySem.W.codeIn K cd15 "opposite" = true) (k15 : PySem.W.keepIn K (.ref f15) = true)
    (a16 : PySem.W.nsIn K mainGlobals "exchanged" = some (some (.ref f16))) (l16 : K.lookup f16 = some ⟨oc16, od16, .func (PySem.W.fnOf "exchanged" "exchanged" (defArgs (st 24)) (defBody (st 24)) (defScope (st 24)) .none kV16 dc16 pm16 an16 cd16 ct16), sl16⟩) (c16 : PySem.W.codeIn K cd16 "exchanged" = true) (k16 : PySem.W.keepIn K (.ref f16) = true)
    (a17 : PySem.W.nsIn K mainGlobals "makes_day" = some (some (.ref f17))) (l17 : K.lookup f17 = some ⟨oc17, od17, .func (PySem.W.fnOf "makes_day" "makes_day" (defArgs (st 26)) (defBody (st 26)) (defScope (st 26)) .none kV17 dc17 pm17 an17 cd17 ct17), sl17⟩) (c17 : PySem.W.codeIn K cd17 "makes_day" = true) (k17 : PySem.W.keepIn K (.ref f17) = true)
    (a18 : PySem.W.nsIn K mainGlobals "day_list" = some (some (.ref f18))) (l18 : K.lookup f18 = some ⟨oc18, od18, .func (PySem.W.fnOf "day_list" "day_list" (defArgs (st 27)) (defBody (st 27)) (defScope (st 27)) .none kV18 dc18 pm18 an18 cd18 ct18), sl18⟩) (c18 : PySem.W.codeIn K cd18 "day_list" = true) (k18 : PySem.W.keepIn K (.ref f18) = true)
    (a19 : PySem.W.nsIn K mainGlobals "days_in" = some (some (.ref f19))) (l19 : K.lookup f19 = some ⟨oc19, od19, .func (PySem.W.fnOf "days_in" "days_in" (defArgs (st 28)) (defBody (st 28)) (defScope (st 28)) .none kV19 dc19 pm19 an19 cd19 ct19), sl19⟩) (c19 : PySem.W.codeIn K cd19 "days_in" = true) (k19 : PySem.W.keepIn K (.ref f19) = true)
    (a20 : PySem.W.nsIn K mainGlobals "open_list" = some (some (.ref f20))) (l20 : K.lookup f20 = some ⟨oc20, od20, .func (PySem.W.fnOf "open_list" "open_list" (defArgs (st 30)) (defBody (st 30)) (defScope (st 30)) .none kV20 dc20 pm20 an20 cd20 ct20), sl20⟩) (c20 : PySem.W.codeIn K cd20 "open_list" = true) (k20 : PySem.W.keepIn K (.ref f20) = true)
    (a21 : PySem.W.nsIn K mainGlobals "open_threes" = some (some (.ref f21))) (l21 : K.lookup f21 = some ⟨oc21, od21, .func (PySem.W.fnOf "open_threes" "open_threes" (defArgs (st 31)) (defBody (st 31)) (defScope (st 31)) .none kV21 dc21 pm21 an21 cd21 ct21), sl21⟩) (c21 : PySem.W.codeIn K cd21 "open_threes" = true) (k21 : PySem.W.keepIn K (.ref f21) = true)
    (a22 : PySem.W.nsIn K mainGlobals "_law_cell_at" = some (some (.ref f22))) (l22 : K.lookup f22 = some ⟨oc22, od22, .func (PySem.W.fnOf "_law_cell_at" "_law_cell_at" (defArgs (st 33)) (defBody (st 33)) (defScope (st 33)) .none kV22 dc22 pm22 an22 cd22 ct22), sl22⟩) (c22 : PySem.W.codeIn K cd22 "_law_cell_at" = true) (k22 : PySem.W.keepIn K (.ref f22) = true)
    (a23 : PySem.W.nsIn K mainGlobals "_law_mixed" = some (some (.ref f23))) (l23 : K.lookup f23 = some ⟨oc23, od23, .func (PySem.W.fnOf "_law_mixed" "_law_mixed" (defArgs (st 34)) (defBody (st 34)) (defScope (st 34)) .none kV23 dc23 pm23 an23 cd23 ct23), sl23⟩) (c23 : PySem.W.codeIn K cd23 "_law_mixed" = true) (k23 : PySem.W.keepIn K (.ref f23) = true)
    (a24 : PySem.W.nsIn K mainGlobals "_law_draw" = some (some (.ref f24))) (l24 : K.lookup f24 = some ⟨oc24, od24, .func (PySem.W.fnOf "_law_draw" "_law_draw" (defArgs (st 35)) (defBody (st 35)) (defScope (st 35)) .none kV24 dc24 pm24 an24 cd24 ct24), sl24⟩) (c24 : PySem.W.codeIn K cd24 "_law_draw" = true) (k24 : PySem.W.keepIn K (.ref f24) = true)
    (a25 : PySem.W.nsIn K mainGlobals "_law_pick" = some (some (.ref f25))) (l25 : K.lookup f25 = some ⟨oc25, od25, .func (PySem.W.fnOf "_law_pick" "_law_pick" (defArgs (st 36)) (defBody (st 36)) (defScope (st 36)) .none kV25 dc25 pm25 an25 cd25 ct25), sl25⟩) (c25 : PySem.W.codeIn K cd25 "_law_pick" = true) (k25 : PySem.W.keepIn K (.ref f25) = true)
    (a26 : PySem.W.nsIn K mainGlobals "_law_some_names" = some (some (.ref f26))) (l26 : K.lookup f26 = some ⟨oc26, od26, .func (PySem.W.fnOf "_law_some_names" "_law_some_names" (defArgs (st 37)) (defBody (st 37)) (defScope (st 37)) .none kV26 dc26 pm26 an26 cd26 ct26), sl26⟩) (c26 : PySem.W.codeIn K cd26 "_law_some_names" = true) (k26 : PySem.W.keepIn K (.ref f26) = true)
    (a27 : PySem.W.nsIn K mainGlobals "_law_named" = some (some (.ref f27))) (l27 : K.lookup f27 = some ⟨oc27, od27, .func (PySem.W.fnOf "_law_named" "_law_named" (defArgs (st 38)) (defBody (st 38)) (defScope (st 38)) .none kV27 dc27 pm27 an27 cd27 ct27), sl27⟩) (c27 : PySem.W.codeIn K cd27 "_law_named" = true) (k27 : PySem.W.keepIn K (.ref f27) = true)
    (a28 : PySem.W.nsIn K mainGlobals "law" = some (some (.ref f28))) (l28 : K.lookup f28 = some ⟨oc28, od28, .func (PySem.W.fnOf "law" "law" (defArgs (st 39)) (defBody (st 39)) (defScope (st 39)) .none kV28 dc28 pm28 an28 cd28 ct28), sl28⟩) (c28 : PySem.W.codeIn K cd28 "law" = true) (k28 : PySem.W.keepIn K (.ref f28) = true)
    (ea0 : PySem.W.nsIn K mainGlobals "InvalidPlayers" = some (some (.ref E0))) (eq0 : PySem.W.excIn K E0 [.type "ValueError", .type "Exception", .type "BaseException", .type "object"] "ValueError.__new__" = true) (ek0 : PySem.W.keepIn K (.ref E0) = true) (eb0 : PySem.W.subIn K (.ref E0) (.type "BaseException") = some true) (et0 : PySem.W.typeIn K (.ref E0) = some (.type "type"))
    (ea2 : PySem.W.nsIn K mainGlobals "InvalidPlan" = some (some (.ref E2))) (eq2 : PySem.W.excIn K E2 [.type "ValueError", .type "Exception", .type "BaseException", .type "object"] "ValueError.__new__" = true) (ek2 : PySem.W.keepIn K (.ref E2) = true) (eb2 : PySem.W.subIn K (.ref E2) (.type "BaseException") = some true) (et2 : PySem.W.typeIn K (.ref E2) = some (.type "type"))
    (ea3 : PySem.W.nsIn K mainGlobals "InvalidPlayer" = some (some (.ref E3))) (eq3 : PySem.W.excIn K E3 [.type "ValueError", .type "Exception", .type "BaseException", .type "object"] "ValueError.__new__" = true) (ek3 : PySem.W.keepIn K (.ref E3) = true) (eb3 : PySem.W.subIn K (.ref E3) (.type "BaseException") = some true) (et3 : PySem.W.typeIn K (.ref E3) = some (.type "type"))
    (ea4 : PySem.W.nsIn K mainGlobals "InvalidFour" = some (some (.ref E4))) (eq4 : PySem.W.excIn K E4 [.type "ValueError", .type "Exception", .type "BaseException", .type "object"] "ValueError.__new__" = true) (ek4 : PySem.W.keepIn K (.ref E4) = true) (eb4 : PySem.W.subIn K (.ref E4) (.type "BaseException") = some true) (et4 : PySem.W.typeIn K (.ref E4) = some (.type "type"))
    (z_range : PySem.W.nsIn K mainGlobals "range" = some none)
    (z_zip : PySem.W.nsIn K mainGlobals "zip" = some none)
    (z_enumerate : PySem.W.nsIn K mainGlobals "enumerate" = some none)
    (z_len : PySem.W.nsIn K mainGlobals "len" = some none)
    (z_set : PySem.W.nsIn K mainGlobals "set" = some none)
    (z_tuple : PySem.W.nsIn K mainGlobals "tuple" = some none)
    (z_list : PySem.W.nsIn K mainGlobals "list" = some none)
    (z_all : PySem.W.nsIn K mainGlobals "all" = some none)
    (z_any : PySem.W.nsIn K mainGlobals "any" = some none)
    (z_min : PySem.W.nsIn K mainGlobals "min" = some none)
    (z_max : PySem.W.nsIn K mainGlobals "max" = some none)
    (z_sorted : PySem.W.nsIn K mainGlobals "sorted" = some none)
    (z_int : PySem.W.nsIn K mainGlobals "int" = some none)
    (z_bool : PySem.W.nsIn K mainGlobals "bool" = some none)
    (z_str : PySem.W.nsIn K mainGlobals "str" = some none)
    (z_isinstance : PySem.W.nsIn K mainGlobals "isinstance" = some none)
    (hr : ∀ ns : List Int, ns.length ≤ 63 → rtTrue (runs P28 t_law (lawEnv 16) ⟨0, ns, []⟩) = true) :
    ∃ fd : FuncData, (∀ (s : Shared) (u : Value), BindsTo s fd ⟨[u], []⟩ [(("_law_script" : Str), u)]) ∧ ∀ base : Heap, K.In base → base.Ns mainGlobals mg → FnOk PySem.Challenge.pw_threeplans_k20_whole_exchanged_plans w K mg base (L2.CX PySem.Challenge.pw_threeplans_k20_whole_exchanged_plans w) 29 fa fd ["_law_script"] (spLaw K) := by
  have e := hfa.symm.trans (PySem.W.mg_of X G a28)
  cases e
  have FL := fun_mk (st := st 39) l28 c28 k28
  refine ⟨PySem.W.fnOf "law" "law" (defArgs (st 39)) (defBody (st 39)) (defScope (st 39)) .none kV28 dc28 pm28 an28 cd28 ct28, fun s v => .of_eq rfl, fun base _ _ => ?_⟩
  · have bl : ∀ x ∈ bnames, mg x = none := by
      intro x hx
      simp only [bnames, List.mem_cons, List.not_mem_nil, or_false] at hx
      rcases hx with rfl | rfl | rfl | rfl | rfl | rfl | rfl | rfl | rfl | rfl | rfl | rfl | rfl | rfl | rfl | rfl
      · exact PySem.W.mg_none_of X G z_range
      · exact PySem.W.mg_none_of X G z_zip
      · exact PySem.W.mg_none_of X G z_enumerate
      · exact PySem.W.mg_none_of X G z_len
      · exact PySem.W.mg_none_of X G z_set
      · exact PySem.W.mg_none_of X G z_tuple
      · exact PySem.W.mg_none_of X G z_list
      · exact PySem.W.mg_none_of X G z_all
      · exact PySem.W.mg_none_of X G z_any
      · exact PySem.W.mg_none_of X G z_min
      · exact PySem.W.mg_none_of X G z_max
      · exact PySem.W.mg_none_of X G z_sorted
      · exact PySem.W.mg_none_of X G z_int
      · exact PySem.W.mg_none_of X G z_bool
      · exact PySem.W.mg_none_of X G z_str
      · exact PySem.W.mg_none_of X G z_isinstance
    have ce : ∀ x c, cs.lookup x = some c → ExAt K mg x ((clsOf E0 E2 E3 E4) c) := by
      intro x c h
      have h := PySem.mem_of_lookup h
      simp only [cs, List.mem_cons, List.not_mem_nil, or_false, Prod.mk.injEq] at h
      rcases h with ⟨rfl, rfl⟩ | ⟨rfl, rfl⟩ | ⟨rfl, rfl⟩ | ⟨rfl, rfl⟩
      · exact exAt eq0 (PySem.W.mg_of X G ea0) ek0 eb0 et0 (by decide)
      · exact exAt eq2 (PySem.W.mg_of X G ea2) ek2 eb2 et2 (by decide)
      · exact exAt eq3 (PySem.W.mg_of X G ea3) ek3 eb3 et3 (by decide)
      · exact exAt eq4 (PySem.W.mg_of X G ea4) ek4 eb4 et4 (by decide)
    have T0 : Tb PySem.Challenge.pw_threeplans_k20_whole_exchanged_plans w K mg base 0 (clsOf E0 E2 E3 E4) cs gs F0 P0 0 := ⟨(fun x i n h => by cases h), bl, ce, (fun x z h => by cases h)⟩
    have T1 : Tb PySem.Challenge.pw_threeplans_k20_whole_exchanged_plans w K mg base 0 (clsOf E0 E2 E3 E4) cs gs F1 P1 1 := T0.add (d_is_integer (fun_mk l0 c0 k0) (PySem.W.mg_of X G a0)) h_is_integer (by decide +kernel) (by decide +kernel)
    have T2 : Tb PySem.Challenge.pw_threeplans_k20_whole_exchanged_plans w K mg base 0 (clsOf E0 E2 E3 E4) cs gs F2 P2 2 := T1.add (d_check_players (fun_mk l1 c1 k1) (PySem.W.mg_of X G a1)) h_check_players (by decide +kernel) (by decide +kernel)
    have T3 : Tb PySem.Challenge.pw_threeplans_k20_whole_exchanged_plans w K mg base 0 (clsOf E0 E2 E3 E4) cs gs F3 P3 3 := T2.add (d_fits (fun_mk l2 c2 k2) (PySem.W.mg_of X G a2)) h_fits (by decide +kernel) (by decide +kernel)
    have T4 : Tb PySem.Challenge.pw_threeplans_k20_whole_exchanged_plans w K mg base 0 (clsOf E0 E2 E3 E4) cs gs F4 P4 4 := T3.add (d_pairs_of (fun_mk l3 c3 k3) (PySem.W.mg_of X G a3)) h_pairs_of (by decide +kernel) (by decide +kernel)
    have T5 : Tb PySem.Challenge.pw_threeplans_k20_whole_exchanged_plans w K mg base 0 (clsOf E0 E2 E3 E4) cs gs F5 P5 5 := T4.add (d_pairs_met (fun_mk l4 c4 k4) (PySem.W.mg_of X G a4)) h_pairs_met (by decide +kernel) (by decide +kernel)
    have T6 : Tb PySem.Challenge.pw_threeplans_k20_whole_exchanged_plans w K mg base 0 (clsOf E0 E2 E3 E4) cs gs F6 P6 6 := T5.add (d_stands (fun_mk l5 c5 k5) (PySem.W.mg_of X G a5)) h_stands (by decide +kernel) (by decide +kernel)
    have T7 : Tb PySem.Challenge.pw_threeplans_k20_whole_exchanged_plans w K mg base 0 (clsOf E0 E2 E3 E4) cs gs F7 P7 7 := T6.add (d_is_plan (fun_mk l6 c6 k6) (PySem.W.mg_of X G a6)) h_is_plan (by decide +kernel) (by decide +kernel)
    have T8 : Tb PySem.Challenge.pw_threeplans_k20_whole_exchanged_plans w K mg base 0 (clsOf E0 E2 E3 E4) cs gs F8 P8 8 := T7.add (d_check_plan (fun_mk l7 c7 k7) (PySem.W.mg_of X G a7)) h_check_plan (by decide +kernel) (by decide +kernel)
    have T9 : Tb PySem.Challenge.pw_threeplans_k20_whole_exchanged_plans w K mg base 0 (clsOf E0 E2 E3 E4) cs gs F9 P9 9 := T8.add (d_all_pairs (fun_mk l8 c8 k8) (PySem.W.mg_of X G a8)) h_all_pairs (by decide +kernel) (by decide +kernel)
    have T10 : Tb PySem.Challenge.pw_threeplans_k20_whole_exchanged_plans w K mg base 0 (clsOf E0 E2 E3 E4) cs gs F10 P10 10 := T9.add (d_left_of (fun_mk l9 c9 k9) (PySem.W.mg_of X G a9)) h_left_of (by decide +kernel) (by decide +kernel)
    have T11 : Tb PySem.Challenge.pw_threeplans_k20_whole_exchanged_plans w K mg base 0 (clsOf E0 E2 E3 E4) cs gs F11 P11 11 := T10.add (d_pairs_left (fun_mk l10 c10 k10) (PySem.W.mg_of X G a10)) h_pairs_left (by decide +kernel) (by decide +kernel)
    have T12 : Tb PySem.Challenge.pw_threeplans_k20_whole_exchanged_plans w K mg base 0 (clsOf E0 E2 E3 E4) cs gs F12 P12 12 := T11.add (d_partners (fun_mk l11 c11 k11) (PySem.W.mg_of X G a11)) h_partners (by decide +kernel) (by decide +kernel)
    have T13 : Tb PySem.Challenge.pw_threeplans_k20_whole_exchanged_plans w K mg base 0 (clsOf E0 E2 E3 E4) cs gs F13 P13 13 := T12.add (d_players_of (fun_mk l12 c12 k12) (PySem.W.mg_of X G a12)) h_players_of (by decide +kernel) (by decide +kernel)
    have T14 : Tb PySem.Challenge.pw_threeplans_k20_whole_exchanged_plans w K mg base 0 (clsOf E0 E2 E3 E4) cs gs F14 P14 14 := T13.add (d_four_list (fun_mk l13 c13 k13) (PySem.W.mg_of X G a13)) h_four_list (by decide +kernel) (by decide +kernel)
    have T15 : Tb PySem.Challenge.pw_threeplans_k20_whole_exchanged_plans w K mg base 0 (clsOf E0 E2 E3 E4) cs gs F15 P15 15 := T14.add (d_fours (fun_mk l14 c14 k14) (PySem.W.mg_of X G a14)) h_fours (by decide +kernel) (by decide +kernel)
    have T16 : Tb PySem.Challenge.pw_threeplans_k20_whole_exchanged_plans w K mg base 0 (clsOf E0 E2 E3 E4) cs gs F16 P16 16 := T15.add (d_opposite (fun_mk l15 c15 k15) (PySem.W.mg_of X G a15)) h_opposite (by decide +kernel) (by decide +kernel)
    have T17 : Tb PySem.Challenge.pw_threeplans_k20_whole_exchanged_plans w K mg base 0 (clsOf E0 E2 E3 E4) cs gs F17 P17 17 := T16.add (d_exchanged (fun_mk l16 c16 k16) (PySem.W.mg_of X G a16)) h_exchanged (by decide +kernel) (by decide +kernel)
    have T18 : Tb PySem.Challenge.pw_threeplans_k20_whole_exchanged_plans w K mg base 0 (clsOf E0 E2 E3 E4) cs gs F18 P18 18 := T17.add (d_makes_day (fun_mk l17 c17 k17) (PySem.W.mg_of X G a17)) h_makes_day (by decide +kernel) (by decide +kernel)
    have T19 : Tb PySem.Challenge.pw_threeplans_k20_whole_exchanged_plans w K mg base 0 (clsOf E0 E2 E3 E4) cs gs F19 P19 19 := T18.add (d_day_list (fun_mk l18 c18 k18) (PySem.W.mg_of X G a18)) h_day_list (by decide +kernel) (by decide +kernel)
    have T20 : Tb PySem.Challenge.pw_threeplans_k20_whole_exchanged_plans w K mg base 0 (clsOf E0 E2 E3 E4) cs gs F20 P20 20 := T19.add (d_days_in (fun_mk l19 c19 k19) (PySem.W.mg_of X G a19)) h_days_in (by decide +kernel) (by decide +kernel)
    have T21 : Tb PySem.Challenge.pw_threeplans_k20_whole_exchanged_plans w K mg base 0 (clsOf E0 E2 E3 E4) cs gs F21 P21 21 := T20.add (d_open_list (fun_mk l20 c20 k20) (PySem.W.mg_of X G a20)) h_open_list (by decide +kernel) (by decide +kernel)
    have T22 : Tb PySem.Challenge.pw_threeplans_k20_whole_exchanged_plans w K mg base 0 (clsOf E0 E2 E3 E4) cs gs F22 P22 22 := T21.add (d_open_threes (fun_mk l21 c21 k21) (PySem.W.mg_of X G a21)) h_open_threes (by decide +kernel) (by decide +kernel)
    have T23 : Tb PySem.Challenge.pw_threeplans_k20_whole_exchanged_plans w K mg base 0 (clsOf E0 E2 E3 E4) cs gs F23 P23 23 := T22.add (d__law_cell_at (fun_mk l22 c22 k22) (PySem.W.mg_of X G a22)) h__law_cell_at (by decide +kernel) (by decide +kernel)
    have T24 : Tb PySem.Challenge.pw_threeplans_k20_whole_exchanged_plans w K mg base 0 (clsOf E0 E2 E3 E4) cs gs F24 P24 24 := T23.add (d__law_mixed (fun_mk l23 c23 k23) (PySem.W.mg_of X G a23)) h__law_mixed (by decide +kernel) (by decide +kernel)
    have T25 : Tb PySem.Challenge.pw_threeplans_k20_whole_exchanged_plans w K mg base 0 (clsOf E0 E2 E3 E4) cs gs F25 P25 25 := T24.add (d__law_draw (fun_mk l24 c24 k24) (PySem.W.mg_of X G a24)) h__law_draw (by decide +kernel) (by decide +kernel)
    have T26 : Tb PySem.Challenge.pw_threeplans_k20_whole_exchanged_plans w K mg base 0 (clsOf E0 E2 E3 E4) cs gs F26 P26 26 := T25.add (d__law_pick (fun_mk l25 c25 k25) (PySem.W.mg_of X G a25)) h__law_pick (by decide +kernel) (by decide +kernel)
    have T27 : Tb PySem.Challenge.pw_threeplans_k20_whole_exchanged_plans w K mg base 0 (clsOf E0 E2 E3 E4) cs gs F27 P27 27 := T26.add (d__law_some_names (fun_mk l26 c26 k26) (PySem.W.mg_of X G a26)) h__law_some_names (by decide +kernel) (by decide +kernel)
    have T28 : Tb PySem.Challenge.pw_threeplans_k20_whole_exchanged_plans w K mg base 0 (clsOf E0 E2 E3 E4) cs gs F28 P28 28 := T27.add (d__law_named (fun_mk l27 c27 k27) (PySem.W.mg_of X G a27)) h__law_named (by decide +kernel) (by decide +kernel)
    refine law_def T28 FL s_law (by kernel_rfl) h_law (by decide +kernel) (by decide +kernel) ?_
    have e : (slotN (defScope (st 39))).length = 16 := by decide +kernel
    rw [e]
    exact hr
end
end K20
namespace K20
open PySem L2 TP
open TP.Enc (enc)
theorem g_is_integer : IsIntOk Pm 0 := fun x lo hi g => (congrFun (congrFun q_is_integer _) _).trans (v_isInt Pm x lo hi g)
theorem g_check_players : ChPlayersOk Pm 1 := fun n g h1 h2 => (congrFun (congrFun q_check_players _) _).trans (v_check_players g_is_integer n h1 h2)
theorem g_fits : FitsOk Pm 2 := fun n t g h => (congrFun (congrFun q_fits _) _).trans (v_fits g_is_integer n t h)
theorem g_pairs_of : PairsOfOk Pm 3 := fun t g => (congrFun (congrFun q_pairs_of _) _).trans (v_pairs_of t)
theorem g_pairs_met : PairsMetOk Pm 4 := fun p g h => (congrFun (congrFun q_pairs_met _) _).trans (v_pairs_met g_pairs_of p h)
theorem g_stands : StandsOk Pm 5 := fun n p g h1 h2 => (congrFun (congrFun q_stands _) _).trans (v_stands g_fits g_pairs_met n p h1 h2)
theorem g_is_plan : IsPlanOk Pm 6 := fun n p g h1 h2 h3 => (congrFun (congrFun q_is_plan _) _).trans (v_is_plan g_check_players g_stands n p h1 h2 h3)
theorem g_check_plan : ChPlanOk Pm 7 := fun n p g h => (congrFun (congrFun q_check_plan _) _).trans (v_check_plan g_check_players g_stands h)
theorem g_all_pairs : AllPairsOk Pm 8 := fun n g h => (congrFun (congrFun q_all_pairs _) _).trans (v_all_pairs n h)
theorem g_left_of : LeftOk Pm 9 := fun n p g h1 h2 => (congrFun (congrFun q_left_of _) _).trans (v_left_of g_pairs_met g_all_pairs n p h1 h2)
theorem g_pairs_left : PairsLeftOk Pm 10 := fun n p g h => (congrFun (congrFun q_pairs_left _) _).trans (v_pairs_left g_check_plan g_left_of h)
theorem g_partners : PartnersOk Pm 11 := fun n p x g h hx => (congrFun (congrFun q_partners _) _).trans (v_partners g_check_plan g_is_integer g_pairs_met h hx)
theorem g_partnersX : PartnersXOk Pm 11 := fun n p x g h hx => (congrFun (congrFun q_partners _) _).trans (v_partnersX g_check_plan g_is_integer h hx)
theorem g_players_of : PlayersOfOk Pm 12 := fun l g h1 h2 => (congrFun (congrFun q_players_of _) _).trans (v_players_of l h1 h2)
theorem g_four_list : FourListOk Pm 13 := fun p g h1 h2 h3 => (congrFun (congrFun q_four_list _) _).trans (v_four_list g_players_of h1 h2 h3)
theorem g_fours : FoursOk Pm 14 := fun n p g h => (congrFun (congrFun q_fours _) _).trans (v_fours g_check_plan g_four_list h)
theorem g_opposite : OppOk Pm 15 := fun f g h1 h2 h3 => (congrFun (congrFun q_opposite _) _).trans (v_opposite g_pairs_met g_players_of h1 h2 h3)
theorem g_exchanged : ExchOk Pm 16 := fun n p f g h hf hc => (congrFun (congrFun q_exchanged _) _).trans (v_exchanged g_check_plan g_four_list g_opposite h hf hc)
theorem g_makes_day : MakesDayOk Pm 17 := fun n d g h1 h2 h3 => (congrFun (congrFun q_makes_day _) _).trans (v_makes_day g_fits n d h1 h2 h3)
theorem g_day_list : DayListOk Pm 18 := fun n p g h => (congrFun (congrFun q_day_list _) _).trans (v_day_list g_makes_day h)
theorem g_days_in : DaysInOk Pm 19 := fun n p g h => (congrFun (congrFun q_days_in _) _).trans (v_days_in g_check_plan g_day_list h)
theorem g_open_list : OpenListOk Pm 20 := fun n p g h1 h2 => (congrFun (congrFun q_open_list _) _).trans (v_open_list g_all_pairs g_left_of g_pairs_of n p h1 h2)
theorem g_open_threes : OpenThreesOk Pm 21 := fun n p g h => (congrFun (congrFun q_open_threes _) _).trans (v_open_threes g_check_plan g_open_list h)
theorem g__law_draw : DrawN Pm 24 := drawN_of (drawOk_of q__law_cell_at q__law_mixed q__law_draw)
theorem g__law_pick : PickT Pm 25 := pickT_of g__law_draw q__law_pick
theorem g__law_some_names : NamesOk Pm 26 := by intro n g hn hr; rw [q__law_some_names]; exact v_some_names g__law_pick hn hr
theorem g__law_named : NamedOk Pm 27 := fun p names g h1 h2 => (congrFun (congrFun q__law_named _) _).trans (v_named p names h1 h2)
end K20
namespace K20
open PySem L2 TP
open TP.Enc (enc)
def Fo (names : List Nat) : List T3 := namedOf qA names
def Du (names : List Nat) : List T3 := namedOf qB names
theorem qA_pl : Apart3 6 qA := (isPlan_iff.mp (show isPlan 6 qA = true by decide +kernel)).1
theorem qB_pl : Apart3 6 qB := (isPlan_iff.mp (show isPlan 6 qB = true by decide +kernel)).1
theorem upA {n m : Nat} (h : n ≤ m) {p : List T3} (ha : Apart3 n p) : Apart3 m p := ⟨fun t ht => up h (ha.val t ht), ha.nd, ha.nc⟩
theorem qAB : ∀ t, t ∈ qA → t ∉ qB := fun t ht => by
  have := List.all_eq_true.mp (show qA.all (fun a => !mem a qB) = true by decide) t ht
  rw [Bool.not_eq_true', mem_false] at this
  exact this
structure Own (n : Nat) (names : List Nat) (own : List T3) : Prop where
  nm : Nms n names
  h6 : 6 ≤ n
  pl : Pl n own
  sub : ∀ t, t ∈ Fo names → t ∈ own
section
variable {n : Nat} {names : List Nat} {own : List T3} (h : K20.Own n names own)
include h
theorem fo_ap : Apart3 n (Fo names) := named_apart h.nm (upA h.h6 qA_pl)
theorem du_ap : Apart3 n (Du names) := named_apart h.nm (upA h.h6 qB_pl)
theorem fo_so : Sorted (Fo names) := isort_sorted (ren_apart h.nm (upA h.h6 qA_pl)).nd
theorem du_so : Sorted (Du names) := isort_sorted (ren_apart h.nm (upA h.h6 qB_pl)).nd
theorem fo_not {t : T3} (h1 : t ∈ Fo names) (h2 : t ∈ Du names) : False := by
  obtain ⟨a, ha, rfl⟩ := mem_named.mp h1
  obtain ⟨b, hb, e⟩ := mem_named.mp h2
  have := ren_inj h.nm (up h.h6 (qB_v b hb)) (up h.h6 (qA_v a ha)) e
  exact qAB a ha (this ▸ hb)
theorem met_fd {q : Nat × Nat} (h1 : q.1 < q.2) (h2 : q.2 < n) : q ∈ met (Fo names) ↔ q ∈ met (Du names) := by
  have := four_met h.nm h.h6 h.pl.hi (x := q.1) (y := q.2) (by omega) h2 h1
  rw [← mem_iff, ← mem_iff]
  exact Bool.eq_iff_iff.mp this
def rest (own : List T3) (names : List Nat) : List T3 := own.filter fun t => !mem t (Fo names)
omit h in
theorem mem_rest {t : T3} : t ∈ rest own names ↔ t ∈ own ∧ t ∉ Fo names := by
  unfold rest
  rw [List.mem_filter, Bool.not_eq_true', mem_false]
/-- a due three's pairs are the four's -/
theorem du_pair {t s : T3} {q : Nat × Nat} (ht : t ∈ Du names) (hq : q ∈ pairsOf t) (hs : s ∈ own) (hq2 : q ∈ pairsOf s) : s ∈ Fo names := by
  have hv := (du_ap h).val t ht
  obtain ⟨l1, l2⟩ := pair_lt hv hq
  obtain ⟨u, hu, hqu⟩ := mem_met.mp ((met_fd h l1 l2).mpr (mem_met.mpr ⟨t, ht, hq⟩))
  rw [one_pair h.pl.ap hs (h.sub u hu) hq2 hqu]
  exact hu
theorem du_own {t : T3} (ht : t ∈ Du names) : t ∉ own := fun z => fo_not h (du_pair h ht (q := (t.a, t.b)) (by simp [pairsOf]) z (by simp [pairsOf])) ht
theorem opp_fo : (oppOf (Fo names)).Perm (Du names) := four_opp h.nm h.h6 h.pl.hi qA_v qA_c qA_o
theorem opp_du : (oppOf (Du names)).Perm (Fo names) := four_opp h.nm h.h6 h.pl.hi qB_v qB_c qB_o
theorem mem_got {t : T3} : t ∈ exchOf own (Fo names) ↔ t ∈ rest own names ∨ t ∈ Du names := by
  unfold exchOf
  rw [mem_isort, List.mem_append, (opp_fo h).mem_iff]
  rfl
theorem got_ap : Apart3 n (exchOf own (Fo names)) := by
  have hv : ∀ t, t ∈ exchOf own (Fo names) → valid n t := fun t ht => by
    rcases (mem_got h).mp ht with z | z
    · exact h.pl.ap.val t (mem_rest.mp z).1
    · exact (du_ap h).val t z
  refine ⟨hv, ?_, fun s hs t ht hne => ?_⟩
  · refine (isort_perm _).nodup_iff.mpr (List.nodup_append.mpr ⟨h.pl.ap.nd.filter _, (opp_fo h).nodup_iff.mpr (du_ap h).nd, fun a ha b hb e => ?_⟩)
    subst e
    exact du_own h ((opp_fo h).mem_iff.mp hb) (List.mem_filter.mp ha).1
  · have cross : ∀ s t, s ∈ rest own names → t ∈ Du names → clash s t = false := fun s t hs ht => by
      rw [← Bool.not_eq_true, clash_iff (h.pl.ap.val s (mem_rest.mp hs).1) ((du_ap h).val t ht)]
      rintro ⟨q, h1, h2⟩
      exact (mem_rest.mp hs).2 (du_pair h ht h2 (mem_rest.mp hs).1 h1)
    rcases (mem_got h).mp hs with a | a
    · rcases (mem_got h).mp ht with b | b
      · exact h.pl.ap.nc s (mem_rest.mp a).1 t (mem_rest.mp b).1 hne
      · exact cross s t a b
    · rcases (mem_got h).mp ht with b | b
      · rw [clash_symm (hv s hs) (hv t ht)]
        exact cross t s b a
      · exact (du_ap h).nc s a t b hne
theorem got_so : Sorted (exchOf own (Fo names)) := isort_sorted ((isort_perm _).nodup_iff.mp (got_ap h).nd)
theorem got_pl : Pl n (exchOf own (Fo names)) := ⟨h.pl.lo, h.pl.hi, got_ap h, got_so h⟩
theorem got_met {q : Nat × Nat} (h1 : q.1 < q.2) (h2 : q.2 < n) : mem q (met (exchOf own (Fo names))) = mem q (met own) := by
  rw [Bool.eq_iff_iff, mem_iff, mem_iff, mem_met, mem_met]
  constructor
  · rintro ⟨t, ht, hq⟩
    rcases (mem_got h).mp ht with z | z
    · exact ⟨t, (mem_rest.mp z).1, hq⟩
    · obtain ⟨u, hu, hqu⟩ := mem_met.mp ((met_fd h h1 h2).mpr (mem_met.mpr ⟨t, z, hq⟩))
      exact ⟨u, h.sub u hu, hqu⟩
  · rintro ⟨t, ht, hq⟩
    by_cases z : t ∈ Fo names
    · obtain ⟨u, hu, hqu⟩ := mem_met.mp ((met_fd h h1 h2).mp (mem_met.mpr ⟨t, z, hq⟩))
      exact ⟨u, (mem_got h).mpr (.inr hu), hqu⟩
    · exact ⟨t, (mem_got h).mpr (.inl (mem_rest.mpr ⟨ht, z⟩)), hq⟩
theorem got_new : (exchOf own (Fo names)).filter (fun t => !mem t own) = Du names := by
  refine sorted_ext (List.Pairwise.filter _ (got_so h)) (du_so h) fun t => ?_
  rw [List.mem_filter, Bool.not_eq_true', mem_false, mem_got h]
  constructor
  · rintro ⟨a | a, b⟩
    · exact absurd (mem_rest.mp a).1 b
    · exact a
  · exact fun a => ⟨.inr a, du_own h a⟩
theorem got_left : leftOf n (exchOf own (Fo names)) = leftOf n own := by
  unfold leftOf
  refine List.filter_congr fun q hq => ?_
  obtain ⟨a, b⟩ := mem_pairs.mp hq
  rw [got_met h a b]
theorem got_partners (x : Nat) (hx : x < n) : partnersOf n (exchOf own (Fo names)) x = partnersOf n own x := by
  unfold partnersOf
  refine List.filter_congr fun y hy => ?_
  rw [List.mem_range] at hy
  by_cases e : y = x
  · subst e
    have no : ∀ p : List T3, (∀ t, t ∈ p → valid n t) → mem (min y y, max y y) (met p) = false := fun p hp => by
      rw [mem_false]
      intro z
      obtain ⟨t, ht, hq⟩ := mem_met.mp z
      have := (pair_lt (hp t ht) hq).1
      simp only at this
      omega
    rw [no _ (got_ap h).val, no _ h.pl.ap.val]
  · exact got_met h (q := (min y x, max y x)) (by simp only; omega) (by simp only; omega)
theorem got_free : TP.freeOf n (exchOf own (Fo names)) = TP.freeOf n own := by
  have key : ∀ p : List T3, (∀ s, s ∈ p → valid n s) → ∀ t, valid n t → (p.all fun s => !clash t s) = (pairsOf t).all fun q => !mem q (met p) := fun p hp t ht => by
    rw [Bool.eq_iff_iff, List.all_eq_true, List.all_eq_true]
    constructor
    · intro h1 q hq
      rw [Bool.not_eq_true', mem_false]
      intro z
      obtain ⟨s, hs, hqs⟩ := mem_met.mp z
      have := h1 s hs
      rw [(clash_iff ht (hp s hs)).mpr ⟨q, hq, hqs⟩] at this
      cases this
    · intro h1 s hs
      rw [Bool.not_eq_true', ← Bool.not_eq_true, clash_iff ht (hp s hs)]
      rintro ⟨q, hq, hqs⟩
      have := h1 q hq
      rw [Bool.not_eq_true', mem_false] at this
      exact this (mem_met.mpr ⟨s, hs, hqs⟩)
  unfold TP.freeOf
  refine List.filter_congr fun t ht => ?_
  have hv := mem_every.mp ht
  rw [key _ (got_ap h).val t hv, key _ h.pl.ap.val t hv]
  rw [Bool.eq_iff_iff, List.all_eq_true, List.all_eq_true]
  constructor
  · intro h1 q hq
    obtain ⟨a, b⟩ := pair_lt hv hq
    rw [← got_met h a b]
    exact h1 q hq
  · intro h1 q hq
    obtain ⟨a, b⟩ := pair_lt hv hq
    rw [got_met h a b]
    exact h1 q hq
theorem du_four : Du names ∈ fourList (exchOf own (Fo names)) := (mem_fours (got_so h)).mpr ⟨⟨du_so h, fun t ht => (mem_got h).mpr (.inr ht)⟩, four_ren h.pl.hi h.nm (fun t ht => up h.h6 (qB_v t ht)) qB_4⟩
theorem fo_four : Fo names ∈ fourList own := (mem_fours h.pl.so).mpr ⟨⟨fo_so h, h.sub⟩, four_ren h.pl.hi h.nm (fun t ht => up h.h6 (qA_v t ht)) qA_4⟩
theorem back : exchOf (exchOf own (Fo names)) (Du names) = own := by
  have hnd : ((exchOf own (Fo names)).filter (fun t => !mem t (Du names)) ++ oppOf (Du names)).Nodup := by
    refine List.nodup_append.mpr ⟨(got_ap h).nd.filter _, (opp_du h).nodup_iff.mpr (fo_ap h).nd, fun a ha b hb e => ?_⟩
    subst e
    obtain ⟨h1, h2⟩ := List.mem_filter.mp ha
    rw [Bool.not_eq_true', mem_false] at h2
    rcases (mem_got h).mp h1 with z | z
    · exact (mem_rest.mp z).2 ((opp_du h).mem_iff.mp hb)
    · exact h2 z
  refine sorted_ext (isort_sorted hnd) h.pl.so fun t => ?_
  unfold exchOf
  rw [mem_isort, List.mem_append, (opp_du h).mem_iff, List.mem_filter, Bool.not_eq_true', mem_false]
  show ((t ∈ exchOf own (Fo names) ∧ _) ∨ _) ↔ _
  rw [mem_got h, mem_rest]
  constructor
  · rintro (⟨⟨a, _⟩ | a, b⟩ | a)
    · exact a
    · exact absurd a b
    · exact h.sub t a
  · intro ht
    by_cases z : t ∈ Fo names
    · exact .inr z
    · exact .inl ⟨.inl ⟨ht, z⟩, fun d => du_own h d ht⟩
theorem days_alike : (dayList n own).filter (fun d => (d.filter fun t => mem t (Fo names)).isEmpty) = (dayList n (exchOf own (Fo names))).filter (fun d => (d.filter fun t => mem t (Du names)).isEmpty) := by
  refine sortedP_ext ((dayList_sorted h.pl.so).filter _) ((dayList_sorted (got_so h)).filter _) fun d => ?_
  have key : ∀ L : List T3, (d.filter fun t => mem t L).isEmpty = true ↔ ∀ t, t ∈ d → t ∉ L := fun L => by
    rw [List.isEmpty_iff, List.filter_eq_nil_iff]
    exact ⟨fun h t ht z => h t ht (mem_iff.mpr z), fun h t ht z => h t ht (mem_iff.mp z)⟩
  rw [List.mem_filter, List.mem_filter, mem_dayList h.pl.ap.val, mem_dayList (got_ap h).val, key, key]
  constructor
  · rintro ⟨⟨a, b, c⟩, e⟩
    exact ⟨⟨a, fun t ht => (mem_got h).mpr (.inl (mem_rest.mpr ⟨b t ht, e t ht⟩)), c⟩, fun t ht z => du_own h z (b t ht)⟩
  · rintro ⟨⟨a, b, c⟩, e⟩
    have hr : ∀ t, t ∈ d → t ∈ rest own names := fun t ht => ((mem_got h).mp (b t ht)).resolve_right (e t ht)
    exact ⟨⟨a, fun t ht => (mem_rest.mp (hr t ht)).1, c⟩, fun t ht => (mem_rest.mp (hr t ht)).2⟩
end
end K20
namespace K20
open PySem L2 TP
open TP.Enc (enc)
theorem dself {α : Type} [DecidableEq α] (x : α) : decide (x = x) = true := decide_eq_true rfl
def PP (l : List T3) : Option W := some (.d (enc l))
def E20 (n : Nat) (names : List Nat) (a5 a6 a8 a9 a10 a14 a15 : Option W) : Env' := [some .scr, some .twn, some (.d (enc n)), some (.d (enc names)), some (.d (enc (Fo names))), a5, a6, none, a8, a9, a10, none, none, none, a14, a15]
def LF (n : Nat) (p : List T3) : Option W := some (.d (.list ((TP.freeOf n p).map enc)))
def LO (p : List T3) : Option W := some (.own (.lst (p.map enc)))
variable {n : Nat} {names : List Nat} {g : G}
theorem c4 (h : Nms n names) (h6 : 6 ≤ n) (h9 : n ≤ 9) (hr : Rm g 10) : ∃ made g', runs Pm ((t_law.drop 4).take 1) (E20 n names (LO (Fo names)) (LF n (Fo names)) none none none none none) g = .nx (E20 n names (LO made) (LF n (isort made)) none none none none none) g' ∧ Apart3 n made ∧ (∀ t, t ∈ Fo names → t ∈ made) := by
  have ha0 : Apart3 n (Fo names) := named_apart h (upA h6 qA_pl)
  have hs0 : Sorted (Fo names) := isort_sorted (ren_apart h (upA h6 qA_pl)).nd
  obtain ⟨r, r1, g1, e1, hg1⟩ := g__law_draw g 5 (hr.mono (by omega)) (by omega)
  let st : List T3 → Env' := fun made => [some .scr, some .twn, some (.d (enc n)), some (.d (enc names)), some (.d (enc (Fo names))), some (.own (.lst (made.map enc))), some (.d (.list ((TP.freeOf n (isort made)).map enc))), none, none, none, none, none, none, none, none, none]
  let Inv : List Nat → Env' → G → Prop := fun l ρ g' => ∃ made, ρ = st made ∧ Apart3 n made ∧ (∀ t, t ∈ Fo names → t ∈ made) ∧ Gr g g' (1 + l.length)
  have hfor := run_forEx (Φ := Pm) (ρ := st (Fo names)) (g := g) (g1 := g1) (xs := List.range r) (t := .one 7) (s := (.rng1 (.call 24 (.cons (.v 0) (.cons (.v 1) (.cons (.c (enc (5 : Nat))) .nil))))))
    (b := (.cons (.ife (.o2 .ne (.v 6) (.lst .nil)) (.cons (.app 5 (.call 25 (.cons (.v 0) (.cons (.v 1) (.cons (.v 6) .nil))))) (.cons (.asg 6 false (.call 21 (.cons (.v 2) (.cons (.blt .tup (.cons (.blt .sorted (.cons (.v 5) .nil)) .nil)) .nil)))) .nil)) .nil) .nil)) Inv (by
      show evi Pm true _ [some .scr, some .twn, some (.d (enc n)), some (.d (enc names)), some (.d (enc (Fo names))), some (.own (.lst ((Fo names).map enc))), some (.d (.list ((TP.freeOf n (isort (Fo names))).map enc))), none, none, none, none, none, none, none, none, none] g = _
      dsimp! [e1]) ⟨Fo names, rfl, ha0, fun t ht => ht, hg1.mono (by simp)⟩ (by
      rintro l x r' ρ g' e ⟨made, rfl, ha, hsub, hg⟩
      have hll := pre_len e
      rw [List.length_range] at hll
      by_cases hf : TP.freeOf n (isort made) = []
      · refine ⟨st made, g', ?_, made, rfl, ha, hsub, hg.mono (by simp)⟩
        show turn _ _ _ [some .scr, some .twn, some (.d (enc n)), some (.d (enc names)), some (.d (enc (Fo names))), some (.own (.lst (made.map enc))), some (.d (.list ((TP.freeOf n (isort made)).map enc))), none, none, none, none, none, none, none, none, none] g' = _
        dsimp! [show (TP.freeOf n (isort made)).isEmpty = true by rw [hf]; rfl]
        rfl
      · obtain ⟨t, ht, g2, e2, hg2⟩ := (g__law_pick T3 g' (TP.freeOf n (isort made)) (hg.rm (k := 1) (hr.mono (by omega))) hf).1
        obtain ⟨vt, ct⟩ := freeOf_mem ht
        have ha2 : Apart3 n (made ++ [t]) := ha.snoc vt fun s hs => by rw [clash_symm (ha.val s hs) vt]; exact ct s (mem_isort.mpr hs)
        have hml := ha.len h9
        have hP : Pl n (isort (made ++ [t])) := ⟨by omega, h9, ha2.perm (isort_perm _).symm, isort_sorted ha2.nd⟩
        have hs1 := sorted_T (xs := made ++ [t]) (by rw [List.length_append, List.length_singleton]; omega)
        refine ⟨st (made ++ [t]), g2, ?_, made ++ [t], rfl, ha2, fun s hs => List.mem_append.mpr (.inl (hsub s hs)), (hg.trans hg2).mono (by simp; omega)⟩
        show turn _ _ _ [some .scr, some .twn, some (.d (enc n)), some (.d (enc names)), some (.d (enc (Fo names))), some (.own (.lst (made.map enc))), some (.d (.list ((TP.freeOf n (isort made)).map enc))), none, none, none, none, none, none, none, none, none] g' = _
        dsimp! [show (TP.freeOf n (isort made)).isEmpty = false by rw [← Bool.not_eq_true, List.isEmpty_iff]; exact hf, e2, hs1, g_open_threes n _ _ hP]
        rfl)
  obtain ⟨ρ', g', e2, made, rfl, ha, hsub, hg⟩ := hfor
  refine ⟨made, g', ?_, ha, hsub⟩
  rw [show LF n (Fo names) = LF n (isort (Fo names)) by rw [isort_id hs0]]
  unfold E20 LO LF
  dsimp only [t_law, SL.drop, SL.take]
  dsimp! []
  have e2' : run Pm _ [some .scr, some .twn, some (.d (enc n)), some (.d (enc names)), some (.d (enc (Fo names))), some (.own (.lst ((Fo names).map enc))), some (.d (.list ((TP.freeOf n (isort (Fo names))).map enc))), none, none, none, none, none, none, none, none, none] g = .nx [some .scr, some .twn, some (.d (enc n)), some (.d (enc names)), some (.d (enc (Fo names))), some (.own (.lst (made.map enc))), some (.d (.list ((TP.freeOf n (isort made)).map enc))), none, none, none, none, none, none, none, none, none] g' := e2
  rw [e2']
  dsimp! []
end K20
namespace K20
open PySem L2 TP
open TP.Enc (enc)
variable {n : Nat} {names : List Nat} {g : G}
abbrev Got (own : List T3) (names : List Nat) : List T3 := exchOf own (Fo names)
theorem foldB : PyData.tuple [enc (⟨0, 1, 3⟩ : T3), enc (⟨0, 2, 4⟩ : T3), enc (⟨1, 2, 5⟩ : T3), enc (⟨3, 4, 5⟩ : T3)] = enc qB := rfl
theorem foldA : PyData.tuple [enc (⟨0, 1, 2⟩ : T3), enc (⟨0, 3, 4⟩ : T3), enc (⟨1, 3, 5⟩ : T3), enc (⟨2, 4, 5⟩ : T3)] = enc qA := rfl
theorem c5 {made : List T3} (h : K20.Own n names (isort made)) : runs Pm ((t_law.drop 5).take 5) (E20 n names (LO made) (LF n (isort made)) none none none none none) g = .nx (E20 n names (LO made) (LF n (isort made)) (PP (isort made)) (PP (Got (isort made) names)) (PP (Du names)) none none) g := by
  have h1 := h.pl.lo
  have h2 := h.pl.hi
  have h3 := h.pl.len
  have hml : made.length ≤ 12 := by rw [← isort_len made]; exact h3
  have hs1 := sorted_T (xs := made) (by omega)
  have h4 : mem (Fo names) (fourList (isort made)) = true := mem_iff.mpr (fo_four h)
  have hG := got_pl h
  have hgl := hG.len
  have hnl := h.nm.len
  have h6 := h.h6
  have hqB : ∀ t, t ∈ qB → t.a < names.length ∧ t.b < names.length ∧ t.c < names.length := fun t ht => by
    have := qB_v t ht
    unfold valid at this
    omega
  have hN := g__law_named qB names g (by decide) hqB
  have hX := g_exchanged n (isort made) (Fo names) g h.pl (fo_four h) (four_cand h.nm h.h6 h2 qA_v qA_c)
  have hnew := got_new h
  have hfree := got_free h
  have hsD := dself (Du names)
  have hsF := dself (TP.freeOf n (isort made))
  have hl21 : (isort made).length ≤ 21 := by omega
  unfold E20 LO LF PP
  dsimp only [t_law, SL.drop, SL.take]
  dsimp! [hs1, g_is_plan n _ _ h1 h2 hl21, h.pl.is, g_fours n _ _ h.pl, h4, hX, foldB, hN, show namedOf qB names = Du names from rfl]
  rw [ev_cf (xs := exchOf (isort made) (Fo names)) (fun t => !mem t (isort made)) enc]
  · rw [hnew]
    dsimp! [hsD, g_open_threes n _ _ hG, hfree, hsF]
  · dsimp! []
  · unfold lim; omega
  · intro t ht
    exact ⟨_, rfl, by dsimp! [], fun _ => ⟨_, by dsimp! []; rfl, rfl⟩⟩
theorem c10 {own : List T3} {made : List T3} {a6 : W} (h : K20.Own n names own) : runs Pm ((t_law.drop 10).take 2) (E20 n names (LO made) (some a6) (PP own) (PP (Got own names)) (PP (Du names)) none none) g = .nx (E20 n names (LO made) (some a6) (PP own) (PP (Got own names)) (PP (Du names)) none none) g := by
  have h2 := h.pl.hi
  have hG := got_pl h
  have hl := got_left h
  have hs := dself (leftOf n own)
  unfold E20 LO PP
  dsimp only [t_law, SL.drop, SL.take]
  dsimp! [g_pairs_left n _ _ hG, g_pairs_left n _ _ h.pl, hl, hs]
  rw [run_for (xs := List.range n) (fun _ => [some .scr, some .twn, some (.d (enc n)), some (.d (enc names)), some (.d (enc (Fo names))), some (.own (.lst (made.map enc))), some a6, none, some (.d (enc own)), some (.d (enc (exchOf own (Fo names)))), some (.d (enc (Du names))), none, none, none, none, none])]
  · dsimp! []
  · dsimp! []
  · rfl
  · intro l x r e
    have hx : x < n := List.mem_range.mp (by rw [e]; simp)
    have hp := got_partners h x hx
    have hs2 := dself (partnersOf n own x)
    dsimp! [g_partners n _ _ _ hG hx, g_partners n _ _ _ h.pl hx, hp, hs2]
theorem c12 {own : List T3} {made : List T3} {a6 : W} (h : K20.Own n names own) : runs Pm (t_law.drop 12) (E20 n names (LO made) (some a6) (PP own) (PP (Got own names)) (PP (Du names)) none none) g = .rt (.d (.bool true)) g := by
  have h2 := h.pl.hi
  have hG := got_pl h
  have d1 := dayList_len h.pl
  have d2 := dayList_len hG
  have hX := g_exchanged n (exchOf own (Fo names)) (Du names) g hG (du_four h) (four_cand h.nm h.h6 h2 qB_v qB_c)
  have hb := back h
  have hda := days_alike h
  have hs := dself own
  have hs2 := dself ((dayList n (exchOf own (Fo names))).filter fun d => (d.filter fun t => mem t (Du names)).isEmpty)
  have inner : ∀ (ρ : Env') (d : List T3) (L : List T3) (i : Nat), d.length ≤ 3 → get ρ 13 = some (.d (enc d)) → True := fun _ _ _ _ _ _ => trivial
  unfold E20 LO PP
  dsimp only [t_law, SL.drop, SL.take]
  dsimp! []
  rw [ev_cf (xs := dayList n own) (fun d => (d.filter fun t => mem t (Fo names)).isEmpty) enc]
  · dsimp! []
    rw [ev_cf (xs := dayList n (exchOf own (Fo names))) (fun d => (d.filter fun t => mem t (Du names)).isEmpty) enc]
    · rw [hda]
      dsimp! [hs2, hX, hb, hs]
    · dsimp! [g_days_in n _ _ hG]
    · unfold lim; omega
    · intro d hd
      have hdl := mem_dayList_len h2 hd
      refine ⟨_, rfl, ?_, fun _ => ⟨_, by dsimp! []; rfl, rfl⟩⟩
      dsimp! []
      rw [ev_cf (xs := d) (fun t => mem t (Du names)) enc]
      · dsimp! []
      · dsimp! []
      · unfold lim; omega
      · intro t ht
        exact ⟨_, rfl, by dsimp! [], fun _ => ⟨_, by dsimp! []; rfl, rfl⟩⟩
  · dsimp! [g_days_in n _ _ h.pl]
  · unfold lim; omega
  · intro d hd
    have hdl := mem_dayList_len h2 hd
    refine ⟨_, rfl, ?_, fun _ => ⟨_, by dsimp! []; rfl, rfl⟩⟩
    dsimp! []
    rw [ev_cf (xs := d) (fun t => mem t (Fo names)) enc]
    · dsimp! []
    · dsimp! []
    · unfold lim; omega
    · intro t ht
      exact ⟨_, rfl, by dsimp! [], fun _ => ⟨_, by dsimp! []; rfl, rfl⟩⟩
theorem law_true : ∀ ns : List Int, ns.length ≤ 63 → rtTrue (runs Pm t_law (lawEnv 16) ⟨0, ns, []⟩) = true := by
  intro ns hns
  have hr : Rm ⟨0, ns, []⟩ 99 := ⟨hns, by show 0 + 99 < 100000; omega⟩
  obtain ⟨r, r4, g1, e1, hg1⟩ := g__law_draw ⟨0, ns, []⟩ 4 (hr.mono (by omega)) (by decide)
  obtain ⟨names, g2, e2, hp, hg2⟩ := g__law_some_names (6 + r) g1 (by omega) (hg1.rm (k := 10) (hr.mono (by omega)))
  generalize hn : 6 + r = n at e2 hp
  have hN : Nms n names := ⟨hp⟩
  have h6 : 6 ≤ n := by omega
  have h9 : n ≤ 9 := by omega
  have hnl := hN.len
  have hqA : ∀ t, t ∈ qA → t.a < names.length ∧ t.b < names.length ∧ t.c < names.length := fun t ht => by
    have := qA_v t ht
    unfold valid at this
    omega
  have e3 := g__law_named qA names g2 (by decide) hqA
  have hP0 : Pl n (Fo names) := ⟨by omega, h9, named_apart hN (upA h6 qA_pl), isort_sorted (ren_apart hN (upA h6 qA_pl)).nd⟩
  have s0 : runs Pm (t_law.take 4) (lawEnv 16) ⟨0, ns, []⟩ = .nx (E20 n names (LO (Fo names)) (LF n (Fo names)) none none none none none) g2 := by
    have e0 : lawEnv 16 = [some .scr, some .twn, none, none, none, none, none, none, none, none, none, none, none, none, none, none] := rfl
    rw [e0]
    unfold E20 LO LF
    dsimp only [t_law, SL.take]
    dsimp! [e1, hn, e2, foldA, e3, show namedOf qA names = Fo names from rfl, g_open_threes n _ _ hP0]
  obtain ⟨made, g3, e4, ha, hsub⟩ := c4 (g := g2) hN h6 h9 ((hg1.trans hg2).rm (k := 10) (hr.mono (by omega)))
  have hO : K20.Own n names (isort made) := ⟨hN, h6, ⟨by omega, h9, ha.perm (isort_perm _).symm, isort_sorted ha.nd⟩, fun t ht => mem_isort.mpr (hsub t ht)⟩
  rw [split_nx 4 s0, split_nx 1 e4]
  show rtTrue (runs Pm (t_law.drop 5) _ _) = true
  rw [split_nx 5 (c5 hO)]
  show rtTrue (runs Pm (t_law.drop 10) (E20 n names (LO made) (some (.d (.list ((TP.freeOf n (isort made)).map enc)))) (PP (isort made)) (PP (Got (isort made) names)) (PP (Du names)) none none) _) = true
  rw [split_nx 2 (c10 hO)]
  show rtTrue (runs Pm (t_law.drop 12) _ _) = true
  rw [c12 hO]
  rfl
end K20
open PySem PySem.W PyProof.Rows
set_option maxRecDepth 100000 in
set_option maxHeartbeats 0 in
theorem PySem.Challenge.cw_threeplans_k20_whole_exchanged_plans_holds : PySem.Challenge.rw_threeplans_k20_whole_exchanged_plans.Holds := by
  w_on; o_law; k_head; (case hw => w_witness2)
  k_fill
  refine TP.walk (l := PySem.Challenge.rw_threeplans_k20_whole_exchanged_plans) (k := 29) rfl rfl ⟨rfl, by decide, by decide⟩ (fun w h Y => PySem.W.kIn_of Y) ?F
  case F =>
    intro w mg fa h KX G hmg
    refine' K20.all_mk KX G hmg ?a0 ?l0 ?c0 ?k0 ?a1 ?l1 ?c1 ?k1 ?a2 ?l2 ?c2 ?k2 ?a3 ?l3 ?c3 ?k3 ?a4 ?l4 ?c4 ?k4 ?a5 ?l5 ?c5 ?k5 ?a6 ?l6 ?c6 ?k6 ?a7 ?l7 ?c7 ?k7 ?a8 ?l8 ?c8 ?k8 ?a9 ?l9 ?c9 ?k9 ?a10 ?l10 ?c10 ?k10 ?a11 ?l11 ?c11 ?k11 ?a12 ?l12 ?c12 ?k12 ?a13 ?l13 ?c13 ?k13 ?a14 ?l14 ?c14 ?k14 ?a15 ?l15 ?c15 ?k15 ?a16 ?l16 ?c16 ?k16 ?a17 ?l17 ?c17 ?k17 ?a18 ?l18 ?c18 ?k18 ?a19 ?l19 ?c19 ?k19 ?a20 ?l20 ?c20 ?k20 ?a21 ?l21 ?c21 ?k21 ?a22 ?l22 ?c22 ?k22 ?a23 ?l23 ?c23 ?k23 ?a24 ?l24 ?c24 ?k24 ?a25 ?l25 ?c25 ?k25 ?a26 ?l26 ?c26 ?k26 ?a27 ?l27 ?c27 ?k27 ?a28 ?l28 ?c28 ?k28 ?ea0 ?eq0 ?ek0 ?eb0 ?et0 ?ea2 ?eq2 ?ek2 ?eb2 ?et2 ?ea3 ?eq3 ?ek3 ?eb3 ?et3 ?ea4 ?eq4 ?ek4 ?eb4 ?et4 ?z_range ?z_zip ?z_enumerate ?z_len ?z_set ?z_tuple ?z_list ?z_all ?z_any ?z_min ?z_max ?z_sorted ?z_int ?z_bool ?z_str ?z_isinstance K20.law_true
    (case a0 => k_is); (case l0 => k_is); (case c0 => k_is); (case k0 => k_is); (case a1 => k_is); (case l1 => k_is); (case c1 => k_is); (case k1 => k_is); (case a2 => k_is); (case l2 => k_is); (case c2 => k_is); (case k2 => k_is); (case a3 => k_is); (case l3 => k_is); (case c3 => k_is); (case k3 => k_is); (case a4 => k_is); (case l4 => k_is); (case c4 => k_is); (case k4 => k_is); (case a5 => k_is); (case l5 => k_is); (case c5 => k_is); (case k5 => k_is); (case a6 => k_is); (case l6 => k_is); (case c6 => k_is); (case k6 => k_is); (case a7 => k_is); (case l7 => k_is); (case c7 => k_is); (case k7 => k_is); (case a8 => k_is); (case l8 => k_is); (case c8 => k_is); (case k8 => k_is); (case a9 => k_is); (case l9 => k_is); (case c9 => k_is); (case k9 => k_is); (case a10 => k_is); (case l10 => k_is); (case c10 => k_is); (case k10 => k_is); (case a11 => k_is); (case l11 => k_is); (case c11 => k_is); (case k11 => k_is); (case a12 => k_is); (case l12 => k_is); (case c12 => k_is); (case k12 => k_is); (case a13 => k_is); (case l13 => k_is); (case c13 => k_is); (case k13 => k_is); (case a14 => k_is); (case l14 => k_is); (case c14 => k_is); (case k14 => k_is); (case a15 => k_is); (case l15 => k_is); (case c15 => k_is); (case k15 => k_is); (case a16 => k_is); (case l16 => k_is); (case c16 => k_is); (case k16 => k_is); (case a17 => k_is); (case l17 => k_is); (case c17 => k_is); (case k17 => k_is); (case a18 => k_is); (case l18 => k_is); (case c18 => k_is); (case k18 => k_is); (case a19 => k_is); (case l19 => k_is); (case c19 => k_is); (case k19 => k_is); (case a20 => k_is); (case l20 => k_is); (case c20 => k_is); (case k20 => k_is); (case a21 => k_is); (case l21 => k_is); (case c21 => k_is); (case k21 => k_is); (case a22 => k_is); (case l22 => k_is); (case c22 => k_is); (case k22 => k_is); (case a23 => k_is); (case l23 => k_is); (case c23 => k_is); (case k23 => k_is); (case a24 => k_is); (case l24 => k_is); (case c24 => k_is); (case k24 => k_is); (case a25 => k_is); (case l25 => k_is); (case c25 => k_is); (case k25 => k_is); (case a26 => k_is); (case l26 => k_is); (case c26 => k_is); (case k26 => k_is); (case a27 => k_is); (case l27 => k_is); (case c27 => k_is); (case k27 => k_is); (case a28 => k_is); (case l28 => k_is); (case c28 => k_is); (case k28 => k_is); (case ea0 => k_is); (case eq0 => k_exc); (case ek0 => k_is); (case eb0 => k_is); (case et0 => k_is); (case ea2 => k_is); (case eq2 => k_exc); (case ek2 => k_is); (case eb2 => k_is); (case et2 => k_is); (case ea3 => k_is); (case eq3 => k_exc); (case ek3 => k_is); (case eb3 => k_is); (case et3 => k_is); (case ea4 => k_is); (case eq4 => k_exc); (case ek4 => k_is); (case eb4 => k_is); (case et4 => k_is); (case z_range => k_is); (case z_zip => k_is); (case z_enumerate => k_is); (case z_len => k_is); (case z_set => k_is); (case z_tuple => k_is); (case z_list => k_is); (case z_all => k_is); (case z_any => k_is); (case z_min => k_is); (case z_max => k_is); (case z_sorted => k_is); (case z_int => k_is); (case z_bool => k_is); (case z_str => k_is); (case z_isinstance => k_is)
