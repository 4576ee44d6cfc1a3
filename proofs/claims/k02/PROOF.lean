import PyProof.Rows.All
import Wide.All
import OpenK.AllK
import Wide.FinOn
import HandS.ForMost
import HandS.Style
import HandS.Wide
import HandS.TupAny
import HandS.TupMul
import HandS.Deep
import HandS.IsInst
import HandS.Small
import HandS.Codes
import HandS.Text
import HandS.Defaults
import HandS.HeadHook1
import HandS.HeadHook2
import KE.KStateDown
import HandS.Head0
import HandS.Head1
import HandS.Head2
import HandS.HeadEnd
import PySem.Challenge.RW_tellworld_k02_words_of_a_row
set_option Elab.async false
set_option linter.all false
set_option maxRecDepth 100000
set_option maxHeartbeats 2000000
set_option autoImplicit true
set_option autoImplicit false
/-! A small pure interpreter for the restricted Python of these laws. Values are trees; what a local list, dict or object holds is the slot's own. -/
namespace Pi
/-- a sign -/
abbrev Ch := Fin 1114112
abbrev Tx := List Ch

/-- a value as a tree; scr: the law's own script -/
inductive D where
  | non | bl (b : Bool) | int (i : Int) | str (s : Tx)
  | tup (xs : List D) | lst (xs : List D) | dic (kvs : List (D × D)) | ob (c : Nat) (fs : List (Nat × D)) | scr (ns : List Int)

/-- how a parameter is handed over: F frozen for good, B borrowed, I the caller's own (turned in place) -/
inductive Md where | F | B | I
  deriving DecidableEq
/-- a result: frozen; fresh (nobody else has it); what stands in a slot -/
inductive Rv where | val (d : D) | new (d : D) | slot (i : Nat)

/-- what stands in a slot: frozen; the def's own; borrowed; the caller's own -/
inductive Sl where | fz (d : D) | own (d : D) | bor (d : D) | ino (d : D)
abbrev En := List (Option Sl)

def D.root : D → Bool
  | .lst _ => true
  | .dic _ => true
  | .ob _ _ => true
  | .scr _ => false
  | .non => false
  | .bl _ => false
  | .int _ => false
  | .str _ => false
  | .tup _ => false

inductive Ty where | str | int | bool | tuple | list | dict | cls (c : Nat)
inductive O2 where | add | sub | mul | fdiv | mod | pow | band | shr | eq | ne | lt | le | gt | ge | isin | notin
inductive Bi where | len | int | str | tuple | list | dict | sorted | all | any | min | max
inductive Bm where | split | join | partition | startswith | get | items | values | index | count
inductive Mm where | append | extend | pop | insert | clear
inductive Tg where | one (i : Nat) | many (is : List Nat)

mutual
inductive Ex where
  | var (i : Nat) | con (d : D) | neg (a : Ex)
  | op (o : O2) (a b : Ex) | chain (o p : O2) (a b c : Ex)
  | isC (ng : Bool) (d : D) (a : Ex)
  | and (a b : Ex) | or (a b : Ex) | not (a : Ex) | ite (c a b : Ex)
  | tup (es : Exs) | lst (es : Exs) | dic (es : Exs)
  | idx (a b : Ex) | slc (a : Ex) (lo hi : Exs)
  | fld (a : Ex) (f : Nat)
  | call (f : Nat) (es : Exs) | meth (m : Nat) (a : Ex) (es : Exs) | mk (c : Nat) (es : Exs)
  | isi (a : Ex) (ts : List Ty)
  | bi (b : Bi) (es : Exs) | bm (m : Bm) (a : Ex) (es : Exs)
  | mut (m : Mm) (i : Nat) (es : Exs)
  | comp (elt : Ex) (tg : Tg) (it : Wk) (cond : Exs)
inductive Exs where
  | nil | cons (e : Ex) (r : Exs)
inductive Wk where
  | seq (e : Ex) | rng1 (e : Ex) | rng2 (a b : Ex) | enum (e : Ex) | zip (a b : Ex) | items (e : Ex)
end
mutual
inductive Sm where
  | ass (i : Nat) (e : Ex) | assT (is : List Nat) (e : Ex) | setI (i : Nat) (k e : Ex) | setF (i : Nat) (f : Nat) (e : Ex)
  | ex (e : Ex) | ret (e : Ex) | retN
  | ifS (c : Ex) (a b : Sms)
  | forS (tg : Tg) (it : Wk) (body : Sms) (fg : List Nat)
  | whileS (c : Ex) (body : Sms) (fg : List Nat)
  | stuck
inductive Sms where
  | nil | cons (s : Sm) (r : Sms)
end

/-- what a caller knows of a def: the modes of its parameters, whether it hands back a fresh thing, its last parameters' defaults -/
structure Fi where
  pm : List Md
  ro : Bool
  dfl : List D := []
/-- the program around: calls, what is known of defs, methods by class, __init__ by class, subclasses -/
structure Gs where
  call : Nat → List D → Option (D × List D)
  fi : Nat → Fi
  meth : Nat → Nat → Option Nat
  init : Nat → Option Nat
  sub : Nat → Nat → Bool
  ok : Nat → Bool

/-! ### operations on trees -/
def SL : Nat := 16777216
mutual
def D.eqv : D → D → Bool
  | .non, .non => true
  | .bl a, .bl b => a == b
  | .bl a, .int j => (if a then 1 else 0) == j
  | .int i, .bl b => i == (if b then 1 else 0)
  | .int i, .int j => i == j
  | .str x, .str y => x == y
  | .lst xs, .lst ys => D.eqvL xs ys
  | .tup xs, .tup ys => D.eqvL xs ys
  | _, _ => false
termination_by structural d => d
def D.eqvL : List D → List D → Bool
  | [], [] => true
  | x :: xs, y :: ys => D.eqv x y && D.eqvL xs ys
  | _, _ => false
termination_by structural d => d
end
mutual
/-- data: nothing with a dict, an object, the script in it -/
def D.dat : D → Bool
  | .non => true
  | .bl _ => true
  | .int _ => true
  | .str _ => true
  | .tup xs => D.datL xs
  | .lst xs => D.datL xs
  | .dic _ => false
  | .ob _ _ => false
  | .scr _ => false
termination_by structural d => d
def D.datL : List D → Bool
  | [] => true
  | x :: xs => D.dat x && D.datL xs
termination_by structural d => d
end
mutual
def D.dep : D → Nat
  | .tup xs => D.depL xs + 1
  | .lst xs => D.depL xs + 1
  | _ => 0
termination_by structural d => d
def D.depL : List D → Nat
  | [] => 0
  | x :: xs => max (D.dep x) (D.depL xs)
termination_by structural d => d
end
/-- data that is not deep -/
def D.sane (a : D) : Bool := a.dat && decide (a.dep ≤ 60)
def D.eqq (a b : D) : Option Bool := if a.sane = true ∧ b.sane = true then some (D.eqv a b) else none
def keyOk : D → Bool
  | .int _ => true
  | .str _ => true
  | _ => false
/-- which entry of a dict has this key -/
def dlook : List (D × D) → D → Option D
  | [], _ => none
  | (k, v) :: r, x => if D.eqv k x = true then some v else dlook r x
def dput : List (D × D) → D → D → List (D × D)
  | [], x, y => [(x, y)]
  | (k, v) :: r, x, y => if D.eqv k x = true then (k, y) :: r else (k, v) :: dput r x y
def inL (x : D) (xs : List D) : Bool := xs.any fun y => D.eqv y x
def txLt (a b : Tx) : Bool := decide (a.map Fin.val < b.map Fin.val)
def ixN (n : Nat) (i : Int) : Option Nat := if 0 ≤ i then (if i < n then some i.toNat else none) else if -(n : Int) ≤ i then some (i + n).toNat else none
def atI {α : Type} (xs : List α) (i : Int) : Option α := (ixN xs.length i).bind fun j => xs[j]?
/-- a slice's bound -/
def sIx (n d : Nat) : Option Int → Nat
  | none => d
  | some v => if v < 0 then (v + n).toNat else min v.toNat n
def cutL {α : Type} (xs : List α) (lo hi : Option Int) : List α := (xs.drop (sIx xs.length 0 lo)).take (sIx xs.length xs.length hi - sIx xs.length 0 lo)
def fget : List (Nat × D) → Nat → Option D
  | [], _ => none
  | (k, v) :: r, f => if f = k then some v else fget r f
def fput : List (Nat × D) → Nat → D → List (Nat × D)
  | [], f, y => [(f, y)]
  | (k, v) :: r, f, y => if k = f then (k, y) :: r else (k, v) :: fput r f y
def preT (S l : Tx) : Bool := l.take S.length == S
/-- a text cut at each S; k signs are still to be passed over -/
def splT (S : Tx) : Nat → Tx → Tx → List Tx
  | _, acc, [] => [acc]
  | 0, acc, c :: r => if preT S (c :: r) = true then acc :: splT S (S.length - 1) [] r else splT S 0 (acc ++ [c]) r
  | k + 1, acc, _ :: r => splT S k acc r
def joinT (S : Tx) : List Tx → Tx
  | [] => []
  | [p] => p
  | p :: q :: r => p ++ (S ++ joinT S (q :: r))
def strsOf : List D → Option (List Tx)
  | [] => some []
  | .str s :: r => (strsOf r).map (s :: ·)
  | _ :: _ => none
def blsOf : List D → Option (List Bool)
  | [] => some []
  | .bl s :: r => (blsOf r).map (s :: ·)
  | _ :: _ => none
def Ty.has (sub : Nat → Nat → Bool) : Ty → D → Bool
  | .str, .str _ => true
  | .int, .int _ => true
  | .int, .bl _ => true
  | .bool, .bl _ => true
  | .tuple, .tup _ => true
  | .list, .lst _ => true
  | .list, .scr _ => true
  | .dict, .dic _ => true
  | .cls c, .ob k _ => sub k c
  | _, _ => false
def isiOk (ok : Nat → Bool) : D → Bool
  | .ob c _ => ok c
  | .scr _ => false
  | _ => true
/-- one or two texts, by order -/
def o2 (o : O2) (a b : D) : Option Rv := match o with
  | .add => match a, b with
    | .int i, .int j => some (.val (.int (i + j)))
    | .str s, .str t => if s.length + t.length ≤ SL then some (.val (.str (s ++ t))) else none
    | .lst s, .lst t => if s.length + t.length ≤ SL then some (.new (.lst (s ++ t))) else none
    | .tup s, .tup t => if s.length + t.length ≤ SL then some (.val (.tup (s ++ t))) else none
    | _, _ => none
  | .sub => match a, b with
    | .int i, .int j => some (.val (.int (i - j)))
    | _, _ => none
  | .mul => match a, b with
    | .int i, .int j => if (-(2 ^ 64) < i ∧ i < 2 ^ 64) ∨ (-(2 ^ 64) < j ∧ j < 2 ^ 64) then some (.val (.int (i * j))) else none
    | .str s, .int j => if 0 ≤ j ∧ j ≤ 1000 ∧ s.length ≤ 1000 then some (.val (.str ((List.replicate j.toNat s).flatten))) else none
    | .lst s, .int j => if 0 ≤ j ∧ j ≤ 1000 ∧ s.length ≤ 1000 then some (.new (.lst ((List.replicate j.toNat s).flatten))) else none
    | _, _ => none
  | .fdiv => match a, b with
    | .int i, .int j => if 0 < j ∧ j < 2 ^ 64 then some (.val (.int (i / j))) else none
    | _, _ => none
  | .mod => match a, b with
    | .int i, .int j => if 0 < j then some (.val (.int (i % j))) else none
    | _, _ => none
  | .pow => match a, b with
    | .int i, .int j => if 0 ≤ j ∧ j ≤ 1000 ∧ i.natAbs < 2 ^ 64 then some (.val (.int (i ^ j.toNat))) else none
    | _, _ => none
  | .band => match a, b with
    | .int i, .int j => if 0 ≤ i ∧ 0 ≤ j then some (.val (.int ((i.toNat &&& j.toNat : Nat) : Int))) else none
    | _, _ => none
  | .shr => match a, b with
    | .int i, .int j => if 0 ≤ j then some (.val (.int (i / 2 ^ j.toNat))) else none
    | _, _ => none
  | .eq => (D.eqq a b).map fun k => .val (.bl k)
  | .ne => (D.eqq a b).map fun k => .val (.bl (!k))
  | .lt => match a, b with
    | .int i, .int j => some (.val (.bl (decide (i < j))))
    | .str s, .str t => some (.val (.bl (txLt s t)))
    | _, _ => none
  | .le => match a, b with
    | .int i, .int j => some (.val (.bl (decide (i ≤ j))))
    | .str s, .str t => some (.val (.bl (!txLt t s)))
    | _, _ => none
  | .gt => match a, b with
    | .int i, .int j => some (.val (.bl (decide (j < i))))
    | .str s, .str t => some (.val (.bl (txLt t s)))
    | _, _ => none
  | .ge => match a, b with
    | .int i, .int j => some (.val (.bl (decide (j ≤ i))))
    | .str s, .str t => some (.val (.bl (!txLt s t)))
    | _, _ => none
  | .isin => match a, b with
    | .str [c], .str t => some (.val (.bl (decide (c ∈ t))))
    | a, .lst xs => if a.sane = true ∧ (D.lst xs).sane = true then some (.val (.bl (inL a xs))) else none
    | a, .tup xs => if a.sane = true ∧ (D.tup xs).sane = true then some (.val (.bl (inL a xs))) else none
    | a, .dic kvs => if keyOk a = true then some (.val (.bl (dlook kvs a).isSome)) else none
    | _, _ => none
  | .notin => match a, b with
    | .str [c], .str t => some (.val (.bl (!decide (c ∈ t))))
    | a, .lst xs => if a.sane = true ∧ (D.lst xs).sane = true then some (.val (.bl (!inL a xs))) else none
    | a, .tup xs => if a.sane = true ∧ (D.tup xs).sane = true then some (.val (.bl (!inL a xs))) else none
    | a, .dic kvs => if keyOk a = true then some (.val (.bl (!(dlook kvs a).isSome))) else none
    | _, _ => none
def dneg : D → Option Rv
  | .int i => some (.val (.int (-i)))
  | _ => none
def isCon (d a : D) : Option Bool := match d, a with
  | .non, .non => some true
  | .non, _ => some false
  | .bl b, .bl c => some (b == c)
  | _, _ => none
def ix (a i : D) : Option Rv := match a, i with
  | .lst xs, .int i => (atI xs i).map .val
  | .tup xs, .int i => (atI xs i).map .val
  | .scr ns, .int i => (atI ns i).map fun n => .val (.int n)
  | .str s, .int i => if s.length ≤ SL then (atI s i).map fun c => .val (.str [c]) else none
  | .dic kvs, k => if keyOk k = true then (dlook kvs k).map .val else none
  | _, _ => none
def slcD (a : D) (lo hi : Option Int) : Option Rv := match a with
  | .lst xs => some (.new (.lst (cutL xs lo hi)))
  | .scr ns => some (.new (.lst ((cutL ns lo hi).map .int)))
  | .tup xs => some (.val (.tup (cutL xs lo hi)))
  | .str s => if s.length ≤ SL then some (.val (.str (cutL s lo hi))) else none
  | _ => none
def fldD (ok : Nat → Bool) (a : D) (f : Nat) : Option Rv := match a with
  | .ob c fs => if ok c = true then (fget fs f).map .val else none
  | _ => none
/-- the order of texts, of tuples of data -/
def strsLe (a b : Tx) : Bool := !txLt b a
def bi (b : Bi) (as : List D) : Option Rv := match b with
  | .len => match as with
    | [.lst xs] => some (.val (.int xs.length))
    | [.tup xs] => some (.val (.int xs.length))
    | [.scr xs] => some (.val (.int xs.length))
    | [.str s] => if s.length ≤ SL then some (.val (.int s.length)) else none
    | [.dic kvs] => some (.val (.int kvs.length))
    | _ => none
  | .int => match as with
    | [.int i] => some (.val (.int i))
    | [.bl k] => some (.val (.int (if k then 1 else 0)))
    | _ => none
  | .str => none
  | .tuple => match as with
    | [.lst xs] => some (.val (.tup xs))
    | [.tup xs] => some (.val (.tup xs))
    | _ => none
  | .list => match as with
    | [.lst xs] => some (.new (.lst xs))
    | [.tup xs] => some (.new (.lst xs))
    | [.scr ns] => some (.new (.lst (ns.map .int)))
    | _ => none
  | .dict => none
  | .sorted => none
  | .all => match as with
    | [.lst xs] => (blsOf xs).map fun bs => .val (.bl (bs.all id))
    | _ => none
  | .any => match as with
    | [.lst xs] => (blsOf xs).map fun bs => .val (.bl (bs.any id))
    | _ => none
  | .min => match as with
    | [.int i, .int j] => some (.val (.int (if j < i then j else i)))
    | _ => none
  | .max => match as with
    | [.int i, .int j] => some (.val (.int (if j > i then j else i)))
    | _ => none
def bm (m : Bm) (a : D) (as : List D) : Option Rv := match m with
  | .split => match a, as with
    | .str s, [.str sep] => if sep ≠ [] ∧ (sep.all fun c => decide (c.val < 128)) = true ∧ s.length + 2 ≤ SL then some (.new (.lst ((splT sep 0 [] s).map .str))) else none
    | _, _ => none
  | .join => match a, as with
    | .str sep, [.lst xs] => (strsOf xs).bind fun ys => if (ys.map List.length).sum + ys.length * sep.length ≤ SL then some (.val (.str (joinT sep ys))) else none
    | .str sep, [.tup xs] => (strsOf xs).bind fun ys => if (ys.map List.length).sum + ys.length * sep.length ≤ SL then some (.val (.str (joinT sep ys))) else none
    | _, _ => none
  | _ => none
/-- what a method is asked of -/
def bmTy : Bm → Option D → Bool
  | .split, some (.str _) => true
  | .join, some (.str _) => true
  | .partition, some (.str _) => true
  | .startswith, some (.str _) => true
  | .get, some (.dic _) => true
  | .items, some (.dic _) => true
  | .values, some (.dic _) => true
  | .index, some (.lst _) => true
  | .count, some (.lst _) => true
  | _, _ => false
/-- a list, dict turned in place: what it is then, what is handed back -/
def mutD (m : Mm) (d : D) (as : List D) : Option (D × D) := match m with
  | .append => match d, as with
    | .lst xs, [y] => if xs.length < SL then some (.lst (xs ++ [y]), .non) else none
    | _, _ => none
  | .extend => match d, as with
    | .lst xs, [.lst ys] => if xs.length + ys.length ≤ SL then some (.lst (xs ++ ys), .non) else none
    | _, _ => none
  | .pop => match d, as with
    | .lst xs, [] => (xs[xs.length - 1]?).map fun y => (.lst xs.dropLast, y)
    | .lst xs, [.int i] => if -(2 ^ 63) ≤ i ∧ i < 2 ^ 63 then (ixN xs.length i).bind fun k => (xs[k]?).map fun y => (.lst (xs.eraseIdx k), y) else none
    | _, _ => none
  | .insert => none
  | .clear => match d, as with
    | .lst _, [] => some (.lst [], .non)
    | _, _ => none
def setItem (d k v : D) : Option D := match d, k with
  | .lst xs, .int i => if -(2 ^ 63) ≤ i ∧ i < 2 ^ 63 then (ixN xs.length i).map fun j => .lst (xs.set j v) else none
  | .dic kvs, k => if keyOk k = true ∧ kvs.length < SL then some (.dic (dput kvs k v)) else none
  | _, _ => none

/-! ### slots -/
def En.sl (ρ : En) (i : Nat) : Option Sl := ρ.getD i none
def Sl.d : Sl → D
  | .fz d => d
  | .own d => d
  | .bor d => d
  | .ino d => d
def isL : Option Sl → Bool
  | some (.own (.lst _)) => true
  | some (.ino (.lst _)) => true
  | _ => false
def rd (ρ : En) : Rv → Option D
  | .val d => some d
  | .new d => some d
  | .slot i => (ρ.sl i).map Sl.d
def rds (ρ : En) : List Rv → Option (List D)
  | [] => some []
  | r :: rs => (rd ρ r).bind fun d => (rds ρ rs).map (d :: ·)
/-- what a name hands out -/
def slR (i : Nat) : Sl → Rv
  | .fz d => .val d
  | .own d => if d.root = true then .slot i else .val d
  | .bor d => if d.root = true then .slot i else .val d
  | .ino d => if d.root = true then .slot i else .val d
def varR (ρ : En) (i : Nat) : Option Rv := (ρ.sl i).map (slR i)
/-- for good: nobody turns it any more -/
def toF (ρ : En) : Rv → Option (D × En)
  | .val d => some (d, ρ)
  | .new d => some (d, ρ)
  | .slot i => match ρ.sl i with
    | some (.own d) => some (d, ρ.set i (some (.fz d)))
    | _ => none
/-- to be walked -/
def toW (ρ : En) : Rv → Option (D × En)
  | .val d => some (d, ρ)
  | .new d => some (d, ρ)
  | .slot i => match ρ.sl i with
    | some (.own d) => some (d, ρ.set i (some (.fz d)))
    | some (.bor d) => some (d, ρ)
    | _ => none
def notI : Option Sl → Bool
  | some (.ino _) => false
  | _ => true
/-- a name is stored -/
def sto (i : Nat) (ρ : En) (r : Rv) : Option En := if notI (ρ.sl i) = true then
    match r with
    | .new d => some (ρ.set i (some (.own d)))
    | .val d => some (ρ.set i (some (.fz d)))
    | .slot j => match ρ.sl j with
      | some (.own d) => some ((ρ.set j (some (.fz d))).set i (some (.fz d)))
      | some (.bor d) => some (ρ.set i (some (.bor d)))
      | _ => none
  else none
def stoL : List Nat → List D → En → Option En
  | [], [], ρ => some ρ
  | i :: is, d :: ds, ρ => (sto i ρ (.val d)).bind fun ρ => stoL is ds ρ
  | _, _, _ => none
def tgt (t : Tg) (d : D) (ρ : En) : Option En := match t with
  | .one i => sto i ρ (.val d)
  | .many is => match d with
    | .tup ds => stoL is ds ρ
    | _ => none
def wipe (ρ : En) : List Nat → En
  | [] => ρ
  | i :: is => (wipe ρ is).set i none
def Tg.names : Tg → List Nat
  | .one i => [i]
  | .many is => is

/-- the arguments of a call: what goes for good is frozen first -/
def frzA : List Md → List Rv → En → Option En
  | [], [], ρ => some ρ
  | .F :: pm, r :: rs, ρ => (toF ρ r).bind fun p => frzA pm rs p.2
  | .B :: pm, _ :: rs, ρ => frzA pm rs ρ
  | .I :: pm, _ :: rs, ρ => frzA pm rs ρ
  | _, _, _ => none
/-- .. then all are read; where an I stands, the caller's slot -/
def readI (ρ : En) : Rv → Option (D × Option Nat)
  | .new d => some (d, none)
  | .slot i => match ρ.sl i with
    | some (.own d) => if d.root = true then some (d, some i) else none
    | some (.ino d) => if d.root = true then some (d, some i) else none
    | _ => none
  | .val _ => none
def readA : List Md → List Rv → En → Option (List D × List (Option Nat))
  | [], [], _ => some ([], [])
  | .F :: pm, r :: rs, ρ => (rd ρ r).bind fun d => (readA pm rs ρ).map fun q => (d :: q.1, q.2)
  | .B :: pm, r :: rs, ρ => (rd ρ r).bind fun d => (readA pm rs ρ).map fun q => (d :: q.1, q.2)
  | .I :: pm, r :: rs, ρ => (readI ρ r).bind fun d => (readA pm rs ρ).map fun q => (d.1 :: q.1, d.2 :: q.2)
  | _, _, _ => none
def Sl.put (d : D) : Sl → Sl
  | .ino _ => .ino d
  | _ => .own d
/-- what the callee has made of the caller's own -/
def backI : List (Option Nat) → List D → En → Option En
  | [], [], ρ => some ρ
  | none :: is, _ :: ds, ρ => backI is ds ρ
  | some i :: is, d :: ds, ρ => backI is ds (ρ.set i ((ρ.sl i).map (Sl.put d)))
  | _, _, _ => none
def Rv.isSlot (i : Nat) : Rv → Bool
  | .slot j => decide (j = i)
  | _ => false
/-- a slot that is turned stands in no other place -/
def apart (is : List (Option Nat)) (rs : List Rv) : Bool := is.all fun
  | none => true
  | some i => decide (rs.countP (Rv.isSlot i) = 1)
def defaults (f : Fi) (n : Nat) : List Rv := (f.dfl.drop (n + f.dfl.length - f.pm.length)).map .val
def resR (ro : Bool) (d : D) : Rv := if ro = true then (if d.root = true then .new d else .val d) else .val d
/-- a call: what is handed back, what has become of the caller's own -/
def doCall (G : Gs) (f : Nat) (rs : List Rv) (ρ : En) : Option (D × List D × En) :=
  (frzA (G.fi f).pm rs ρ).bind fun ρ1 => (readA (G.fi f).pm rs ρ1).bind fun p =>
    if apart p.2 rs = true then (G.call f p.1).bind fun q => (backI p.2 q.2 ρ1).map fun ρ2 => (q.1, q.2, ρ2)
    else none
/-- .. with its defaults -/
def callD (G : Gs) (f : Nat) (rs : List Rv) (ρ : En) : Option (Rv × En) :=
  (doCall G f (rs ++ defaults (G.fi f) rs.length) ρ).map fun z => (resR (G.fi f).ro z.1, z.2.2)
/-- .. of an __init__ -/
def initD (G : Gs) (f : Nat) (d0 : D) (rs : List Rv) (ρ : En) : Option (Rv × En) :=
  if (G.fi f).pm.take 1 = [.I] then (doCall G f (.new d0 :: (rs ++ defaults (G.fi f) (rs.length + 1))) ρ).bind fun z => match z.1, z.2.1 with
    | .non, d :: _ => some (.new d, z.2.2)
    | _, _ => none
  else none

inductive Fl where
  | nx (ρ : En) | rt (d : D) (ρ : En)
def Fl.thn (k : En → Option Fl) : Fl → Option Fl
  | .rt d ρ => some (.rt d ρ)
  | .nx ρ => k ρ

/-! ### what is walked -/
/-- what a walk hands out, item by item -/
def seqOf : D → Option (List D)
  | .lst xs => some xs
  | .tup xs => some xs
  | .scr ns => some (ns.map .int)
  | .str s => some (s.map fun c => .str [c])
  | _ => none
def isSeq2 : D → Bool
  | .lst _ => true
  | .tup _ => true
  | _ => false
def iRange (lo : Int) (n : Nat) : List D := (List.range n).map fun (k : Nat) => .int (lo + (k : Int))
def smallI (i : Int) : Prop := -(2 ^ 62) ≤ i ∧ i < 2 ^ 62
instance (i : Int) : Decidable (smallI i) := by unfold smallI; infer_instance
def enumL : Nat → List D → List D
  | _, [] => []
  | k, d :: ds => .tup [.int k, d] :: enumL (k + 1) ds
def zipL : List D → List D → List D
  | a :: as, b :: bs => .tup [a, b] :: zipL as bs
  | _, _ => []
/-- a for loop's turns -/
def forL (t : Tg) (fg : List Nat) (body : En → Option Fl) : List D → En → Option Fl
  | [], ρ => some (.nx (wipe ρ fg))
  | d :: ds, ρ => (tgt t d (wipe ρ fg)).bind fun ρ => (body ρ).bind fun
    | .rt d ρ => some (.rt d ρ)
    | .nx ρ => forL t fg body ds ρ
/-- a comprehension's turns: what is made so far, the items left -/
def compL (t : Tg) (fg : List Nat) (test : En → Option (Bool × En)) (elt : En → Option (D × En)) : List D → List D → En → Option (List D × En)
  | acc, [], ρ => some (acc, wipe ρ fg)
  | acc, d :: ds, ρ => (tgt t d (wipe ρ fg)).bind fun ρ => (test ρ).bind fun
    | (true, ρ) => (elt ρ).bind fun p => if acc.length < SL then compL t fg test elt (acc ++ [p.1]) ds p.2 else none
    | (false, ρ) => compL t fg test elt acc ds ρ
/-- a while loop, so many turns at most -/
def whileN (fg : List Nat) (test : En → Option (Bool × En)) (body : En → Option Fl) : Nat → En → Option Fl
  | 0, _ => none
  | n + 1, ρ => (test (wipe ρ fg)).bind fun
    | (true, ρ) => (body ρ).bind fun
      | .rt d ρ => some (.rt d ρ)
      | .nx ρ => whileN fg test body n ρ
    | (false, ρ) => some (.nx ρ)
open Classical in
noncomputable def whileE (fg : List Nat) (test : En → Option (Bool × En)) (body : En → Option Fl) (ρ : En) : Option Fl :=
  if h : ∃ n, (whileN fg test body n ρ).isSome = true then whileN fg test body h.choose ρ else none

def asB : Rv → Option Bool
  | .val (.bl b) => some b
  | _ => none
def asI : Option Rv → Option (Option Int)
  | none => some none
  | some (.val (.int i)) => some (some i)
  | _ => none
def fstO : List Rv → Option Rv
  | [r] => some r
  | _ => none

mutual
noncomputable def ev (G : Gs) : Ex → En → Option (Rv × En)
  | .var i, ρ => (varR ρ i).map fun r => (r, ρ)
  | .con d, ρ => some (.val d, ρ)
  | .neg a, ρ => (ev G a ρ).bind fun p => (rd p.2 p.1).bind fun d => (dneg d).map fun r => (r, p.2)
  | .op o a b, ρ => (ev G a ρ).bind fun p => (ev G b p.2).bind fun q => (rd q.2 p.1).bind fun x => (rd q.2 q.1).bind fun y => (o2 o x y).map fun r => (r, q.2)
  | .chain o o' a b c, ρ => (ev G a ρ).bind fun p => (ev G b p.2).bind fun q => (rd q.2 p.1).bind fun x => (rd q.2 q.1).bind fun y => (o2 o x y).bind fun r => match asB r with
    | some true => (ev G c q.2).bind fun q' => (rd q'.2 q.1).bind fun y => (rd q'.2 q'.1).bind fun z => (o2 o' y z).map fun r => (r, q'.2)
    | some false => some (.val (.bl false), q.2)
    | none => none
  | .isC ng d a, ρ => (ev G a ρ).bind fun p => (rd p.2 p.1).bind fun x => (isCon d x).map fun k => (.val (.bl (ng != k)), p.2)
  | .and a b, ρ => (ev G a ρ).bind fun p => match asB p.1 with
    | some true => ev G b p.2
    | some false => some (.val (.bl false), p.2)
    | none => none
  | .or a b, ρ => (ev G a ρ).bind fun p => match asB p.1 with
    | some true => some (.val (.bl true), p.2)
    | some false => ev G b p.2
    | none => none
  | .not a, ρ => (ev G a ρ).bind fun p => (asB p.1).map fun k => (.val (.bl (!k)), p.2)
  | .ite c a b, ρ => (ev G c ρ).bind fun p => match asB p.1 with
    | some true => ev G a p.2
    | some false => ev G b p.2
    | none => none
  | .tup es, ρ => (evF G es ρ).bind fun p => if p.1.length ≤ SL then some (.val (.tup p.1), p.2) else none
  | .lst es, ρ => (evF G es ρ).bind fun p => if p.1.length ≤ SL then some (.new (.lst p.1), p.2) else none
  | .dic es, ρ => match es with
    | .nil => some (.new (.dic []), ρ)
    | .cons _ _ => none
  | .idx a b, ρ => (ev G a ρ).bind fun p => (ev G b p.2).bind fun q => (rd q.2 p.1).bind fun x => (rd q.2 q.1).bind fun y => (ix x y).map fun r => (r, q.2)
  | .slc a lo hi, ρ => (ev G a ρ).bind fun p => (evO G lo p.2).bind fun l => (evO G hi l.2).bind fun h => (rd h.2 p.1).bind fun x => (slcD x l.1 h.1).map fun r => (r, h.2)
  | .fld a f, ρ => (ev G a ρ).bind fun p => (rd p.2 p.1).bind fun x => (fldD G.ok x f).map fun r => (r, p.2)
  | .call f es, ρ => (evs G es ρ).bind fun p => callD G f p.1 p.2
  | .meth m a es, ρ => (ev G a ρ).bind fun p => match rd p.2 p.1 with
    | some (.ob c _) => (evs G es p.2).bind fun q => (G.meth c m).bind fun f => callD G f (p.1 :: q.1) q.2
    | _ => none
  | .mk c es, ρ => (evs G es ρ).bind fun p => match G.init c with
    | some f => initD G f (.ob c []) p.1 p.2
    | none => none
  | .isi a ts, ρ => (ev G a ρ).bind fun p => (rd p.2 p.1).bind fun d => if isiOk G.ok d = true then some (.val (.bl (ts.any fun t => Ty.has G.sub t d)), p.2) else none
  | .bi b es, ρ => (evs G es ρ).bind fun p => (rds p.2 p.1).bind fun ds => (bi b ds).map fun r => (r, p.2)
  | .bm m a es, ρ => (ev G a ρ).bind fun p => if bmTy m (rd p.2 p.1) = true then (evs G es p.2).bind fun q => (rd q.2 p.1).bind fun x => (rds q.2 q.1).bind fun ds => (bm m x ds).map fun r => (r, q.2) else none
  | .mut m i es, ρ => if isL (ρ.sl i) = true then (evF G es ρ).bind fun p => match p.2.sl i with
    | some (.own d) => (mutD m d p.1).map fun q => (.val q.2, p.2.set i (some (.own q.1)))
    | some (.ino d) => (mutD m d p.1).map fun q => (.val q.2, p.2.set i (some (.ino q.1)))
    | _ => none
    else none
  | .comp elt t it cond, ρ => (evI G it ρ).bind fun p =>
      (compL t t.names (fun ρ => evT G cond ρ) (fun ρ => (ev G elt ρ).bind fun q => toF q.2 q.1) [] p.1 p.2).map fun q => (.new (.lst q.1), q.2)
termination_by structural e => e
/-- arguments -/
noncomputable def evs (G : Gs) : Exs → En → Option (List Rv × En)
  | .nil, ρ => some ([], ρ)
  | .cons e r, ρ => (ev G e ρ).bind fun p => (evs G r p.2).map fun q => (p.1 :: q.1, q.2)
termination_by structural e => e
/-- arguments, each frozen -/
noncomputable def evF (G : Gs) : Exs → En → Option (List D × En)
  | .nil, ρ => some ([], ρ)
  | .cons e r, ρ => (ev G e ρ).bind fun p => (toF p.2 p.1).bind fun p => (evF G r p.2).map fun q => (p.1 :: q.1, q.2)
termination_by structural e => e
/-- a part of a slice -/
noncomputable def evO (G : Gs) : Exs → En → Option (Option Int × En)
  | .nil, ρ => some (none, ρ)
  | .cons e _, ρ => (ev G e ρ).bind fun p => (asI (some p.1)).map fun i => (i, p.2)
termination_by structural e => e
/-- tests of a comprehension -/
noncomputable def evT (G : Gs) : Exs → En → Option (Bool × En)
  | .nil, ρ => some (true, ρ)
  | .cons e _, ρ => (ev G e ρ).bind fun p => (asB p.1).map fun b => (b, p.2)
termination_by structural e => e
noncomputable def evI (G : Gs) : Wk → En → Option (List D × En)
  | .seq e, ρ => (ev G e ρ).bind fun p => (toW p.2 p.1).bind fun q => (seqOf q.1).map fun xs => (xs, q.2)
  | .rng1 e, ρ => (ev G e ρ).bind fun p => match p.1 with
    | .val (.int n) => if smallI n then some (iRange 0 n.toNat, p.2) else none
    | _ => none
  | .rng2 a b, ρ => (ev G a ρ).bind fun p => (ev G b p.2).bind fun q => match p.1, q.1 with
    | .val (.int m), .val (.int n) => if smallI m ∧ smallI n then some (iRange m (n - m).toNat, q.2) else none
    | _, _ => none
  | .enum e, ρ => (ev G e ρ).bind fun p => (toW p.2 p.1).bind fun q => match q.1 with
    | .lst xs => some (enumL 0 xs, q.2)
    | .tup xs => some (enumL 0 xs, q.2)
    | _ => none
  | .zip a b, ρ => (ev G a ρ).bind fun p => (toW p.2 p.1).bind fun p => (ev G b p.2).bind fun q => (toW q.2 q.1).bind fun q => match p.1, q.1 with
    | .lst xs, .lst ys => some (zipL xs ys, q.2)
    | .lst xs, .tup ys => some (zipL xs ys, q.2)
    | .tup xs, .lst ys => some (zipL xs ys, q.2)
    | .tup xs, .tup ys => some (zipL xs ys, q.2)
    | _, _ => none
  | .items _, _ => none
termination_by structural e => e
end

/-- x[k] = v, x.f = v in a slot -/
def putSl (ρ : En) (i : Nat) (f : D → Option D) : Option En := match ρ.sl i with
  | some (.own d) => (f d).map fun d' => ρ.set i (some (.own d'))
  | some (.ino d) => (f d).map fun d' => ρ.set i (some (.ino d'))
  | _ => none
def setF (ok : Nat → Bool) (f : Nat) (v : D) : D → Option D
  | .ob c fs => if ok c = true ∧ fs.length < 100 then some (.ob c (fput fs f v)) else none
  | _ => none
/-- what is handed back -/
def retR (ro : Bool) (ρ : En) (r : Rv) : Option Fl := if ro = true then
    match r with
    | .new d => some (.rt d ρ)
    | .val d => if d.root = true then none else some (.rt d ρ)
    | .slot i => match ρ.sl i with
      | some (.own d) => some (.rt d (ρ.set i none))
      | _ => none
  else (toF ρ r).map fun p => .rt p.1 p.2
mutual
noncomputable def exec (G : Gs) (ro : Bool) : Sm → En → Option Fl
  | .ass i e, ρ => (ev G e ρ).bind fun p => (sto i p.2 p.1).map .nx
  | .assT is e, ρ => (ev G e ρ).bind fun p => (toF p.2 p.1).bind fun p => match p.1 with
    | .tup ds => (stoL is ds p.2).map .nx
    | _ => none
  | .setI i k e, ρ => (ev G e ρ).bind fun p => (toF p.2 p.1).bind fun p => if (p.2.sl i).isSome = true then (ev G k p.2).bind fun q => (toF q.2 q.1).bind fun q => (putSl q.2 i fun d => setItem d q.1 p.1).map .nx else none
  | .setF i f e, ρ => (ev G e ρ).bind fun p => (toF p.2 p.1).bind fun p => (putSl p.2 i (setF G.ok f p.1)).map .nx
  | .ex e, ρ => (ev G e ρ).map fun p => .nx p.2
  | .ret e, ρ => (ev G e ρ).bind fun p => retR ro p.2 p.1
  | .retN, ρ => some (.rt .non ρ)
  | .ifS c a b, ρ => (ev G c ρ).bind fun p => match asB p.1 with
    | some true => execs G ro a p.2
    | some false => execs G ro b p.2
    | none => none
  | .forS t it body fg, ρ => (evI G it ρ).bind fun p => forL t fg (fun ρ => execs G ro body ρ) p.1 p.2
  | .whileS c body fg, ρ => whileE fg (fun ρ => (ev G c ρ).bind fun p => (asB p.1).map fun b => (b, p.2)) (fun ρ => execs G ro body ρ) ρ
  | .stuck, _ => none
termination_by structural s => s
noncomputable def execs (G : Gs) (ro : Bool) : Sms → En → Option Fl
  | .nil, ρ => some (.nx ρ)
  | .cons s r, ρ => (exec G ro s ρ).bind (Fl.thn fun ρ => execs G ro r ρ)
termination_by structural s => s
end

/-! ### the program -/
structure Fn where
  fi : Fi
  nn : Nat
  body : Sms
structure Pr where
  fns : Nat → Fn
  meth : Nat → Nat → Option Nat
  init : Nat → Option Nat
  sub : Nat → Nat → Bool
  ok : Nat → Bool
def entS : Md → D → Option Sl
  | .F, d => some (.fz d)
  | .B, d => some (if d.root = true then .bor d else .fz d)
  | .I, d => some (.ino d)
def entry (pm : List Md) (ds : List D) : List (Option Sl) := List.zipWith entS pm ds
def outs : List Md → En → Option (List D)
  | [], _ => some []
  | .I :: pm, some (.ino d) :: ρ => if d.root = true then (outs pm ρ).map (d :: ·) else none
  | .I :: _, _ => none
  | _ :: pm, _ :: ρ => outs pm ρ
  | _, _ => none
def Fn.start (f : Fn) (ds : List D) : En := entry f.fi.pm ds ++ List.replicate (f.nn - f.fi.pm.length) none
def Fl.fin (pm : List Md) : Fl → Option (D × List D)
  | .rt d ρ => (outs pm ρ).map fun os => (d, os)
  | .nx ρ => (outs pm ρ).map fun os => (.non, os)
noncomputable def Fn.run (f : Fn) (G : Gs) (ds : List D) : Option (D × List D) :=
  if ds.length = f.fi.pm.length then (execs G f.fi.ro f.body (f.start ds)).bind (Fl.fin f.fi.pm) else none
noncomputable def Pr.gs (P : Pr) (call : Nat → List D → Option (D × List D)) : Gs := { call := call, fi := fun f => (P.fns f).fi, meth := P.meth, init := P.init, sub := P.sub, ok := P.ok }
/-- the calls that go so deep -/
noncomputable def Pr.call (P : Pr) : Nat → Nat → List D → Option (D × List D)
  | 0, _, _ => none
  | k + 1, f, ds => (P.fns f).run (P.gs (P.call k)) ds
end Pi
set_option autoImplicit true
namespace Pi
open PySem PySem.Spec PyProof.Rows L2
abbrev Sg := L2.St

/-- the program as it stands: the written part, the module's names, the classes' addresses, the attributes' names -/
structure Lk where
  K : PySem.W.Frag
  mg : Str → Option Value
  cls : Nat → Addr
  fld : Nat → Option Str
  mnm : Nat → Str
  fa : Nat → Addr
  fd : Nat → FuncData
  ps : Nat → List Str

def tx (s : Tx) : Str := ⟨(s.map Fin.val).toArray⟩
def keyD : D → Option Key
  | .int i => some (.inl i)
  | .str s => some (.inr (tx s))
  | _ => none

mutual
def Rep (L : Lk) (Z : Hp) : D → V → Prop
  | .non, v => v = .non
  | .bl b, v => v = .bl b
  | .int i, v => v = .int i
  | .str s, v => v = .str (tx s)
  | .tup ds, v => ∃ a vs, v = .ref a ∧ SqT L.K Z a vs ∧ RepL L Z ds vs
  | .lst ds, v => ∃ a vs, v = .ref a ∧ Z a = some (.lst vs) ∧ RepL L Z ds vs
  | .dic kvs, v => ∃ a kV, v = .ref a ∧ Z a = some (.dK kV) ∧ RepD L Z kvs kV
  | .ob c fs, v => ∃ a dx fV, v = .ref a ∧ Z a = some (.ins (L.cls c) dx fV) ∧ RepO L Z fs fV
  | .scr ns, v => ∃ a, v = .ref a ∧ SqL L.K Z a (ns.map .int)
termination_by structural d => d
def RepL (L : Lk) (Z : Hp) : List D → List V → Prop
  | [], vs => vs = []
  | d :: ds, vs => ∃ v r, vs = v :: r ∧ Rep L Z d v ∧ RepL L Z ds r
termination_by structural d => d
def RepD (L : Lk) (Z : Hp) : List (D × D) → List (Key × V) → Prop
  | [], kV => kV = []
  | p :: ps, kV => ∃ k v r, kV = (k, v) :: r ∧ RepP L Z p k v ∧ RepD L Z ps r
termination_by structural d => d
def RepP (L : Lk) (Z : Hp) : D × D → Key → V → Prop
  | (x, d), k, v => keyD x = some k ∧ Rep L Z d v
termination_by structural d => d
def RepO (L : Lk) (Z : Hp) : List (Nat × D) → List (Str × V) → Prop
  | [], fV => fV = []
  | p :: ps, fV => ∃ x v r, L.fld p.1 = some x ∧ fV = (x, v) :: r ∧ RepQ L Z p v ∧ RepO L Z ps r
termination_by structural d => d
def RepQ (L : Lk) (Z : Hp) : Nat × D → V → Prop
  | (_, d), v => Rep L Z d v
termination_by structural d => d
end

def Sub (Z H : Hp) : Prop := ∀ a o, Z a = some o → H a = some o
theorem Sub.rfl' {Z : Hp} : Sub Z Z := fun _ _ h => h
theorem Sub.trans {Z H J : Hp} (a : Sub Z H) (b : Sub H J) : Sub Z J := fun x o h => b x o (a x o h)
theorem Sub.same {Z H : Hp} (a : Sub Z H) : Same Z H := a
theorem sub_upd {Z : Hp} {p : Addr} {o : HO} (h : Z p = none) : Sub Z (upd Z p o) := fun b x e => by
  rw [upd_ne (ne_of_none e h)]
  exact e
theorem SqT.sub {K : PySem.W.Frag} {Z H : Hp} {a : Addr} {xs : List V} (s : Sub Z H) (h : SqT K Z a xs) : SqT K H a xs := by
  rcases h with (h | ⟨o, h⟩) | h
  · exact .inl (.inl (s _ _ h))
  · exact .inl (.inr ⟨o, s _ _ h⟩)
  · exact .inr h
theorem SqL.sub {K : PySem.W.Frag} {Z H : Hp} {a : Addr} {xs : List V} (s : Sub Z H) (h : SqL K Z a xs) : SqL K H a xs := Same.seq s h

section
variable {L : Lk} {Z H : Hp}
mutual
theorem Rep.sub (s : Sub Z H) : ∀ (d : D) (v : V), Rep L Z d v → Rep L H d v
  | .non, _, h => by simpa [Rep] using h
  | .bl _, _, h => by simpa [Rep] using h
  | .int _, _, h => by simpa [Rep] using h
  | .str _, _, h => by simpa [Rep] using h
  | .tup ds, v, h => by
    simp only [Rep] at h ⊢
    obtain ⟨a, vs, e, q, r⟩ := h
    exact ⟨a, vs, e, SqT.sub s q, RepL.sub s ds vs r⟩
  | .lst ds, v, h => by
    simp only [Rep] at h ⊢
    obtain ⟨a, vs, e, q, r⟩ := h
    exact ⟨a, vs, e, s _ _ q, RepL.sub s ds vs r⟩
  | .dic kvs, v, h => by
    simp only [Rep] at h ⊢
    obtain ⟨a, vs, e, q, r⟩ := h
    exact ⟨a, vs, e, s _ _ q, RepD.sub s kvs vs r⟩
  | .ob c fs, v, h => by
    simp only [Rep] at h ⊢
    obtain ⟨a, dx, vs, e, q, r⟩ := h
    exact ⟨a, dx, vs, e, s _ _ q, RepO.sub s fs vs r⟩
  | .scr ns, v, h => by
    simp only [Rep] at h ⊢
    obtain ⟨a, e, q⟩ := h
    exact ⟨a, e, SqL.sub s q⟩
termination_by structural d => d
theorem RepL.sub (s : Sub Z H) : ∀ (ds : List D) (vs : List V), RepL L Z ds vs → RepL L H ds vs
  | [], _, h => by simpa [RepL] using h
  | d :: ds, vs, h => by
    simp only [RepL] at h ⊢
    obtain ⟨v, r, e, q, t⟩ := h
    exact ⟨v, r, e, Rep.sub s d v q, RepL.sub s ds r t⟩
termination_by structural d => d
theorem RepD.sub (s : Sub Z H) : ∀ (ds : List (D × D)) (vs : List (Key × V)), RepD L Z ds vs → RepD L H ds vs
  | [], _, h => by simpa [RepD] using h
  | p :: ds, vs, h => by
    simp only [RepD] at h ⊢
    obtain ⟨k, v, r, e, q, t⟩ := h
    exact ⟨k, v, r, e, RepP.sub s p k v q, RepD.sub s ds r t⟩
termination_by structural d => d
theorem RepP.sub (s : Sub Z H) : ∀ (p : D × D) (k : Key) (v : V), RepP L Z p k v → RepP L H p k v
  | (x, d), k, v, h => by
    simp only [RepP] at h ⊢
    exact ⟨h.1, Rep.sub s d v h.2⟩
termination_by structural d => d
theorem RepO.sub (s : Sub Z H) : ∀ (ds : List (Nat × D)) (vs : List (Str × V)), RepO L Z ds vs → RepO L H ds vs
  | [], _, h => by simpa [RepO] using h
  | p :: ds, vs, h => by
    simp only [RepO] at h ⊢
    obtain ⟨x, v, r, ex, e, q, t⟩ := h
    exact ⟨x, v, r, ex, e, RepQ.sub s p v q, RepO.sub s ds r t⟩
termination_by structural d => d
theorem RepQ.sub (s : Sub Z H) : ∀ (p : Nat × D) (v : V), RepQ L Z p v → RepQ L H p v
  | (_, d), v, h => by
    simp only [RepQ] at h ⊢
    exact Rep.sub s d v h
termination_by structural d => d
end
end

/-- what stands at a, its parts frozen -/
def Root (L : Lk) (Z H : Hp) : D → Addr → Prop
  | .lst ds, a => ∃ vs, H a = some (.lst vs) ∧ RepL L Z ds vs
  | .dic kvs, a => ∃ kV, H a = some (.dK kV) ∧ RepD L Z kvs kV
  | .ob c fs, a => ∃ dx fV, H a = some (.ins (L.cls c) dx fV) ∧ RepO L Z fs fV
  | _, _ => False
section
variable {L : Lk} {Z Z' H H' : Hp} {d : D} {a : Addr} {v : V}
theorem Root.isRoot (h : Root L Z H d a) : d.root = true := by cases d <;> first | rfl | exact False.elim h
theorem Root.ex (h : Root L Z H d a) : ∃ o, H a = Option.some o ∧ Mut (Option.some o) := by
  cases d with
  | lst ds => exact h.elim fun _ q => ⟨_, q.1, trivial⟩
  | dic ds => exact h.elim fun _ q => ⟨_, q.1, trivial⟩
  | ob c fs => exact h.elim fun _ q => q.elim fun _ q => ⟨_, q.1, trivial⟩
  | _ => exact False.elim h
theorem Root.ne (h : Root L Z H d a) : H a ≠ none := by
  obtain ⟨o, e, _⟩ := h.ex
  rw [e]
  exact fun q => nomatch q
theorem Root.mono (h : Root L Z H d a) (s : Sub Z Z') (k : ∀ o, H a = Option.some o → H' a = Option.some o) : Root L Z' H' d a := by
  cases d with
  | lst ds => exact h.elim fun _ q => ⟨_, k _ q.1, RepL.sub s _ _ q.2⟩
  | dic ds => exact h.elim fun _ q => ⟨_, k _ q.1, RepD.sub s _ _ q.2⟩
  | ob c fs => exact h.elim fun _ q => q.elim fun _ q => ⟨_, _, k _ q.1, RepO.sub s _ _ q.2⟩
  | _ => exact False.elim h
theorem Root.rep (h : Root L Z Z d a) : Rep L Z d (.ref a) := by
  cases d with
  | lst ds => exact h.elim fun _ q => by simp only [Rep]; exact ⟨_, _, rfl, q.1, q.2⟩
  | dic ds => exact h.elim fun _ q => by simp only [Rep]; exact ⟨_, _, rfl, q.1, q.2⟩
  | ob c fs => exact h.elim fun _ q => q.elim fun _ q => by simp only [Rep]; exact ⟨_, _, _, rfl, q.1, q.2⟩
  | _ => exact False.elim h
theorem Rep.root (h : Rep L Z d v) (r : d.root = true) : ∃ a, v = .ref a ∧ Root L Z Z d a := by
  cases d with
  | lst ds => simp only [Rep] at h; obtain ⟨a, _, e, q, t⟩ := h; exact ⟨a, e, _, q, t⟩
  | dic ds => simp only [Rep] at h; obtain ⟨a, _, e, q, t⟩ := h; exact ⟨a, e, _, q, t⟩
  | ob c fs => simp only [Rep] at h; obtain ⟨a, _, _, e, q, t⟩ := h; exact ⟨a, e, _, _, q, t⟩
  | _ => cases r
/-- to be read: its root in H, its parts frozen -/
def RB (L : Lk) (Z H : Hp) (d : D) (v : V) : Prop := (d.root = true ∧ ∃ a, v = .ref a ∧ Root L Z H d a) ∨ (d.root = false ∧ Rep L Z d v)
theorem Rep.rb (h : Rep L Z d v) (s : Sub Z H) : RB L Z H d v := by
  cases e : d.root with
  | true =>
    obtain ⟨a, ev, r⟩ := Rep.root h e
    exact .inl ⟨e, a, ev, Root.mono r Sub.rfl' (s a)⟩
  | false => exact .inr ⟨e, h⟩
theorem RB.mono (h : RB L Z H d v) (s : Sub Z Z') (k : ∀ a o, v = .ref a → H a = some o → H' a = some o) : RB L Z' H' d v := by
  rcases h with ⟨r, a, e, q⟩ | ⟨r, q⟩
  · exact .inl ⟨r, a, e, Root.mono q s fun o => k a o e⟩
  · exact .inr ⟨r, Rep.sub s _ _ q⟩
end

/-! ### the state of a def's body -/
/-- at the entry: the heap, what was frozen, the slots; the addresses that the def may turn -/
structure Ba where
  H0 : Hp
  Z0 : Hp
  s0 : Sg
  ia : Addr → Prop
def Sl.isOw : Sl → Bool
  | .own d => d.root
  | .ino d => d.root
  | _ => false
def Sl.isUs : Sl → Bool
  | .own d => d.root
  | .ino d => d.root
  | .bor d => d.root
  | .fz _ => false
/-- a is what an own slot holds; what a slot that isn't frozen holds -/
def ow (ρ : En) (σ : Sg) (a : Addr) : Prop := ∃ i sl, ρ.sl i = some sl ∧ sl.isOw = true ∧ σ[i]? = some (some (.ref a))
def us (ρ : En) (σ : Sg) (a : Addr) : Prop := ∃ i sl, ρ.sl i = some sl ∧ sl.isUs = true ∧ σ[i]? = some (some (.ref a))
theorem ow.us {ρ : En} {σ : Sg} {a : Addr} (h : ow ρ σ a) : us ρ σ a := by
  obtain ⟨i, sl, e, o, s⟩ := h
  refine ⟨i, sl, e, ?_, s⟩
  cases sl <;> first | exact o | cases o

structure SI (L : Lk) (B : Ba) (ρ : En) (σ : Sg) (Z H : Hp) : Prop where
  len : ρ.length = σ.length
  sub : Sub Z H
  rep : ∀ i sl, ρ.sl i = some sl → ∃ v, σ[i]? = some (some v) ∧ RB L Z H sl.d v
  fz : ∀ i d v, ρ.sl i = some (.fz d) → σ[i]? = some (some v) → Rep L Z d v
  nz : ∀ a, ow ρ σ a → Z a = none
  one : ∀ i j a s t, ρ.sl i = some s → s.isOw = true → σ[i]? = some (some (.ref a)) → ρ.sl j = some t → t.isUs = true → σ[j]? = some (some (.ref a)) → i = j
  b1 : ∀ a o, B.H0 a = some o → ¬ B.ia a → H a = some o
  b2 : Sub B.Z0 Z
  b3 : ∀ a, Z a ≠ none → B.Z0 a ≠ none ∨ B.H0 a = none
  b4 : ∀ i d a, ρ.sl i = some (.own d) → d.root = true → σ[i]? = some (some (.ref a)) → B.H0 a = none
  b5 : ∀ i d, ρ.sl i = some (.ino d) → σ[i]? = B.s0[i]?
  b6 : ∀ i d a, ρ.sl i = some (.ino d) → d.root = true → σ[i]? = some (some (.ref a)) → B.ia a
  b7 : ∀ a, B.ia a → B.H0 a ≠ none ∧ B.Z0 a = none
  b8 : ∀ a, B.H0 a ≠ none → H a ≠ none
  b9 : ∀ i d a, ρ.sl i = some (.bor d) → d.root = true → σ[i]? = some (some (.ref a)) → B.H0 a ≠ none ∧ ¬ B.ia a

/-- from one state to a later one within an expression -/
structure Gr (ρ ρ' : En) (σ : Sg) (Z H Z' H' : Hp) : Prop where
  keep : ∀ a o, H a = some o → ¬ ow ρ σ a → H' a = some o
  zsub : Sub Z Z'
  znew : ∀ a, Z a = none → Z' a ≠ none → H a = none ∨ ow ρ σ a
  less : ∀ a, ow ρ' σ a → ow ρ σ a
  lesu : ∀ a, us ρ' σ a → us ρ σ a
  there : ∀ a, H a ≠ none → H' a ≠ none
section
variable {L : Lk} {B : Ba} {ρ ρ1 ρ2 : En} {σ : Sg} {Z H Z1 H1 Z2 H2 : Hp}
theorem Gr.refl : Gr ρ ρ σ Z H Z H := ⟨fun _ _ h _ => h, Sub.rfl', fun _ h q => absurd h q, fun _ h => h, fun _ h => h, fun _ h => h⟩
theorem Gr.trans (a : Gr ρ ρ1 σ Z H Z1 H1) (b : Gr ρ1 ρ2 σ Z1 H1 Z2 H2) : Gr ρ ρ2 σ Z H Z2 H2 where
  keep := fun x o e n => b.keep x o (a.keep x o e n) fun q => n (a.less x q)
  zsub := a.zsub.trans b.zsub
  znew := fun x e q => by
    by_cases h : ow ρ σ x
    · exact .inr h
    · cases e1 : Z1 x with
      | some o =>
        rcases a.znew x e (by rw [e1]; exact fun z => nomatch z) with z | z
        · exact .inl z
        · exact .inr z
      | none =>
        rcases b.znew x e1 q with z | z
        · cases e2 : H x with
          | none => exact .inl rfl
          | some o => exact absurd z (a.there x (by rw [e2]; exact fun z => nomatch z))
        · exact .inr (a.less x z)
  less := fun x h => a.less x (b.less x h)
  lesu := fun x h => a.lesu x (b.lesu x h)
  there := fun x h => b.there x (a.there x h)

/-- what has come of an expression: H the heap ahead of it -/
def RvOk (L : Lk) (H : Hp) (ρ : En) (σ : Sg) (Z' H' : Hp) : Rv → V → Prop
  | .val d, v => Rep L Z' d v
  | .new d, v => ∃ a, v = .ref a ∧ Z' a = none ∧ Root L Z' H' d a ∧ ¬ us ρ σ a ∧ H a = none
  | .slot i, v => σ[i]? = some (some v)
theorem RvOk.mono {r : Rv} {v : V} {H0 : Hp} (h : RvOk L H0 ρ σ Z H r v) (g : Gr ρ ρ1 σ Z H Z1 H1) : RvOk L H0 ρ1 σ Z1 H1 r v := by
  cases r with
  | val d => exact Rep.sub g.zsub _ _ h
  | new d =>
    obtain ⟨a, e, z, r, n, f⟩ := h
    have no : ¬ ow ρ σ a := fun q => n q.us
    refine ⟨a, e, ?_, Root.mono r g.zsub fun o q => g.keep a o q no, fun q => n (g.lesu a q), f⟩
    cases e1 : Z1 a with
    | none => rfl
    | some o =>
      rcases g.znew a z (by rw [e1]; exact fun z => nomatch z) with q | q
      · exact absurd q r.ne
      · exact absurd q no
  | slot i => exact h
/-- what is read of it -/
theorem RvOk.rd {r : Rv} {v : V} {H0 : Hp} {d : D} (h : RvOk L H0 ρ σ Z H r v) (S : SI L B ρ σ Z H) (e : Pi.rd ρ r = some d) : RB L Z H d v := by
  cases r with
  | val d' => cases e; exact Rep.rb h S.sub
  | new d' =>
    cases e
    obtain ⟨a, e, z, r, n, f⟩ := h
    exact .inl ⟨r.isRoot, a, e, r⟩
  | slot i =>
    have e' : (ρ.sl i).map Sl.d = some d := e
    cases q : ρ.sl i with
    | none => rw [q] at e'; cases e'
    | some sl =>
      rw [q] at e'
      cases e'
      obtain ⟨w, hw, r⟩ := S.rep i sl q
      have h' : σ[i]? = some (some v) := h
      rw [hw] at h'
      cases h'
      exact r
end

/-! ### slots -/
theorem En.sl_set {ρ : En} {i j : Nat} {x : Option Sl} : En.sl (ρ.set i x) j = if j = i ∧ i < ρ.length then x else ρ.sl j := by
  unfold En.sl
  rw [List.getD_eq_getElem?_getD, List.getD_eq_getElem?_getD, List.getElem?_set]
  by_cases h : i = j
  · subst h
    by_cases hl : i < ρ.length
    · simp [hl]
    · simp [hl]
  · simp [h, Ne.symm h]
theorem En.sl_lt {ρ : En} {i : Nat} {s : Sl} (h : ρ.sl i = some s) : i < ρ.length := by
  unfold En.sl at h
  rw [List.getD_eq_getElem?_getD] at h
  cases e : ρ[i]? with
  | none => rw [e] at h; cases h
  | some y => exact (List.getElem?_eq_some_iff.mp e).1
theorem En.sl_same {ρ : En} {i : Nat} {x : Option Sl} (h : i < ρ.length) : En.sl (ρ.set i x) i = x := by
  rw [En.sl_set]
  exact if_pos ⟨rfl, h⟩
theorem En.sl_ne {ρ : En} {i j : Nat} {x : Option Sl} (h : j ≠ i) : En.sl (ρ.set i x) j = ρ.sl j := by
  rw [En.sl_set]
  exact if_neg fun q => h q.1

section
variable {L : Lk} {B : Ba} {ρ : En} {σ : Sg} {Z H : Hp} {a : Addr} {d : D} {o : HO} {v : V} {i : Nat}
theorem sub_upd_at {Z H : Hp} {a : Addr} {o : HO} (s : Sub Z H) (h : H a = some o) : Sub (upd Z a o) H := fun b x e => by
  by_cases q : b = a
  · rw [q, upd_same] at e
    cases e
    rw [q]
    exact h
  · rw [upd_ne q] at e
    exact s b x e
/-- what nobody holds is frozen -/
theorem SI.freeze (S : SI L B ρ σ Z H) (h : H a = some o) (z : Z a = none) (n : ¬ ow ρ σ a) (f : B.H0 a = none) : SI L B ρ σ (upd Z a o) H where
  len := S.len
  sub := sub_upd_at S.sub h
  rep := fun i sl e => by
    obtain ⟨v, hv, r⟩ := S.rep i sl e
    exact ⟨v, hv, r.mono (sub_upd z) fun _ _ _ q => q⟩
  fz := fun i d v e q => Rep.sub (sub_upd z) _ _ (S.fz i d v e q)
  nz := fun b q => by
    by_cases e : b = a
    · subst e; exact absurd q n
    · rw [upd_ne e]; exact S.nz b q
  one := S.one
  b1 := S.b1
  b2 := S.b2.trans (sub_upd z)
  b3 := fun b q => by
    by_cases e : b = a
    · subst e; exact .inr f
    · rw [upd_ne e] at q; exact S.b3 b q
  b4 := S.b4
  b5 := S.b5
  b6 := S.b6
  b7 := S.b7
  b8 := S.b8
  b9 := S.b9
theorem Gr.freeze (h : H a = some o) (z : Z a = none) (f : H a = none ∨ ow ρ σ a) : Gr ρ ρ σ Z H (upd Z a o) H :=
  ⟨fun _ _ e _ => e, sub_upd z, fun b e q => by
    by_cases eb : b = a
    · subst eb; exact f
    · rw [upd_ne eb] at q; exact absurd e q, fun _ q => q, fun _ q => q, fun _ q => q⟩
theorem Root.frozen (s : Sub Z H) (r : Root L Z H d a) (h : H a = some o) (z : Z a = none) : Rep L (upd Z a o) d (.ref a) := by
  refine Root.rep (Root.mono r (sub_upd z) fun x e => ?_)
  rw [h] at e
  cases e
  exact upd_same
/-- a slot becomes frozen -/
theorem SI.setFz {Z' : Hp} (S : SI L B ρ σ Z H) {sl : Sl} (e : ρ.sl i = some sl) (hv : σ[i]? = some (some v)) (sz : Sub Z Z') (sh : Sub Z' H)
    (nw : ∀ b, Z b = none → Z' b ≠ none → B.H0 b = none ∧ ∀ j s, j ≠ i → ρ.sl j = some s → s.isOw = true → σ[j]? ≠ some (some (.ref b))) (r : Rep L Z' sl.d v) : SI L B (ρ.set i (some (.fz sl.d))) σ Z' H := by
  have li := En.sl_lt e
  have back : ∀ j s, En.sl (ρ.set i (some (.fz sl.d))) j = some s → (j = i ∧ s = .fz sl.d) ∨ (j ≠ i ∧ ρ.sl j = some s) := fun j s q => by
    by_cases ej : j = i
    · subst ej
      rw [En.sl_same li] at q
      cases q
      exact .inl ⟨rfl, rfl⟩
    · rw [En.sl_ne ej] at q
      exact .inr ⟨ej, q⟩
  refine ⟨by rw [List.length_set]; exact S.len, sh, fun j s q => ?_, fun j d w q hw => ?_, fun b q => ?_, fun j k b s t qj oj xj qk uk xk => ?_, S.b1, S.b2.trans sz, fun b q => ?_, fun j d b q => ?_, fun j d q => ?_, fun j d b q => ?_, S.b7, S.b8, fun j d b q => ?_⟩
  · rcases back j s q with ⟨e1, e2⟩ | ⟨_, e2⟩
    · rw [e1, e2]
      exact ⟨v, hv, Rep.rb r sh⟩
    · obtain ⟨w, hw, rb⟩ := S.rep j s e2
      exact ⟨w, hw, rb.mono sz fun _ _ _ q => q⟩
  · rcases back j _ q with ⟨e1, e2⟩ | ⟨_, e2⟩
    · rw [e1, hv] at hw
      cases hw
      injection e2 with e2
      rw [e2]
      exact r
    · exact Rep.sub sz _ _ (S.fz j d w e2 hw)
  · obtain ⟨j, s, q, o, x⟩ := q
    rcases back j s q with ⟨_, e2⟩ | ⟨nj, e2⟩
    · rw [e2] at o; cases o
    · have z := S.nz b ⟨j, s, e2, o, x⟩
      cases z2 : Z' b with
      | none => rfl
      | some y => exact absurd x ((nw b z (by rw [z2]; exact fun q => nomatch q)).2 j s nj e2 o)
  · rcases back j s qj with ⟨_, e2⟩ | ⟨_, e2⟩
    · rw [e2] at oj; cases oj
    · rcases back k t qk with ⟨_, e3⟩ | ⟨_, e3⟩
      · rw [e3] at uk; cases uk
      · exact S.one j k b s t e2 oj xj e3 uk xk
  · cases z : Z b with
    | none => exact .inr (nw b z q).1
    | some y => exact S.b3 b (by rw [z]; exact fun q => nomatch q)
  · rcases back j _ q with ⟨_, e2⟩ | ⟨_, e2⟩
    · cases e2
    · exact S.b4 j d b e2
  · rcases back j _ q with ⟨_, e2⟩ | ⟨_, e2⟩
    · cases e2
    · exact S.b5 j d e2
  · rcases back j _ q with ⟨_, e2⟩ | ⟨_, e2⟩
    · cases e2
    · exact S.b6 j d b e2
  · rcases back j _ q with ⟨_, e2⟩ | ⟨_, e2⟩
    · cases e2
    · exact S.b9 j d b e2
theorem Gr.setFz {x : Option Sl} (hx : ∀ s, x = some s → s.isUs = false) : Gr ρ (ρ.set i x) σ Z H Z H := by
  have bk : ∀ {P : Sl → Bool} (_ : ∀ s, x = some s → P s = false) b, (∃ j s, En.sl (ρ.set i x) j = some s ∧ P s = true ∧ σ[j]? = some (some (.ref b))) → ∃ j s, ρ.sl j = some s ∧ P s = true ∧ σ[j]? = some (some (.ref b)) := fun {P} hP b ⟨j, s, q, o, y⟩ => by
    rw [En.sl_set] at q
    split at q
    · rw [hP s q] at o; cases o
    · exact ⟨j, s, q, o, y⟩
  refine ⟨fun _ _ e _ => e, Sub.rfl', fun _ e q => absurd e q, fun b q => bk (P := Sl.isOw) (fun s e => ?_) b q, fun b q => bk (P := Sl.isUs) hx b q, fun _ q => q⟩
  have := hx s e
  cases s with
  | fz d => rfl
  | own d => exact this
  | bor d => rfl
  | ino d => exact this
/-- THE FREEZE: H the heap now, Hs the heap ahead of the expression -/
theorem toF_ok2 {Hs : Hp} {r : Rv} {ρ' : En} (S : SI L B ρ σ Z H) (hs : ∀ a, B.H0 a ≠ none → Hs a ≠ none) (R : RvOk L Hs ρ σ Z H r v) (e : toF ρ r = some (d, ρ')) :
    ∃ Z', SI L B ρ' σ Z' H ∧ Rep L Z' d v ∧ Sub Z Z' ∧ (∀ b, Z b = none → Z' b ≠ none → (Hs b = none ∧ v = .ref b ∧ ¬ us ρ σ b ∧ ∃ d', r = .new d') ∨ ow ρ σ b) ∧ (∀ b, ow ρ' σ b → ow ρ σ b) ∧ (∀ b, us ρ' σ b → us ρ σ b) := by
  cases r with
  | val d' =>
    cases e
    exact ⟨Z, S, R, Sub.rfl', fun b h q => absurd h q, fun _ q => q, fun _ q => q⟩
  | new d' =>
    cases e
    obtain ⟨a, rfl, z, r, n, f⟩ := R
    obtain ⟨o, ho, _⟩ := r.ex
    have f0 : B.H0 a = none := by
      cases q : B.H0 a with
      | none => rfl
      | some x => exact absurd f (hs a (by rw [q]; exact fun z => nomatch z))
    refine ⟨upd Z a o, S.freeze ho z (fun q => n q.us) f0, Root.frozen S.sub r ho z, sub_upd z, fun b h q => ?_, fun _ q => q, fun _ q => q⟩
    by_cases e : b = a
    · subst e; exact .inl ⟨f, rfl, n, _, rfl⟩
    · rw [upd_ne e] at q; exact absurd h q
  | slot i =>
    have R' : σ[i]? = some (some v) := R
    have e' : (match ρ.sl i with | some (.own d) => some (d, ρ.set i (some (.fz d))) | _ => none) = some (d, ρ') := e
    cases hsl : ρ.sl i with
    | none => rw [hsl] at e'; cases e'
    | some sl =>
      rw [hsl] at e'
      cases sl with
      | own dd =>
        cases e'
        obtain ⟨w, hw, rb⟩ := S.rep i _ hsl
        rw [R'] at hw
        cases hw
        have g := Gr.setFz (ρ := ρ) (σ := σ) (Z := Z) (H := H) (i := i) (x := some (.fz d)) (fun s e => by cases e; rfl)
        rcases rb with ⟨rt, a, rfl, r⟩ | ⟨rt, r⟩
        · have oa : ow ρ σ a := ⟨i, _, hsl, rt, R'⟩
          obtain ⟨o, ho, _⟩ := r.ex
          have z := S.nz a oa
          have nw : ∀ b, Z b = none → upd Z a o b ≠ none → b = a := fun b h q => by
            by_cases e : b = a
            · exact e
            · rw [upd_ne e] at q; exact absurd h q
          refine ⟨upd Z a o, S.setFz hsl R' (sub_upd z) (sub_upd_at S.sub ho) (fun b h q => ?_) (Root.frozen S.sub r ho z), Root.frozen S.sub r ho z, sub_upd z, fun b h q => ?_, g.less, g.lesu⟩
          · cases nw b h q
            exact ⟨S.b4 i d _ hsl rt R', fun j s nj hj oj xj => nj (S.one j i _ s _ hj oj xj hsl rt R')⟩
          · cases nw b h q
            exact .inr oa
        · exact ⟨Z, S.setFz hsl R' Sub.rfl' S.sub (fun b h q => absurd h q) r, r, Sub.rfl', fun b h q => absurd h q, g.less, g.lesu⟩
      | _ => cases e'
theorem toF_ok {Hs : Hp} {r : Rv} {ρ' : En} (S : SI L B ρ σ Z H) (hs : ∀ a, B.H0 a ≠ none → Hs a ≠ none) (R : RvOk L Hs ρ σ Z H r v) (e : toF ρ r = some (d, ρ')) :
    ∃ Z', SI L B ρ' σ Z' H ∧ Rep L Z' d v ∧ Sub Z Z' ∧ (∀ b, Z b = none → Z' b ≠ none → (Hs b = none ∧ v = .ref b ∧ ¬ us ρ σ b) ∨ ow ρ σ b) ∧ (∀ b, ow ρ' σ b → ow ρ σ b) ∧ (∀ b, us ρ' σ b → us ρ σ b) := by
  obtain ⟨Z', a1, a2, a3, a4, a5⟩ := toF_ok2 S hs R e
  exact ⟨Z', a1, a2, a3, fun b h q => (a4 b h q).elim (fun z => .inl ⟨z.1, z.2.1, z.2.2.1⟩) .inr, a5⟩
/-- .. as a step of an expression -/
theorem toF_gr {Zs Hs Z' : Hp} {ρs ρ' : En} (g : Gr ρs ρ σ Zs Hs Z H) (sz : Sub Z Z') (w : ∀ b, Z b = none → Z' b ≠ none → (Hs b = none ∧ v = .ref b ∧ ¬ us ρ σ b) ∨ ow ρ σ b)
    (l : ∀ b, ow ρ' σ b → ow ρ σ b) (u : ∀ b, us ρ' σ b → us ρ σ b) : Gr ρs ρ' σ Zs Hs Z' H where
  keep := g.keep
  zsub := g.zsub.trans sz
  znew := fun a e q => by
    cases z : Z a with
    | none =>
      rcases w a z q with h | h
      · exact .inl h.1
      · exact .inr (g.less a h)
    | some y => exact g.znew a e (by rw [z]; exact fun q => nomatch q)
  less := fun a h => g.less a (l a h)
  lesu := fun a h => g.lesu a (u a h)
  there := g.there
end
end Pi
namespace Pi
open PySem PySem.Spec PyProof.Rows L2
section
variable {L : Lk} {B : Ba} {ρ : En} {σ : Sg} {Z H : Hp} {a p : Addr} {d : D} {o : HO} {v : V} {i : Nat}
/-! ### a new object -/
theorem SI.alloc (S : SI L B ρ σ Z H) (h : H p = none) : SI L B ρ σ Z (upd H p o) where
  len := S.len
  sub := S.sub.trans (sub_upd h)
  rep := fun i sl e => by
    obtain ⟨v, hv, r⟩ := S.rep i sl e
    exact ⟨v, hv, r.mono Sub.rfl' fun b x _ q => sub_upd h b x q⟩
  fz := S.fz
  nz := S.nz
  one := S.one
  b1 := fun b x e n => sub_upd h b x (S.b1 b x e n)
  b2 := S.b2
  b3 := S.b3
  b4 := S.b4
  b5 := S.b5
  b6 := S.b6
  b7 := S.b7
  b8 := fun b q => by
    by_cases e : b = p
    · subst e; rw [upd_same]; exact fun z => nomatch z
    · rw [upd_ne e]; exact S.b8 b q
  b9 := S.b9
theorem Gr.alloc (h : H p = none) : Gr ρ ρ σ Z H Z (upd H p o) :=
  ⟨fun b x e _ => sub_upd h b x e, Sub.rfl', fun _ e q => absurd e q, fun _ q => q, fun _ q => q, fun b q => by
    by_cases e : b = p
    · subst e; rw [upd_same]; exact fun z => nomatch z
    · rw [upd_ne e]; exact q⟩
theorem SI.us_ne (S : SI L B ρ σ Z H) (h : H p = none) : ¬ us ρ σ p := fun ⟨i, sl, e, u, x⟩ => by
  obtain ⟨v, hv, r⟩ := S.rep i sl e
  rw [x] at hv
  cases hv
  rcases r with ⟨_, a, ea, r⟩ | ⟨rt, _⟩
  · cases ea; exact r.ne h
  · cases sl with
    | fz d => cases u
    | own d => exact absurd (show d.root = true from u) (by rw [show d.root = false from rt]; exact fun q => nomatch q)
    | bor d => exact absurd (show d.root = true from u) (by rw [show d.root = false from rt]; exact fun q => nomatch q)
    | ino d => exact absurd (show d.root = true from u) (by rw [show d.root = false from rt]; exact fun q => nomatch q)
theorem SI.z_none (S : SI L B ρ σ Z H) (h : H p = none) : Z p = none := by
  cases e : Z p with
  | none => rfl
  | some x => rw [S.sub p x e] at h; cases h
theorem SI.b0 (S : SI L B ρ σ Z H) (h : H p = none) : B.H0 p = none := by
  cases q : B.H0 p with
  | none => rfl
  | some x => exact absurd h (S.b8 p (by rw [q]; exact fun z => nomatch z))
/-- a fresh thing -/
theorem SI.fresh (S : SI L B ρ σ Z H) (h : H p = none) (r : Root L Z (upd H p o) d p) : RvOk L H ρ σ Z (upd H p o) (.new d) (.ref p) := ⟨p, rfl, S.z_none h, r, S.us_ne h, h⟩
/-- a new thing, frozen at once -/
theorem SI.allocZ (S : SI L B ρ σ Z H) (h : H p = none) : SI L B ρ σ (upd Z p o) (upd H p o) :=
  (S.alloc (o := o) h).freeze upd_same (S.z_none h) (fun q => S.us_ne h q.us) (S.b0 h)
theorem Gr.allocZ (S : SI L B ρ σ Z H) (h : H p = none) : Gr ρ ρ σ Z H (upd Z p o) (upd H p o) := by
  have g : Gr ρ ρ σ Z H Z (upd H p o) := Gr.alloc h
  refine ⟨g.keep, sub_upd (S.z_none h), fun b e q => ?_, g.less, g.lesu, g.there⟩
  by_cases eb : b = p
  · subst eb; exact .inl h
  · rw [upd_ne eb] at q; exact absurd e q

/-! ### a slot's own thing is turned -/
def Sl.setD (d : D) : Sl → Sl
  | .fz _ => .fz d
  | .own _ => .own d
  | .bor _ => .bor d
  | .ino _ => .ino d
theorem SI.write {sl : Sl} {H' : Hp} (S : SI L B ρ σ Z H) (e : ρ.sl i = some sl) (ho : sl.isOw = true) (hv : σ[i]? = some (some (.ref a))) (k : ∀ b x, b ≠ a → H b = some x → H' b = some x) (r : Root L Z H' d a) :
    SI L B (ρ.set i (some (sl.setD d))) σ Z H' := by
  have li := En.sl_lt e
  have oa : ow ρ σ a := ⟨i, sl, e, ho, hv⟩
  have za := S.nz a oa
  have rd : d.root = true := r.isRoot
  have back : ∀ j s, En.sl (ρ.set i (some (sl.setD d))) j = some s → (j = i ∧ s = sl.setD d) ∨ (j ≠ i ∧ ρ.sl j = some s) := fun j s q => by
    by_cases ej : j = i
    · subst ej
      rw [En.sl_same li] at q
      cases q
      exact .inl ⟨rfl, rfl⟩
    · rw [En.sl_ne ej] at q
      exact .inr ⟨ej, q⟩
  have isd : (sl.setD d).d = d := by cases sl <;> rfl
  have iso : (sl.setD d).isOw = true := by cases sl <;> first | cases ho; done | exact rd
  have old : ∀ j s, En.sl (ρ.set i (some (sl.setD d))) j = some s → ∃ t, ρ.sl j = some t ∧ (s.isOw = true → t.isOw = true) ∧ (s.isUs = true → t.isUs = true) := fun j s q => by
    rcases back j s q with ⟨e1, e2⟩ | ⟨_, e2⟩
    · rw [e1]
      refine ⟨sl, e, fun _ => ho, fun _ => ?_⟩
      cases sl <;> first | exact ho | cases ho
    · exact ⟨s, e2, fun q => q, fun q => q⟩
  have zne : ∀ b x, Z b = some x → b ≠ a := fun b x q z => by rw [z, za] at q; cases q
  refine ⟨by rw [List.length_set]; exact S.len, fun b x q => k b x (zne b x q) (S.sub b x q), fun j s q => ?_, fun j d' w q hw => ?_, fun b q => ?_, fun j k b s t qj oj xj qk uk xk => ?_, fun b x q n => ?_, S.b2, S.b3, fun j d b q rt x => ?_, fun j d q => ?_, fun j d b q rt x => ?_, S.b7, fun b q => ?_, fun j d b q rt x => ?_⟩
  · rcases back j s q with ⟨e1, e2⟩ | ⟨nj, e2⟩
    · rw [e1, e2]
      refine ⟨_, hv, .inl ⟨by rw [isd]; exact rd, a, rfl, by rw [isd]; exact r⟩⟩
    · obtain ⟨w, hw, rb⟩ := S.rep j s e2
      refine ⟨w, hw, ?_⟩
      rcases rb with ⟨rt, b, eb, rr⟩ | ⟨rt, rr⟩
      · by_cases eba : b = a
        · subst eba
          have : s.isUs = true ∨ ∃ d, s = .fz d := by cases s <;> first | exact .inl rt | exact .inr ⟨_, rfl⟩
          rcases this with u | ⟨d', rfl⟩
          · exact absurd (S.one i j b sl s e ho hv e2 u (by rw [← eb]; exact hw)) (Ne.symm nj)
          · have fzr := S.fz j d' w e2 hw
            obtain ⟨c, ec, rc⟩ := Rep.root fzr rt
            rw [eb] at ec
            cases ec
            exact absurd za rc.ne
        · exact .inl ⟨rt, b, eb, Root.mono rr Sub.rfl' fun x q => k b x eba q⟩
      · exact .inr ⟨rt, rr⟩
  · rcases back j _ q with ⟨e1, e2⟩ | ⟨_, e2⟩
    · rw [← e2] at iso
      cases iso
    · exact S.fz j d' w e2 hw
  · obtain ⟨j, s, q, o, x⟩ := q
    obtain ⟨t, e2, h2, _⟩ := old j s q
    exact S.nz b ⟨j, t, e2, h2 o, x⟩
  · obtain ⟨t1, e1, h1, _⟩ := old j s qj
    obtain ⟨t2, e2, _, h2⟩ := old k t qk
    exact S.one j k b t1 t2 e1 (h1 oj) xj e2 (h2 uk) xk
  · refine k b x (fun z => ?_) (S.b1 b x q n)
    subst z
    cases sl with
    | fz d => cases ho
    | bor d => cases ho
    | own d =>
      rw [S.b4 i d b e ho hv] at q
      cases q
    | ino d => exact n (S.b6 i d b e ho hv)
  · rcases back j _ q with ⟨e1, e2⟩ | ⟨_, e2⟩
    · subst e1
      cases sl with
      | own d0 => exact S.b4 j d0 b e ho x
      | _ => cases e2
    · exact S.b4 j d b e2 rt x
  · rcases back j _ q with ⟨e1, e2⟩ | ⟨_, e2⟩
    · subst e1
      cases sl with
      | ino d0 => exact S.b5 j d0 e
      | _ => cases e2
    · exact S.b5 j d e2
  · rcases back j _ q with ⟨e1, e2⟩ | ⟨_, e2⟩
    · subst e1
      cases sl with
      | ino d0 => exact S.b6 j d0 b e ho x
      | _ => cases e2
    · exact S.b6 j d b e2 rt x
  · by_cases eb : b = a
    · subst eb; exact r.ne
    · have hb := S.b8 b q
      cases e2 : H b with
      | none => exact absurd e2 hb
      | some x => rw [k b x eb e2]; exact fun z => nomatch z
  · rcases back j _ q with ⟨e1, e2⟩ | ⟨_, e2⟩
    · subst e1
      cases sl with
      | bor d0 => cases ho
      | _ => cases e2
    · exact S.b9 j d b e2 rt x
theorem Gr.write {sl : Sl} {H' : Hp} (e : ρ.sl i = some sl) (ho : sl.isOw = true) (hv : σ[i]? = some (some (.ref a))) (k : ∀ b x, b ≠ a → H b = some x → H' b = some x) (n : H' a ≠ none) :
    Gr ρ (ρ.set i (some (sl.setD d))) σ Z H Z H' := by
  have li := En.sl_lt e
  have oa : ow ρ σ a := ⟨i, sl, e, ho, hv⟩
  have old : ∀ j s, En.sl (ρ.set i (some (sl.setD d))) j = some s → σ[j]? = σ[i]? ∧ j = i ∨ ρ.sl j = some s := fun j s q => by
    by_cases ej : j = i
    · subst ej; exact .inl ⟨rfl, rfl⟩
    · rw [En.sl_ne ej] at q
      exact .inr q
  refine ⟨fun b x q nb => k b x (fun z => nb (z ▸ oa)) q, Sub.rfl', fun _ e q => absurd e q, fun b ⟨j, s, q, o, x⟩ => ?_, fun b ⟨j, s, q, o, x⟩ => ?_, fun b q => ?_⟩
  · rcases old j s q with ⟨_, e1⟩ | e2
    · subst e1
      rw [hv] at x
      cases x
      exact oa
    · exact ⟨j, s, e2, o, x⟩
  · rcases old j s q with ⟨_, e1⟩ | e2
    · subst e1
      rw [hv] at x
      cases x
      exact oa.us
    · exact ⟨j, s, e2, o, x⟩
  · by_cases eb : b = a
    · subst eb; exact n
    · cases e2 : H b with
      | none => exact absurd e2 q
      | some x => rw [k b x eb e2]; exact fun z => nomatch z

/-! ### names are stored, forgotten -/
theorem St.get_set {σ : Sg} {i j : Nat} {x : Option V} (hi : i < σ.length) : (σ.set i x)[j]? = if j = i then some x else σ[j]? := by
  rw [List.getElem?_set]
  by_cases h : i = j
  · subst h; simp [hi]
  · simp [h, Ne.symm h]
theorem SI.put {sl : Sl} (S : SI L B ρ σ Z H) (hi : i < σ.length) (ni : notI (ρ.sl i) = true) (hs : ∀ d, sl ≠ .ino d) (rb : RB L Z H sl.d v) (hf : ∀ d, sl = .fz d → Rep L Z d v)
    (ho : ∀ a, sl.isOw = true → v = .ref a → Z a = none ∧ B.H0 a = none ∧ ∀ j t, j ≠ i → ρ.sl j = some t → t.isUs = true → σ[j]? ≠ some (some (.ref a)))
    (hu : ∀ a, sl.isUs = true → v = .ref a → ∀ j t, j ≠ i → ρ.sl j = some t → t.isOw = true → σ[j]? ≠ some (some (.ref a)))
    (hb : ∀ d a, sl = .bor d → d.root = true → v = .ref a → B.H0 a ≠ none ∧ ¬ B.ia a) : SI L B (ρ.set i (some sl)) (σ.set i (some v)) Z H := by
  have li : i < ρ.length := by rw [S.len]; exact hi
  have back : ∀ j s, En.sl (ρ.set i (some sl)) j = some s → (j = i ∧ s = sl) ∨ (j ≠ i ∧ ρ.sl j = some s) := fun j s q => by
    by_cases ej : j = i
    · subst ej
      rw [En.sl_same li] at q
      cases q
      exact .inl ⟨rfl, rfl⟩
    · rw [En.sl_ne ej] at q
      exact .inr ⟨ej, q⟩
  have at_i : ∀ {w : V}, (σ.set i (some v))[i]? = some (some w) → v = w := fun {w} q => by
    rw [St.get_set hi, if_pos rfl] at q
    cases q
    rfl
  have at_j : ∀ {j : Nat}, j ≠ i → (σ.set i (some v))[j]? = σ[j]? := fun {j} n => by rw [St.get_set hi, if_neg n]
  refine ⟨by rw [List.length_set, List.length_set]; exact S.len, S.sub, fun j s q => ?_, fun j d w q hw => ?_, fun b q => ?_, fun j k b s t qj oj xj qk uk xk => ?_, S.b1, S.b2, S.b3, fun j d b q rt x => ?_, fun j d q => ?_, fun j d b q rt x => ?_, S.b7, S.b8, fun j d b q rt x => ?_⟩
  · rcases back j s q with ⟨e1, e2⟩ | ⟨n, e2⟩
    · rw [e1, e2]
      exact ⟨v, by rw [St.get_set hi, if_pos rfl], rb⟩
    · rw [at_j n]; exact S.rep j s e2
  · rcases back j _ q with ⟨e1, e2⟩ | ⟨n, e2⟩
    · subst e1
      cases at_i hw
      exact hf d e2.symm
    · rw [at_j n] at hw; exact S.fz j d w e2 hw
  · obtain ⟨j, s, q, o, x⟩ := q
    rcases back j s q with ⟨e1, e2⟩ | ⟨n, e2⟩
    · subst e1 e2
      exact (ho b o (at_i x)).1
    · rw [at_j n] at x; exact S.nz b ⟨j, s, e2, o, x⟩
  · rcases back j s qj with ⟨e1, e2⟩ | ⟨n1, e2⟩
    · rcases back k t qk with ⟨e3, e4⟩ | ⟨n2, e4⟩
      · rw [e1, e3]
      · subst e1 e2
        rw [at_j n2] at xk
        exact absurd xk ((ho b oj (at_i xj)).2.2 k t n2 e4 uk)
    · rw [at_j n1] at xj
      rcases back k t qk with ⟨e3, e4⟩ | ⟨n2, e4⟩
      · subst e3 e4
        exact absurd xj (hu b uk (at_i xk) j s n1 e2 oj)
      · rw [at_j n2] at xk
        exact S.one j k b s t e2 oj xj e4 uk xk
  · rcases back j _ q with ⟨e1, e2⟩ | ⟨n, e2⟩
    · subst e1
      subst e2
      exact (ho b rt (at_i x)).2.1
    · rw [at_j n] at x; exact S.b4 j d b e2 rt x
  · rcases back j _ q with ⟨e1, e2⟩ | ⟨n, e2⟩
    · exact absurd e2.symm (hs d)
    · rw [at_j n]; exact S.b5 j d e2
  · rcases back j _ q with ⟨e1, e2⟩ | ⟨n, e2⟩
    · exact absurd e2.symm (hs d)
    · rw [at_j n] at x; exact S.b6 j d b e2 rt x
  · rcases back j _ q with ⟨e1, e2⟩ | ⟨n, e2⟩
    · subst e1
      exact hb d b e2.symm rt (at_i x)
    · rw [at_j n] at x; exact S.b9 j d b e2 rt x
theorem sto_ok {Hs : Hp} {r : Rv} {ρ' : En} (S : SI L B ρ σ Z H) (hs : ∀ a, B.H0 a ≠ none → Hs a ≠ none) (hi : i < σ.length) (R : RvOk L Hs ρ σ Z H r v) (e : sto i ρ r = some ρ') :
    ∃ Z', SI L B ρ' (σ.set i (some v)) Z' H ∧ Sub Z Z' := by
  unfold sto at e
  split at e
  case isFalse => cases e
  case isTrue ni =>
    cases r with
    | new d =>
      cases e
      obtain ⟨a, rfl, z, r, n, f⟩ := R
      refine ⟨Z, S.put hi ni (fun d q => nomatch q) (.inl ⟨r.isRoot, a, rfl, r⟩) (fun d q => nomatch q) (fun b _ eb => ?_) (fun b _ eb j t nj q o x => ?_) (fun d _ q => nomatch q), Sub.rfl'⟩
      · cases eb
        refine ⟨z, ?_, fun j t nj q u x => n ⟨j, t, q, u, x⟩⟩
        cases q : B.H0 a with
        | none => rfl
        | some y => exact absurd f (hs a (by rw [q]; exact fun z => nomatch z))
      · cases eb
        exact n (ow.us ⟨j, t, q, o, x⟩)
    | val d =>
      cases e
      exact ⟨Z, S.put hi ni (fun d q => nomatch q) (Rep.rb R S.sub) (fun d q => by cases q; exact R) (fun a q => nomatch q) (fun a q => nomatch q) (fun d _ q => nomatch q), Sub.rfl'⟩
    | slot j =>
      have R' : σ[j]? = some (some v) := R
      simp only at e
      split at e
      · rename_i d hsl
        cases e
        have h0 : toF ρ (.slot j) = some (d, ρ.set j (some (.fz d))) := by
          show (match ρ.sl j with | some (.own d) => some (d, ρ.set j (some (.fz d))) | _ => none) = _
          rw [hsl]
        obtain ⟨Z', S1, r, sz, _, _, _⟩ := toF_ok S hs R h0
        have ni' : notI (En.sl (ρ.set j (some (.fz d))) i) = true := by
          rw [En.sl_set]
          split
          · rfl
          · exact ni
        exact ⟨Z', S1.put hi ni' (fun d q => nomatch q) (Rep.rb r S1.sub) (fun d q => by cases q; exact r) (fun a q => nomatch q) (fun a q => nomatch q) (fun d _ q => nomatch q), sz⟩
      · rename_i d hsl
        cases e
        obtain ⟨w, hw, rb⟩ := S.rep j _ hsl
        rw [R'] at hw
        cases hw
        refine ⟨Z, S.put hi ni (fun d q => nomatch q) rb (fun d q => nomatch q) (fun a q => nomatch q) (fun a u ea k t nk q o x => ?_) (fun d' a q rt ea => by cases q; exact S.b9 j _ a hsl rt (by rw [← ea]; exact R')), Sub.rfl'⟩
        subst ea
        have e1 := S.one k j a t _ q o x hsl u R'
        subst e1
        rw [q] at hsl
        cases hsl
        cases o
      · cases e
theorem notI_ok {s : Option Sl} (h : notI s = true) (d : D) : s ≠ some (.ino d) := by
  intro e
  rw [e] at h
  cases h
/-- a slot forgotten; the heap's own slot may be forgotten too -/
theorem SI.drop {x : Option V} (S : SI L B ρ σ Z H) (hx : x = none ∨ σ[i]? = some x) : SI L B (ρ.set i none) (σ.set i x) Z H := by
  have back : ∀ j s, En.sl (ρ.set i none) j = some s → j ≠ i ∧ ρ.sl j = some s := fun j s q => by
    by_cases ej : j = i
    · subst ej
      rw [En.sl_set] at q
      split at q
      · cases q
      · rename_i h
        have := En.sl_lt q
        exact absurd ⟨rfl, this⟩ h
    · rw [En.sl_ne ej] at q
      exact ⟨ej, q⟩
  have at_j : ∀ {j : Nat}, j ≠ i → (σ.set i x)[j]? = σ[j]? := fun {j} n => by
    rw [List.getElem?_set_ne (Ne.symm n)]
  refine ⟨by rw [List.length_set, List.length_set]; exact S.len, S.sub, fun j s q => ?_, fun j d w q hw => ?_, fun b q => ?_, fun j k b s t qj oj xj qk uk xk => ?_, S.b1, S.b2, S.b3, fun j d b q rt x => ?_, fun j d q => ?_, fun j d b q rt x => ?_, S.b7, S.b8, fun j d b q rt x => ?_⟩
  · obtain ⟨n, e2⟩ := back j s q
    rw [at_j n]; exact S.rep j s e2
  · obtain ⟨n, e2⟩ := back j _ q
    rw [at_j n] at hw; exact S.fz j d w e2 hw
  · obtain ⟨j, s, q, o, x⟩ := q
    obtain ⟨n, e2⟩ := back j s q
    rw [at_j n] at x; exact S.nz b ⟨j, s, e2, o, x⟩
  · obtain ⟨n1, e2⟩ := back j s qj
    obtain ⟨n2, e4⟩ := back k t qk
    rw [at_j n1] at xj
    rw [at_j n2] at xk
    exact S.one j k b s t e2 oj xj e4 uk xk
  · obtain ⟨n, e2⟩ := back j _ q
    rw [at_j n] at x; exact S.b4 j d b e2 rt x
  · obtain ⟨n, e2⟩ := back j _ q
    rw [at_j n]; exact S.b5 j d e2
  · obtain ⟨n, e2⟩ := back j _ q
    rw [at_j n] at x; exact S.b6 j d b e2 rt x
  · obtain ⟨n, e2⟩ := back j _ q
    rw [at_j n] at x; exact S.b9 j d b e2 rt x
theorem set_self {α : Type} {l : List α} {i : Nat} {x : α} (h : l[i]? = some x) : l.set i x = l := by
  apply List.ext_getElem?
  intro j
  rw [List.getElem?_set]
  split
  · rename_i e
    subst e
    split
    · exact h.symm
    · rename_i n
      exact absurd (List.getElem?_eq_some_iff.mp h).1 n
  · rfl
/-- the interpreter forgets, the frame does not -/
theorem SI.forget (S : SI L B ρ σ Z H) : SI L B (ρ.set i none) σ Z H := by
  cases e : σ[i]? with
  | none =>
    have : ρ.set i none = ρ := by
      apply List.set_eq_of_length_le
      rw [S.len]
      exact List.getElem?_eq_none_iff.mp e
    rw [this]
    exact S
  | some x =>
    have := S.drop (i := i) (x := x) (.inr e)
    rwa [set_self e] at this
theorem SI.wipe (S : SI L B ρ σ Z H) : ∀ is : List Nat, SI L B (Pi.wipe ρ is) σ Z H
  | [] => S
  | i :: is => SI.forget (SI.wipe S is)
/-- both forget -/
theorem SI.wipeB (S : SI L B ρ σ Z H) : ∀ is : List Nat, SI L B (Pi.wipe ρ is) (L2.wipe σ is) Z H
  | [] => S
  | i :: is => (SI.wipeB S is).drop (.inl rfl)
end
end Pi
namespace Pi
open PySem PySem.Spec PyProof.Rows L2

/-! ### texts -/
theorem tx_length (s : Tx) : (tx s).length = s.length := by
  show ((s.map Fin.val).toArray).size = _
  simp
theorem tx_append (s t : Tx) : tx (s ++ t) = tx s ++ tx t := by
  show (⟨((s ++ t).map Fin.val).toArray⟩ : Str) = ⟨(s.map Fin.val).toArray ++ (t.map Fin.val).toArray⟩
  rw [List.map_append]
  simp
theorem map_val_inj : ∀ {s t : Tx}, s.map Fin.val = t.map Fin.val → s = t
  | [], [], _ => rfl
  | [], _ :: _, h => by simp at h
  | _ :: _, [], h => by simp at h
  | a :: s, b :: t, h => by
    simp only [List.map_cons, List.cons.injEq] at h
    rw [Fin.ext h.1, map_val_inj h.2]
theorem tx_inj {s t : Tx} (h : tx s = tx t) : s = t := by
  have h1 : (s.map Fin.val).toArray = (t.map Fin.val).toArray := congrArg Str.cps h
  have h2 : s.map Fin.val = t.map Fin.val := by simpa using congrArg Array.toList h1
  exact map_val_inj h2
theorem tx_eq (s t : Tx) : (tx s == tx t) = (s == t) := by
  by_cases h : s = t
  · subst h; simp
  · have : tx s ≠ tx t := fun e => h (tx_inj e)
    rw [beq_eq_false_iff_ne.mpr this, beq_eq_false_iff_ne.mpr h]
theorem tx_toList (s : Tx) : (tx s).cps.toList = s.map Fin.val := by simp [tx]
theorem tx_ok (s : Tx) : PyData.strOk (tx s) = true := by
  unfold PyData.strOk
  rw [Array.all_eq_true']
  intro c hc
  have : c ∈ (tx s).cps.toList := by simpa using hc
  rw [tx_toList] at this
  obtain ⟨x, _, rfl⟩ := List.mem_map.mp this
  simp

/-! ### data -/
mutual
def D.py : D → PyData
  | .non => .none
  | .bl b => .bool b
  | .int i => .int i
  | .str s => .str (tx s)
  | .tup xs => .tuple (D.pyL xs)
  | .lst xs => .list (D.pyL xs)
  | .dic _ => .none
  | .ob _ _ => .none
  | .scr _ => .none
termination_by structural d => d
def D.pyL : List D → List PyData
  | [] => []
  | x :: xs => D.py x :: D.pyL xs
termination_by structural d => d
end
theorem pyL_map : ∀ xs : List D, D.pyL xs = xs.map D.py
  | [] => rfl
  | x :: xs => by
    show D.py x :: D.pyL xs = _
    rw [pyL_map xs]
    rfl
mutual
theorem canLay_py : ∀ d : D, d.dat = true → d.py.canLay0 = true
  | .non, _ => by simp [D.py, PyData.canLay0]
  | .bl _, _ => by simp [D.py, PyData.canLay0]
  | .int _, _ => by simp [D.py, PyData.canLay0]
  | .str s, _ => by simp [D.py, PyData.canLay0, tx_ok]
  | .tup xs, h => by
    simp only [D.py, PyData.canLay0]
    exact canLay_pyL xs (by simpa [D.dat] using h)
  | .lst xs, h => by
    simp only [D.py, PyData.canLay0]
    exact canLay_pyL xs (by simpa [D.dat] using h)
  | .dic _, h => by simp [D.dat] at h
  | .ob _ _, h => by simp [D.dat] at h
  | .scr _, h => by simp [D.dat] at h
termination_by structural d => d
theorem canLay_pyL : ∀ xs : List D, D.datL xs = true → PyData.canLayAll0 (D.pyL xs) = true
  | [], _ => by simp [D.pyL, PyData.canLayAll0]
  | x :: xs, h => by
    simp only [D.datL, Bool.and_eq_true] at h
    simp only [D.pyL, PyData.canLayAll0, canLay_py x h.1, canLay_pyL xs h.2, Bool.and_self]
termination_by structural d => d
end
mutual
theorem dep_py : ∀ d : D, d.dat = true → d.py.depth = d.dep
  | .non, _ => by simp [D.py, PyData.depth, D.dep]
  | .bl _, _ => by simp [D.py, PyData.depth, D.dep]
  | .int _, _ => by simp [D.py, PyData.depth, D.dep]
  | .str s, _ => by simp [D.py, PyData.depth, D.dep]
  | .tup xs, h => by
    simp only [D.py, PyData.depth, D.dep]
    rw [dep_pyL xs (by simpa [D.dat] using h)]
  | .lst xs, h => by
    simp only [D.py, PyData.depth, D.dep]
    rw [dep_pyL xs (by simpa [D.dat] using h)]
  | .dic _, h => by simp [D.dat] at h
  | .ob _ _, h => by simp [D.dat] at h
  | .scr _, h => by simp [D.dat] at h
termination_by structural d => d
theorem dep_pyL : ∀ xs : List D, D.datL xs = true → PyData.depthAll (D.pyL xs) = D.depL xs
  | [], _ => by simp [D.pyL, PyData.depthAll, D.depL]
  | x :: xs, h => by
    simp only [D.datL, Bool.and_eq_true] at h
    simp only [D.pyL, PyData.depthAll, D.depL, dep_py x h.1, dep_pyL xs h.2]
termination_by structural d => d
end
mutual
theorem eqv_py : ∀ d e : D, d.dat = true → e.dat = true → PyData.eqv d.py e.py = D.eqv d e
  | .non, e, _, he => by cases e <;> simp_all [D.py, PyData.eqv, D.eqv, D.dat]
  | .bl _, e, _, he => by cases e <;> simp_all [D.py, PyData.eqv, D.eqv, D.dat]
  | .int _, e, _, he => by cases e <;> simp_all [D.py, PyData.eqv, D.eqv, D.dat]
  | .str _, e, _, he => by cases e <;> simp_all [D.py, PyData.eqv, D.eqv, D.dat, tx_eq]
  | .tup xs, e, h, he => by
    cases e with
    | tup ys =>
      simp only [D.py, PyData.eqv, D.eqv]
      exact eqvL_py xs ys (by simpa [D.dat] using h) (by simpa [D.dat] using he)
    | _ => simp_all [D.py, PyData.eqv, D.eqv, D.dat]
  | .lst xs, e, h, he => by
    cases e with
    | lst ys =>
      simp only [D.py, PyData.eqv, D.eqv]
      exact eqvL_py xs ys (by simpa [D.dat] using h) (by simpa [D.dat] using he)
    | _ => simp_all [D.py, PyData.eqv, D.eqv, D.dat]
  | .dic _, _, h, _ => by simp [D.dat] at h
  | .ob _ _, _, h, _ => by simp [D.dat] at h
  | .scr _, _, h, _ => by simp [D.dat] at h
termination_by structural d => d
theorem eqvL_py : ∀ xs ys : List D, D.datL xs = true → D.datL ys = true → PyData.eqvAll (D.pyL xs) (D.pyL ys) = D.eqvL xs ys
  | [], [], _, _ => by simp [D.pyL, PyData.eqvAll, D.eqvL]
  | [], _ :: _, _, _ => by simp [D.pyL, PyData.eqvAll, D.eqvL]
  | _ :: _, [], _, _ => by simp [D.pyL, PyData.eqvAll, D.eqvL]
  | x :: xs, y :: ys, h, he => by
    simp only [D.datL, Bool.and_eq_true] at h he
    simp only [D.pyL, PyData.eqvAll, D.eqvL, eqv_py x y h.1 he.1, eqvL_py xs ys h.2 he.2]
termination_by structural d => d
end

section
variable {L : Lk} {Z H : Hp}
mutual
theorem Rep.dp (s : Sub Z H) : ∀ (d : D) (v : V), d.dat = true → Rep L Z d v → Dp L.K H v d.py
  | .non, v, _, h => by simp only [Rep] at h; subst h; simp only [D.py]; exact .non
  | .bl b, v, _, h => by simp only [Rep] at h; subst h; simp only [D.py]; exact .bl b
  | .int i, v, _, h => by simp only [Rep] at h; subst h; simp only [D.py]; exact .int i
  | .str x, v, _, h => by simp only [Rep] at h; subst h; simp only [D.py]; exact .str _
  | .tup xs, v, hd, h => by
    simp only [Rep] at h
    obtain ⟨a, vs, rfl, q, r⟩ := h
    simp only [D.py]
    exact .tup (SqT.sub s q) (RepL.dp s xs vs (by simpa [D.dat] using hd) r)
  | .lst xs, v, hd, h => by
    simp only [Rep] at h
    obtain ⟨a, vs, rfl, q, r⟩ := h
    simp only [D.py]
    exact .lst (SqL.of (s _ _ q)) (RepL.dp s xs vs (by simpa [D.dat] using hd) r)
  | .dic _, _, h, _ => by simp [D.dat] at h
  | .ob _ _, _, h, _ => by simp [D.dat] at h
  | .scr _, _, h, _ => by simp [D.dat] at h
termination_by structural d => d
theorem RepL.dp (s : Sub Z H) : ∀ (ds : List D) (vs : List V), D.datL ds = true → RepL L Z ds vs → DpAll L.K H vs (D.pyL ds)
  | [], vs, _, h => by simp only [RepL] at h; subst h; simp only [D.pyL]; exact .nil
  | d :: ds, vs, hd, h => by
    simp only [RepL] at h
    obtain ⟨v, r, rfl, h1, h2⟩ := h
    simp only [D.datL, Bool.and_eq_true] at hd
    simp only [D.pyL]
    exact .cons (Rep.dp s d v hd.1 h1) (RepL.dp s ds r hd.2 h2)
termination_by structural d => d
end
theorem RB.dp {d : D} {v : V} (s : Sub Z H) (hd : d.dat = true) (h : RB L Z H d v) : Dp L.K H v d.py := by
  rcases h with ⟨r, a, rfl, q⟩ | ⟨r, q⟩
  · cases d with
    | lst xs =>
      obtain ⟨vs, e, q⟩ := q
      simp only [D.py]
      exact .lst (SqL.of e) (RepL.dp s xs vs (by simpa [D.dat] using hd) q)
    | dic _ => simp [D.dat] at hd
    | ob _ _ => simp [D.dat] at hd
    | _ => cases r
  · exact Rep.dp s d v hd q
end
theorem D.sane_dat {d : D} (h : d.sane = true) : d.dat = true := (Bool.and_eq_true_iff.mp h).1
theorem shaped_py {d : D} (h : d.sane = true) : SeqAt.shaped d.py = true := by
  have h1 := D.sane_dat h
  have h2 : d.dep ≤ 60 := of_decide_eq_true (Bool.and_eq_true_iff.mp h).2
  unfold SeqAt.shaped
  rw [canLay_py d h1, dep_py d h1, decide_eq_true (by omega)]
  rfl

/-! ### what a value is, by its tree -/
section
variable {L : Lk} {Z H : Hp} {x : V}
theorem RB.nonE (h : RB L Z H .non x) : x = .non := by
  rcases h with ⟨r, _⟩ | ⟨_, h⟩
  · cases r
  · simpa [Rep] using h
theorem RB.blE {b : Bool} (h : RB L Z H (.bl b) x) : x = .bl b := by
  rcases h with ⟨r, _⟩ | ⟨_, h⟩
  · cases r
  · simpa [Rep] using h
theorem RB.intE {i : Int} (h : RB L Z H (.int i) x) : x = .int i := by
  rcases h with ⟨r, _⟩ | ⟨_, h⟩
  · cases r
  · simpa [Rep] using h
theorem RB.strE {s : Tx} (h : RB L Z H (.str s) x) : x = .str (tx s) := by
  rcases h with ⟨r, _⟩ | ⟨_, h⟩
  · cases r
  · simpa [Rep] using h
theorem RB.lstE {ds : List D} (h : RB L Z H (.lst ds) x) : ∃ a vs, x = .ref a ∧ H a = some (.lst vs) ∧ RepL L Z ds vs := by
  rcases h with ⟨_, a, e, vs, q, r⟩ | ⟨r, _⟩
  · exact ⟨a, vs, e, q, r⟩
  · cases r
theorem RB.tupE {ds : List D} (h : RB L Z H (.tup ds) x) : ∃ a vs, x = .ref a ∧ SqT L.K Z a vs ∧ RepL L Z ds vs := by
  rcases h with ⟨r, _⟩ | ⟨_, h⟩
  · cases r
  · simpa [Rep] using h
theorem RB.dicE {kvs : List (D × D)} (h : RB L Z H (.dic kvs) x) : ∃ a kV, x = .ref a ∧ H a = some (.dK kV) ∧ RepD L Z kvs kV := by
  rcases h with ⟨_, a, e, vs, q, r⟩ | ⟨r, _⟩
  · exact ⟨a, vs, e, q, r⟩
  · cases r
theorem RB.obE {c : Nat} {fs : List (Nat × D)} (h : RB L Z H (.ob c fs) x) : ∃ a dx fV, x = .ref a ∧ H a = some (.ins (L.cls c) dx fV) ∧ RepO L Z fs fV := by
  rcases h with ⟨_, a, e, dx, vs, q, r⟩ | ⟨r, _⟩
  · exact ⟨a, dx, vs, e, q, r⟩
  · cases r
theorem RB.scrE {ns : List Int} (h : RB L Z H (.scr ns) x) : ∃ a, x = .ref a ∧ SqL L.K Z a (ns.map .int) := by
  rcases h with ⟨r, _⟩ | ⟨_, h⟩
  · cases r
  · simpa [Rep] using h

/-! ### lists of trees -/
theorem RepL.len : ∀ {ds : List D} {vs : List V}, RepL L Z ds vs → ds.length = vs.length
  | [], _, h => by simp only [RepL] at h; subst h; rfl
  | d :: ds, vs, h => by
    simp only [RepL] at h
    obtain ⟨v, r, rfl, _, t⟩ := h
    rw [List.length_cons, List.length_cons, RepL.len t]
theorem RepL.nil : RepL L Z [] [] := by simp only [RepL]
theorem RepL.cons {d : D} {ds : List D} {v : V} {vs : List V} (h : Rep L Z d v) (t : RepL L Z ds vs) : RepL L Z (d :: ds) (v :: vs) := by
  simp only [RepL]
  exact ⟨v, vs, rfl, h, t⟩
theorem RepL.consE {d : D} {ds : List D} {vs : List V} (h : RepL L Z (d :: ds) vs) : ∃ v r, vs = v :: r ∧ Rep L Z d v ∧ RepL L Z ds r := by
  simpa only [RepL] using h
theorem RepL.nilE {vs : List V} (h : RepL L Z [] vs) : vs = [] := by simpa only [RepL] using h
theorem RepL.app : ∀ {ds es : List D} {vs ws : List V}, RepL L Z ds vs → RepL L Z es ws → RepL L Z (ds ++ es) (vs ++ ws)
  | [], es, vs, ws, h, t => by cases h.nilE; exact t
  | d :: ds, es, vs, ws, h, t => by
    obtain ⟨v, r, rfl, q, h⟩ := h.consE
    exact .cons q (RepL.app h t)
theorem RepL.get : ∀ {ds : List D} {vs : List V} {i : Nat} {d : D}, RepL L Z ds vs → ds[i]? = some d → ∃ v, vs[i]? = some v ∧ Rep L Z d v
  | [], _, _, _, _, e => by simp at e
  | d :: ds, vs, 0, _, h, e => by
    obtain ⟨v, r, rfl, q, h⟩ := h.consE
    simp at e
    subst e
    exact ⟨v, rfl, q⟩
  | d :: ds, vs, i + 1, _, h, e => by
    obtain ⟨v, r, rfl, q, h⟩ := h.consE
    simpa using RepL.get h (show ds[i]? = _ by simpa using e)
theorem RepL.drop : ∀ {ds : List D} {vs : List V} (n : Nat), RepL L Z ds vs → RepL L Z (ds.drop n) (vs.drop n)
  | _, _, 0, h => h
  | [], vs, n + 1, h => by cases h.nilE; exact RepL.nil
  | d :: ds, vs, n + 1, h => by
    obtain ⟨v, r, rfl, q, h⟩ := h.consE
    exact RepL.drop n h
theorem RepL.take : ∀ {ds : List D} {vs : List V} (n : Nat), RepL L Z ds vs → RepL L Z (ds.take n) (vs.take n)
  | _, _, 0, h => by rw [List.take_zero, List.take_zero]; exact RepL.nil
  | [], vs, n + 1, h => by cases h.nilE; exact RepL.nil
  | d :: ds, vs, n + 1, h => by
    obtain ⟨v, r, rfl, q, h⟩ := h.consE
    exact .cons q (RepL.take n h)
theorem RepL.set : ∀ {ds : List D} {vs : List V} {d : D} {v : V} (n : Nat), RepL L Z ds vs → Rep L Z d v → RepL L Z (ds.set n d) (vs.set n v)
  | [], vs, _, _, _, h, _ => by cases h.nilE; exact RepL.nil
  | d :: ds, vs, _, _, 0, h, w => by
    obtain ⟨v, r, rfl, q, h⟩ := h.consE
    exact .cons w h
  | d :: ds, vs, _, _, n + 1, h, w => by
    obtain ⟨v, r, rfl, q, h⟩ := h.consE
    exact .cons q (RepL.set n h w)
theorem RepL.erase : ∀ {ds : List D} {vs : List V} (n : Nat), RepL L Z ds vs → RepL L Z (ds.eraseIdx n) (vs.eraseIdx n)
  | [], vs, _, h => by cases h.nilE; exact RepL.nil
  | d :: ds, vs, 0, h => by
    obtain ⟨v, r, rfl, q, h⟩ := h.consE
    exact h
  | d :: ds, vs, n + 1, h => by
    obtain ⟨v, r, rfl, q, h⟩ := h.consE
    exact .cons q (RepL.erase n h)
theorem RepL.init {ds : List D} {vs : List V} (h : RepL L Z ds vs) : RepL L Z ds.dropLast vs.dropLast := by
  rw [List.dropLast_eq_take, List.dropLast_eq_take, h.len]
  exact RepL.take _ h
theorem RepL.rep {ds : List D} {vs : List V} (h : RepL L Z ds vs) : ∀ n : Nat, RepL L Z (List.replicate n ds).flatten (List.replicate n vs).flatten
  | 0 => RepL.nil
  | n + 1 => by
    rw [List.replicate_succ, List.replicate_succ, List.flatten_cons, List.flatten_cons]
    exact RepL.app h (RepL.rep h n)
theorem RepL.ints : ∀ ns : List Int, RepL L Z (ns.map .int) (ns.map .int)
  | [] => RepL.nil
  | n :: ns => .cons (by simp only [Rep]) (RepL.ints ns)
theorem RepL.strs : ∀ ss : List Tx, RepL L Z (ss.map .str) (ss.map fun s => .str (tx s))
  | [] => RepL.nil
  | s :: ss => .cons (by simp only [Rep]) (RepL.strs ss)
theorem RepL.map {α : Type} {f : α → D} {g : α → V} (h : ∀ a, Rep L Z (f a) (g a)) : ∀ as : List α, RepL L Z (as.map f) (as.map g)
  | [] => RepL.nil
  | a :: as => .cons (h a) (RepL.map h as)
end

/-! ### what an operation leaves -/
def Res (L : Lk) (Z H : Hp) (r : Rv) (v : V) (H' : Hp) : Prop := match r with
  | .val d => (H' = H ∧ Rep L Z d v) ∨ ∃ p o, H p = none ∧ H' = upd H p o ∧ Rep L (upd Z p o) d v
  | .new d => ∃ p o, H p = none ∧ H' = upd H p o ∧ v = .ref p ∧ Root L Z (upd H p o) d p
  | .slot _ => False
/-- a state behind an operation -/
theorem Res.ok {L : Lk} {B : Ba} {ρ : En} {σ : Sg} {Z H H' : Hp} {r : Rv} {v : V} (S : SI L B ρ σ Z H) (h : Res L Z H r v H') :
    ∃ Z', SI L B ρ σ Z' H' ∧ Gr ρ ρ σ Z H Z' H' ∧ RvOk L H ρ σ Z' H' r v := by
  cases r with
  | val d =>
    rcases h with ⟨rfl, r⟩ | ⟨p, o, hp, rfl, r⟩
    · exact ⟨Z, S, Gr.refl, r⟩
    · exact ⟨upd Z p o, S.allocZ hp, Gr.allocZ S hp, r⟩
  | new d =>
    obtain ⟨p, o, hp, rfl, rfl, r⟩ := h
    exact ⟨Z, S.alloc hp, Gr.alloc hp, S.fresh hp r⟩
  | slot i => exact False.elim h
theorem RvOk.start {L : Lk} {ρ : En} {σ : Sg} {Z H H1 H0 : Hp} {r : Rv} {v : V} (h : RvOk L H1 ρ σ Z H r v) (k : ∀ a, H0 a ≠ none → H1 a ≠ none) : RvOk L H0 ρ σ Z H r v := by
  cases r with
  | val d => exact h
  | slot i => exact h
  | new d =>
    obtain ⟨a, e, z, r, n, f⟩ := h
    refine ⟨a, e, z, r, n, ?_⟩
    cases q : H0 a with
    | none => rfl
    | some x => exact absurd f (k a (by rw [q]; exact fun z => nomatch z))
end Pi
namespace Pi
open PySem PySem.Spec PyProof.Rows L2

/-- an operation on two trees, as a rule of values -/
def rO (L : Lk) (o : O2) : R2 := fun x y H Q => ∃ Z d e r, Sub Z H ∧ RB L Z H d x ∧ RB L Z H e y ∧ o2 o d e = some r ∧ ∀ v H', Res L Z H r v H' → Q v H'
theorem Res.here {L : Lk} {Z H : Hp} {d : D} {v : V} (h : Rep L Z d v) : Res L Z H (.val d) v H := .inl ⟨rfl, h⟩
theorem Res.mk {L : Lk} {Z H : Hp} {d : D} {p : Addr} {o : HO} (hp : H p = none) (h : Root L Z (upd H p o) d p) : Res L Z H (.new d) (.ref p) (upd H p o) := ⟨p, o, hp, rfl, rfl, h⟩
theorem Res.mkZ {L : Lk} {Z H : Hp} {d : D} {p : Addr} {o : HO} {v : V} (hp : H p = none) (h : Rep L (upd Z p o) d v) : Res L Z H (.val d) v (upd H p o) := .inr ⟨p, o, hp, rfl, h⟩
theorem rep_int {L : Lk} {Z : Hp} {i : Int} : Rep L Z (.int i) (.int i) := by simp only [Rep]
theorem rep_bl {L : Lk} {Z : Hp} {b : Bool} : Rep L Z (.bl b) (.bl b) := by simp only [Rep]
theorem rep_non {L : Lk} {Z : Hp} : Rep L Z .non .non := by simp only [Rep]
theorem rep_str {L : Lk} {Z : Hp} {s : Tx} {x : Str} (e : x = tx s) : Rep L Z (.str s) (.str x) := by simp only [Rep]; rw [e]
theorem z_none {Z H : Hp} {p : Addr} (s : Sub Z H) (h : H p = none) : Z p = none := by
  cases e : Z p with
  | none => rfl
  | some x => rw [s p x e] at h; cases h
theorem rep_tup {L : Lk} {Z : Hp} {p : Addr} {ds : List D} {vs : List V} (hz : Z p = none) (h : RepL L Z ds vs) : Rep L (upd Z p (.tup vs)) (.tup ds) (.ref p) := by
  simp only [Rep]
  exact ⟨p, vs, rfl, SqT.of upd_same, RepL.sub (sub_upd hz) _ _ h⟩
theorem root_lst {L : Lk} {Z H : Hp} {p : Addr} {ds : List D} {vs : List V} (h : RepL L Z ds vs) : Root L Z (upd H p (.lst vs)) (.lst ds) p := ⟨vs, upd_same, h⟩
theorem SL_line : SL = sizeLine := by rw [sizeLine_eq]; rfl

theorem flat_rep (x : Tx) : ∀ n : Nat, (List.replicate n (tx x).cps).foldl (· ++ ·) #[] = (tx (List.replicate n x).flatten).cps := by
  have key : ∀ (n : Nat) (acc : Array Nat), (List.replicate n (tx x).cps).foldl (· ++ ·) acc = acc ++ (tx (List.replicate n x).flatten).cps := fun n => by
    induction n with
    | zero => intro acc; simp [tx]
    | succ n ih =>
      intro acc
      rw [List.replicate_succ, List.foldl_cons, ih, List.replicate_succ, List.flatten_cons]
      show acc ++ (tx x).cps ++ _ = acc ++ (tx (x ++ _)).cps
      rw [tx_append]
      show acc ++ (tx x).cps ++ _ = acc ++ ((tx x).cps ++ _)
      rw [Array.append_assoc]
  intro n
  rw [key]
  simp
theorem tx_lt (i j : Tx) : decide ((tx i).cps.toList < (tx j).cps.toList) = txLt i j := by
  unfold txLt
  rw [tx_toList, tx_toList]
section
variable {X : Cx} {L : Lk} (hK : X.K = L.K)
include hK
theorem o_add : OpR X (binaryOp .Add) (rO L .add) := by
  intro pins s σ H x y v u Q I rx ry ⟨Z, d, e, r, sub, hx, hy, eq, q⟩
  cases d <;> cases e <;> simp only [o2] at eq <;> try (cases eq; done)
  · rename_i i j
    cases eq
    exact op_add pins s σ H x y v u Q I rx ry ⟨i, j, hx.intE, hy.intE, q _ _ (.here rep_int)⟩
  · rename_i i j
    split at eq
    case isFalse => cases eq
    case isTrue hl =>
      cases eq
      exact op_add_str pins s σ H x y v u Q I rx ry ⟨tx i, tx j, hx.strE, hy.strE, by rw [tx_length, tx_length, ← SL_line]; exact hl, q _ _ (.here (rep_str (tx_append i j).symm))⟩
  · rename_i i j
    split at eq
    case isFalse => cases eq
    case isTrue hl =>
      cases eq
      obtain ⟨a, xs, rfl, ha, qa⟩ := hx.tupE
      obtain ⟨b, ys, rfl, hb, qb⟩ := hy.tupE
      refine op_catA pins s σ H _ _ v u Q I rx ry ⟨a, b, xs, ys, rfl, rfl, SqT.sub sub (by rw [hK]; exact ha), SqT.sub sub (by rw [hK]; exact hb), by rw [← qa.len, ← qb.len, ← SL_line]; exact hl, fun e1 => ?_, fun e1 e2 => ?_, fun e1 e2 p hp => ?_⟩
      · subst e1
        have e0 : i = [] := by cases i with
          | nil => rfl
          | cons => have := qa.len; simp at this
        subst e0
        exact q _ _ (.here (by simp only [Rep]; exact ⟨b, ys, rfl, hb, qb⟩))
      · subst e2
        have e0 : j = [] := by cases j with
          | nil => rfl
          | cons => have := qb.len; simp at this
        subst e0
        rw [List.append_nil] at q
        exact q _ _ (.here (by simp only [Rep]; exact ⟨a, xs, rfl, ha, qa⟩))
      · exact q _ _ (.mkZ hp (rep_tup (z_none sub hp) (qa.app qb)))
  · rename_i i j
    split at eq
    case isFalse => cases eq
    case isTrue hl =>
      cases eq
      obtain ⟨a, xs, rfl, ha, qa⟩ := hx.lstE
      obtain ⟨b, ys, rfl, hb, qb⟩ := hy.lstE
      exact op_cat pins s σ H _ _ v u Q I rx ry ⟨a, b, xs, ys, rfl, rfl, ha, hb, by rw [← qa.len, ← qb.len, ← SL_line]; exact hl, fun p hp => q _ _ (.mk hp (root_lst (qa.app qb)))⟩
theorem o_sub : OpR X (binaryOp .Sub) (rO L .sub) := by
  intro pins s σ H x y v u Q I rx ry ⟨Z, d, e, r, sub, hx, hy, eq, q⟩
  cases d <;> cases e <;> simp only [o2] at eq <;> try (cases eq; done)
  rename_i i j
  cases eq
  exact op_sub pins s σ H x y v u Q I rx ry ⟨i, j, hx.intE, hy.intE, q _ _ (.here rep_int)⟩
theorem o_mul : OpR X (binaryOp .Mult) (rO L .mul) := by
  intro pins s σ H x y v u Q I rx ry ⟨Z, d, e, r, sub, hx, hy, eq, q⟩
  cases d <;> cases e <;> simp only [o2] at eq <;> try (cases eq; done)
  · rename_i i j
    split at eq
    case isFalse => cases eq
    case isTrue hl =>
      cases eq
      exact op_mul pins s σ H x y v u Q I rx ry ⟨i, j, hx.intE, hy.intE, hl, q _ _ (.here rep_int)⟩
  · rename_i z j
    split at eq
    case isFalse => cases eq
    case isTrue hl =>
      obtain ⟨h0, h1, h2⟩ := hl
      cases eq
      cases hx.strE
      cases hy.intE
      obtain ⟨t, rfl⟩ := rx
      obtain ⟨t', rfl⟩ := ry
      have hjn : ((j.toNat : Nat) : Int) = j := Int.toNat_of_nonneg h0
      have hsl : sizeLine = 16777216 := sizeLine_eq
      refine PySem.P.mul_str ?_ (fun h3 _ h4 => ?_) (fun h3 _ => ?_) ?_
      · rw [decide_eq_false (by omega), decide_eq_false (by omega)]; rfl
      · rw [tx_length] at h4
        have h5 : (z.length : Int) * j ≤ 1000 * 1000 := by
          have : (z.length : Int) ≤ 1000 := by omega
          exact Int.mul_le_mul this h1 h0 (by decide)
        have : (z.length : Int) ≤ (2 ^ 63 - 1) / j := Int.le_ediv_of_mul_le (by omega) (by omega)
        omega
      · have : z.length * j.toNat ≤ 1000 * 1000 := Nat.mul_le_mul h2 (by omega)
        rw [tx_length]
        show decide (z.length * j.toNat > sizeLine) = false
        exact decide_eq_false (by omega)
      · have hQ : ∀ (t : Tok) (tk : Nat) (w : Str), w = tx (List.replicate j.toNat z).flatten → EP X pins σ Q (.str w t) { s with toks := tk } := fun t tk w e => ⟨.str w, H, I.tok tk, ⟨t, rfl⟩, q _ _ (.here (rep_str e))⟩
        have hsz : (tx (List.replicate j.toNat z).flatten).length ≤ sizeLine := by
          have : z.length * j.toNat ≤ 1000 * 1000 := Nat.mul_le_mul h2 (by omega)
          rw [tx_length, List.length_flatten]
          simp only [List.map_replicate, List.sum_replicate_nat]
          rw [Nat.mul_comm]
          omega
        split
        · have : j.toNat = 0 := by omega
          exact ⟨by decide, hQ _ _ _ (by rw [this]; rfl)⟩
        · split
          · rename_i h5
            refine hQ t s.toks _ ?_
            rcases Bool.or_eq_true_iff.mp h5 with h6 | h6
            · have : j = 1 := by simpa using h6
              subst this
              show tx z = tx (List.replicate 1 z).flatten
              rw [List.replicate_one, List.flatten_singleton]
            · have h7 : z.length = 0 := by rw [← tx_length]; simpa using h6
              have : z = [] := List.eq_nil_of_length_eq_zero h7
              subst this
              simp
          · rw [flat_rep]
            exact ⟨hsz, hQ _ _ _ rfl⟩
  · rename_i i j
    split at eq
    case isFalse => cases eq
    case isTrue hl =>
      obtain ⟨h0, h1, h2⟩ := hl
      cases eq
      obtain ⟨a, xs, rfl, ha, qa⟩ := hx.lstE
      have : xs.length * j.toNat ≤ 1000 * 1000 := Nat.mul_le_mul (by rw [← qa.len]; exact h2) (by omega)
      exact op_rep pins s σ H _ y v u Q I rx ry ⟨a, j, xs, rfl, hy.intE, ha, by omega, by omega, by rw [sizeLine_eq]; omega, fun p hp => q _ _ (.mk hp (root_lst (qa.rep _)))⟩
theorem o_fdiv : OpR X (binaryOp .FloorDiv) (rO L .fdiv) := by
  intro pins s σ H x y v u Q I rx ry ⟨Z, d, e, r, sub, hx, hy, eq, q⟩
  cases d <;> cases e <;> simp only [o2] at eq <;> try (cases eq; done)
  rename_i i j
  split at eq
  case isFalse => cases eq
  case isTrue hl =>
    cases eq
    exact op_fdivW pins s σ H x y v u Q I rx ry ⟨i, j, hx.intE, hy.intE, wide_div (b := 64) hl.1 (by omega) (by decide) (by decide), q _ _ (.here rep_int)⟩
theorem o_mod : OpR X (binaryOp .Mod) (rO L .mod) := by
  intro pins s σ H x y v u Q I rx ry ⟨Z, d, e, r, sub, hx, hy, eq, q⟩
  cases d <;> cases e <;> simp only [o2] at eq <;> try (cases eq; done)
  rename_i i j
  split at eq
  case isFalse => cases eq
  case isTrue hl =>
    cases eq
    exact op_mod pins s σ H x y v u Q I rx ry ⟨i, j, hx.intE, hy.intE, hl, q _ _ (.here rep_int)⟩
theorem o_pow : OpR X (binaryOp .Pow) (rO L .pow) := by
  intro pins s σ H x y v u Q I rx ry ⟨Z, d, e, r, sub, hx, hy, eq, q⟩
  cases d <;> cases e <;> simp only [o2] at eq <;> try (cases eq; done)
  rename_i i j
  split at eq
  case isFalse => cases eq
  case isTrue hl =>
    cases eq
    exact op_pow pins s σ H x y v u Q I rx ry ⟨i, j, hx.intE, hy.intE, ⟨hl.1, by omega, hl.2.2⟩, q _ _ (.here rep_int)⟩
theorem o_shr : OpR X (binaryOp .RShift) (rO L .shr) := by
  intro pins s σ H x y v u Q I rx ry ⟨Z, d, e, r, sub, hx, hy, eq, q⟩
  cases d <;> cases e <;> simp only [o2] at eq <;> try (cases eq; done)
  rename_i i j
  split at eq
  case isFalse => cases eq
  case isTrue hl =>
    cases eq
    exact op_shr pins s σ H x y v u Q I rx ry ⟨i, j, hx.intE, hy.intE, hl, q _ _ (.here rep_int)⟩
/-- == and != -/
theorem o_eq (hu : X.A.units + 64 < cLine) : OpR X (compareOp .Eq) (rO L .eq) := by
  intro pins s σ H x y v u Q I rx ry ⟨Z, d, e, r, sub, hx, hy, eq, q⟩
  simp only [o2, D.eqq] at eq
  split at eq
  case isFalse => cases eq
  case isTrue hl =>
    cases eq
    refine op_eqD hu pins s σ H x y v u Q I rx ry ⟨d.py, e.py, by rw [hK]; exact RB.dp sub (D.sane_dat hl.1) hx, by rw [hK]; exact RB.dp sub (D.sane_dat hl.2) hy, shaped_py hl.1, shaped_py hl.2, ?_⟩
    rw [eqv_py d e (D.sane_dat hl.1) (D.sane_dat hl.2)]
    exact q _ _ (.here rep_bl)
theorem o_ne (hu : X.A.units + 64 < cLine) : OpR X (compareOp .NotEq) (rO L .ne) := by
  intro pins s σ H x y v u Q I rx ry ⟨Z, d, e, r, sub, hx, hy, eq, q⟩
  simp only [o2, D.eqq] at eq
  split at eq
  case isFalse => cases eq
  case isTrue hl =>
    cases eq
    refine op_neD hu pins s σ H x y v u Q I rx ry ⟨d.py, e.py, by rw [hK]; exact RB.dp sub (D.sane_dat hl.1) hx, by rw [hK]; exact RB.dp sub (D.sane_dat hl.2) hy, shaped_py hl.1, shaped_py hl.2, ?_⟩
    rw [eqv_py d e (D.sane_dat hl.1) (D.sane_dat hl.2)]
    exact q _ _ (.here rep_bl)
theorem o_lt : OpR X (compareOp .Lt) (rO L .lt) := by
  intro pins s σ H x y v u Q I rx ry ⟨Z, d, e, r, sub, hx, hy, eq, q⟩
  cases d <;> cases e <;> simp only [o2] at eq <;> try (cases eq; done)
  · rename_i i j
    cases eq
    exact op_lt pins s σ H x y v u Q I rx ry ⟨i, j, hx.intE, hy.intE, q _ _ (.here rep_bl)⟩
  · rename_i i j
    cases eq
    exact op_lt_str pins s σ H x y v u Q I rx ry ⟨tx i, tx j, hx.strE, hy.strE, by rw [tx_lt]; exact q _ _ (.here rep_bl)⟩
theorem o_le : OpR X (compareOp .LtE) (rO L .le) := by
  intro pins s σ H x y v u Q I rx ry ⟨Z, d, e, r, sub, hx, hy, eq, q⟩
  cases d <;> cases e <;> simp only [o2] at eq <;> try (cases eq; done)
  · rename_i i j
    cases eq
    exact op_le pins s σ H x y v u Q I rx ry ⟨i, j, hx.intE, hy.intE, q _ _ (.here rep_bl)⟩
  · rename_i i j
    cases eq
    exact op_le_str pins s σ H x y v u Q I rx ry ⟨tx i, tx j, hx.strE, hy.strE, by rw [tx_lt]; exact q _ _ (.here rep_bl)⟩
theorem o_gt : OpR X (compareOp .Gt) (rO L .gt) := by
  intro pins s σ H x y v u Q I rx ry ⟨Z, d, e, r, sub, hx, hy, eq, q⟩
  cases d <;> cases e <;> simp only [o2] at eq <;> try (cases eq; done)
  · rename_i i j
    cases eq
    exact op_gt pins s σ H x y v u Q I rx ry ⟨i, j, hx.intE, hy.intE, q _ _ (.here rep_bl)⟩
  · rename_i i j
    cases eq
    exact op_gt_str pins s σ H x y v u Q I rx ry ⟨tx i, tx j, hx.strE, hy.strE, by rw [tx_lt]; exact q _ _ (.here rep_bl)⟩
theorem o_ge : OpR X (compareOp .GtE) (rO L .ge) := by
  intro pins s σ H x y v u Q I rx ry ⟨Z, d, e, r, sub, hx, hy, eq, q⟩
  cases d <;> cases e <;> simp only [o2] at eq <;> try (cases eq; done)
  · rename_i i j
    cases eq
    exact op_ge pins s σ H x y v u Q I rx ry ⟨i, j, hx.intE, hy.intE, q _ _ (.here rep_bl)⟩
  · rename_i i j
    cases eq
    exact op_ge_str pins s σ H x y v u Q I rx ry ⟨tx i, tx j, hx.strE, hy.strE, by rw [tx_lt]; exact q _ _ (.here rep_bl)⟩
end
end Pi
namespace Pi
open PySem PySem.Spec PyProof.Rows L2

/-! ### dicts -/
theorem key_of {x : D} (h : keyOk x = true) : ∃ k, keyD x = some k := by
  cases x <;> first | cases h; done | exact ⟨_, rfl⟩
theorem key_rep {L : Lk} {Z H : Hp} {x : D} {v : V} {k : Key} (h : RB L Z H x v) (e : keyD x = some k) : v = kV k := by
  cases x <;> first
    | cases e; done
    | (cases e; exact h.intE)
    | (cases e; exact h.strE)
theorem key_eq {x y : D} {k l : Key} (ex : keyD x = some k) (ey : keyD y = some l) : D.eqv x y = decide (k = l) := by
  cases x <;> cases y <;> first
    | cases ex; done
    | cases ey; done
    | skip
  · rename_i i j
    cases ex; cases ey
    simp only [D.eqv]
    by_cases h : i = j
    · subst h; simp
    · have : ¬ (Sum.inl i : Key) = Sum.inl j := fun e => h (Sum.inl.inj e)
      rw [decide_eq_false this]
      exact beq_eq_false_iff_ne.mpr h
  · cases ex; cases ey; simp [D.eqv]
  · cases ex; cases ey; simp [D.eqv]
  · rename_i s t
    cases ex
    cases ey
    simp only [D.eqv]
    by_cases h : s = t
    · subst h; simp
    · have : ¬ (Sum.inr (tx s) : Key) = Sum.inr (tx t) := fun e => h (tx_inj (Sum.inr.inj e))
      rw [decide_eq_false this]
      exact beq_eq_false_iff_ne.mpr h
section
variable {L : Lk} {Z H : Hp}
theorem RepD.consE {p : D × D} {ps : List (D × D)} {kV : List (Key × V)} (h : RepD L Z (p :: ps) kV) : ∃ k v r, kV = (k, v) :: r ∧ keyD p.1 = some k ∧ Rep L Z p.2 v ∧ RepD L Z ps r := by
  simp only [RepD] at h
  obtain ⟨k, v, r, e, q, t⟩ := h
  obtain ⟨x, d⟩ := p
  simp only [RepP] at q
  exact ⟨k, v, r, e, q.1, q.2, t⟩
theorem RepD.cons {p : D × D} {ps : List (D × D)} {k : Key} {v : V} {r : List (Key × V)} (h1 : keyD p.1 = some k) (h2 : Rep L Z p.2 v) (t : RepD L Z ps r) : RepD L Z (p :: ps) ((k, v) :: r) := by
  simp only [RepD]
  obtain ⟨x, d⟩ := p
  exact ⟨k, v, r, rfl, by simp only [RepP]; exact ⟨h1, h2⟩, t⟩
theorem RepD.nil : RepD L Z [] [] := by simp only [RepD]
theorem RepD.len : ∀ {ps : List (D × D)} {kV : List (Key × V)}, RepD L Z ps kV → ps.length = kV.length
  | [], kV, h => by simp only [RepD] at h; subst h; rfl
  | p :: ps, kV, h => by
    obtain ⟨k, v, r, rfl, _, _, t⟩ := h.consE
    rw [List.length_cons, List.length_cons, RepD.len t]
theorem RepD.look {x : D} {k : Key} (ex : keyD x = some k) : ∀ {ps : List (D × D)} {kV : List (Key × V)}, RepD L Z ps kV →
    (dlook ps x).isSome = (valV kV k).isSome ∧ ∀ d, dlook ps x = some d → ∃ v, valV kV k = some v ∧ Rep L Z d v
  | [], kV, h => by simp only [RepD] at h; subst h; exact ⟨rfl, fun d e => nomatch e⟩
  | (y, d) :: ps, kV, h => by
    obtain ⟨l, v, r, rfl, q1, q2, t⟩ := h.consE
    have ih := RepD.look ex t
    have e1 : D.eqv y x = decide (l = k) := key_eq q1 ex
    have e2 : valV ((l, v) :: r) k = if l = k then some v else valV r k := by
      unfold valV
      rw [List.find?_cons]
      by_cases h : l = k
      · simp [h]
      · simp [h]
    rw [e2]
    simp only [dlook, e1]
    by_cases h : l = k
    · simp only [h, decide_true, if_true]
      exact ⟨rfl, fun d' e => by cases e; exact ⟨v, rfl, q2⟩⟩
    · simp only [h, decide_false, if_false, Bool.false_eq_true]
      exact ih
theorem RepD.put {x d : D} {k : Key} {w : V} (ex : keyD x = some k) (hw : Rep L Z d w) : ∀ {ps : List (D × D)} {kV : List (Key × V)}, RepD L Z ps kV → (kV.map (·.1)).Nodup → RepD L Z (dput ps x d) (putK kV k w)
  | [], kV, h, _ => by simp only [RepD] at h; subst h; exact .cons ex hw .nil
  | (y, e) :: ps, kV, h, nd => by
    obtain ⟨l, v, r, rfl, q1, q2, t⟩ := h.consE
    rw [List.map_cons, List.nodup_cons] at nd
    have e1 : D.eqv y x = decide (l = k) := key_eq q1 ex
    simp only [dput, e1]
    by_cases hl : l = k
    · subst hl
      simp only [decide_true, if_true]
      have : putK ((l, v) :: r) l w = (l, w) :: r := by
        unfold putK
        rw [if_pos (by simp)]
        rw [List.map_cons, if_pos rfl]
        congr 1
        conv => rhs; rw [← List.map_id r]
        refine List.map_congr_left fun z hz => ?_
        rw [if_neg fun e => nd.1 (List.mem_map.mpr ⟨z, hz, e⟩)]
        rfl
      rw [this]
      exact .cons q1 hw t
    · simp only [hl, decide_false, if_false, Bool.false_eq_true]
      have : putK ((l, v) :: r) k w = (l, v) :: putK r k w := by
        unfold putK
        rw [List.any_cons, decide_eq_false hl, Bool.false_or]
        split
        · rw [List.map_cons, if_neg hl]
        · rfl
      rw [this]
      exact .cons q1 q2 (RepD.put ex hw t nd.2)
end

/-! ### in, not in -/
theorem pyL_any (d : D) (hd : d.dat = true) : ∀ xs : List D, D.datL xs = true → (D.pyL xs).any (fun z => PyData.eqv z d.py) = inL d xs
  | [], _ => rfl
  | x :: xs, h => by
    simp only [D.datL, Bool.and_eq_true] at h
    show (D.py x :: D.pyL xs).any _ = (x :: xs).any _
    rw [List.any_cons, List.any_cons, eqv_py x d h.1 hd]
    have := pyL_any d hd xs h.2
    unfold inL at this
    rw [this]
theorem sane_room {X : Cx} {d : D} {ds : List PyData} (hu : X.A.units + 65 < cLine) (h : d.sane = true) : X.A.units + 1 + min (PyData.depthAll ds) d.py.depth < cLine := by
  have h2 : d.dep ≤ 60 := of_decide_eq_true (Bool.and_eq_true_iff.mp h).2
  rw [dep_py d (D.sane_dat h)]
  have := Nat.min_le_right (PyData.depthAll ds) d.dep
  omega
theorem sign_in (c : Ch) (t : Tx) : decide (c.val ∈ (tx t).cps.toList) = decide (c ∈ t) := by
  rw [tx_toList]
  by_cases h : c ∈ t
  · rw [decide_eq_true h, decide_eq_true (List.mem_map.mpr ⟨c, h, rfl⟩)]
  · rw [decide_eq_false h]
    exact decide_eq_false fun q => by
      obtain ⟨x, hx, e⟩ := List.mem_map.mp q
      exact h (Fin.ext e ▸ hx)
section
variable {X : Cx} {L : Lk} (hK : X.K = L.K)
include hK
theorem o_in (hu : X.A.units + 66 < cLine) : OpR X (compareOp .In) (rO L .isin) := by
  intro pins s σ H x y v u Q I rx ry ⟨Z, d, e, r, sub, hx, hy, eq, q⟩
  cases e with
  | lst xs =>
    have eq' : (if d.sane = true ∧ (D.lst xs).sane = true then some (Rv.val (.bl (inL d xs))) else none) = some r := by
      cases d <;> first | exact eq | (rename_i s0; cases s0 with | nil => exact eq | cons a b => cases b <;> exact eq)
    split at eq'
    case isFalse => cases eq'
    case isTrue hl =>
      cases eq'
      have h1 := RB.dp sub (D.sane_dat hl.2) hy
      have h2 := RB.dp sub (D.sane_dat hl.1) hx
      have hd : D.datL xs = true := by simpa [D.dat] using D.sane_dat hl.2
      refine op_inD (by omega) pins s σ H x y v u Q I rx ry ⟨d.py, D.pyL xs, by rw [hK]; exact h2, by rw [hK]; simpa only [D.py] using h1, shaped_py hl.1, by simpa only [D.py] using shaped_py hl.2, ?_⟩
      rw [pyL_any d (D.sane_dat hl.1) xs hd]
      exact q _ _ (.here rep_bl)
  | tup xs =>
    have eq' : (if d.sane = true ∧ (D.tup xs).sane = true then some (Rv.val (.bl (inL d xs))) else none) = some r := by
      cases d <;> first | exact eq | (rename_i s0; cases s0 with | nil => exact eq | cons a b => cases b <;> exact eq)
    split at eq'
    case isFalse => cases eq'
    case isTrue hl =>
      cases eq'
      have h1 := RB.dp sub (D.sane_dat hl.2) hy
      have h2 := RB.dp sub (D.sane_dat hl.1) hx
      have hd : D.datL xs = true := by simpa [D.dat] using D.sane_dat hl.2
      simp only [D.py] at h1
      rw [← hK] at h1 h2
      obtain ⟨as, r1⟩ := Dp.reads I d.py x v h2 rx
      obtain ⟨bs, r2⟩ := Dp.reads I (.tuple (D.pyL xs)) y u h1 ry
      refine SeqAt.in_tuple_reads r2 r1 (canLay_pyL xs hd) (canLay_py d (D.sane_dat hl.1)) (sane_room (by omega) hl.1) ⟨.bl _, H, I, rfl, ?_⟩
      rw [pyL_any d (D.sane_dat hl.1) xs hd]
      exact q _ _ (.here rep_bl)
  | dic kvs =>
    have eq' : (if keyOk d = true then some (Rv.val (.bl (dlook kvs d).isSome)) else none) = some r := by
      cases d <;> first | exact eq | (rename_i s0; cases s0 with | nil => exact eq | cons a b => cases b <;> exact eq)
    split at eq'
    case isFalse => cases eq'
    case isTrue hl =>
      cases eq'
      obtain ⟨k, ek⟩ := key_of hl
      obtain ⟨a, kv, rfl, ha, rr⟩ := hy.dicE
      cases key_rep hx ek
      cases ry
      refine d_in (by omega) I (DGet.k ha) rx fun s' I' => ⟨.bl _, H, I', rfl, ?_⟩
      rw [← (RepD.look ek rr).1]
      exact q _ _ (.here rep_bl)
  | str t =>
    cases d <;> try (cases eq; done)
    rename_i s0
    cases s0 with
    | nil => cases eq
    | cons c b =>
      cases b with
      | cons _ _ => cases eq
      | nil =>
        cases eq
        cases hx.strE
        cases hy.strE
        exact op_in_sign pins s σ H _ _ v u Q I rx ry ⟨c.val, tx t, rfl, rfl, by rw [sign_in]; exact q _ _ (.here rep_bl)⟩
  | _ => cases d <;> first | cases eq; done | (rename_i s0; cases s0 with | nil => cases eq | cons a b => cases b <;> cases eq)
theorem o_notin (hu : X.A.units + 66 < cLine) : OpR X (compareOp .NotIn) (rO L .notin) := by
  intro pins s σ H x y v u Q I rx ry ⟨Z, d, e, r, sub, hx, hy, eq, q⟩
  cases e with
  | lst xs =>
    have eq' : (if d.sane = true ∧ (D.lst xs).sane = true then some (Rv.val (.bl (!inL d xs))) else none) = some r := by
      cases d <;> first | exact eq | (rename_i s0; cases s0 with | nil => exact eq | cons a b => cases b <;> exact eq)
    split at eq'
    case isFalse => cases eq'
    case isTrue hl =>
      cases eq'
      have h1 := RB.dp sub (D.sane_dat hl.2) hy
      have h2 := RB.dp sub (D.sane_dat hl.1) hx
      have hd : D.datL xs = true := by simpa [D.dat] using D.sane_dat hl.2
      refine op_notInD (by omega) pins s σ H x y v u Q I rx ry ⟨d.py, D.pyL xs, by rw [hK]; exact h2, by rw [hK]; simpa only [D.py] using h1, shaped_py hl.1, by simpa only [D.py] using shaped_py hl.2, ?_⟩
      rw [pyL_any d (D.sane_dat hl.1) xs hd]
      exact q _ _ (.here rep_bl)
  | tup xs =>
    have eq' : (if d.sane = true ∧ (D.tup xs).sane = true then some (Rv.val (.bl (!inL d xs))) else none) = some r := by
      cases d <;> first | exact eq | (rename_i s0; cases s0 with | nil => exact eq | cons a b => cases b <;> exact eq)
    split at eq'
    case isFalse => cases eq'
    case isTrue hl =>
      cases eq'
      have h1 := RB.dp sub (D.sane_dat hl.2) hy
      have h2 := RB.dp sub (D.sane_dat hl.1) hx
      have hd : D.datL xs = true := by simpa [D.dat] using D.sane_dat hl.2
      simp only [D.py] at h1
      rw [← hK] at h1 h2
      obtain ⟨as, r1⟩ := Dp.reads I d.py x v h2 rx
      obtain ⟨bs, r2⟩ := Dp.reads I (.tuple (D.pyL xs)) y u h1 ry
      refine SeqAt.notIn_tuple_reads r2 r1 (canLay_pyL xs hd) (canLay_py d (D.sane_dat hl.1)) (sane_room (by omega) hl.1) ⟨.bl _, H, I, rfl, ?_⟩
      rw [pyL_any d (D.sane_dat hl.1) xs hd]
      exact q _ _ (.here rep_bl)
  | dic kvs =>
    have eq' : (if keyOk d = true then some (Rv.val (.bl (!(dlook kvs d).isSome))) else none) = some r := by
      cases d <;> first | exact eq | (rename_i s0; cases s0 with | nil => exact eq | cons a b => cases b <;> exact eq)
    split at eq'
    case isFalse => cases eq'
    case isTrue hl =>
      cases eq'
      obtain ⟨k, ek⟩ := key_of hl
      obtain ⟨a, kv, rfl, ha, rr⟩ := hy.dicE
      cases key_rep hx ek
      cases ry
      refine d_notIn (by omega) I (DGet.k ha) rx fun s' I' => ⟨.bl _, H, I', rfl, ?_⟩
      rw [← (RepD.look ek rr).1]
      exact q _ _ (.here rep_bl)
  | str t =>
    cases d <;> try (cases eq; done)
    rename_i s0
    cases s0 with
    | nil => cases eq
    | cons c b =>
      cases b with
      | cons _ _ => cases eq
      | nil =>
        cases eq
        cases hx.strE
        cases hy.strE
        exact op_notIn_sign pins s σ H _ _ v u Q I rx ry ⟨c.val, tx t, rfl, rfl, by rw [sign_in]; exact q _ _ (.here rep_bl)⟩
  | _ => cases d <;> first | cases eq; done | (rename_i s0; cases s0 with | nil => cases eq | cons a b => cases b <;> cases eq)
end
end Pi
namespace Pi
open PySem PySem.Spec PyProof.Rows L2

section
variable {L : Lk} {Z H : Hp}
theorem atI_same {α : Type} (xs : List α) (i : Int) : Pi.atI xs i = L2.atI xs i := rfl
theorem RepL.atI {ds : List D} {vs : List V} {i : Int} {d : D} (h : RepL L Z ds vs) (e : Pi.atI ds i = some d) : ∃ v, L2.atI vs i = some v ∧ Rep L Z d v := by
  unfold Pi.atI at e
  cases q : Pi.ixN ds.length i with
  | none => rw [q] at e; cases e
  | some j =>
    rw [q] at e
    obtain ⟨v, hv, r⟩ := h.get (show ds[j]? = some d from e)
    refine ⟨v, ?_, r⟩
    unfold L2.atI
    have q' : L2.ixN vs.length i = some j := by rw [← h.len]; exact q
    rw [q']
    exact hv
theorem sIx_same (n d : Nat) (o : Option Int) : sIx n d o = HT.sIx n d o := by
  cases o <;> rfl
theorem RepL.cut {ds : List D} {vs : List V} (h : RepL L Z ds vs) (lo hi : Option Int) : RepL L Z (cutL ds lo hi) (cutV vs lo hi) := by
  unfold cutL cutV
  rw [sIx_same, sIx_same, h.len]
  exact RepL.take _ (RepL.drop _ h)
theorem cut_map {α : Type} (f : α → V) (xs : List α) (lo hi : Option Int) : cutV (xs.map f) lo hi = (cutL xs lo hi).map f := by
  unfold cutL cutV
  rw [sIx_same, sIx_same, List.length_map, List.map_take, List.map_drop]
theorem tx_cut (s : Tx) (lo hi : Option Int) : cutS (tx s) lo hi = tx (cutL s lo hi) := by
  unfold cutS cutL
  rw [tx_toList, tx_length, sIx_same, sIx_same]
  show _ = (⟨((_ : List Ch).map Fin.val).toArray⟩ : Str)
  rw [List.map_take, List.map_drop]
end

/-- x[i] -/
def rIdx (L : Lk) : R2 := fun x y H Q => ∃ Z d e r, Sub Z H ∧ RB L Z H d x ∧ RB L Z H e y ∧ ix d e = some r ∧ ∀ v H', Res L Z H r v H' → Q v H'
def rSlc (L : Lk) : V → Option Int → Option Int → Hp → VK → Prop := fun x lo hi H Q => ∃ Z d r, Sub Z H ∧ RB L Z H d x ∧ slcD d lo hi = some r ∧ ∀ v H', Res L Z H r v H' → Q v H'
section
variable {X : Cx} {L : Lk} (hK : X.K = L.K)
include hK
theorem x_idx (hu : X.A.units + 66 < cLine) : IxR X (rIdx L) := by
  intro value slice pins s σ H x y v u Q I rx ry ⟨Z, d, e, r, sub, hx, hy, eq, q⟩ hs
  cases d with
  | lst xs =>
    cases e <;> simp only [ix] at eq <;> try (cases eq; done)
    rename_i i
    obtain ⟨a, vs, rfl, ha, rr⟩ := hx.lstE
    cases h : Pi.atI xs i with
    | none => rw [h] at eq; cases eq
    | some d0 =>
      rw [h] at eq
      cases eq
      obtain ⟨v0, hv, rv⟩ := rr.atI h
      exact ix_list value slice pins s σ H _ y v u Q I rx ry ⟨a, vs, i, v0, rfl, hy.intE, SqL.of ha, hv, q _ _ (.here rv)⟩ hs
  | tup xs =>
    cases e <;> simp only [ix] at eq <;> try (cases eq; done)
    rename_i i
    obtain ⟨a, vs, rfl, ha, rr⟩ := hx.tupE
    cases h : Pi.atI xs i with
    | none => rw [h] at eq; cases eq
    | some d0 =>
      rw [h] at eq
      cases eq
      obtain ⟨v0, hv, rv⟩ := rr.atI h
      exact ix_tup value slice pins s σ H _ y v u Q I rx ry ⟨a, vs, i, v0, rfl, hy.intE, by rw [hK]; exact SqT.sub sub ha, hv, q _ _ (.here rv)⟩ hs
  | scr ns =>
    cases e <;> simp only [ix] at eq <;> try (cases eq; done)
    rename_i i
    obtain ⟨a, rfl, ha⟩ := hx.scrE
    cases h : Pi.atI ns i with
    | none => rw [h] at eq; cases eq
    | some n =>
      rw [h] at eq
      cases eq
      have h' : L2.atI (ns.map V.int) i = some (.int n) := by
        have h0 : L2.atI ns i = some n := h
        unfold L2.atI at h0 ⊢
        rw [List.length_map]
        cases q : L2.ixN ns.length i with
        | none => rw [q] at h0; cases h0
        | some j =>
          rw [q] at h0
          show (ns.map V.int)[j]? = _
          rw [List.getElem?_map, show ns[j]? = some n from h0]
          rfl
      exact ix_list value slice pins s σ H _ y v u Q I rx ry ⟨a, _, i, _, rfl, hy.intE, by rw [hK]; exact SqL.sub sub ha, h', q _ _ (.here rep_int)⟩ hs
  | str t =>
    cases e <;> simp only [ix] at eq <;> try (cases eq; done)
    rename_i i
    split at eq
    case isFalse => cases eq
    case isTrue hl =>
      cases h : Pi.atI t i with
      | none => rw [h] at eq; cases eq
      | some c =>
        rw [h] at eq
        cases eq
        have h' : L2.atI (tx t).cps.toList i = some c.val := by
          have h0 : L2.atI t i = some c := h
          rw [tx_toList]
          unfold L2.atI at h0 ⊢
          rw [List.length_map]
          cases q : L2.ixN t.length i with
          | none => rw [q] at h0; cases h0
          | some j =>
            rw [q] at h0
            show (t.map Fin.val)[j]? = _
            rw [List.getElem?_map, show t[j]? = some c from h0]
            rfl
        exact ix_str value slice pins s σ H x y v u Q I rx ry ⟨tx t, i, c.val, hx.strE, hy.intE, by rw [tx_length, ← SL_line]; exact hl, h', q _ _ (.here (rep_str rfl))⟩ hs
  | dic kvs =>
    simp only [ix] at eq
    split at eq
    case isFalse => cases eq
    case isTrue hl =>
      obtain ⟨k, ek⟩ := key_of hl
      obtain ⟨a, kv, rfl, ha, rr⟩ := hx.dicE
      cases key_rep hy ek
      cases h : dlook kvs e with
      | none => rw [h] at eq; cases eq
      | some d0 =>
        rw [h] at eq
        cases eq
        obtain ⟨v0, hv, rv⟩ := (RepD.look ek rr).2 d0 h
        cases rx
        have g : DGet H a (kV k) (some v0) := by rw [← hv]; exact DGet.k ha
        exact tail_any (dict_typeIs I g) PySem.F.slot_dict_getitem.lookup (d_getItem (by omega) I g ry fun w' s' I' rw' => ⟨v0, H, I', rw', q _ _ (.here rv)⟩) hs
  | _ => simp only [ix] at eq; cases eq
theorem x_slc : SlR X (rSlc L) := by
  intro pins s σ H x v vl vu lo hi sl Q I rx hs pl pu ⟨Z, d, r, sub, hx, eq, q⟩
  cases d with
  | lst xs =>
    cases eq
    obtain ⟨a, vs, rfl, ha, rr⟩ := hx.lstE
    exact sl_list pins s σ H _ v vl vu lo hi sl Q I rx hs pl pu ⟨a, vs, rfl, SqL.of ha, fun p hp => q _ _ (.mk hp (root_lst (rr.cut lo hi)))⟩
  | scr ns =>
    cases eq
    obtain ⟨a, rfl, ha⟩ := hx.scrE
    refine sl_list pins s σ H _ v vl vu lo hi sl Q I rx hs pl pu ⟨a, _, rfl, by rw [hK]; exact SqL.sub sub ha, fun p hp => q _ _ ?_⟩
    rw [cut_map]
    exact .mk hp (root_lst (RepL.ints _))
  | tup xs =>
    cases eq
    obtain ⟨a, vs, rfl, ha, rr⟩ := hx.tupE
    refine sl_tupA pins s σ H _ v vl vu lo hi sl Q I rx hs pl pu ⟨a, vs, rfl, by rw [hK]; exact SqT.sub sub ha, fun hw => ?_, fun hw p hp => q _ _ (.mkZ hp (rep_tup (z_none sub hp) (rr.cut lo hi)))⟩
    have e : cutL xs lo hi = xs := by
      unfold cutL
      rw [sIx_same, sIx_same, rr.len, hw.1, hw.2, List.drop_zero, Nat.sub_zero, ← rr.len, List.take_length]
    rw [e] at q
    exact q _ _ (.here (by simp only [Rep]; exact ⟨a, vs, rfl, ha, rr⟩))
  | str t =>
    simp only [slcD] at eq
    split at eq
    case isFalse => cases eq
    case isTrue hl =>
      cases eq
      exact sl_str pins s σ H x v vl vu lo hi sl Q I rx hs pl pu ⟨tx t, hx.strE, by rw [tx_length, ← SL_line]; exact hl, by rw [tx_cut]; exact q _ _ (.here (rep_str rfl))⟩
  | _ => cases eq
end
section
variable {L : Lk}
/-- is None, is True, is False -/
theorem bl_is {x : V} {d : D} {b k : Bool} {Z H : Hp} (h : RB L Z H d x) (e : isCon (.bl b) d = some k) : ∃ c, x = .bl c ∧ k = decide (c = b) := by
  cases d with
  | bl c => cases e; exact ⟨c, h.blE, by cases b <;> cases c <;> rfl⟩
  | _ => cases e
theorem non_is {x : V} {d : D} {k : Bool} {Z H : Hp} (h : RB L Z H d x) (e : isCon .non d = some k) : decide (x = .non) = k := by
  cases d with
  | non => cases e; exact decide_eq_true h.nonE
  | bl c => cases e; rw [h.blE]; rfl
  | int i => cases e; rw [h.intE]; rfl
  | str i => cases e; rw [h.strE]; rfl
  | tup i => cases e; obtain ⟨a, _, rfl, _⟩ := h.tupE; rfl
  | lst i => cases e; obtain ⟨a, _, rfl, _⟩ := h.lstE; rfl
  | dic i => cases e; obtain ⟨a, _, rfl, _⟩ := h.dicE; rfl
  | ob i j => cases e; obtain ⟨a, _, _, rfl, _⟩ := h.obE; rfl
  | scr i => cases e; obtain ⟨a, rfl, _⟩ := h.scrE; rfl
end
end Pi
/-! from the row's own syntax to the interpreter's -/
namespace Pi
open PySem PySem.Spec PyProof.Rows L2

/-- what the module's names stand for -/
structure Tb where
  fn : List (Str × Nat)
  cl : List (Str × Nat)
  co : List (Str × D)
  me : List (Str × Nat)
  fl : List Str
  fr : List Str
/-- a block: the def's names by slot, the block's scope, which names may be stored; the slots that loops carry -/
structure Sc where
  N : List Str
  sc : Scope
  as : Str → Bool
  keep : List Nat

def ixOf (x : Str) : List Str → Nat → Option Nat
  | [], _ => none
  | y :: r, n => if y = x then some n else ixOf x r (n + 1)
theorem ixOf_ok {x : Str} : ∀ {l : List Str} {n i : Nat}, ixOf x l n = some i → n ≤ i ∧ l[i - n]? = some x
  | [], _, _, h => nomatch h
  | y :: r, n, i, h => by
    unfold ixOf at h
    split at h
    case isTrue e =>
      cases h
      exact ⟨Nat.le_refl _, by rw [Nat.sub_self, e]; rfl⟩
    case isFalse e =>
      obtain ⟨h1, h2⟩ := ixOf_ok h
      refine ⟨by omega, ?_⟩
      have : i - n = (i - (n + 1)) + 1 := by omega
      rw [this]
      exact h2
def strTx : List Nat → Option Tx
  | [] => some []
  | n :: r => if h : n < 1114112 then (strTx r).map (⟨n, h⟩ :: ·) else none
theorem strTx_ok : ∀ {l : List Nat} {t : Tx}, strTx l = some t → t.map Fin.val = l
  | [], t, h => by cases h; rfl
  | n :: r, t, h => by
    unfold strTx at h
    split at h
    case isFalse => cases h
    case isTrue hn =>
      cases e : strTx r with
      | none => rw [e] at h; cases h
      | some u =>
        rw [e] at h
        cases h
        rw [List.map_cons, strTx_ok e]
def constD : Const → Option D
  | .none => some .non
  | .bool b => some (.bl b)
  | .int i => some (.int i)
  | .str s => (strTx s.cps.toList).map .str
  | _ => none
def visB (sc : Scope) (x : Str) : Bool := match sc.names.lookup x with
  | some .local => true
  | some .cell => true
  | some .free => true
  | _ => false
def okName (x : Str) : Bool := !(x == ("__debug__" : Str)) && !(x == ("__classdict__" : Str))
def glB (sc : Scope) (x : Str) : Bool := decide (sc.names.lookup x = some .globalImplicit)
def cVar (S : Sc) (x : Str) : Option Nat := if visB S.sc x && okName x then ixOf x S.N 0 else none
/-- a name that is stored -/
def locB (sc : Scope) (x : Str) : Bool := match sc.names.lookup x with
  | some .local => true
  | some .cell => true
  | _ => false
def cSto (S : Sc) (x : Str) : Option Nat := if locB S.sc x && S.as x then ixOf x S.N 0 else none
def cName (T : Tb) (S : Sc) (x : Str) : Option Ex := match cVar S x with
  | some i => some (.var i)
  | none => if glB S.sc x && !(x == ("__debug__" : Str)) then (T.co.lookup x).map .con else none
def bop : Operator → Option O2
  | .Add => some .add
  | .Sub => some .sub
  | .Mult => some .mul
  | .FloorDiv => some .fdiv
  | .Mod => some .mod
  | .Pow => some .pow
  | .RShift => some .shr
  | _ => none
def cop : CmpOp → Option O2
  | .Eq => some .eq
  | .NotEq => some .ne
  | .Lt => some .lt
  | .LtE => some .le
  | .Gt => some .gt
  | .GtE => some .ge
  | .In => some .isin
  | .NotIn => some .notin
  | _ => none
def isSet : Expr → Bool
  | .Set _ _ _ => true
  | _ => false
def cEs (f : Expr → Option Ex) : List Expr → Option Exs
  | [] => some .nil
  | e :: r => (f e).bind fun a => (cEs f r).map fun b => .cons a b
def cO (f : Expr → Option Ex) : Option Expr → Option Exs
  | none => some .nil
  | some e => (f e).map fun a => .cons a .nil
def foldB (and : Bool) : Exs → Option Ex
  | .nil => none
  | .cons a .nil => some a
  | .cons a r => (foldB and r).map fun b => if and then .and a b else .or a b
def noSuper : Expr → Bool
  | .Call (.Name id _) [] [] _ => !(id == ("super" : Str))
  | _ => true
def isSlice : Expr → Bool
  | .Slice _ _ _ _ => true
  | _ => false
def isStar : Expr → Bool
  | .Starred _ _ => true
  | _ => false
def isComp : Expr → Bool
  | .ListComp _ _ _ _ => true
  | .SetComp _ _ _ _ => true
  | .DictComp _ _ _ _ _ => true
  | _ => false
def isTup : Expr → Bool
  | .Tuple _ _ _ => true
  | _ => false
def biOf (x : Str) : Option Bi :=
  if x = ("len" : Str) then some .len else if x = ("int" : Str) then some .int else if x = ("tuple" : Str) then some .tuple else if x = ("list" : Str) then some .list else
  if x = ("all" : Str) then some .all else if x = ("any" : Str) then some .any else if x = ("min" : Str) then some .min else if x = ("max" : Str) then some .max else none
def mmOf (x : Str) : Option Mm :=
  if x = ("append" : Str) then some .append else if x = ("extend" : Str) then some .extend else if x = ("pop" : Str) then some .pop else if x = ("clear" : Str) then some .clear else none
def bmOf (x : Str) : Option Bm := if x = ("split" : Str) then some .split else if x = ("join" : Str) then some .join else none
def mmAr : Mm → Nat → Bool
  | .append, 0 => false
  | .append, _ => true
  | .extend, 0 => false
  | .extend, _ => true
  | .pop, _ => true
  | .clear, 0 => true
  | .clear, _ => false
  | .insert, _ => false
/-- a class named in isinstance -/
def tyB (x : Str) : Option Ty := if x = ("str" : Str) then some .str else if x = ("int" : Str) then some .int else if x = ("bool" : Str) then some .bool else if x = ("tuple" : Str) then some .tuple else
       if x = ("list" : Str) then some .list else if x = ("dict" : Str) then some .dict else none
def tyOf (T : Tb) (S : Sc) : Expr → Option Ty
  | .Name x _ => if glB S.sc x && !(x == ("__debug__" : Str)) then
      (match T.cl.lookup x with
        | some c => some (.cls c)
        | none => if T.fr.contains x then tyB x else none) else none
  | _ => none
def cTgs (S : Sc) : List Expr → Option (List Nat)
  | [] => some []
  | .Name x _ :: r => (cSto S x).bind fun i => (cTgs S r).map (i :: ·)
  | _ => none
def cTg (S : Sc) : Expr → Option Tg
  | .Name x _ => (cSto S x).map .one
  | .Tuple es _ _ => (cTgs S es).map .many
  | _ => none
def tgNms : List Expr → List Str
  | [] => []
  | .Name x _ :: r => x :: tgNms r
  | _ :: r => tgNms r
def tgNames : Expr → List Str
  | .Name x _ => [x]
  | .Tuple es _ _ => tgNms es
  | _ => []
def ownOf (N : List Str) (tg : Expr) : List (Str × Nat) := (tgNames tg).filterMap fun x => (ixOf x N 0).map fun i => (x, i)
/-- the block of a comprehension -/
def blkS (S : Sc) (scope : Scope) : Sc := { S with sc := relS scope S.sc, as := fun x => (scope.names.lookup x == some .cell) || ((relS scope S.sc).names.lookup x == some .local) }
def isD : Expr → Option D
  | .Constant .none _ _ => some .non
  | .Constant (.bool b) _ _ => some (.bl b)
  | _ => none
def cCmp (f : Expr → Option Ex) (a : Expr) (ops : List CmpOp) (cs : List Expr) : Option Ex := match ops, cs with
  | [op], [b] => match op with
    | .Is => (isD b).bind fun d => (f a).map fun a => .isC false d a
    | .IsNot => (isD b).bind fun d => (f a).map fun a => .isC true d a
    | _ => if isSet b then none else (cop op).bind fun o => (f a).bind fun a => (f b).map fun b => .op o a b
  | [op, op'], [b, c] => if isSet c then none else (cop op).bind fun o => (cop op').bind fun o' => (f a).bind fun a => (f b).bind fun b => (f c).map fun c => .chain o o' a b c
  | _, _ => none
def cCallN (T : Tb) (S : Sc) (f : Expr → Option Ex) (x : Str) (args : List Expr) : Option Ex :=
  match T.fn.lookup x with
  | some k => (cEs f args).map (.call k)
  | none => match T.cl.lookup x with
    | some c => (cEs f args).map (.mk c)
    | none => if T.fr.contains x then
        (if x = ("isinstance" : Str) then (match args with
          | [a, t] => (f a).bind fun a => (tyOf T S t).map fun t => .isi a [t]
          | _ => none)
        else (biOf x).bind fun b => match args with
            | [] => none
            | _ :: _ => (cEs f args).map (.bi b))
      else none
def cCallM (T : Tb) (S : Sc) (f : Expr → Option Ex) (o : Expr) (m : Str) (args : List Expr) : Option Ex :=
  match T.me.lookup m with
  | some k => (f o).bind fun o => (cEs f args).map (.meth k o)
  | none => match mmOf m with
    | some k => if mmAr k args.length then (match o with
      | .Name x _ => (cVar S x).bind fun i => (cEs f args).map (.mut k i)
      | _ => none) else none
    | none => (bmOf m).bind fun k => match args with
      | [] => none
      | _ :: _ => (f o).bind fun o => (cEs f args).map (.bm k o)
def cCall (T : Tb) (S : Sc) (f : Expr → Option Ex) (fn : Expr) (args : List Expr) (kws : List Keyword) (pos : Pos) : Option Ex :=
  if kws.isEmpty && !args.any isStar then match fn with
    | .Name x _ => if glB S.sc x && !(x == ("__debug__" : Str)) then cCallN T S f x args else none
    | .Attribute o m ap => if noSuper o && decide (args.length < 29) && (ap.endLine == pos.line) then cCallM T S f o m args else none
    | _ => none
  else none
def cI1 (T : Tb) (S : Sc) (f : Expr → Option Ex) (e : Expr) : Option Wk := match e with
  | .Call (.Name x _) [a] [] _ => if x = ("range" : Str) then (if T.fr.contains x && glB S.sc x && !isStar a then (f a).map .rng1 else none) else (f e).map .seq
  | .Call (.Name x _) [a, b] [] _ => if x = ("range" : Str) then (if T.fr.contains x && glB S.sc x && !isStar a && !isStar b then (f a).bind fun a => (f b).map fun b => .rng2 a b else none) else (f e).map .seq
  | _ => (f e).map .seq
def cComp (T : Tb) (S : Sc) (f g : Expr → Option Ex) (elt : Expr) (gens : List Comprehension) (scope : Scope) : Option Ex := match gens with
  | [⟨tg, it, ifs, 0⟩] => if !isSet it && decide (ifs.length ≤ 1) && blkC S.N S.sc scope (ownOf S.N tg) then
      (cI1 T S f it).bind fun i => (cTg (blkS S scope) tg).bind fun t => (cEs g ifs).bind fun c => (g elt).map fun e => .comp e t i c
      else none
  | _ => none
/-- one form: f for its parts, g for what stands in a comprehension's block -/
def cE1 (T : Tb) (S : Sc) (f : Expr → Option Ex) (g : Sc → Expr → Option Ex) (e : Expr) : Option Ex := match e with
  | .Constant c _ _ => (constD c).map .con
  | .Name x _ => cName T S x
  | .UnaryOp op a _ => match op with
    | .USub => (f a).map .neg
    | .Not => (f a).map .not
    | _ => none
  | .BinOp a op b _ => (bop op).bind fun o => (f a).bind fun a => (f b).map fun b => .op o a b
  | .Compare a ops cs _ => cCmp f a ops cs
  | .BoolOp op vs _ => match op with
    | .And => (cEs f vs).bind (foldB true)
    | .Or => (cEs f vs).bind (foldB false)
  | .IfExp c a b _ => (f c).bind fun c => (f a).bind fun a => (f b).map fun b => .ite c a b
  | .Tuple es _ _ => if es.any isStar then none else (cEs f es).map .tup
  | .List es _ => if es.any isStar then none else (cEs f es).map .lst
  | .Dict ks vs _ => match ks, vs with
    | [], [] => some (.dic .nil)
    | _, _ => none
  | .Subscript a i _ => match i with
    | .Slice lo hi st _ => match st with
      | none => (f a).bind fun a => (cO f lo).bind fun lo => (cO f hi).map fun hi => .slc a lo hi
      | some _ => none
    | i => (f a).bind fun a => (f i).map fun i => .idx a i
  | .Attribute a x _ => if noSuper a then (ixOf x T.fl 0).bind fun k => (f a).map fun a => .fld a k else none
  | .Call fn args kws pos => cCall T S f fn args kws pos
  | .ListComp elt gens scope _ => cComp T S f (g (blkS S scope)) elt gens scope
  | _ => none
def cE (T : Tb) : Nat → Sc → Expr → Option Ex
  | 0, _, _ => none
  | n + 1, S, e => cE1 T S (cE T n S) (cE T n) e

/-! ### statements -/
mutual
def Sm.asg : Sm → List Nat
  | .ass i _ => [i]
  | .assT is _ => is
  | .ifS _ a b => Sms.asg a ++ Sms.asg b
  | .forS t _ b _ => t.names ++ Sms.asg b
  | .whileS _ b _ => Sms.asg b
  | .setI _ _ _ => []
  | .setF _ _ _ => []
  | .ex _ => []
  | .ret _ => []
  | .retN => []
  | .stuck => []
termination_by structural s => s
def Sms.asg : Sms → List Nat
  | .nil => []
  | .cons s r => Sm.asg s ++ Sms.asg r
termination_by structural s => s
end
def fgOf (keep l : List Nat) : List Nat := (l.filter fun i => !keep.contains i).eraseDups
def isSkip : Stmt → Bool
  | .Pass _ => true
  | .Expr (.Constant (.str _) _ _) _ => true
  | _ => false
def cSs (f : Stmt → Option Sm) : List Stmt → Option Sms
  | [] => some .nil
  | st :: r => if isSkip st then cSs f r else (cSs f r).map fun t => .cons ((f st).getD .stuck) t
def cAsg (S : Sc) (f : Expr → Option Ex) (tg e : Expr) : Option Sm := match tg with
  | .Name x _ => (cSto S x).bind fun i => (f e).map fun e => .ass i e
  | .Tuple es _ _ => if isTup e || isComp e then none else (cTgs S es).bind fun is => (f e).map fun e => .assT is e
  | .Subscript (.Name x _) k _ => if isSlice k then none else (cVar S x).bind fun i => (f k).bind fun k => (f e).map fun e => .setI i k e
  | _ => none
def cS1 (T : Tb) (S : Sc) (f : Expr → Option Ex) (g : List Stmt → Option Sms) (st : Stmt) : Option Sm := match st with
  | .Expr e _ => if isComp e then none else (f e).map .ex
  | .Assign [.Attribute (.Name x _) a _] e _ => (cVar S x).bind fun i => (ixOf a T.fl 0).bind fun j => (f e).map fun e => .setF i j e
  | .Assign [tg] e _ => cAsg S f tg e
  | .Return e _ => match e with
    | none => some .retN
    | some e => (f e).map .ret
  | .If c a b _ => (f c).bind fun c => (g a).bind fun a => (g b).map fun b => .ifS c a b
  | .For tg it body [] _ => if isSet it then none else (cI1 T S f it).bind fun i => (cTg S tg).bind fun t => (g body).map fun b => .forS t i b (fgOf S.keep (t.names ++ b.asg))
  | .While c body [] _ => (f c).bind fun c => (g body).map fun b => .whileS c b (fgOf S.keep b.asg)
  | _ => none
def cS (T : Tb) (m : Nat) (S : Sc) : Nat → Stmt → Option Sm
  | 0, _ => none
  | n + 1, st => cS1 T S (cE T m S) (cSs (cS T m S n)) st
/-- a def's body -/
def cFn (T : Tb) (N : List Str) (sc : Scope) (keep : List Nat) (body : List Stmt) : Option Sms := cSs (cS T 40 ⟨N, sc, fun _ => true, keep⟩ 20) body
end Pi
/-! expressions: each form runs as the interpreter says -/
namespace Pi
open PySem PySem.Spec PyProof.Rows L2

def tE (L : Lk) (B : Ba) (G : Gs) (e : Ex) : TE := fun σ H Q => ∃ ρ Z rv ρ', SI L B ρ σ Z H ∧ ev G e ρ = some (rv, ρ') ∧
  ∀ v Z' H', SI L B ρ' σ Z' H' → Gr ρ ρ' σ Z H Z' H' → RvOk L H ρ' σ Z' H' rv v → Q v H'
def tT (L : Lk) (B : Ba) (G : Gs) (e : Ex) : TT := fun σ H Q => ∃ ρ Z rv ρ' b, SI L B ρ σ Z H ∧ ev G e ρ = some (rv, ρ') ∧ asB rv = some b ∧
  ∀ Z' H', SI L B ρ' σ Z' H' → Gr ρ ρ' σ Z H Z' H' → Q b H'
def newA : Rv → V → List Addr
  | .new _, .ref a => [a]
  | _, _ => []
/-- what has come of several -/
def RvsOk (L : Lk) (H : Hp) (ρ : En) (σ : Sg) (Z' H' : Hp) : List Rv → List V → Prop
  | [], vs => vs = []
  | r :: rs, vs => ∃ v t, vs = v :: t ∧ RvOk L H ρ σ Z' H' r v ∧ RvsOk L H ρ σ Z' H' rs t
/-- no fresh thing twice -/
def newsOf : List Rv → List V → List Addr
  | r :: rs, v :: vs => newA r v ++ newsOf rs vs
  | _, _ => []
def tEs (L : Lk) (B : Ba) (G : Gs) (es : Exs) : TA := fun σ H Q => ∃ ρ Z rs ρ', SI L B ρ σ Z H ∧ evs G es ρ = some (rs, ρ') ∧
  ∀ vs Z' H', SI L B ρ' σ Z' H' → Gr ρ ρ' σ Z H Z' H' → RvsOk L H ρ' σ Z' H' rs vs → (newsOf rs vs).Nodup → Q vs H'
/-- frozen, each -/
def tFs (L : Lk) (B : Ba) (G : Gs) (es : Exs) : TA := fun σ H Q => ∃ ρ Z ds ρ', SI L B ρ σ Z H ∧ evF G es ρ = some (ds, ρ') ∧
  ∀ vs Z' H', SI L B ρ' σ Z' H' → Gr ρ ρ' σ Z H Z' H' → RepL L Z' ds vs → Q vs H'
theorem pe_imp {X : Cx} {e : Expr} {t t' : TE} (h : PE X e t) (i : ∀ σ H Q, t' σ H Q → t σ H Q) : PE X e t' := ⟨fun pins s σ H Q I hw => h.run pins s σ H Q I (i σ H Q hw)⟩
theorem pt_imp {X : Cx} {e : Expr} {t t' : TT} (h : PT X e t) (i : ∀ σ H Q, t' σ H Q → t σ H Q) : PT X e t' := ⟨fun pins s σ H Q I hw => h.run pins s σ H Q I (i σ H Q hw)⟩
theorem pw_imp {X : Cx} {e : Expr} {t t' : TT} (h : PW X e t) (i : ∀ σ H Q, t' σ H Q → t σ H Q) : PW X e t' := ⟨fun wh pins s σ H Q I hw => h.run wh pins s σ H Q I (i σ H Q hw)⟩
theorem pa_imp {X : Cx} {es : List Expr} {t t' : TA} (h : PA X es t) (i : ∀ σ H Q, t' σ H Q → t σ H Q) : PA X es t' := ⟨fun pos pins s σ H Q I hw => h.run pos pins s σ H Q I (i σ H Q hw)⟩

theorem obE {α β : Type} {o : Option α} {f : α → Option β} {b : β} (h : o.bind f = some b) : ∃ a, o = some a ∧ f a = some b := by
  cases o with
  | none => cases h
  | some a => exact ⟨a, rfl, h⟩
theorem omE {α β : Type} {o : Option α} {f : α → β} {b : β} (h : o.map f = some b) : ∃ a, o = some a ∧ f a = b := by
  cases o with
  | none => cases h
  | some a => exact ⟨a, rfl, Option.some.inj h⟩
theorem asBE {r : Rv} {b : Bool} (h : asB r = some b) : r = .val (.bl b) := by
  cases r with
  | val d => cases d <;> first | cases h; done | (cases h; rfl)
  | _ => cases h
theorem rv_bl {L : Lk} {H Z H' : Hp} {ρ : En} {σ : Sg} {b : Bool} {v : V} (h : RvOk L H ρ σ Z H' (.val (.bl b)) v) : v = .bl b := by
  have h' : Rep L Z (.bl b) v := h
  simpa only [Rep] using h'
theorem rv_int {L : Lk} {H Z H' : Hp} {ρ : En} {σ : Sg} {i : Int} {v : V} (h : RvOk L H ρ σ Z H' (.val (.int i)) v) : v = .int i := by
  have h' : Rep L Z (.int i) v := h
  simpa only [Rep] using h'

section
variable {L : Lk} {B : Ba} {G : Gs} {X : Cx} {a b c : Expr} {a' b' c' : Ex} {pos : Pos} {σ : Sg} {H Z : Hp} {ρ ρ1 ρ2 : En} {r1 r2 : Rv}
theorem Gr.start (g : Gr ρ ρ1 σ Z H Z1 H1) {r : Rv} {v : V} {ρ2 : En} {Z2 H2 : Hp} (h : RvOk L H1 ρ2 σ Z2 H2 r v) : RvOk L H ρ2 σ Z2 H2 r v := h.start g.there
theorem seq2 {R : V → V → Hp → Prop} (S : SI L B ρ σ Z H) (e1 : ev G a' ρ = some (r1, ρ1)) (e2 : ev G b' ρ1 = some (r2, ρ2))
    (k : ∀ x y Z2 H2, SI L B ρ2 σ Z2 H2 → Gr ρ ρ2 σ Z H Z2 H2 → RvOk L H ρ2 σ Z2 H2 r1 x → RvOk L H ρ2 σ Z2 H2 r2 y → R x y H2) :
    tE L B G a' σ H fun x H1 => tE L B G b' σ H1 fun y H2 => R x y H2 :=
  ⟨ρ, Z, r1, ρ1, S, e1, fun x Z1 H1 S1 g1 k1 => ⟨ρ1, Z1, r2, ρ2, S1, e2, fun y Z2 H2 S2 g2 k2 => k x y Z2 H2 S2 (g1.trans g2) (k1.mono g2) (g1.start k2)⟩⟩
theorem fin {Q : VK} {r : Rv} {v : V} {ρ' : En} {Z1 H1 H' : Hp} (S1 : SI L B ρ' σ Z1 H1) (g : Gr ρ ρ' σ Z H Z1 H1) (R : Res L Z1 H1 r v H')
    (q : ∀ v Z' H', SI L B ρ' σ Z' H' → Gr ρ ρ' σ Z H Z' H' → RvOk L H ρ' σ Z' H' r v → Q v H') : Q v H' := by
  obtain ⟨Z3, S3, g3, k3⟩ := R.ok S1
  exact q v Z3 H' S3 (g.trans g3) (g.start k3)

theorem c_con {d : D} {e : Expr} (h : PE X e (fun _ H Q => ∃ v, (∀ Z, Rep L Z d v) ∧ (Q v H → Q v H) ∧ Q v H)) : True := trivial
theorem c_var {i : Nat} {x : Str} (hN : X.N[i]? = some x) (hv : Vis X.env.scope x) (hd : (x == ("__debug__" : Str)) = false) (hcd : (x == ("__classdict__" : Str)) = false) : PE X (.Name x pos) (tE L B G (.var i)) :=
  pe_imp (pe_var hN hv hd hcd) fun σ H Q ⟨ρ, Z, rv, ρ', S, e, q⟩ => by
    simp only [ev, varR] at e
    obtain ⟨r, e1, e2⟩ := omE e
    cases e2
    obtain ⟨sl, e3, e4⟩ := omE e1
    obtain ⟨v, hv, rb⟩ := S.rep i sl e3
    refine ⟨v, hv, q v Z H S Gr.refl ?_⟩
    subst e4
    have rt : ∀ d, RB L Z H d v → RvOk L H ρ σ Z H (if d.root = true then .slot i else .val d) v := fun d rb => by
      cases h : d.root with
      | true => exact hv
      | false =>
        rcases rb with ⟨r, _⟩ | ⟨_, r⟩
        · rw [h] at r; cases r
        · exact r
    cases sl with
    | fz d => exact S.fz i d v e3 hv
    | own d => exact rt d rb
    | bor d => exact rt d rb
    | ino d => exact rt d rb
theorem c_const {v : V} {d : D} {e : Expr} (h : PE X e (tC v)) (hr : ∀ Z, Rep L Z d v) : PE X e (tE L B G (.con d)) :=
  pe_imp h fun σ H Q ⟨ρ, Z, rv, ρ', S, e, q⟩ => by
    simp only [ev] at e
    cases e
    exact q v Z H S Gr.refl (hr Z)
theorem c_op {bo : Operator} {o : O2} (ho : OpR X (binaryOp bo) (rO L o)) (ha : PE X a (tE L B G a')) (hb : PE X b (tE L B G b')) : PE X (.BinOp a bo b pos) (tE L B G (.op o a' b')) :=
  pe_imp (pe_op ho ha hb) fun σ H Q ⟨ρ, Z, rv, ρ', S, e, q⟩ => by
    simp only [ev] at e
    obtain ⟨⟨r1, ρ1⟩, e1, e⟩ := obE e
    obtain ⟨⟨r2, ρ2⟩, e2, e⟩ := obE e
    obtain ⟨x, ex, e⟩ := obE e
    obtain ⟨y, ey, e⟩ := obE e
    obtain ⟨r, er, e⟩ := omE e
    cases e
    exact seq2 S e1 e2 fun v1 v2 Z2 H2 S2 g2 k1 k2 => ⟨Z2, x, y, rv, S2.sub, k1.rd S2 ex, k2.rd S2 ey, er, fun v H' R => fin S2 g2 R q⟩
theorem c_cmp {co : CmpOp} {o : O2} (ho : OpR X (compareOp co) (rO L o)) (ha : PE X a (tE L B G a')) (hb : PE X b (tE L B G b')) (hm : behindInMarks co b = false) : PE X (.Compare a [co] [b] pos) (tE L B G (.op o a' b')) :=
  pe_imp (pe_cmpR ho ha hb hm) fun σ H Q ⟨ρ, Z, rv, ρ', S, e, q⟩ => by
    simp only [ev] at e
    obtain ⟨⟨r1, ρ1⟩, e1, e⟩ := obE e
    obtain ⟨⟨r2, ρ2⟩, e2, e⟩ := obE e
    obtain ⟨x, ex, e⟩ := obE e
    obtain ⟨y, ey, e⟩ := obE e
    obtain ⟨r, er, e⟩ := omE e
    cases e
    exact seq2 S e1 e2 fun v1 v2 Z2 H2 S2 g2 k1 k2 => ⟨Z2, x, y, rv, S2.sub, k1.rd S2 ex, k2.rd S2 ey, er, fun v H' R => fin S2 g2 R q⟩
theorem c_cmpT {co : CmpOp} {o : O2} (ho : OpR X (compareOp co) (rO L o)) (ha : PE X a (tE L B G a')) (hb : PE X b (tE L B G b')) (hm : behindInMarks co b = false) : PT X (.Compare a [co] [b] pos) (tT L B G (.op o a' b')) :=
  pt_imp (pt_cmpR ho ha hb hm) fun σ H Q ⟨ρ, Z, rv, ρ', k, S, e, ek, q⟩ => by
    simp only [ev] at e
    obtain ⟨⟨r1, ρ1⟩, e1, e⟩ := obE e
    obtain ⟨⟨r2, ρ2⟩, e2, e⟩ := obE e
    obtain ⟨x, ex, e⟩ := obE e
    obtain ⟨y, ey, e⟩ := obE e
    obtain ⟨r, er, e⟩ := omE e
    cases e
    cases asBE ek
    exact seq2 S e1 e2 fun v1 v2 Z2 H2 S2 g2 k1 k2 => ⟨Z2, x, y, _, S2.sub, k1.rd S2 ex, k2.rd S2 ey, er, fun v H' R => fin (Q := fun v H' => ∃ k', v = .bl k' ∧ Q k' H') S2 g2 R fun v Z' H' S' g' k' => ⟨k, rv_bl k', q Z' H' S' g'⟩⟩
/-- a test whose value is asked -/
theorem c_val {e : Expr} {e' : Ex} (h : PE X e (tE L B G e')) (he : ∀ whole, isTrue e X.env whole = (do let v ← whole; standAt e.pos; holding [v] (truthy v))) : PT X e (tT L B G e') :=
  pt_imp (pt_val h he) fun σ H Q ⟨ρ, Z, rv, ρ', k, S, e, ek, q⟩ => by
    cases asBE ek
    exact ⟨ρ, Z, _, ρ', S, e, fun v Z' H' S' g' k' => ⟨k, rv_bl k', q Z' H' S' g'⟩⟩
theorem c_neg (ha : PE X a (tE L B G a')) : PE X (.UnaryOp .USub a pos) (tE L B G (.neg a')) :=
  pe_imp (pe_un un_neg ha) fun σ H Q ⟨ρ, Z, rv, ρ', S, e, q⟩ => by
    simp only [ev] at e
    obtain ⟨⟨r1, ρ1⟩, e1, e⟩ := obE e
    obtain ⟨x, ex, e⟩ := obE e
    obtain ⟨r, er, e⟩ := omE e
    cases e
    refine ⟨ρ, Z, r1, ρ1, S, e1, fun v Z1 H1 S1 g1 k1 => ?_⟩
    cases x <;> first | cases er; done | skip
    cases er
    exact ⟨_, (k1.rd S1 ex).intE, fin S1 g1 (.here rep_int) q⟩
theorem c_not (ha : PE X a (tE L B G a')) : PE X (.UnaryOp .Not a pos) (tE L B G (.not a')) :=
  pe_imp (pe_not ha) fun σ H Q ⟨ρ, Z, rv, ρ', S, e, q⟩ => by
    simp only [ev] at e
    obtain ⟨⟨r1, ρ1⟩, e1, e⟩ := obE e
    obtain ⟨k, ek, e⟩ := omE e
    cases e
    cases asBE ek
    exact ⟨ρ, Z, _, ρ1, S, e1, fun v Z1 H1 S1 g1 k1 => ⟨k, rv_bl k1, fin S1 g1 (.here rep_bl) q⟩⟩
theorem c_notT (ha : PT X a (tT L B G a')) : PT X (.UnaryOp .Not a pos) (tT L B G (.not a')) :=
  pt_imp (pt_not ha) fun σ H Q ⟨ρ, Z, rv, ρ', b, S, e, eb, q⟩ => by
    simp only [ev] at e
    obtain ⟨⟨r1, ρ1⟩, e1, e⟩ := obE e
    obtain ⟨k, ek, e⟩ := omE e
    cases e
    cases eb
    exact ⟨ρ, Z, r1, ρ1, k, S, e1, ek, fun Z1 H1 S1 g1 => q Z1 H1 S1 g1⟩
theorem c_andT {rest : List Expr} (ha : PT X a (tT L B G a')) (hb : PW X (.BoolOp .And (b :: rest) pos) (tT L B G b')) : PW X (.BoolOp .And (a :: b :: rest) pos) (tT L B G (.and a' b')) :=
  pw_imp (pw_and ha hb) fun σ H Q ⟨ρ, Z, rv, ρ', k, S, e, ek, q⟩ => by
    simp only [ev] at e
    obtain ⟨⟨r1, ρ1⟩, e1, e⟩ := obE e
    cases h : asB r1 with
    | none => rw [h] at e; cases e
    | some c =>
      rw [h] at e
      refine ⟨ρ, Z, r1, ρ1, c, S, e1, h, fun Z1 H1 S1 g1 => ?_⟩
      cases c with
      | true => exact ⟨ρ1, Z1, rv, ρ', k, S1, e, ek, fun Z2 H2 S2 g2 => q Z2 H2 S2 (g1.trans g2)⟩
      | false =>
        cases e
        cases ek
        exact q Z1 H1 S1 g1
theorem c_orT {rest : List Expr} (ha : PT X a (tT L B G a')) (hb : PW X (.BoolOp .Or (b :: rest) pos) (tT L B G b')) : PW X (.BoolOp .Or (a :: b :: rest) pos) (tT L B G (.or a' b')) :=
  pw_imp (pw_or ha hb) fun σ H Q ⟨ρ, Z, rv, ρ', k, S, e, ek, q⟩ => by
    simp only [ev] at e
    obtain ⟨⟨r1, ρ1⟩, e1, e⟩ := obE e
    cases h : asB r1 with
    | none => rw [h] at e; cases e
    | some c =>
      rw [h] at e
      refine ⟨ρ, Z, r1, ρ1, c, S, e1, h, fun Z1 H1 S1 g1 => ?_⟩
      cases c with
      | false => exact ⟨ρ1, Z1, rv, ρ', k, S1, e, ek, fun Z2 H2 S2 g2 => q Z2 H2 S2 (g1.trans g2)⟩
      | true =>
        cases e
        cases ek
        exact q Z1 H1 S1 g1
theorem c_and {rest : List Expr} (ha : PE X a (tE L B G a')) (hb : PE X (.BoolOp .And (b :: rest) pos) (tE L B G b')) : PE X (.BoolOp .And (a :: b :: rest) pos) (tE L B G (.and a' b')) :=
  pe_imp (pe_and ha hb) fun σ H Q ⟨ρ, Z, rv, ρ', S, e, q⟩ => by
    simp only [ev] at e
    obtain ⟨⟨r1, ρ1⟩, e1, e⟩ := obE e
    cases h : asB r1 with
    | none => rw [h] at e; cases e
    | some c =>
      rw [h] at e
      cases asBE h
      refine ⟨ρ, Z, _, ρ1, S, e1, fun v Z1 H1 S1 g1 k1 => ⟨c, rv_bl k1, ?_⟩⟩
      cases c with
      | true => exact ⟨ρ1, Z1, rv, ρ', S1, e, fun v Z2 H2 S2 g2 k2 => q v Z2 H2 S2 (g1.trans g2) (g1.start k2)⟩
      | false =>
        cases e
        exact fin S1 g1 (.here rep_bl) q
theorem c_or {rest : List Expr} (ha : PE X a (tE L B G a')) (hb : PE X (.BoolOp .Or (b :: rest) pos) (tE L B G b')) : PE X (.BoolOp .Or (a :: b :: rest) pos) (tE L B G (.or a' b')) :=
  pe_imp (pe_or ha hb) fun σ H Q ⟨ρ, Z, rv, ρ', S, e, q⟩ => by
    simp only [ev] at e
    obtain ⟨⟨r1, ρ1⟩, e1, e⟩ := obE e
    cases h : asB r1 with
    | none => rw [h] at e; cases e
    | some c =>
      rw [h] at e
      cases asBE h
      refine ⟨ρ, Z, _, ρ1, S, e1, fun v Z1 H1 S1 g1 k1 => ⟨c, rv_bl k1, ?_⟩⟩
      cases c with
      | false => exact ⟨ρ1, Z1, rv, ρ', S1, e, fun v Z2 H2 S2 g2 k2 => q v Z2 H2 S2 (g1.trans g2) (g1.start k2)⟩
      | true =>
        cases e
        exact fin S1 g1 (.here rep_bl) q
theorem c_ite (hc : PT X c (tT L B G c')) (ha : PE X a (tE L B G a')) (hb : PE X b (tE L B G b')) : PE X (.IfExp c a b pos) (tE L B G (.ite c' a' b')) :=
  pe_imp (pe_ifExp hc ha hb) fun σ H Q ⟨ρ, Z, rv, ρ', S, e, q⟩ => by
    simp only [ev] at e
    obtain ⟨⟨r1, ρ1⟩, e1, e⟩ := obE e
    cases h : asB r1 with
    | none => rw [h] at e; cases e
    | some k =>
      rw [h] at e
      refine ⟨ρ, Z, r1, ρ1, k, S, e1, h, fun Z1 H1 S1 g1 => ?_⟩
      cases k with
      | true => exact ⟨ρ1, Z1, rv, ρ', S1, e, fun v Z2 H2 S2 g2 k2 => q v Z2 H2 S2 (g1.trans g2) (g1.start k2)⟩
      | false => exact ⟨ρ1, Z1, rv, ρ', S1, e, fun v Z2 H2 S2 g2 k2 => q v Z2 H2 S2 (g1.trans g2) (g1.start k2)⟩
end
end Pi
/-! displays, subscripts, attributes, built-in functions -/
namespace Pi
open PySem PySem.Spec PyProof.Rows L2

theorem star_cons {e : Expr} {es : List Expr} {env : Env} (h : isStar e = false) : starEach (e :: es) env = (false, eval e env) :: starEach es env := by
  cases e <;> first | rfl | cases h
theorem star_plain {pos : Pos} {env : Env} : ∀ {es : List Expr}, es.any isStar = false → (backTo pos (starEach es env)).any (·.1) = false
  | [], _ => rfl
  | e :: es, h => by
    rw [List.any_cons, Bool.or_eq_false_iff] at h
    rw [star_cons h.1]
    show (false || (backTo pos (starEach es env)).any (·.1)) = false
    rw [star_plain h.2]
    rfl

section
variable {L : Lk} {B : Ba} {G : Gs} {X : Cx} {a b c : Expr} {a' b' c' : Ex} {es : List Expr} {es' : Exs} {pos : Pos} {σ : Sg} {H Z : Hp} {ρ ρ1 ρ2 : En} {r1 r2 : Rv}
theorem RvsOk.mono {H0 Z1 H1 : Hp} (g : Gr ρ ρ1 σ Z H Z1 H1) : ∀ {rs : List Rv} {vs : List V}, RvsOk L H0 ρ σ Z H rs vs → RvsOk L H0 ρ1 σ Z1 H1 rs vs
  | [], vs, h => h
  | r :: rs, vs, ⟨v, t, e, h1, h2⟩ => ⟨v, t, e, h1.mono g, RvsOk.mono g h2⟩
theorem RvsOk.start {H0 H1 : Hp} (k : ∀ a, H0 a ≠ none → H1 a ≠ none) : ∀ {rs : List Rv} {vs : List V}, RvsOk L H1 ρ σ Z H rs vs → RvsOk L H0 ρ σ Z H rs vs
  | [], vs, h => h
  | r :: rs, vs, ⟨v, t, e, h1, h2⟩ => ⟨v, t, e, h1.start k, RvsOk.start k h2⟩
theorem newA_fresh {H0 : Hp} {r : Rv} {v : V} {x : Addr} (h : RvOk L H0 ρ σ Z H r v) (hx : x ∈ newA r v) : H0 x = none ∧ H x ≠ none := by
  cases r with
  | new d =>
    obtain ⟨p, rfl, z, rt, n, f⟩ := h
    have : x = p := by simpa [newA] using hx
    subst this
    exact ⟨f, rt.ne⟩
  | val d => cases hx
  | slot i => cases hx
theorem news_fresh {H0 : Hp} {x : Addr} : ∀ {rs : List Rv} {vs : List V}, RvsOk L H0 ρ σ Z H rs vs → x ∈ newsOf rs vs → H0 x = none
  | [], vs, h, hx => by cases hx
  | r :: rs, vs, ⟨v, t, e, h1, h2⟩, hx => by
    subst e
    rcases List.mem_append.mp hx with q | q
    · exact (newA_fresh h1 q).1
    · exact news_fresh h2 q
theorem newA_nodup (r : Rv) (v : V) : (newA r v).Nodup := by
  cases r <;> cases v <;> simp [newA]
theorem a_nil : PA X [] (tEs L B G .nil) :=
  pa_imp pa_nil fun σ H Q ⟨ρ, Z, rs, ρ', S, e, q⟩ => by
    simp only [evs] at e
    cases e
    exact q [] Z H S Gr.refl rfl List.nodup_nil
theorem a_cons (hs : isStar a = false) (ha : PE X a (tE L B G a')) (hr : PA X es (tEs L B G es')) : PA X (a :: es) (tEs L B G (.cons a' es')) :=
  pa_imp (pa_cons ha hr (star_cons hs)) fun σ H Q ⟨ρ, Z, rs, ρ', S, e, q⟩ => by
    simp only [evs] at e
    obtain ⟨⟨r1, ρ1⟩, e1, e⟩ := obE e
    obtain ⟨⟨rs, ρ2⟩, e2, e⟩ := omE e
    cases e
    refine ⟨ρ, Z, r1, ρ1, S, e1, fun v Z1 H1 S1 g1 k1 => ⟨ρ1, Z1, rs, ρ2, S1, e2, fun vs Z2 H2 S2 g2 k2 nd => q _ Z2 H2 S2 (g1.trans g2) ⟨v, vs, rfl, k1.mono g2, k2.start g1.there⟩ ?_⟩⟩
    show (newA r1 v ++ newsOf rs vs).Nodup
    rw [List.nodup_append]
    exact ⟨newA_nodup _ _, nd, fun x hx y hy e => by
      subst e
      exact (newA_fresh k1 hx).2 (news_fresh k2 hy)⟩
theorem f_nil : PA X [] (tFs L B G .nil) :=
  pa_imp pa_nil fun σ H Q ⟨ρ, Z, rs, ρ', S, e, q⟩ => by
    simp only [evF] at e
    cases e
    exact q [] Z H S Gr.refl .nil
/-- an expression whose value is frozen at once -/
theorem frz {ρ' : En} {d : D} {R : V → Hp → Prop} (S : SI L B ρ σ Z H) (e1 : ev G a' ρ = some (r1, ρ1)) (e2 : toF ρ1 r1 = some (d, ρ'))
    (k : ∀ v Z1 H1, SI L B ρ' σ Z1 H1 → Gr ρ ρ' σ Z H Z1 H1 → Rep L Z1 d v → R v H1) : tE L B G a' σ H R :=
  ⟨ρ, Z, r1, ρ1, S, e1, fun v Z1 H1 S1 g1 k1 => by
    obtain ⟨Z2, S2, rp, sz, w, l, u⟩ := toF_ok S1 S.b8 k1 e2
    exact k v Z2 H1 S2 (toF_gr g1 sz w l u) rp⟩
theorem f_cons (hs : isStar a = false) (ha : PE X a (tE L B G a')) (hr : PA X es (tFs L B G es')) : PA X (a :: es) (tFs L B G (.cons a' es')) :=
  pa_imp (pa_cons ha hr (star_cons hs)) fun σ H Q ⟨ρ, Z, rs, ρ', S, e, q⟩ => by
    simp only [evF] at e
    obtain ⟨⟨r1, ρ1⟩, e1, e⟩ := obE e
    obtain ⟨⟨d, ρ2⟩, e2, e⟩ := obE e
    obtain ⟨⟨ds, ρ3⟩, e3, e⟩ := omE e
    cases e
    exact frz S e1 e2 fun v Z1 H1 S1 g1 rp => ⟨ρ2, Z1, ds, ρ3, S1, e3, fun vs Z2 H2 S2 g2 k2 => q _ Z2 H2 S2 (g1.trans g2) (.cons (Rep.sub g2.zsub _ _ rp) k2)⟩
theorem c_tup {k : Nat} (h : PA X es (tFs L B G es')) : PE X (.Tuple es k pos) (tE L B G (.tup es')) :=
  pe_imp (pe_tup h) fun σ H Q ⟨ρ, Z, rv, ρ', S, e, q⟩ => by
    simp only [ev] at e
    obtain ⟨⟨ds, ρ1⟩, e1, e⟩ := obE e
    split at e
    case isFalse => cases e
    case isTrue hl =>
      cases e
      exact ⟨ρ, Z, ds, ρ1, S, e1, fun vs Z1 H1 S1 g1 k1 => ⟨by rw [← k1.len, ← SL_line]; exact hl, fun p hp => fin S1 g1 (.mkZ hp (rep_tup (z_none S1.sub hp) k1)) q⟩⟩
theorem c_lst (h : PA X es (tFs L B G es')) : PE X (.List es pos) (tE L B G (.lst es')) :=
  pe_imp (pe_lst h) fun σ H Q ⟨ρ, Z, rv, ρ', S, e, q⟩ => by
    simp only [ev] at e
    obtain ⟨⟨ds, ρ1⟩, e1, e⟩ := obE e
    split at e
    case isFalse => cases e
    case isTrue hl =>
      cases e
      exact ⟨ρ, Z, ds, ρ1, S, e1, fun vs Z1 H1 S1 g1 k1 => ⟨by rw [← k1.len, ← SL_line]; exact hl, fun p hp => fin S1 g1 (.mk hp (root_lst k1)) q⟩⟩
theorem c_dnew : PE X (.Dict [] [] pos) (tE L B G (.dic .nil)) :=
  pe_imp pe_dnewK fun σ H Q ⟨ρ, Z, rv, ρ', S, e, q⟩ => by
    simp only [ev] at e
    cases e
    exact fun p hp => fin S Gr.refl (.mk (o := .dK []) hp (show Root L Z (upd H p (.dK [])) (.dic []) p from ⟨[], upd_same, .nil⟩)) q
theorem plain_ix (h : isSlice b = false) : PlainIx b := by
  intro o i
  cases b <;> first | rfl | cases h
theorem c_idx (hK : X.K = L.K) (hu : X.A.units + 66 < cLine) (hb : isSlice b = false) (ha : PE X a (tE L B G a')) (hi : PE X b (tE L B G b')) : PE X (.Subscript a b pos) (tE L B G (.idx a' b')) :=
  pe_imp (pe_ix (x_idx hK hu) ha hi (plain_ix hb)) fun σ H Q ⟨ρ, Z, rv, ρ', S, e, q⟩ => by
    simp only [ev] at e
    obtain ⟨⟨r1, ρ1⟩, e1, e⟩ := obE e
    obtain ⟨⟨r2, ρ2⟩, e2, e⟩ := obE e
    obtain ⟨x, ex, e⟩ := obE e
    obtain ⟨y, ey, e⟩ := obE e
    obtain ⟨r, er, e⟩ := omE e
    cases e
    exact seq2 S e1 e2 fun v1 v2 Z2 H2 S2 g2 k1 k2 => ⟨Z2, x, y, rv, S2.sub, k1.rd S2 ex, k2.rd S2 ey, er, fun v H' R => fin S2 g2 R q⟩
def tO (L : Lk) (B : Ba) (G : Gs) (es : Exs) : TO := fun σ H Q => ∃ ρ Z i ρ', SI L B ρ σ Z H ∧ evO G es ρ = some (i, ρ') ∧ ∀ Z' H', SI L B ρ' σ Z' H' → Gr ρ ρ' σ Z H Z' H' → Q i H'
theorem po_imp {e : Option Expr} {t t' : TO} (h : PO X e t) (i : ∀ σ H Q, t' σ H Q → t σ H Q) : PO X e t' := ⟨fun pins s σ H Q I hw => h.run pins s σ H Q I (i σ H Q hw)⟩
theorem o_none : PO X none (tO L B G .nil) :=
  po_imp po_none fun σ H Q ⟨ρ, Z, i, ρ', S, e, q⟩ => by
    simp only [evO] at e
    cases e
    exact q Z H S Gr.refl
theorem o_some {r : Exs} (ha : PE X a (tE L B G a')) : PO X (some a) (tO L B G (.cons a' r)) :=
  po_imp (po_some ha) fun σ H Q ⟨ρ, Z, i, ρ', S, e, q⟩ => by
    simp only [evO] at e
    obtain ⟨⟨r1, ρ1⟩, e1, e⟩ := obE e
    obtain ⟨j, ej, e⟩ := omE e
    cases e
    refine ⟨ρ, Z, r1, ρ1, S, e1, fun v Z1 H1 S1 g1 k1 => ?_⟩
    cases r1 with
    | val d =>
      cases d <;> first | cases ej; done | skip
      cases ej
      exact ⟨_, rv_int k1, q Z1 H1 S1 g1⟩
    | _ => cases ej
theorem c_slc {lo hi : Option Expr} {lo' hi' : Exs} {p2 : Pos} (hK : X.K = L.K) (ha : PE X a (tE L B G a')) (hl : PO X lo (tO L B G lo')) (hh : PO X hi (tO L B G hi')) : PE X (.Subscript a (.Slice lo hi none p2) pos) (tE L B G (.slc a' lo' hi')) :=
  pe_imp (pe_slice (x_slc hK) ha hl hh) fun σ H Q ⟨ρ, Z, rv, ρ', S, e, q⟩ => by
    simp only [ev] at e
    obtain ⟨⟨r1, ρ1⟩, e1, e⟩ := obE e
    obtain ⟨⟨l, ρ2⟩, e2, e⟩ := obE e
    obtain ⟨⟨h, ρ3⟩, e3, e⟩ := obE e
    obtain ⟨x, ex, e⟩ := obE e
    obtain ⟨r, er, e⟩ := omE e
    cases e
    exact ⟨ρ, Z, r1, ρ1, S, e1, fun v Z1 H1 S1 g1 k1 => ⟨ρ1, Z1, l, ρ2, S1, e2, fun Z2 H2 S2 g2 => ⟨ρ2, Z2, h, ρ3, S2, e3, fun Z3 H3 S3 g3 =>
      ⟨Z3, x, rv, S3.sub, ((k1.mono g2).mono g3).rd S3 ex, er, fun v H' R => fin S3 (g1.trans (g2.trans g3)) R q⟩⟩⟩⟩
/-! ### is -/
theorem c_isN {p2 : Pos} {j : Nat} (ha : PE X a (tE L B G a')) : PE X (.Compare a [.Is] [.Constant .none j p2] pos) (tE L B G (.isC false .non a')) :=
  pe_imp (pe_cmpR op_isN ha pe_non (nomark _)) fun σ H Q ⟨ρ, Z, rv, ρ', S, e, q⟩ => by
    simp only [ev] at e
    obtain ⟨⟨r1, ρ1⟩, e1, e⟩ := obE e
    obtain ⟨x, ex, e⟩ := obE e
    obtain ⟨k, er, e⟩ := omE e
    cases e
    exact ⟨ρ, Z, r1, ρ1, S, e1, fun v Z1 H1 S1 g1 k1 => ⟨rfl, by rw [non_is (k1.rd S1 ex) er]; exact fin S1 g1 (.here (by cases k <;> exact rep_bl)) q⟩⟩
theorem c_isNn {p2 : Pos} {j : Nat} (ha : PE X a (tE L B G a')) : PE X (.Compare a [.IsNot] [.Constant .none j p2] pos) (tE L B G (.isC true .non a')) :=
  pe_imp (pe_cmpR op_notN ha pe_non (nomark _)) fun σ H Q ⟨ρ, Z, rv, ρ', S, e, q⟩ => by
    simp only [ev] at e
    obtain ⟨⟨r1, ρ1⟩, e1, e⟩ := obE e
    obtain ⟨x, ex, e⟩ := obE e
    obtain ⟨k, er, e⟩ := omE e
    cases e
    exact ⟨ρ, Z, r1, ρ1, S, e1, fun v Z1 H1 S1 g1 k1 => ⟨rfl, by rw [non_is (k1.rd S1 ex) er]; exact fin S1 g1 (.here (by cases k <;> exact rep_bl)) q⟩⟩
theorem c_isB {p2 : Pos} {j : Nat} {k0 : Bool} (ha : PE X a (tE L B G a')) : PE X (.Compare a [.Is] [.Constant (.bool k0) j p2] pos) (tE L B G (.isC false (.bl k0) a')) :=
  pe_imp (pe_cmpR op_isBl ha pe_bl (nomark _)) fun σ H Q ⟨ρ, Z, rv, ρ', S, e, q⟩ => by
    simp only [ev] at e
    obtain ⟨⟨r1, ρ1⟩, e1, e⟩ := obE e
    obtain ⟨x, ex, e⟩ := obE e
    obtain ⟨k, er, e⟩ := omE e
    cases e
    refine ⟨ρ, Z, r1, ρ1, S, e1, fun v Z1 H1 S1 g1 k1 => ?_⟩
    obtain ⟨c, ec, ek⟩ := bl_is (k1.rd S1 ex) er
    exact ⟨c, k0, ec, rfl, fin S1 g1 (.here (by rw [ek]; cases decide (c = k0) <;> exact rep_bl)) q⟩
theorem c_isBn {p2 : Pos} {j : Nat} {k0 : Bool} (ha : PE X a (tE L B G a')) : PE X (.Compare a [.IsNot] [.Constant (.bool k0) j p2] pos) (tE L B G (.isC true (.bl k0) a')) :=
  pe_imp (pe_cmpR op_notBl ha pe_bl (nomark _)) fun σ H Q ⟨ρ, Z, rv, ρ', S, e, q⟩ => by
    simp only [ev] at e
    obtain ⟨⟨r1, ρ1⟩, e1, e⟩ := obE e
    obtain ⟨x, ex, e⟩ := obE e
    obtain ⟨k, er, e⟩ := omE e
    cases e
    refine ⟨ρ, Z, r1, ρ1, S, e1, fun v Z1 H1 S1 g1 k1 => ?_⟩
    obtain ⟨c, ec, ek⟩ := bl_is (k1.rd S1 ex) er
    exact ⟨c, k0, ec, rfl, fin S1 g1 (.here (by rw [ek]; cases decide (c = k0) <;> exact rep_bl)) q⟩
end
end Pi
/-! built-in functions, isinstance, attributes, lists turned in place -/
namespace Pi
open PySem PySem.Spec PyProof.Rows L2

def RBs (L : Lk) (Z H : Hp) : List D → List V → Prop
  | [], xs => xs = []
  | d :: ds, xs => ∃ x t, xs = x :: t ∧ RB L Z H d x ∧ RBs L Z H ds t
theorem RBs.one {L : Lk} {Z H : Hp} {d : D} {xs : List V} (h : RBs L Z H [d] xs) : ∃ x, xs = [x] ∧ RB L Z H d x := by
  obtain ⟨x, t, e, r, q⟩ := h
  have q' : t = [] := q
  subst q'
  exact ⟨x, e, r⟩
theorem RBs.two {L : Lk} {Z H : Hp} {d e : D} {xs : List V} (h : RBs L Z H [d, e] xs) : ∃ x y, xs = [x, y] ∧ RB L Z H d x ∧ RB L Z H e y := by
  obtain ⟨x, t, rfl, r, q⟩ := h
  obtain ⟨y, rfl, r2⟩ := RBs.one q
  exact ⟨x, y, rfl, r, r2⟩
theorem RvsOk.rds {L : Lk} {B : Ba} {H0 Z H : Hp} {ρ : En} {σ : Sg} (S : SI L B ρ σ Z H) : ∀ {rs : List Rv} {vs : List V} {ds : List D}, RvsOk L H0 ρ σ Z H rs vs → Pi.rds ρ rs = some ds → RBs L Z H ds vs
  | [], vs, ds, h, e => by
    cases e
    exact h
  | r :: rs, vs, ds, ⟨v, t, ev, h1, h2⟩, e => by
    have e' : ((rd ρ r).bind fun d => (Pi.rds ρ rs).map (d :: ·)) = some ds := e
    obtain ⟨d, e1, e2⟩ := obE e'
    obtain ⟨ds', e3, e4⟩ := omE e2
    subst e4
    exact ⟨v, t, ev, h1.rd S e1, RvsOk.rds S h2 e3⟩
def rBi (L : Lk) (b : Bi) : List V → Hp → VK → Prop := fun xs H Q => ∃ Z ds r, Sub Z H ∧ RBs L Z H ds xs ∧ bi b ds = some r ∧ ∀ v H', Res L Z H r v H' → Q v H'
theorem bls_rep {L : Lk} {Z : Hp} : ∀ {ds : List D} {bs : List Bool} {vs : List V}, blsOf ds = some bs → RepL L Z ds vs → vs = bs.map V.bl
  | [], bs, vs, e, h => by cases e; exact h.nilE
  | d :: ds, bs, vs, e, h => by
    obtain ⟨v, r, rfl, q, t⟩ := h.consE
    cases d <;> first | cases e; done | skip
    rename_i b
    obtain ⟨bs', e1, e2⟩ := omE (show (blsOf ds).map (b :: ·) = some bs from e)
    subst e2
    have hv : v = V.bl b := by simpa only [Rep] using q
    rw [bls_rep e1 t, List.map_cons, hv]
section
variable {X : Cx} {L : Lk} (hK : X.K = L.K)
include hK
theorem b_len : CallR X (.builtin "len") (rBi L .len) := by
  intro pins s σ H xs us Q I rv ⟨Z, ds, r, sub, h, e, q⟩
  cases ds with
  | nil => cases e
  | cons d ds =>
    cases ds with
    | cons _ _ => cases d <;> cases e
    | nil =>
      obtain ⟨x, ex, hx⟩ := h.one
      subst ex
      cases d with
      | lst ds =>
        cases e
        obtain ⟨a, vs, rfl, ha, rr⟩ := hx.lstE
        exact call_len_seq pins s σ H _ us Q I rv ⟨a, vs, rfl, .inl (SqL.of ha), by rw [← rr.len]; exact q _ _ (.here rep_int)⟩
      | tup ds =>
        cases e
        obtain ⟨a, vs, rfl, ha, rr⟩ := hx.tupE
        exact call_len_seq pins s σ H _ us Q I rv ⟨a, vs, rfl, .inr (by rw [hK]; exact SqT.sub sub ha), by rw [← rr.len]; exact q _ _ (.here rep_int)⟩
      | scr ns =>
        cases e
        obtain ⟨a, rfl, ha⟩ := hx.scrE
        exact call_len_seq pins s σ H _ us Q I rv ⟨a, _, rfl, .inl (by rw [hK]; exact SqL.sub sub ha), by rw [List.length_map]; exact q _ _ (.here rep_int)⟩
      | str t =>
        simp only [bi] at e
        split at e
        case isFalse => cases e
        case isTrue hl =>
          cases e
          cases hx.strE
          exact call_len_str pins s σ H _ us Q I rv ⟨tx t, rfl, by rw [tx_length, ← SL_line]; exact hl, by rw [tx_length]; exact q _ _ (.here rep_int)⟩
      | dic kvs =>
        cases e
        obtain ⟨a, kv, rfl, ha, rr⟩ := hx.dicE
        obtain ⟨u, rfl, ru⟩ := vals1 rv
        cases ru
        refine d_len I (.inl ha) fun t s' I' => ⟨.int kv.length, H, I', ⟨t, rfl⟩, ?_⟩
        rw [← rr.len]
        exact q _ _ (.here rep_int)
      | _ => cases e
theorem b_int : CallR X (.type "int") (rBi L .int) := by
  intro pins s σ H xs us Q I rv ⟨Z, ds, r, sub, h, e, q⟩
  cases ds with
  | nil => cases e
  | cons d ds =>
    cases ds with
    | cons _ _ => cases d <;> cases e
    | nil =>
      obtain ⟨x, ex, hx⟩ := h.one
      subst ex
      cases d with
      | int i =>
        cases e
        cases hx.intE
        exact call_int1 pins s σ H _ us Q I rv (.inl ⟨i, rfl, q _ _ (.here rep_int)⟩)
      | bl k =>
        cases e
        cases hx.blE
        exact call_int1 pins s σ H _ us Q I rv (.inr ⟨k, rfl, q _ _ (.here rep_int)⟩)
      | _ => cases e
theorem b_tuple : CallR X (.type "tuple") (rBi L .tuple) := by
  intro pins s σ H xs us Q I rv ⟨Z, ds, r, sub, h, e, q⟩
  cases ds with
  | nil => cases e
  | cons d ds =>
    cases ds with
    | cons _ _ => cases d <;> cases e
    | nil =>
      obtain ⟨x, ex, hx⟩ := h.one
      subst ex
      cases d with
      | lst ds =>
        cases e
        obtain ⟨a, vs, rfl, ha, rr⟩ := hx.lstE
        exact call_tuple_of pins s σ H _ us Q I rv ⟨a, vs, rfl, .inl ⟨SqL.of ha, fun l hl => q _ _ (.mkZ hl (rep_tup (z_none sub hl) rr))⟩⟩
      | tup ds =>
        cases e
        obtain ⟨a, vs, rfl, ha, rr⟩ := hx.tupE
        exact call_tuple_of pins s σ H _ us Q I rv ⟨a, vs, rfl, .inr ⟨by rw [hK]; exact SqT.sub sub ha, q _ _ (.here (by simp only [Rep]; exact ⟨a, vs, rfl, ha, rr⟩))⟩⟩
      | _ => cases e
theorem b_list : CallR X (.type "list") (rBi L .list) := by
  intro pins s σ H xs us Q I rv ⟨Z, ds, r, sub, h, e, q⟩
  cases ds with
  | nil => cases e
  | cons d ds =>
    cases ds with
    | cons _ _ => cases d <;> cases e
    | nil =>
      obtain ⟨x, ex, hx⟩ := h.one
      subst ex
      cases d with
      | lst ds =>
        cases e
        obtain ⟨a, vs, rfl, ha, rr⟩ := hx.lstE
        exact call_list_of pins s σ H _ us Q I rv ⟨a, vs, rfl, .inl (SqL.of ha), fun l hl => q _ _ (.mk hl (root_lst rr))⟩
      | tup ds =>
        cases e
        obtain ⟨a, vs, rfl, ha, rr⟩ := hx.tupE
        exact call_list_of pins s σ H _ us Q I rv ⟨a, vs, rfl, .inr (by rw [hK]; exact SqT.sub sub ha), fun l hl => q _ _ (.mk hl (root_lst rr))⟩
      | scr ns =>
        cases e
        obtain ⟨a, rfl, ha⟩ := hx.scrE
        exact call_list_of pins s σ H _ us Q I rv ⟨a, _, rfl, .inl (by rw [hK]; exact SqL.sub sub ha), fun l hl => q _ _ (.mk hl (root_lst (RepL.ints ns)))⟩
      | _ => cases e
theorem b_all (hc : X.calm = true) : CallR X (.builtin "all") (rBi L .all) := by
  intro pins s σ H xs us Q I rv ⟨Z, ds, r, sub, h, e, q⟩
  cases ds with
  | nil => cases e
  | cons d ds =>
    cases ds with
    | cons _ _ => cases d <;> cases e
    | nil =>
      obtain ⟨x, ex, hx⟩ := h.one
      subst ex
      cases d <;> first | cases e; done | skip
      rename_i ds
      obtain ⟨bs, e1, e2⟩ := omE (show (blsOf ds).map _ = some r from e)
      subst e2
      obtain ⟨a, vs, rfl, ha, rr⟩ := hx.lstE
      exact cr_all hc pins s σ H _ us Q I rv ⟨a, bs, rfl, by rw [← bls_rep e1 rr]; exact SqL.of ha, q _ _ (.here rep_bl)⟩
theorem b_any (hc : X.calm = true) : CallR X (.builtin "any") (rBi L .any) := by
  intro pins s σ H xs us Q I rv ⟨Z, ds, r, sub, h, e, q⟩
  cases ds with
  | nil => cases e
  | cons d ds =>
    cases ds with
    | cons _ _ => cases d <;> cases e
    | nil =>
      obtain ⟨x, ex, hx⟩ := h.one
      subst ex
      cases d <;> first | cases e; done | skip
      rename_i ds
      obtain ⟨bs, e1, e2⟩ := omE (show (blsOf ds).map _ = some r from e)
      subst e2
      obtain ⟨a, vs, rfl, ha, rr⟩ := hx.lstE
      exact cr_any hc pins s σ H _ us Q I rv ⟨a, bs, rfl, by rw [← bls_rep e1 rr]; exact SqL.of ha, q _ _ (.here rep_bl)⟩
theorem int2 {Z H : Hp} {ds : List D} {xs : List V} {b : Bi} {r : Rv} (hb : b = .min ∨ b = .max) (h : RBs L Z H ds xs) (e : bi b ds = some r) : ∃ i j, xs = [.int i, .int j] ∧ ds = [.int i, .int j] := by
  rcases ds with _ | ⟨d, _ | ⟨d2, _ | ⟨d3, ds⟩⟩⟩
  · rcases hb with rfl | rfl <;> cases e
  · rcases hb with rfl | rfl <;> cases d <;> cases e
  · obtain ⟨x, y, rfl, h1, h2⟩ := h.two
    rcases hb with rfl | rfl <;> cases d <;> cases d2 <;> first | cases e; done | exact ⟨_, _, by rw [h1.intE, h2.intE], rfl⟩
  · rcases hb with rfl | rfl <;> cases d <;> cases d2 <;> cases e
theorem b_min (hc : X.calm = true) : CallR X (.builtin "min") (rBi L .min) := by
  intro pins s σ H xs us Q I rv ⟨Z, ds, r, sub, h, e, q⟩
  obtain ⟨i, j, rfl, rfl⟩ := int2 hK (.inl rfl) h e
  cases e
  exact call_min2 hc pins s σ H _ us Q I rv ⟨i, j, rfl, q _ _ (.here rep_int)⟩
theorem b_max (hc : X.calm = true) : CallR X (.builtin "max") (rBi L .max) := by
  intro pins s σ H xs us Q I rv ⟨Z, ds, r, sub, h, e, q⟩
  obtain ⟨i, j, rfl, rfl⟩ := int2 hK (.inr rfl) h e
  cases e
  exact call_max2 hc pins s σ H _ us Q I rv ⟨i, j, rfl, q _ _ (.here rep_int)⟩
end

section
variable {L : Lk} {B : Ba} {G : Gs} {X : Cx} {a b c : Expr} {a' b' c' : Ex} {es : List Expr} {es' : Exs} {pos p : Pos} {σ : Sg} {H Z : Hp} {ρ ρ1 ρ2 : En} {r1 r2 : Rv}
theorem c_biB {x : Str} {id : String} {k : Bi} (hc : CallR X (.builtin id) (rBi L k)) (hg : Gl X x) (hm : X.mg x = none) (hv : bootBuiltins x = some (.builtin id)) (hn : x ≠ "__name__") (hdb : (x == ("__debug__" : Str)) = false)
    (hs : (a :: es).any isStar = false) (h : PA X (a :: es) (tEs L B G es')) : PE X (.Call (.Name x p) (a :: es) [] pos) (tE L B G (.bi k es')) := by
  have h1 : isStar a = false := by rw [List.any_cons, Bool.or_eq_false_iff] at hs; exact hs.1
  have h2 : es.any isStar = false := by rw [List.any_cons, Bool.or_eq_false_iff] at hs; exact hs.2
  refine pe_imp (pe_callB hc hg hm hv h hn hdb (star_cons h1) (star_plain h2)) fun σ H Q ⟨ρ, Z, rv, ρ', S, e, q⟩ => ?_
  simp only [ev] at e
  obtain ⟨⟨rs, ρ1⟩, e1, e⟩ := obE e
  obtain ⟨ds, e2, e⟩ := obE e
  obtain ⟨r, er, e⟩ := omE e
  cases e
  exact ⟨ρ, Z, rs, ρ1, S, e1, fun vs Z1 H1 S1 g1 k1 _ => ⟨Z1, ds, rv, S1.sub, k1.rds S1 e2, er, fun v H' R => fin S1 g1 R q⟩⟩
theorem c_biT {x : Str} {T : String} {k : Bi} (hc : CallR X (.type T) (rBi L k)) (hg : Gl X x) (hm : X.mg x = none) (hv : bootBuiltins x = some (.type T)) (hn : x ≠ "__name__") (hdb : (x == ("__debug__" : Str)) = false)
    (hs : (a :: es).any isStar = false) (h : PA X (a :: es) (tEs L B G es')) : PE X (.Call (.Name x p) (a :: es) [] pos) (tE L B G (.bi k es')) := by
  have h1 : isStar a = false := by rw [List.any_cons, Bool.or_eq_false_iff] at hs; exact hs.1
  have h2 : es.any isStar = false := by rw [List.any_cons, Bool.or_eq_false_iff] at hs; exact hs.2
  refine pe_imp (pe_callTy hc hg hm hv h hn hdb (star_cons h1) (star_plain h2)) fun σ H Q ⟨ρ, Z, rv, ρ', S, e, q⟩ => ?_
  simp only [ev] at e
  obtain ⟨⟨rs, ρ1⟩, e1, e⟩ := obE e
  obtain ⟨ds, e2, e⟩ := obE e
  obtain ⟨r, er, e⟩ := omE e
  cases e
  exact ⟨ρ, Z, rs, ρ1, S, e1, fun vs Z1 H1 S1 g1 k1 _ => ⟨Z1, ds, rv, S1.sub, k1.rds S1 e2, er, fun v H' R => fin S1 g1 R q⟩⟩

/-! ### attributes -/
theorem RepO.look {inj : ∀ i j x, L.fld i = some x → L.fld j = some x → i = j} {f : Nat} {x : Str} (ef : L.fld f = some x) : ∀ {fs : List (Nat × D)} {fV : List (Str × V)} {d : D}, RepO L Z fs fV → fget fs f = some d → ∃ v, fV.lookup x = some v ∧ Rep L Z d v
  | [], fV, d, h, e => by cases e
  | (k, e0) :: fs, fV, d, h, e => by
    simp only [RepO] at h
    obtain ⟨y, v, r, ey, rfl, q, t⟩ := h
    have e' : (if f = k then some e0 else fget fs f) = some d := e
    rw [List.lookup_cons]
    by_cases hk : f = k
    · rw [if_pos hk] at e'
      cases e'
      subst hk
      rw [ef] at ey
      cases ey
      rw [beq_self_eq_true]
      exact ⟨v, rfl, by simpa only [RepQ] using q⟩
    · rw [if_neg hk] at e'
      have : (x == y) = false := beq_eq_false_iff_ne.mpr fun q => hk (inj f k x ef (q ▸ ey))
      rw [this]
      exact RepO.look (inj := inj) ef t e'
theorem RepO.none {x : Str} (hx : ∀ i, L.fld i ≠ some x) : ∀ {fs : List (Nat × D)} {fV : List (Str × V)}, RepO L Z fs fV → fV.lookup x = Option.none
  | [], fV, h => by simp only [RepO] at h; subst h; rfl
  | (k, e0) :: fs, fV, h => by
    simp only [RepO] at h
    obtain ⟨y, v, r, ey, rfl, q, t⟩ := h
    rw [List.lookup_cons]
    have : (x == y) = false := beq_eq_false_iff_ne.mpr fun q => hx k (q ▸ ey)
    rw [this]
    exact RepO.none hx t
theorem RepO.len : ∀ {fs : List (Nat × D)} {fV : List (Str × V)}, RepO L Z fs fV → fs.length = fV.length
  | [], fV, h => by simp only [RepO] at h; subst h; rfl
  | (k, e0) :: fs, fV, h => by
    simp only [RepO] at h
    obtain ⟨y, v, r, ey, rfl, q, t⟩ := h
    rw [List.length_cons, List.length_cons, RepO.len t]
theorem RepO.put {inj : ∀ i j x, L.fld i = some x → L.fld j = some x → i = j} {f : Nat} {x : Str} {d : D} {w : V} (ef : L.fld f = some x) (hw : Rep L Z d w) : ∀ {fs : List (Nat × D)} {fV : List (Str × V)}, RepO L Z fs fV → RepO L Z (fput fs f d) (putF x w fV)
  | [], fV, h => by
    simp only [RepO] at h
    subst h
    show RepO L Z [(f, d)] [(x, w)]
    simp only [RepO]
    exact ⟨x, w, [], ef, rfl, by simp only [RepQ]; exact hw, rfl⟩
  | (k, e0) :: fs, fV, h => by
    simp only [RepO] at h
    obtain ⟨y, v, r, ey, rfl, q, t⟩ := h
    show RepO L Z (if k = f then (k, d) :: fs else (k, e0) :: fput fs f d) (if y = x then (y, w) :: r else (y, v) :: putF x w r)
    by_cases hk : k = f
    · subst hk
      rw [ef] at ey
      cases ey
      rw [if_pos rfl, if_pos rfl]
      simp only [RepO]
      exact ⟨x, w, r, ef, rfl, by simp only [RepQ]; exact hw, t⟩
    · have : ¬ y = x := fun q => hk (inj k f x (q ▸ ey) ef)
      rw [if_neg hk, if_neg this]
      simp only [RepO]
      exact ⟨y, v, _, ey, rfl, q, RepO.put (inj := inj) ef hw t⟩
theorem super_off {o : Expr} {f : Str} {env : Env} {w : Sem Value} (h : noSuper o = true) : attributeBase o f env w = w := by
  unfold attributeBase
  cases o with
  | Call g args kws pos =>
    cases g with
    | Name id p2 =>
      cases args with
      | cons _ _ => rfl
      | nil =>
        cases kws with
        | cons _ _ => rfl
        | nil =>
          have h' : (!(id == ("super" : Str))) = true := h
          simp only [bne, h', Bool.true_or, if_true]
          first | done | simp
    | _ => rfl
  | _ => rfl
theorem c_fld {f : Str} {i : Nat} (hK : X.K = L.K) (inj : ∀ i j x, L.fld i = some x → L.fld j = some x → i = j) (cls : ∀ c, G.ok c = true → Cls L.K (L.cls c)) (noat : ∀ c i x, G.ok c = true → L.fld i = some x → NoAttr L.K (L.cls c) x)
    (ef : L.fld i = some f) (hs : noSuper a = true) (ha : PE X a (tE L B G a')) : PE X (.Attribute a f pos) (tE L B G (.fld a' i)) :=
  pe_imp (pe_fld ha (super_off hs)) fun σ H Q ⟨ρ, Z, rv, ρ', S, e, q⟩ => by
    simp only [ev] at e
    obtain ⟨⟨r1, ρ1⟩, e1, e⟩ := obE e
    obtain ⟨x, ex, e⟩ := obE e
    obtain ⟨r, er, e⟩ := omE e
    cases e
    refine ⟨ρ, Z, r1, ρ1, S, e1, fun v Z1 H1 S1 g1 k1 => ?_⟩
    cases x <;> first | cases er; done | skip
    rename_i c fs
    simp only [fldD] at er
    split at er
    case isFalse => cases er
    case isTrue hc =>
      obtain ⟨d, ed, er⟩ := omE er
      subst er
      obtain ⟨p, dx, fV, rfl, hp, rr⟩ := (k1.rd S1 ex).obE
      obtain ⟨w, hw, rw'⟩ := RepO.look (inj := inj) ef rr ed
      exact ⟨p, L.cls c, dx, fV, w, rfl, hp, by rw [hK]; exact cls c hc, by rw [hK]; exact noat c i f hc ef, hw, fin S1 g1 (.here rw') q⟩
end
end Pi
/-! lists turned in place; isinstance -/
namespace Pi
open PySem PySem.Spec PyProof.Rows L2
section
variable {L : Lk} {B : Ba} {G : Gs} {X : Cx} {a b c : Expr} {a' b' c' : Ex} {es : List Expr} {es' : Exs} {pos p apos : Pos} {σ : Sg} {H Z : Hp} {ρ ρ1 ρ2 : En} {r1 r2 : Rv}
theorem isL_ok {s : Option Sl} (h : isL s = true) : ∃ sl ds, s = some sl ∧ sl.isOw = true ∧ sl.d = .lst ds := by
  cases s with
  | none => cases h
  | some sl =>
    cases sl with
    | own d => cases d <;> first | cases h; done | exact ⟨_, _, rfl, rfl, rfl⟩
    | ino d => cases d <;> first | cases h; done | exact ⟨_, _, rfl, rfl, rfl⟩
    | _ => cases h
/-- what stands in an own slot -/
theorem SI.own_at {i : Nat} {sl : Sl} (S : SI L B ρ σ Z H) (e : ρ.sl i = some sl) (o : sl.isOw = true) : ∃ a, σ[i]? = some (some (.ref a)) ∧ Root L Z H sl.d a := by
  obtain ⟨v, hv, rb⟩ := S.rep i sl e
  have rt : sl.d.root = true := by cases sl <;> first | exact o | cases o
  rcases rb with ⟨_, a, rfl, r⟩ | ⟨r, _⟩
  · exact ⟨a, hv, r⟩
  · rw [rt] at r; cases r
def lstOf : D → List D
  | .lst es => es
  | _ => []
/-- the rule of a list's method, over a slot -/
structure MutR (L : Lk) (m : Mm) (as : List D) (r : V → List V → Hp → VK → Prop) : Prop where
  go : ∀ (Z H : Hp) (ds : List D) (d : D) (y : D) (a : Addr) (vs : List V) (xs : List V) (Q : VK), Sub Z H → Z a = none → mutD m (.lst ds) as = some (d, y) → H a = some (.lst xs) → RepL L Z ds xs → RepL L Z as vs →
    (∀ v ws, RepL L Z (lstOf d) ws → (∃ es, d = .lst es) → Rep L Z y v → Q v (upd H a (.lst ws))) → r (.ref a) vs H Q
theorem mut_fin {i : Nat} {sl : Sl} {d y : D} {x : Addr} {Q : VK} (S : SI L B ρ1 σ Z H1) (g : Gr ρ ρ1 σ Z0 H0 Z H1) (e : ρ1.sl i = some sl) (o : sl.isOw = true) (hv : σ[i]? = some (some (.ref x)))
    (q : ∀ v Z' H', SI L B (ρ1.set i (some (sl.setD d))) σ Z' H' → Gr ρ (ρ1.set i (some (sl.setD d))) σ Z0 H0 Z' H' → RvOk L H0 (ρ1.set i (some (sl.setD d))) σ Z' H' (.val y) v → Q v H')
    (v : V) (ws : List V) (hw : RepL L Z (lstOf d) ws) (hd : ∃ es, d = .lst es) (hy : Rep L Z y v) : Q v (upd H1 x (.lst ws)) := by
  obtain ⟨es, rfl⟩ := hd
  have k : ∀ b z, b ≠ x → H1 b = some z → upd H1 x (.lst ws) b = some z := fun b z n q => by rw [upd_ne n]; exact q
  have rt : Root L Z (upd H1 x (.lst ws)) (.lst es) x := ⟨ws, upd_same, hw⟩
  exact q v Z _ (S.write e o hv k rt) (g.trans (Gr.write e o hv k rt.ne)) hy
theorem mut_args {n : Str} {id : String} {m : Mm} {i : Nat} {x : Str} {r : V → List V → Hp → VK → Prop} (hK : X.K = L.K) (slot : Slot "list" n id) (hty : typeOf (.builtin id) = pure (.type "method_descriptor")) (hm : MtR X id r) (hr : ∀ a0 as, MutR L m (a0 :: as) r)
    (ho : PE X (.Name x p) (tVar i)) {e1' : Ex} (ha : PA X (a :: es) (tFs L B G (.cons e1' es'))) (hs : (a :: es).any isStar = false) (hline : (apos.endLine == pos.line) = true) (hlen : (a :: es).length < 29) :
    PE X (.Call (.Attribute (.Name x p) n apos) (a :: es) [] pos) (tE L B G (.mut m i (.cons e1' es'))) := by
  have h1 : isStar a = false := by rw [List.any_cons, Bool.or_eq_false_iff] at hs; exact hs.1
  have h2 : es.any isStar = false := by rw [List.any_cons, Bool.or_eq_false_iff] at hs; exact hs.2
  have few : ((backTo pos (starEach (a :: es) X.env)).all (fun x => !x.1) && (backToKw pos (keywordEach [] X.env)).all (fun x => x.1.isSome)
      && decide ((a :: es).length + ([] : List Keyword).length + (if ([] : List Keyword).isEmpty then 0 else 1) < 30)) = true := by
    have e1 : (backTo pos (starEach (a :: es) X.env)).all (fun x => !x.1) = true := by
      have := star_plain (pos := pos) (env := X.env) hs
      rw [List.all_eq_not_any_not]
      simp only [Bool.not_not, this]
      rfl
    rw [e1]
    have e2 : (backToKw pos (keywordEach [] X.env)).all (fun x => x.1.isSome) = true := rfl
    rw [e2]
    simp only [Bool.true_and]
    exact decide_eq_true (by show (a :: es).length + 0 + 0 < 30; omega)
  refine pe_imp (pe_bm PySem.F.plainAttrs_list slot hty hm ho ha rfl few hline (star_cons h1) (star_plain h2)) fun σ H Q ⟨ρ, Z, rv, ρ', S, e, q⟩ => ?_
  simp only [ev] at e
  split at e
  case isFalse => cases e
  case isTrue hl =>
    obtain ⟨sl, ds, esl, osl, edl⟩ := isL_ok hl
    obtain ⟨⟨as, ρ1⟩, e1, e⟩ := obE e
    obtain ⟨a0, as0, ea⟩ : ∃ a0 as0, as = a0 :: as0 := by
      simp only [evF] at e1
      obtain ⟨_, _, e1⟩ := obE e1
      obtain ⟨_, _, e1⟩ := obE e1
      obtain ⟨_, _, e1⟩ := omE e1
      cases e1
      exact ⟨_, _, rfl⟩
    obtain ⟨x0, hv, rt⟩ := S.own_at esl osl
    rw [edl] at rt
    obtain ⟨vs0, hx0, _⟩ := rt
    refine ⟨.ref x0, hv, .inl ⟨rfl, _, SqL.of hx0⟩, ρ, Z, as, ρ1, S, e1, fun vs Z1 H1 S1 g1 k1 => ?_⟩
    have main : ∀ (sl1 : Sl) (d1 y1 : D), ρ1.sl i = some sl1 → sl1.isOw = true → mutD m sl1.d as = some (d1, y1) → rv = .val y1 → ρ' = ρ1.set i (some (sl1.setD d1)) → r (.ref x0) vs H1 Q := fun sl1 d1 y1 es1 os1 em erv eρ => by
      subst erv eρ
      obtain ⟨x1, hv1, rt1⟩ := S1.own_at es1 os1
      rw [hv] at hv1
      cases hv1
      cases hd : sl1.d with
      | lst ds1 =>
        rw [hd] at em rt1
        obtain ⟨vs1, hx1, rr1⟩ := rt1
        subst ea
        exact (hr a0 as0).go Z1 H1 ds1 d1 y1 x0 vs vs1 Q S1.sub (S1.nz x0 ⟨i, sl1, es1, os1, hv⟩) em hx1 rr1 k1 (mut_fin S1 g1 es1 os1 hv q)
      | _ => rw [hd] at em; cases m <;> cases em
    cases h : ρ1.sl i with
    | none => rw [h] at e; cases e
    | some sl1 =>
      rw [h] at e
      cases sl1 with
      | own d =>
        obtain ⟨⟨d1, y1⟩, em, e⟩ := omE e
        cases e
        have o : (Sl.own d).isOw = true := by
          cases d <;> first | rfl | (cases m <;> cases em)
        exact main _ d1 y1 h o em rfl rfl
      | ino d =>
        obtain ⟨⟨d1, y1⟩, em, e⟩ := omE e
        cases e
        have o : (Sl.ino d).isOw = true := by
          cases d <;> first | rfl | (cases m <;> cases em)
        exact main _ d1 y1 h o em rfl rfl
      | _ => cases e
theorem mut_none {n : Str} {id : String} {m : Mm} {i : Nat} {x : Str} {r : V → List V → Hp → VK → Prop} (hK : X.K = L.K) (slot : Slot "list" n id) (hty : typeOf (.builtin id) = pure (.type "method_descriptor")) (hm : MtR X id r) (hr : MutR L m [] r)
    (ho : PE X (.Name x p) (tVar i)) (hline : (apos.endLine == pos.line) = true) : PE X (.Call (.Attribute (.Name x p) n apos) [] [] pos) (tE L B G (.mut m i .nil)) := by
  refine pe_imp (pe_bm0 PySem.F.plainAttrs_list slot hty hm ho rfl hline) fun σ H Q ⟨ρ, Z, rv, ρ', S, e, q⟩ => ?_
  simp only [ev, evF] at e
  split at e
  case isFalse => cases e
  case isTrue hl =>
    obtain ⟨sl, ds, esl, osl, edl⟩ := isL_ok hl
    obtain ⟨⟨as, ρ1⟩, e1, e⟩ := obE e
    cases e1
    obtain ⟨x0, hv, rt⟩ := S.own_at esl osl
    have rt' := rt
    rw [edl] at rt'
    obtain ⟨vs0, hx0, rr0⟩ := rt'
    refine ⟨.ref x0, hv, .inl ⟨rfl, _, SqL.of hx0⟩, ?_⟩
    have main : ∀ (d1 y1 : D), mutD m sl.d [] = some (d1, y1) → rv = .val y1 → ρ' = ρ.set i (some (sl.setD d1)) → r (.ref x0) [] H Q := fun d1 y1 em erv eρ => by
      subst erv eρ
      rw [edl] at em
      exact hr.go Z H ds d1 y1 x0 [] vs0 Q S.sub (S.nz x0 ⟨i, sl, esl, osl, hv⟩) em hx0 rr0 .nil (mut_fin S Gr.refl esl osl hv q)
    rw [esl] at e
    cases sl with
    | own d =>
      obtain ⟨⟨d1, y1⟩, em, e⟩ := omE e
      cases e
      exact main d1 y1 em rfl rfl
    | ino d =>
      obtain ⟨⟨d1, y1⟩, em, e⟩ := omE e
      cases e
      exact main d1 y1 em rfl rfl
    | _ => cases osl
theorem m_append (as : List D) : MutR L .append as rAppend := ⟨fun Z H ds d y a vs xs Q sub za e ha r ra k => by
  rcases as with _ | ⟨y0, _ | ⟨_, _⟩⟩
  · cases e
  · simp only [mutD] at e
    split at e
    case isFalse => cases e
    case isTrue hl =>
      cases e
      obtain ⟨v, t, rfl, q, t0⟩ := ra.consE
      cases t0.nilE
      exact ⟨a, xs, v, rfl, rfl, ha, by rw [← r.len, ← SL_line]; exact hl, k _ _ (r.app (.cons q .nil)) ⟨_, rfl⟩ rep_non⟩
  · cases e⟩
theorem m_extend (as : List D) : MutR L .extend as rExtend := ⟨fun Z H ds d y a vs xs Q sub za e ha r ra k => by
  rcases as with _ | ⟨y0, _ | ⟨_, _⟩⟩
  · cases e
  · cases y0 <;> first | cases e; done | skip
    rename_i ys
    simp only [mutD] at e
    split at e
    case isFalse => cases e
    case isTrue hl =>
      cases e
      obtain ⟨v, t, rfl, q, t0⟩ := ra.consE
      cases t0.nilE
      simp only [Rep] at q
      obtain ⟨b, zs, rfl, hb, rz⟩ := q
      exact ⟨a, b, xs, zs, rfl, rfl, ha, sub _ _ hb, by rw [← r.len, ← rz.len, ← SL_line]; exact hl, k _ _ (r.app rz) ⟨_, rfl⟩ rep_non⟩
  · cases y0 <;> cases e⟩
theorem m_clear : MutR L .clear [] rClear := ⟨fun Z H ds d y a vs xs Q sub za e ha r ra k => by
  cases e
  cases ra.nilE
  exact ⟨a, xs, rfl, rfl, ha, k _ _ .nil ⟨_, rfl⟩ rep_non⟩⟩
theorem m_pop : MutR L .pop [] rPop := ⟨fun Z H ds d y a vs xs Q sub za e ha r ra k => by
  cases ra.nilE
  obtain ⟨y1, e1, e2⟩ := omE (show (ds[ds.length - 1]?).map _ = some (d, y) from e)
  cases e2
  obtain ⟨v, hv, rv⟩ := r.get e1
  exact ⟨a, xs, v, rfl, rfl, ha, by rw [← r.len]; exact hv, k _ _ r.init ⟨_, rfl⟩ rv⟩⟩
theorem m_popAt (a0 : D) (as0 : List D) : MutR L .pop (a0 :: as0) rPopAt := ⟨fun Z H ds d y a vs xs Q sub za e ha r ra k => by
  rcases as0 with _ | ⟨_, _⟩
  · cases a0 <;> first | cases e; done | skip
    rename_i i
    simp only [mutD] at e
    split at e
    case isFalse => cases e
    case isTrue hl =>
      obtain ⟨j, ej, e⟩ := obE e
      obtain ⟨y1, e1, e2⟩ := omE e
      cases e2
      obtain ⟨v, t, rfl, q, t0⟩ := ra.consE
      cases t0.nilE
      have hv0 : v = .int i := by simpa only [Rep] using q
      subst hv0
      obtain ⟨w, hw, rw'⟩ := r.get e1
      have q2 : L2.ixN xs.length i = some j := by rw [← r.len]; exact ej
      exact ⟨a, xs, i, j, w, rfl, rfl, ha, hl.1, hl.2, (L2.ixN_seq q2).1, hw, k _ _ (r.erase j) ⟨_, rfl⟩ rw'⟩
  · cases a0 <;> cases e⟩
end
end Pi
/-! what is walked; targets -/
namespace Pi
open PySem PySem.Spec PyProof.Rows L2

/-- a later heap, a later frozen part -/
def Later (B : Ba) (Z Z' H : Hp) : Prop := Sub Z Z' ∧ Sub Z' H ∧ ∀ a o, B.H0 a = some o → ¬ B.ia a → H a = some o
theorem SI.later {L : Lk} {B : Ba} {ρ : En} {σ : Sg} {Z Z' H : Hp} (S : SI L B ρ σ Z' H) (s : Sub Z Z') : Later B Z Z' H := ⟨s, S.sub, S.b1⟩
/-- a walk hands out these items -/
structure WalkOk (L : Lk) (B : Ba) (Z : Hp) (J : It) (xs : List D) : Prop where
  go : ∀ i Z' H, Later B Z Z' H → i < xs.length → J.go i H
  yld : ∀ i Z' H x H', Later B Z Z' H → J.yld i H x H' → ∀ d, xs[i]? = some d → Res L Z' H (.val d) x H'
  stop : ∀ i Z' H, Later B Z Z' H → xs.length ≤ i → J.stop i H
def tI (L : Lk) (B : Ba) (G : Gs) (it : Wk) : TI := fun σ H R => ∃ ρ Z xs ρ', SI L B ρ σ Z H ∧ evI G it ρ = some (xs, ρ') ∧
  ∀ J Z' H', SI L B ρ' σ Z' H' → Gr ρ ρ' σ Z H Z' H' → WalkOk L B Z' J xs → R J H'

section
variable {L : Lk} {B : Ba} {G : Gs} {X : Cx} {a b c tg : Expr} {a' b' c' : Ex} {es : List Expr} {es' : Exs} {pos p apos : Pos} {σ : Sg} {H Z : Hp} {ρ ρ1 ρ2 : En} {r1 r2 : Rv} {d : D} {v : V}
/-- what is walked: frozen, or lent -/
def Lent (L : Lk) (B : Ba) (Z H : Hp) (d : D) (v : V) : Prop := d.root = true ∧ ∃ a, v = .ref a ∧ Root L Z H d a ∧ B.H0 a ≠ none ∧ ¬ B.ia a
theorem toW_ok {Hs : Hp} {r : Rv} {ρ' : En} (S : SI L B ρ σ Z H) (hs : ∀ a, B.H0 a ≠ none → Hs a ≠ none) (R : RvOk L Hs ρ σ Z H r v) (e : toW ρ r = some (d, ρ')) :
    ∃ Z', SI L B ρ' σ Z' H ∧ (Rep L Z' d v ∨ Lent L B Z' H d v) ∧ Sub Z Z' ∧ (∀ b, Z b = none → Z' b ≠ none → (Hs b = none ∧ v = .ref b ∧ ¬ us ρ σ b) ∨ ow ρ σ b) ∧ (∀ b, ow ρ' σ b → ow ρ σ b) ∧ (∀ b, us ρ' σ b → us ρ σ b) := by
  cases r with
  | val d' =>
    obtain ⟨Z', S', rp, q⟩ := toF_ok S hs R (d := d) (ρ' := ρ') e
    exact ⟨Z', S', .inl rp, q⟩
  | new d' =>
    obtain ⟨Z', S', rp, q⟩ := toF_ok S hs R (d := d) (ρ' := ρ') e
    exact ⟨Z', S', .inl rp, q⟩
  | slot i =>
    have e' : (match ρ.sl i with | some (.own d) => some (d, ρ.set i (some (.fz d))) | some (.bor d) => some (d, ρ) | _ => none) = some (d, ρ') := e
    cases hsl : ρ.sl i with
    | none => rw [hsl] at e'; cases e'
    | some sl =>
      rw [hsl] at e'
      cases sl with
      | own dd =>
        have e2 : toF ρ (.slot i) = some (d, ρ') := by
          show (match ρ.sl i with | some (.own d) => some (d, ρ.set i (some (.fz d))) | _ => none) = some (d, ρ')
          rw [hsl]
          exact e'
        obtain ⟨Z', S', rp, q⟩ := toF_ok S hs R e2
        exact ⟨Z', S', .inl rp, q⟩
      | bor dd =>
        cases e'
        obtain ⟨w, hw, rb⟩ := S.rep i _ hsl
        have R' : σ[i]? = some (some v) := R
        rw [R'] at hw
        cases hw
        refine ⟨Z, S, ?_, Sub.rfl', fun b h q => absurd h q, fun _ q => q, fun _ q => q⟩
        rcases rb with ⟨rt, x, rfl, r⟩ | ⟨_, r⟩
        · exact .inr ⟨rt, x, rfl, r, S.b9 i d x hsl rt R'⟩
        · exact .inl r
      | _ => cases e'
theorem lent_at {o : HO} {x : Addr} {Z' H' : Hp} (S : SI L B ρ σ Z H) (h0 : B.H0 x ≠ none) (hi : ¬ B.ia x) (h : H x = some o) (l : Later B Z Z' H') : H' x = some o := by
  cases q : B.H0 x with
  | none => exact absurd q h0
  | some y =>
    have e1 := S.b1 x y q hi
    rw [h] at e1
    cases e1
    exact l.2.2 x o q hi
theorem walk_list {x : Addr} {vs : List V} {ds : List D} (hK : X.K = L.K) (h : ∀ Z' H', Later B Z Z' H' → H' x = some (.lst vs)) (r : RepL L Z ds vs) : WalkOk L B Z (Itl X.K x) ds where
  go := fun i Z' H' l hi => by
    obtain ⟨v, hv, _⟩ := r.get (i := i) (d := ds[i]) (by simp [hi])
    exact ⟨vs, v, SqL.of (h Z' H' l), hv⟩
  yld := fun i Z' H' y H2 l q d hd => by
    obtain ⟨rfl, q⟩ := q
    obtain ⟨v, hv, rv⟩ := r.get hd
    have := q vs (SqL.of (h Z' _ l))
    rw [hv] at this
    cases this
    exact .here (Rep.sub l.1 _ _ rv)
  stop := fun i Z' H' l hi => ⟨vs, SqL.of (h Z' H' l), by rw [← r.len]; exact hi⟩
theorem walk_tup {x : Addr} {vs : List V} {ds : List D} (hK : X.K = L.K) (h : SqT L.K Z x vs) (r : RepL L Z ds vs) : WalkOk L B Z (Itt X.K x) ds where
  go := fun i Z' H' l hi => by
    obtain ⟨v, hv, _⟩ := r.get (i := i) (d := ds[i]) (by simp [hi])
    exact ⟨vs, v, by rw [hK]; exact SqT.sub (l.1.trans l.2.1) h, hv⟩
  yld := fun i Z' H' y H2 l q d hd => by
    obtain ⟨rfl, q⟩ := q
    obtain ⟨v, hv, rv⟩ := r.get hd
    have := q vs (by rw [hK]; exact SqT.sub (l.1.trans l.2.1) h)
    rw [hv] at this
    cases this
    exact .here (Rep.sub l.1 _ _ rv)
  stop := fun i Z' H' l hi => ⟨vs, by rw [hK]; exact SqT.sub (l.1.trans l.2.1) h, by rw [← r.len]; exact hi⟩
theorem walk_scr {x : Addr} {ns : List Int} (hK : X.K = L.K) (h : SqL L.K Z x (ns.map .int)) : WalkOk L B Z (Itl X.K x) (ns.map .int) where
  go := fun i Z' H' l hi => by
    obtain ⟨v, hv, _⟩ := (RepL.ints (L := L) (Z := Z) ns).get (i := i) (d := (ns.map D.int)[i]) (by simp [hi])
    exact ⟨_, v, by rw [hK]; exact SqL.sub (l.1.trans l.2.1) h, hv⟩
  yld := fun i Z' H' y H2 l q d hd => by
    obtain ⟨rfl, q⟩ := q
    obtain ⟨v, hv, rv⟩ := (RepL.ints (L := L) (Z := Z) ns).get hd
    have := q _ (by rw [hK]; exact SqL.sub (l.1.trans l.2.1) h)
    rw [hv] at this
    cases this
    exact .here (Rep.sub l.1 _ _ rv)
  stop := fun i Z' H' l hi => ⟨_, by rw [hK]; exact SqL.sub (l.1.trans l.2.1) h, by rw [List.length_map] at hi ⊢; exact hi⟩
theorem walk_str {s : Tx} : WalkOk L B Z (Its (tx s)) (s.map fun c => .str [c]) where
  go := fun i Z' H' l hi => by
    show i < ((s.map Fin.val).toArray).size
    simpa using hi
  yld := fun i Z' H' y H2 l q d hd => by
    obtain ⟨rfl, c, hc, rfl⟩ := q
    rw [List.getElem?_map] at hd
    obtain ⟨k, hk, rfl⟩ := omE hd
    refine .here (rep_str ?_)
    have hc' : ((s.map Fin.val).toArray)[i]? = some c := hc
    rw [List.getElem?_toArray, List.getElem?_map, hk] at hc'
    cases hc'
    rfl
  stop := fun i Z' H' l hi => by
    show ((s.map Fin.val).toArray).size ≤ i
    simpa using hi
theorem walk_rng {lo : Int} {n : Nat} : WalkOk L B Z (Itr lo n) (iRange lo n) where
  go := fun i Z' H' l hi => by
    show i < n
    simpa [iRange] using hi
  yld := fun i Z' H' y H2 l q d hd => by
    obtain ⟨rfl, rfl⟩ := q
    unfold iRange at hd
    rw [List.getElem?_map] at hd
    obtain ⟨k, hk, rfl⟩ := omE hd
    have : k = i := by
      rw [List.getElem?_eq_some_iff] at hk
      obtain ⟨h1, h2⟩ := hk
      simpa using h2.symm
    subst this
    exact .here rep_int
  stop := fun i Z' H' l hi => by
    show n ≤ i
    simpa [iRange] using hi
/-- a value of any kind, walked -/
theorem i_seq (hK : X.K = L.K) (ha : PE X a (tE L B G a')) : PI X tg a (tI L B G (.seq a')) := by
  refine ⟨fun pins s σ H R I ⟨ρ, Z, xs, ρ', S, e, q⟩ => ?_⟩
  simp only [evI] at e
  obtain ⟨⟨r1, ρ1⟩, e1, e⟩ := obE e
  obtain ⟨⟨d, ρ2⟩, e2, e⟩ := obE e
  obtain ⟨ys, e3, e⟩ := omE e
  cases e
  have base : ∀ {W : V → Hp → Prop}, (∀ v Z' H', SI L B ρ2 σ Z' H' → Gr ρ ρ2 σ Z H Z' H' → (Rep L Z' d v ∨ Lent L B Z' H' d v) → W v H') → tE L B G a' σ H W := fun {W} k =>
    ⟨ρ, Z, r1, ρ1, S, e1, fun v Z1 H1 S1 g1 k1 => by
      obtain ⟨Z2, S2, rp, sz, w, l, u⟩ := toW_ok S1 S.b8 k1 e2
      exact k v Z2 H1 S2 (toF_gr g1 sz w l u) rp⟩
  cases d with
  | lst ds =>
    cases e3
    refine (pi_list ha).run pins s σ H R I (base fun v Z' H' S' g' w => ?_)
    rcases w with w | ⟨_, x, rfl, ⟨vs, hx, rr⟩, h0, hi⟩
    · simp only [Rep] at w
      obtain ⟨x, vs, rfl, hx, rr⟩ := w
      exact ⟨x, rfl, ⟨vs, SqL.of (S'.sub _ _ hx)⟩, q _ Z' H' S' g' (walk_list hK (fun Z2 H2 l => (l.1.trans l.2.1) _ _ hx) rr)⟩
    · exact ⟨x, rfl, ⟨vs, SqL.of hx⟩, q _ Z' H' S' g' (walk_list hK (fun Z2 H2 l => lent_at S' h0 hi hx l) rr)⟩
  | tup ds =>
    cases e3
    refine (pi_tup ha).run pins s σ H R I (base fun v Z' H' S' g' w => ?_)
    rcases w with w | ⟨r, _⟩
    · simp only [Rep] at w
      obtain ⟨x, vs, rfl, hx, rr⟩ := w
      exact ⟨x, rfl, ⟨vs, by rw [hK]; exact SqT.sub S'.sub hx⟩, q _ Z' H' S' g' (walk_tup hK hx rr)⟩
    · cases r
  | scr ns =>
    cases e3
    refine (pi_list ha).run pins s σ H R I (base fun v Z' H' S' g' w => ?_)
    rcases w with w | ⟨r, _⟩
    · simp only [Rep] at w
      obtain ⟨x, rfl, hx⟩ := w
      exact ⟨x, rfl, ⟨_, by rw [hK]; exact SqL.sub S'.sub hx⟩, q _ Z' H' S' g' (walk_scr hK hx)⟩
    · cases r
  | str t =>
    cases e3
    refine (pi_str ha).run pins s σ H R I (base fun v Z' H' S' g' w => ?_)
    rcases w with w | ⟨r, _⟩
    · simp only [Rep] at w
      subst w
      exact ⟨tx t, rfl, q _ Z' H' S' g' walk_str⟩
    · cases r
  | _ => cases e3
theorem i_rng1 (hm : X.mg "range" = none) (hg : Gl X "range") (hs : isStar a = false) (ha : PE X a (tE L B G a')) : PI X tg (.Call (.Name "range" p) [a] [] pos) (tI L B G (.rng1 a')) := by
  refine ⟨fun pins s σ H R I ⟨ρ, Z, xs, ρ', S, e, q⟩ => (pi_range1 hg hm (pa_cons ha pa_nil (star_cons hs)) (star_cons hs)).run pins s σ H R I ?_⟩
  simp only [evI] at e
  obtain ⟨⟨r1, ρ1⟩, e1, e⟩ := obE e
  refine ⟨ρ, Z, r1, ρ1, S, e1, fun v Z1 H1 S1 g1 k1 => ?_⟩
  cases r1 with
  | val d =>
    cases d <;> first | cases e; done | skip
    rename_i n
    simp only at e
    split at e
    case isFalse => cases e
    case isTrue hn =>
      cases e
      cases rv_int k1
      exact ⟨n, rfl, hn.1, hn.2, q _ Z1 H1 S1 g1 walk_rng⟩
  | _ => cases e
theorem i_rng2 (hm : X.mg "range" = none) (hg : Gl X "range") (hs : isStar a = false) (hs2 : isStar b = false) (ha : PE X a (tE L B G a')) (hb : PE X b (tE L B G b')) : PI X tg (.Call (.Name "range" p) [a, b] [] pos) (tI L B G (.rng2 a' b')) := by
  refine ⟨fun pins s σ H R I ⟨ρ, Z, xs, ρ', S, e, q⟩ => (pi_range2 hg hm (pa_cons ha (pa_cons hb pa_nil (star_cons hs2)) (star_cons hs)) (by rw [star_cons hs, star_cons hs2]; rfl) (star_cons hs2)).run pins s σ H R I ?_⟩
  simp only [evI] at e
  obtain ⟨⟨r1, ρ1⟩, e1, e⟩ := obE e
  obtain ⟨⟨r2, ρ2⟩, e2, e⟩ := obE e
  refine ⟨ρ, Z, r1, ρ1, S, e1, fun v Z1 H1 S1 g1 k1 => ⟨ρ1, Z1, r2, ρ2, S1, e2, fun w Z2 H2 S2 g2 k2 => ?_⟩⟩
  have k1' := k1.mono g2
  cases r1 with
  | val d =>
    cases r2 with
    | val d2 =>
      cases d <;> first | (cases d2 <;> cases e; done) | skip
      cases d2 <;> first | cases e; done | skip
      rename_i m n
      simp only at e
      split at e
      case isFalse => cases e
      case isTrue hn =>
        cases e
        cases rv_int k1'
        cases rv_int k2
        exact ⟨_, _, rfl, ⟨hn.1.1, hn.1.2, hn.2.1, hn.2.2⟩, q _ Z2 H2 S2 (g1.trans g2) walk_rng⟩
    | _ => cases d <;> cases e
  | _ => cases e

/-! ### targets -/
def tG (L : Lk) (B : Ba) (t : Tg) : TG := fun v σ H Q => ∃ ρ Z d ρ', SI L B ρ σ Z H ∧ Rep L Z d v ∧ tgt t d ρ = some ρ' ∧ ∀ σ', SI L B ρ' σ' Z H → L2.wipe σ' t.names = L2.wipe σ t.names → σ'.length = σ.length → (∀ x, ow ρ' σ' x → ow ρ σ x) → (∀ x, us ρ' σ' x → us ρ σ x) → Q σ' H
theorem stoV {i : Nat} {ρ' : En} (S : SI L B ρ σ Z H) (hi : i < σ.length) (r : Rep L Z d v) (e : sto i ρ (.val d) = some ρ') : SI L B ρ' (σ.set i (some v)) Z H := by
  unfold sto at e
  split at e
  case isFalse => cases e
  case isTrue ni =>
    cases e
    exact S.put hi ni (fun d q => nomatch q) (Rep.rb r S.sub) (fun d q => by cases q; exact r) (fun a q => nomatch q) (fun a q => nomatch q) (fun d _ q => nomatch q)
theorem sto_back {P : Sl → Bool} {i : Nat} {x : Option V} {d : D} (hP : P (.fz d) = false) {b : Addr} : (∃ j s, En.sl (ρ.set i (some (.fz d))) j = some s ∧ P s = true ∧ (σ.set i x)[j]? = some (some (.ref b))) → ∃ j s, ρ.sl j = some s ∧ P s = true ∧ σ[j]? = some (some (.ref b)) := fun ⟨j, s, q, o, y⟩ => by
  by_cases e : j = i
  · subst e
    rw [En.sl_set] at q
    split at q
    · cases q
      rw [hP] at o
      cases o
    · rename_i h
      exact absurd ⟨rfl, En.sl_lt q⟩ h
  · rw [En.sl_ne e] at q
    rw [List.getElem?_set_ne (Ne.symm e)] at y
    exact ⟨j, s, q, o, y⟩
theorem stoE {i : Nat} {ρ' : En} (e : sto i ρ (.val d) = some ρ') : ρ' = ρ.set i (some (.fz d)) := by
  unfold sto at e
  split at e
  case isFalse => cases e
  case isTrue ni => cases e; rfl
theorem set_set_same {i : Nat} {x y : Option V} : (σ.set i x).set i y = σ.set i y := List.set_set ..
theorem wipe_comm {i : Nat} {x : Option V} : ∀ (is : List Nat), L2.wipe (σ.set i x) (i :: is) = L2.wipe σ (i :: is)
  | [] => by
    show (σ.set i x).set i none = σ.set i none
    exact set_set_same
  | j :: is => by
    have ih := wipe_comm (i := i) (x := x) is
    show ((L2.wipe (σ.set i x) is).set j none).set i none = ((L2.wipe σ is).set j none).set i none
    have ih' : (L2.wipe (σ.set i x) is).set i none = (L2.wipe σ is).set i none := ih
    by_cases h : i = j
    · subst h
      rw [set_set_same, set_set_same]
      exact ih'
    · rw [List.set_comm _ _ (Ne.symm h), ih', List.set_comm _ _ h]
theorem g_one {i : Nat} {x : Str} (hN : X.N.Nodup) (hi : X.N[i]? = some x) (hx : Loc X.env.scope x) (hf : X.fn x = true ∨ X.env.scope.names.lookup x = some .local) (hl : ∀ (σ : Sg) H pins s, Inv X pins σ H s → i < σ.length) : PG X (.Name x p) (tG L B (.one i)) := by
  refine ⟨fun pins s σ H v u Q I rv ⟨ρ, Z, d, ρ', S, r, e, q⟩ => (pg_name hN hi hx hf).run pins s σ H v u Q I rv ?_⟩
  have e2 := stoE e
  subst e2
  exact q _ (stoV S (hl σ H pins s I) r e) (wipe_comm []) (List.length_set ..) (fun x => sto_back (P := Sl.isOw) rfl) (fun x => sto_back (P := Sl.isUs) rfl)
def tGs (L : Lk) (B : Ba) (is : List Nat) : TGs := fun vs σ H Q => ∃ ρ Z ds ρ', SI L B ρ σ Z H ∧ RepL L Z ds vs ∧ stoL is ds ρ = some ρ' ∧ ∀ σ', SI L B ρ' σ' Z H → L2.wipe σ' is = L2.wipe σ is → σ'.length = σ.length → (∀ x, ow ρ' σ' x → ow ρ σ x) → (∀ x, us ρ' σ' x → us ρ σ x) → Q σ' H
theorem gs_nil : PGs X [] (tGs L B []) := by
  refine ⟨fun pins s σ H vs us Q I rv ⟨ρ, Z, ds, ρ', S, r, e, q⟩ => pgs_nil.run pins s σ H vs us Q I rv ?_⟩
  cases ds with
  | nil => cases e; exact ⟨r.nilE, q σ S rfl rfl (fun _ h => h) (fun _ h => h)⟩
  | cons d ds => cases e
theorem assign_cons {x : Str} {es : List Expr} {env : Env} : (assignEach (.Name x p :: es) env).map (·.2) = assign (.Name x p) env :: (assignEach es env).map (·.2) := rfl
theorem gs_cons {i : Nat} {is : List Nat} {x : Str} (h1 : PG X (.Name x p) (tG L B (.one i))) (h2 : PGs X es (tGs L B is)) : PGs X (.Name x p :: es) (tGs L B (i :: is)) := by
  refine ⟨fun pins s σ H vs us Q I rv ⟨ρ, Z, ds, ρ', S, r, e, q⟩ => (pgs_cons h1 h2 assign_cons).run pins s σ H vs us Q I rv ?_⟩
  cases ds with
  | nil => cases e
  | cons d ds =>
    obtain ⟨v, t, rfl, r1, r2⟩ := r.consE
    obtain ⟨ρ1, e1, e2⟩ := obE (show (sto i ρ (.val d)).bind (fun ρ => stoL is ds ρ) = some ρ' from e)
    refine ⟨v, t, rfl, ρ, Z, d, ρ1, S, r1, e1, fun σ1 S1 w1 l1 o1 u1 => ⟨ρ1, Z, ds, ρ', S1, r2, e2, fun σ2 S2 w2 l2 o2 u2 => q σ2 S2 ?_ (l2.trans l1) (fun x h => o1 x (o2 x h)) (fun x h => u1 x (u2 x h))⟩⟩
    have w1' : σ1.set i none = σ.set i none := w1
    show (L2.wipe σ2 is).set i none = (L2.wipe σ is).set i none
    rw [w2]
    have a1 : L2.wipe (σ1.set i none) (i :: is) = L2.wipe σ1 (i :: is) := wipe_comm is
    have a2 : L2.wipe (σ.set i none) (i :: is) = L2.wipe σ (i :: is) := wipe_comm is
    rw [w1', a2] at a1
    exact a1.symm
theorem g_many {k : Nat} {is : List Nat} {n : Nat} (hK : X.K = L.K) (hc : X.calm = true) (h : PGs X es (tGs L B is)) (hn : (assignEach es X.env).length = is.length) (hst : (assignEach es X.env).findIdx? (·.1) = none) : PG X (.Tuple es k pos) (tG L B (.many is)) := by
  refine ⟨fun pins s σ H v u Q I rv ⟨ρ, Z, d, ρ', S, r, e, q⟩ => (pg_tup hc h hn hst).run pins s σ H v u Q I rv ?_⟩
  cases d <;> first | cases e; done | skip
  rename_i ds
  simp only [Rep] at r
  obtain ⟨x, vs, rfl, hx, rr⟩ := r
  have el : stoL is ds ρ = some ρ' := e
  have hl : ∀ {is : List Nat} {ds : List D} {ρ ρ' : En}, stoL is ds ρ = some ρ' → ds.length = is.length := fun {is} => by
    induction is with
    | nil => intro ds ρ ρ' e; cases ds with
      | nil => rfl
      | cons => cases e
    | cons i is ih => intro ds ρ ρ' e; cases ds with
      | nil => cases e
      | cons d ds =>
        obtain ⟨ρ1, _, e2⟩ := obE (show (sto i ρ (.val d)).bind (fun ρ => stoL is ds ρ) = some ρ' from e)
        rw [List.length_cons, List.length_cons, ih e2]
  exact ⟨x, vs, rfl, by rw [hK]; exact SqT.sub S.sub hx, by rw [← rr.len]; exact hl el, ρ, Z, ds, ρ', S, rr, el, q⟩
end
end Pi
/-! statements -/
namespace Pi
open PySem PySem.Spec PyProof.Rows L2

/-- what is handed back -/
def RtOk (L : Lk) (B : Ba) (ro : Bool) (d : D) (v : V) (ρ : En) (σ : Sg) (Z H : Hp) : Prop :=
  (ro = true → d.root = true → ∃ a, v = .ref a ∧ Root L Z H d a ∧ Z a = none ∧ ¬ us ρ σ a ∧ B.H0 a = none) ∧ ((ro = false ∨ d.root = false) → Rep L Z d v)
/-- what stands behind a statement -/
def EndOk (L : Lk) (B : Ba) (ro : Bool) (Z : Hp) (E : Ends) : Fl → Prop
  | .nx ρ' => ∀ σ' Z' H', SI L B ρ' σ' Z' H' → Sub Z Z' → E.nx σ' H'
  | .rt d ρ' => ∀ v σ' Z' H', SI L B ρ' σ' Z' H' → Sub Z Z' → RtOk L B ro d v ρ' σ' Z' H' → E.rt v H'
def tX (L : Lk) (B : Ba) (G : Gs) (ro : Bool) (s : Sm) : TS := fun E σ H => ∃ ρ Z fl, SI L B ρ σ Z H ∧ Pi.exec G ro s ρ = some fl ∧ EndOk L B ro Z E fl
def tXs (L : Lk) (B : Ba) (G : Gs) (ro : Bool) (s : Sms) : TS := fun E σ H => ∃ ρ Z fl, SI L B ρ σ Z H ∧ Pi.execs G ro s ρ = some fl ∧ EndOk L B ro Z E fl
theorem ps_imp {X : Cx} {st : Stmt} {t t' : TS} (h : PS X st t) (i : ∀ E σ H, σ.length = X.N.length → t' E σ H → t E σ H) : PS X st t' := ⟨fun pins s σ H E I hw => h.run pins s σ H E I (i E σ H I.len hw)⟩
theorem pss_imp {X : Cx} {st : List Stmt} {t t' : TS} (h : PSs X st t) (i : ∀ E σ H, σ.length = X.N.length → t' E σ H → t E σ H) : PSs X st t' := ⟨fun pins s σ H E I hw => h.run pins s σ H E I (i E σ H I.len hw)⟩
theorem EndOk.sub {L : Lk} {B : Ba} {ro : Bool} {Z Z1 : Hp} {E : Ends} {fl : Fl} (h : EndOk L B ro Z E fl) (s : Sub Z Z1) : EndOk L B ro Z1 E fl := by
  cases fl with
  | nx ρ' => exact fun σ' Z' H' S q => h σ' Z' H' S (s.trans q)
  | rt d ρ' => exact fun v σ' Z' H' S q r => h v σ' Z' H' S (s.trans q) r

section
variable {L : Lk} {B : Ba} {G : Gs} {X : Cx} {ro : Bool} {a b c : Expr} {a' b' c' : Ex} {es : List Expr} {es' : Exs} {pos p pos' : Pos} {σ : Sg} {H Z : Hp} {ρ ρ1 ρ2 : En} {r1 r2 : Rv} {st : Stmt} {sts : List Stmt} {s' : Sm} {ss' tt' : Sms}
theorem ss_nil : PSs X [] (tXs L B G ro .nil) :=
  pss_imp pss_nil fun E σ H hl ⟨ρ, Z, fl, S, e, q⟩ => by
    simp only [Pi.execs] at e
    cases e
    exact q σ Z H S Sub.rfl'
theorem ss_cons (h1 : PS X st (tX L B G ro s')) (h2 : PSs X sts (tXs L B G ro ss')) : PSs X (st :: sts) (tXs L B G ro (.cons s' ss')) :=
  pss_imp (pss_cons h1 h2) fun E σ H hl ⟨ρ, Z, fl, S, e, q⟩ => by
    simp only [Pi.execs] at e
    obtain ⟨f1, e1, e⟩ := obE e
    refine ⟨ρ, Z, f1, S, e1, ?_⟩
    cases f1 with
    | nx ρ1 => exact fun σ1 Z1 H1 S1 k1 => ⟨ρ1, Z1, fl, S1, e, q.sub k1⟩
    | rt d ρ1 =>
      cases e
      exact q
/-- a statement left out -/
theorem ss_skip (h1 : PS X st tNext) (h2 : PSs X sts (tXs L B G ro ss')) : PSs X (st :: sts) (tXs L B G ro ss') :=
  pss_imp (pss_cons h1 h2) fun E σ H hl h => h
theorem s_never : PS X st (tX L B G ro .stuck) :=
  ps_imp ps_never fun E σ H hl ⟨ρ, Z, fl, S, e, q⟩ => by
    simp only [Pi.exec] at e
    cases e
theorem s_ass {i : Nat} {x : Str} (hN : X.N.Nodup) (hi : X.N[i]? = some x) (hx : Loc X.env.scope x) (he : PE X a (tE L B G a')) (hs : swapsWith a (some (.Name x pos')) pos.line X.env = pure false) (hf : X.fn x = true ∨ X.env.scope.names.lookup x = some .local) :
    PS X (.Assign [.Name x pos'] a pos) (tX L B G ro (.ass i a')) :=
  ps_imp (ps_set hN hi hx he hs hf) fun E σ H hl ⟨ρ, Z, fl, S, e, q⟩ => by
    simp only [Pi.exec] at e
    obtain ⟨⟨r1, ρ1⟩, e1, e⟩ := obE e
    obtain ⟨ρ2, e2, e⟩ := omE e
    cases e
    refine ⟨ρ, Z, r1, ρ1, S, e1, fun v Z1 H1 S1 g1 k1 => ?_⟩
    have hil : i < σ.length := by rw [hl]; exact (List.getElem?_eq_some_iff.mp hi).1
    obtain ⟨Z2, S2, sz⟩ := sto_ok S1 S.b8 hil k1 e2
    exact q _ Z2 H1 S2 (g1.zsub.trans sz)
theorem s_assT {tg : Expr} {is : List Nat} {d : D} (hg : PG X tg (tG L B (.many is))) (he : PE X a (tE L B G a')) (hs : swapsWithSole [tg] a pos.line X.env = pure false) (hw : swappedStores [tg] a X.env = pure none)
    (h1 : (assignEach [tg] X.env).map (·.2) = [assign tg X.env]) : PS X (.Assign [tg] a pos) (tX L B G ro (.assT is a')) :=
  ps_imp (ps_asg he hg hs hw h1) fun E σ H hl ⟨ρ, Z, fl, S, e, q⟩ => by
    simp only [Pi.exec] at e
    obtain ⟨⟨r1, ρ1⟩, e1, e⟩ := obE e
    obtain ⟨⟨d, ρ2⟩, e2, e⟩ := obE e
    refine frz S e1 e2 fun v Z1 H1 S1 g1 rp => ?_
    cases d <;> first | cases e; done | skip
    rename_i ds
    obtain ⟨ρ3, e3, e⟩ := omE (show (stoL is ds ρ2).map Fl.nx = some fl from e)
    cases e
    exact ⟨ρ2, Z1, .tup ds, ρ3, S1, rp, e3, fun σ' S' _ _ _ _ => q σ' Z1 H1 S' g1.zsub⟩
theorem s_ex (he : PE X a (tE L B G a')) (hs : swapsWith a none pos.line X.env = pure false) : PS X (.Expr a pos) (tX L B G ro (.ex a')) :=
  ps_imp (ps_expr he hs) fun E σ H hl ⟨ρ, Z, fl, S, e, q⟩ => by
    simp only [Pi.exec] at e
    obtain ⟨⟨r1, ρ1⟩, e1, e⟩ := omE e
    cases e
    exact ⟨ρ, Z, r1, ρ1, S, e1, fun v Z1 H1 S1 g1 k1 => q σ Z1 H1 S1 g1.zsub⟩
theorem s_retN : PS X (.Return none pos) (tX L B G ro .retN) :=
  ps_imp ps_retN fun E σ H hl ⟨ρ, Z, fl, S, e, q⟩ => by
    simp only [Pi.exec] at e
    cases e
    exact q .non σ Z H S Sub.rfl' ⟨fun _ h => (nomatch h), fun _ => rep_non⟩
theorem us_set_none {i : Nat} {x : Addr} (h : us (ρ.set i none) σ x) : us ρ σ x := by
  obtain ⟨j, s, q, o, y⟩ := h
  rw [En.sl_set] at q
  split at q
  · cases q
  · exact ⟨j, s, q, o, y⟩
theorem s_ret (he : PE X a (tE L B G a')) : PS X (.Return (some a) pos) (tX L B G ro (.ret a')) :=
  ps_imp (ps_ret he) fun E σ H hl ⟨ρ, Z, fl, S, e, q⟩ => by
    simp only [Pi.exec] at e
    obtain ⟨⟨r1, ρ1⟩, e1, e⟩ := obE e
    refine ⟨ρ, Z, r1, ρ1, S, e1, fun v Z1 H1 S1 g1 k1 => ?_⟩
    unfold retR at e
    split at e
    case isFalse hro =>
      obtain ⟨⟨d, ρ2⟩, e2, e⟩ := omE e
      cases e
      obtain ⟨Z2, S2, rp, sz, w, l, u⟩ := toF_ok S1 S.b8 k1 e2
      exact q v σ Z2 H1 S2 (g1.zsub.trans sz) ⟨fun h => absurd h hro, fun _ => rp⟩
    case isTrue hro =>
      cases r1 with
      | new d =>
        cases e
        obtain ⟨x, rfl, z, r, n, f⟩ := k1
        refine q _ σ Z1 H1 S1 g1.zsub ⟨fun _ _ => ⟨x, rfl, r, z, n, ?_⟩, fun h => ?_⟩
        · cases e0 : B.H0 x with
          | none => rfl
          | some y => exact absurd f (S.b8 x (by rw [e0]; exact fun z => nomatch z))
        · rcases h with h | h
          · rw [hro] at h; cases h
          · rw [r.isRoot] at h; cases h
      | val d =>
        have e' : (if d.root = true then none else some (Fl.rt d ρ1)) = some fl := e
        split at e'
        case isTrue => cases e'
        case isFalse hr =>
          cases e'
          exact q v σ Z1 H1 S1 g1.zsub ⟨fun _ h => absurd h hr, fun _ => k1⟩
      | slot i =>
        have R' : σ[i]? = some (some v) := k1
        simp only at e
        split at e
        · rename_i d hsl
          cases e
          obtain ⟨w, hw, rb⟩ := S1.rep i _ hsl
          rw [R'] at hw
          cases hw
          have S2 := S1.forget (i := i)
          rcases rb with ⟨rt, x, rfl, r⟩ | ⟨rt, r⟩
          · refine q _ σ Z1 H1 S2 g1.zsub ⟨fun _ _ => ⟨x, rfl, r, S1.nz x ⟨i, _, hsl, rt, R'⟩, fun ⟨j, s, qj, uj, xj⟩ => ?_, S1.b4 i d x hsl rt R'⟩, fun h => ?_⟩
            · rw [En.sl_set] at qj
              split at qj
              · cases qj
              · rename_i hn
                have := S1.one i j x _ s hsl rt R' qj uj xj
                exact hn ⟨this.symm, En.sl_lt hsl⟩
            · rcases h with h | h
              · rw [hro] at h; cases h
              · have rt' : d.root = true := rt
                rw [rt'] at h; cases h
          · have rt' : d.root = false := rt
            refine q _ σ Z1 H1 S2 g1.zsub ⟨fun _ h => (by rw [rt'] at h; cases h), fun _ => r⟩
        · cases e
theorem s_if {bt be : List Stmt} (hc : PT X c (tT L B G c')) (h1 : PSs X bt (tXs L B G ro ss')) (h2 : PSs X be (tXs L B G ro tt')) : PS X (.If c bt be pos) (tX L B G ro (.ifS c' ss' tt')) :=
  ps_imp (ps_if hc h1 h2) fun E σ H hl ⟨ρ, Z, fl, S, e, q⟩ => by
    simp only [Pi.exec] at e
    obtain ⟨⟨r1, ρ1⟩, e1, e⟩ := obE e
    cases h : asB r1 with
    | none => rw [h] at e; cases e
    | some k =>
      rw [h] at e
      refine ⟨ρ, Z, r1, ρ1, k, S, e1, h, fun Z1 H1 S1 g1 => ?_⟩
      cases k with
      | true => exact ⟨ρ1, Z1, fl, S1, e, q.sub g1.zsub⟩
      | false => exact ⟨ρ1, Z1, fl, S1, e, q.sub g1.zsub⟩
theorem s_for {tg it : Expr} {t : Tg} {it' : Wk} {body : List Stmt} {fg : List Nat} (hp : PassesOwn (model X.prog X.w) X.A X.env X.xe) (hc : X.calm = true) (hi : PI X tg it (tI L B G it')) (hg : PG X tg (tG L B t)) (hb : PSs X body (tXs L B G ro ss'))
    (hs : ∀ x, foldedSetIterable it X.env x = pure x) : PS X (.For tg it body [] pos) (tX L B G ro (.forS t it' ss' fg)) :=
  ps_imp (ps_for hp hc hi hg hb hs) fun E σ H hl ⟨ρ, Z, fl, S, e, q⟩ => by
    simp only [Pi.exec] at e
    obtain ⟨⟨xs, ρ1⟩, e1, e⟩ := obE e
    refine ⟨ρ, Z, xs, ρ1, S, e1, fun J Z1 H1 S1 g1 w1 => ?_⟩
    refine ⟨fun i m σ' H' => ∃ ρi Zi, SI L B ρi σ' Zi H' ∧ Sub Z1 Zi ∧ forL t fg (fun ρ => Pi.execs G ro ss' ρ) (xs.drop i) ρi = some fl ∧ m = xs.length - i ∧ i ≤ xs.length, ⟨xs.length, ρ1, Z1, S1, Sub.rfl', by simpa using e, by simp, Nat.zero_le _⟩, ?_⟩
    rintro i m σ' H' ⟨ρi, Zi, Si, zi, ei, rfl, hi⟩
    have q' := q.sub (g1.zsub.trans zi)
    by_cases hlt : i < xs.length
    · refine .inr ⟨w1.go i Zi H' (Si.later zi) hlt, fun σ' H' => ∃ ρ' Z', SI L B ρ' σ' Z' H' ∧ Sub Z1 Z' ∧ forL t fg (fun ρ => Pi.execs G ro ss' ρ) (xs.drop (i + 1)) ρ' = some fl, fun σ2 H2 ⟨ρ2, Z2, S2, z2, e2⟩ => ⟨xs.length - (i + 1), by omega, ρ2, Z2, S2, z2, e2, rfl, hlt⟩, fun x H2 hy => ?_⟩
      obtain ⟨Z2, S2, g2, k2⟩ := (w1.yld i Zi H' x H2 (Si.later zi) hy xs[i] (List.getElem?_eq_getElem hlt)).ok Si
      rw [List.drop_eq_getElem_cons hlt] at ei
      obtain ⟨ρt, et, ei⟩ := obE (show (tgt t xs[i] (Pi.wipe ρi fg)).bind _ = some fl from ei)
      obtain ⟨f2, ef, ei⟩ := obE ei
      refine ⟨Pi.wipe ρi fg, Z2, xs[i], ρt, S2.wipe fg, k2, et, fun σ3 S3 _ _ _ _ => ⟨ρt, Z2, f2, S3, ef, ?_⟩⟩
      cases f2 with
      | nx ρ3 => exact fun σ4 Z4 H4 S4 z4 => ⟨ρ3, Z4, S4, zi.trans (g2.zsub.trans z4), ei⟩
      | rt d ρ3 =>
        cases ei
        exact fun v σ4 Z4 H4 S4 z4 r4 => q' v σ4 Z4 H4 S4 (g2.zsub.trans z4) r4
    · have hge : xs.length ≤ i := Nat.le_of_not_lt hlt
      rw [List.drop_eq_nil_of_le hge] at ei
      cases ei
      exact .inl ⟨w1.stop i Zi H' (Si.later zi) hge, q' σ' Zi H' (Si.wipe fg) Sub.rfl'⟩
theorem s_while {body : List Stmt} {fg : List Nat} (hp : PassesOwn (model X.prog X.w) X.A X.env X.xe) (hc : PT X c (tT L B G c')) (hb : PSs X body (tXs L B G ro ss')) : PS X (.While c body [] pos) (tX L B G ro (.whileS c' ss' fg)) :=
  ps_imp (ps_while hp hc hb) fun E σ H hl ⟨ρ, Z, fl, S, e, q⟩ => by
    simp only [Pi.exec] at e
    unfold whileE at e
    split at e
    case isFalse => cases e
    case isTrue hx =>
      refine ⟨fun m σ' H' => ∃ ρi Zi, SI L B ρi σ' Zi H' ∧ Sub Z Zi ∧ whileN fg (fun ρ => (ev G c' ρ).bind fun p => (asB p.1).map fun b => (b, p.2)) (fun ρ => Pi.execs G ro ss' ρ) m ρi = some fl, ⟨hx.choose, ρ, Z, S, Sub.rfl', e⟩, ?_⟩
      rintro m σ' H' ⟨ρi, Zi, Si, zi, ei⟩
      have q' := q.sub zi
      cases m with
      | zero => cases ei
      | succ n =>
        obtain ⟨⟨k, ρ1⟩, e1, ei⟩ := obE (show ((ev G c' (Pi.wipe ρi fg)).bind fun p => (asB p.1).map fun b => (b, p.2)).bind _ = some fl from ei)
        obtain ⟨⟨r1, ρ2⟩, e2, e1⟩ := obE e1
        obtain ⟨k', ek, e1⟩ := omE e1
        cases e1
        refine ⟨Pi.wipe ρi fg, Zi, r1, ρ2, k, Si.wipe fg, e2, ek, fun Z1 H1 S1 g1 => ?_⟩
        cases k with
        | false =>
          cases ei
          exact q' σ' Z1 H1 S1 g1.zsub
        | true =>
          obtain ⟨f2, ef, ei⟩ := obE ei
          refine ⟨fun σ' H' => ∃ ρ' Z', SI L B ρ' σ' Z' H' ∧ Sub Z Z' ∧ whileN fg (fun ρ => (ev G c' ρ).bind fun p => (asB p.1).map fun b => (b, p.2)) (fun ρ => Pi.execs G ro ss' ρ) n ρ' = some fl, fun σ2 H2 ⟨ρ5, Z2, S2, z2, e3⟩ => ⟨n, Nat.lt_succ_self _, ρ5, Z2, S2, z2, e3⟩, ρ2, Z1, f2, S1, ef, ?_⟩
          cases f2 with
          | nx ρ3 => exact fun σ4 Z4 H4 S4 z4 => ⟨ρ3, Z4, S4, zi.trans (g1.zsub.trans z4), ei⟩
          | rt d ρ3 =>
            cases ei
            exact fun v σ4 Z4 H4 S4 z4 r4 => q' v σ4 Z4 H4 S4 (g1.zsub.trans z4) r4
end
end Pi
/-! stores into lists, dicts, objects -/
namespace Pi
open PySem PySem.Spec PyProof.Rows L2

/-- a store: the thing at a is turned into d' -/
def rSet (L : Lk) : TSet := fun o i v H Q => ∃ Z a d e w d', o = .ref a ∧ Sub Z H ∧ Root L Z H d a ∧ RB L Z H e i ∧ Rep L Z w v ∧ setItem d e w = some d' ∧
  ∀ H', (∀ b x, b ≠ a → H b = some x → H' b = some x) → Root L Z H' d' a → Q H'
section
variable {L : Lk} {B : Ba} {G : Gs} {X : Cx} {ro : Bool} {a b c : Expr} {a' b' c' : Ex} {es : List Expr} {es' : Exs} {pos p pos' : Pos} {σ : Sg} {H Z : Hp} {ρ ρ1 ρ2 : En} {r1 r2 : Rv} {st : Stmt} {sts : List Stmt} {s' : Sm} {ss' tt' : Sms}
theorem set_any (hu : X.A.units + 1 < cLine) : PSet X (rSet L) := by
  intro pins s σ H o i v ov iv u Q I ro ri rv h
  obtain ⟨Z, x, d, e, w, d', rfl, sub, rt, hi, hw, es, q⟩ := h
  have up : ∀ y b z, b ≠ x → H b = some z → upd H x y b = some z := fun y b z n q => by rw [upd_ne n]; exact q
  cases d with
  | lst xs =>
    obtain ⟨vs, hx, rr⟩ := rt
    cases e <;> first | cases es; done | skip
    rename_i k
    have es' : (if -(2 ^ 63) ≤ k ∧ k < 2 ^ 63 then (Pi.ixN xs.length k).map fun j => D.lst (xs.set j w) else none) = some d' := es
    split at es'
    case isFalse => cases es'
    case isTrue hk =>
      obtain ⟨j, hj, es'⟩ := omE es'
      subst es'
      refine set_list pins s σ H _ i v ov iv u Q I ro ri rv ⟨x, vs, k, j, rfl, hi.intE, hx, by rw [← rr.len]; exact hj, ?_⟩
      exact q _ (up _) ⟨_, upd_same, rr.set j hw⟩
  | dic kvs =>
    obtain ⟨kV', hx, rr⟩ := rt
    have es' : (if keyOk e = true ∧ kvs.length < SL then some (D.dic (dput kvs e w)) else none) = some d' := by
      cases e <;> exact es
    split at es'
    case isFalse => cases es'
    case isTrue hk =>
      cases es'
      obtain ⟨k, ek⟩ := key_of hk.1
      obtain ⟨z, hd, vs, rel, dd⟩ := dk_of I.hok hx
      have nd : (kV'.map (·.1)).Nodup := by
        rw [rel.keys]
        obtain ⟨_, _, _, _, _, _, _, _, nd⟩ := dd
        exact nd
      refine set_dict hu pins s σ H _ i v ov iv u Q I ro ri rv ⟨x, _, rfl, ?_, q _ (up _) ⟨_, upd_same, rr.put ek hw nd⟩⟩
      rw [key_rep hi ek]
      exact DPut.k hx (by rw [← rr.len, ← SL_line]; exact hk.2)
  | _ => cases e <;> cases es
theorem putSl_ok {i : Nat} {f : D → Option D} {ρ' : En} (S : SI L B ρ σ Z H) (e : putSl ρ i f = some ρ') (hf : ∀ d d', f d = some d' → d.root = true) :
    ∃ sl a d', ρ.sl i = some sl ∧ sl.isOw = true ∧ σ[i]? = some (some (.ref a)) ∧ Root L Z H sl.d a ∧ f sl.d = some d' ∧ ρ' = ρ.set i (some (sl.setD d')) := by
  have main : ∀ sl d', ρ.sl i = some sl → sl.isOw = true → f sl.d = some d' → ρ' = ρ.set i (some (sl.setD d')) → ∃ sl a d', ρ.sl i = some sl ∧ sl.isOw = true ∧ σ[i]? = some (some (.ref a)) ∧ Root L Z H sl.d a ∧ f sl.d = some d' ∧ ρ' = ρ.set i (some (sl.setD d')) := fun sl d' h1 h2 h3 h4 => by
    obtain ⟨x, hv, rt⟩ := S.own_at h1 h2
    exact ⟨sl, x, d', h1, h2, hv, rt, h3, h4⟩
  unfold putSl at e
  generalize h : ρ.sl i = s at e
  cases s with
  | none => cases e
  | some sl =>
    cases sl with
    | own d =>
      obtain ⟨d', e1, e2⟩ := omE e
      have := main _ d' h (hf d d' e1) e1 e2.symm
      rwa [h] at this
    | ino d =>
      obtain ⟨d', e1, e2⟩ := omE e
      have := main _ d' h (hf d d' e1) e1 e2.symm
      rwa [h] at this
    | _ => cases e
theorem setItem_root {d k v d' : D} (h : Pi.setItem d k v = some d') : d.root = true := by
  cases d <;> first | rfl | (cases k <;> cases h)
theorem setF_root {ok : Nat → Bool} {f : Nat} {v d d' : D} (h : Pi.setF ok f v d = some d') : d.root = true := by
  cases d <;> first | rfl | cases h
theorem s_setI {i : Nat} {x : Str} {p2 : Pos} (hu : X.A.units + 1 < cLine) (ho : PE X (.Name x p) (tVar i)) (he : PE X a (tE L B G a')) (hk : PE X b (tE L B G b'))
    (hs : swapsWithSole [.Subscript (.Name x p) b p2] a pos.line X.env = pure false) (hw : swappedStores [.Subscript (.Name x p) b p2] a X.env = pure none) (h1 : (assignEach [.Subscript (.Name x p) b p2] X.env).map (·.2) = [assign (.Subscript (.Name x p) b p2) X.env])
    (ha : ∀ v, assign (.Subscript (.Name x p) b p2) X.env v = (do
      let ov ← holding [v] (eval (.Name x p) X.env)
      let iv ← holding [v, ov] (eval b X.env)
      standAt p2
      holding [v, ov, iv] (PySem.setItem ov iv v)
      release [v, ov, iv] [])) : PS X (.Assign [.Subscript (.Name x p) b p2] a pos) (tX L B G ro (.setI i b' a')) :=
  ps_imp (ps_asg he (pg_sub ho hk (set_any (L := L) hu) ha) hs hw h1) fun E σ H hl ⟨ρ, Z, fl, S, e, q⟩ => by
    simp only [Pi.exec] at e
    obtain ⟨⟨r1, ρ1⟩, e1, e⟩ := obE e
    obtain ⟨⟨d, ρ2⟩, e2, e⟩ := obE e
    split at e
    case isFalse => cases e
    case isTrue hsm =>
      obtain ⟨⟨r3, ρ3⟩, e3, e⟩ := obE e
      obtain ⟨⟨k, ρ4⟩, e4, e⟩ := obE e
      obtain ⟨ρ5, e5, e⟩ := omE e
      cases e
      refine frz S e1 e2 fun v Z1 H1 S1 g1 rp => ?_
      obtain ⟨sl0, hsl0⟩ := Option.isSome_iff_exists.mp hsm
      obtain ⟨w, hw0, _⟩ := S1.rep i sl0 hsl0
      refine ⟨w, hw0, frz S1 e3 e4 fun u Z2 H2 S2 g2 rk => ?_⟩
      obtain ⟨sl, y, d', h1, h2, h3, h4, h5, h6⟩ := putSl_ok S2 e5 fun d d' h => setItem_root h
      rw [hw0] at h3
      cases h3
      subst h6
      exact ⟨Z2, y, sl.d, k, d, d', rfl, S2.sub, h4, rk.rb S2.sub, Rep.sub g2.zsub _ _ rp, h5, fun H' kp rt => q σ Z2 H' (S2.write h1 h2 hw0 kp rt) (g1.zsub.trans g2.zsub)⟩
theorem s_setF {i : Nat} {x f : Str} {j : Nat} {p2 : Pos} (hK : X.K = L.K) (inj : ∀ i j x, L.fld i = some x → L.fld j = some x → i = j) (cls : ∀ c, G.ok c = true → Cls L.K (L.cls c)) (noat : ∀ c i x, G.ok c = true → L.fld i = some x → NoAttr L.K (L.cls c) x)
    (ef : L.fld j = some f) (ho : PE X (.Name x p) (tVar i)) (he : PE X a (tE L B G a')) (hs : swapsWith a (some (.Attribute (.Name x p) f p2)) pos.line X.env = pure false) :
    PS X (.Assign [.Attribute (.Name x p) f p2] a pos) (tX L B G ro (.setF i j a')) :=
  ps_imp (ps_fld ho he hs) fun E σ H hl ⟨ρ, Z, fl, S, e, q⟩ => by
    simp only [Pi.exec] at e
    obtain ⟨⟨r1, ρ1⟩, e1, e⟩ := obE e
    obtain ⟨⟨d, ρ2⟩, e2, e⟩ := obE e
    obtain ⟨ρ5, e5, e⟩ := omE e
    cases e
    refine frz S e1 e2 fun v Z1 H1 S1 g1 rp => ?_
    obtain ⟨sl, y, d', h1, h2, h3, h4, h5, h6⟩ := putSl_ok S1 e5 fun d d' h => setF_root h
    subst h6
    generalize hd : sl.d = sd at h4 h5
    cases sd with
    | ob c fs =>
      have h5' : (if G.ok c = true ∧ fs.length < 100 then some (D.ob c (fput fs j d)) else none) = some d' := h5
      split at h5'
      case isFalse => cases h5'
      case isTrue hc =>
        cases h5'
        obtain ⟨dx, fV, hy, rr⟩ := h4
        refine ⟨.ref y, h3, y, L.cls c, dx, fV, rfl, hy, by rw [hK]; exact cls c hc.1, by rw [hK]; exact noat c j f hc.1 ef, by rw [← rr.len]; omega, ?_⟩
        exact q σ Z1 _ (S1.write h1 h2 h3 (fun b z n q => by rw [upd_ne n]; exact q) (show Root L Z1 (upd H1 y (.ins (L.cls c) dx (putF f v fV))) (.ob c (fput fs j d)) y from ⟨dx, _, upd_same, RepO.put (inj := inj) ef rp rr⟩)) g1.zsub
    | _ => cases h5
end
end Pi
/-! comprehensions -/
namespace Pi
open PySem PySem.Spec PyProof.Rows L2
section
variable {L : Lk} {B : Ba} {G : Gs} {X : Cx} {ro : Bool} {a b c : Expr} {a' b' c' : Ex} {es : List Expr} {es' : Exs} {pos p pos' : Pos} {σ σ' σ3 : Sg} {H Z H1 Z1 H2 Z2 H3 Z3 : Hp} {ρ ρ1 ρ2 ρt : En} {r1 r2 : Rv} {fg : List Nat}
/-- another frame that agrees on what is known -/
theorem SI.reset (S : SI L B ρ σ Z H) (hl : σ'.length = σ.length) (h : ∀ i s, ρ.sl i = some s → σ'[i]? = σ[i]?) : SI L B ρ σ' Z H where
  len := by rw [hl]; exact S.len
  sub := S.sub
  rep := fun i sl e => by rw [h i sl e]; exact S.rep i sl e
  fz := fun i d v e q => by rw [h i _ e] at q; exact S.fz i d v e q
  nz := fun a ⟨i, sl, e, o, q⟩ => by rw [h i sl e] at q; exact S.nz a ⟨i, sl, e, o, q⟩
  one := fun i j a s t e1 o1 q1 e2 o2 q2 => by rw [h i s e1] at q1; rw [h j t e2] at q2; exact S.one i j a s t e1 o1 q1 e2 o2 q2
  b1 := S.b1
  b2 := S.b2
  b3 := S.b3
  b4 := fun i d a e r q => by rw [h i _ e] at q; exact S.b4 i d a e r q
  b5 := fun i d e => by rw [h i _ e]; exact S.b5 i d e
  b6 := fun i d a e r q => by rw [h i _ e] at q; exact S.b6 i d a e r q
  b7 := S.b7
  b8 := S.b8
  b9 := fun i d a e r q => by rw [h i _ e] at q; exact S.b9 i d a e r q
theorem ow_reset (h : ∀ i s, ρ.sl i = some s → σ'[i]? = σ[i]?) {x : Addr} (o : ow ρ σ' x) : ow ρ σ x := by
  obtain ⟨i, s, e, u, q⟩ := o
  rw [h i s e] at q
  exact ⟨i, s, e, u, q⟩
theorem us_reset (h : ∀ i s, ρ.sl i = some s → σ'[i]? = σ[i]?) {x : Addr} (o : us ρ σ' x) : us ρ σ x := by
  obtain ⟨i, s, e, u, q⟩ := o
  rw [h i s e] at q
  exact ⟨i, s, e, u, q⟩
theorem wipe_sl : ∀ {fg : List Nat} {i : Nat} {s : Sl}, En.sl (Pi.wipe ρ fg) i = some s → ρ.sl i = some s ∧ i ∉ fg
  | [], i, s, h => ⟨h, by simp⟩
  | k :: fg, i, s, h => by
    have h' : En.sl ((Pi.wipe ρ fg).set k none) i = some s := h
    rw [En.sl_set] at h'
    split at h'
    · cases h'
    · rename_i hn
      obtain ⟨h1, h2⟩ := wipe_sl h'
      refine ⟨h1, fun q => ?_⟩
      rcases List.mem_cons.mp q with rfl | q
      · exact hn ⟨rfl, En.sl_lt h'⟩
      · exact h2 q
theorem ow_wipe {x : Addr} (h : ow (Pi.wipe ρ fg) σ x) : ow ρ σ x := by
  obtain ⟨i, s, e, o, q⟩ := h
  exact ⟨i, s, (wipe_sl e).1, o, q⟩
theorem us_wipe {x : Addr} (h : us (Pi.wipe ρ fg) σ x) : us ρ σ x := by
  obtain ⟨i, s, e, o, q⟩ := h
  exact ⟨i, s, (wipe_sl e).1, o, q⟩
theorem w_at : ∀ {fg : List Nat} {i : Nat}, i ∉ fg → (L2.wipe σ fg)[i]? = σ[i]?
  | [], i, _ => rfl
  | k :: fg, i, h => by
    simp only [List.mem_cons, not_or] at h
    show ((L2.wipe σ fg).set k none)[i]? = _
    rw [List.getElem?_set_ne (Ne.symm h.1)]
    exact w_at h.2
/-- two frames whose wiped parts are alike agree off the wiped slots -/
theorem w_agree (h : L2.wipe σ' fg = L2.wipe σ fg) : ∀ i s, En.sl (Pi.wipe ρ fg) i = some s → σ'[i]? = σ[i]? := fun i s e => by
  have n := (wipe_sl e).2
  rw [← w_at n, h, w_at n]
theorem w_none : ∀ {fg : List Nat} {k : Nat}, k ∈ fg → k < σ.length → (L2.wipe σ fg)[k]? = some none
  | j :: fg, k, h, hl => by
    show ((L2.wipe σ fg).set j none)[k]? = some none
    by_cases e : j = k
    · subst e
      rw [List.getElem?_set_self (by rw [L2.wipe_length]; exact hl)]
    · rw [List.getElem?_set_ne e]
      rcases List.mem_cons.mp h with rfl | h
      · exact absurd rfl e
      · exact w_none h hl
theorem w_idem : L2.wipe (L2.wipe σ fg) fg = L2.wipe σ fg := by
  apply List.ext_getElem?
  intro k
  by_cases h : k ∈ fg
  · by_cases hl : k < σ.length
    · rw [w_none h (by rw [L2.wipe_length]; exact hl), w_none h hl]
    · rw [List.getElem?_eq_none (by rw [L2.wipe_length, L2.wipe_length]; omega), List.getElem?_eq_none (by rw [L2.wipe_length]; omega)]
  · rw [w_at h]
/-- a thing that nobody knows is written -/
theorem SI.touch {x : Addr} {o : HO} (S : SI L B ρ σ Z H) (z : Z x = none) (n : ¬ us ρ σ x) (f : B.H0 x = none) : SI L B ρ σ Z (upd H x o) where
  len := S.len
  sub := fun b y e => by rw [upd_ne (ne_of_none e z)]; exact S.sub b y e
  rep := fun i sl e => by
    obtain ⟨v, hv, r⟩ := S.rep i sl e
    refine ⟨v, hv, ?_⟩
    rcases r with ⟨rt, y, rfl, r⟩ | r
    · have ny : y ≠ x := fun q => by
        subst q
        cases sl with
        | fz d =>
          obtain ⟨w, ew, rw'⟩ := Rep.root (S.fz i d _ e hv) rt
          cases ew
          exact rw'.ne z
        | own d => exact n ⟨i, _, e, rt, hv⟩
        | bor d => exact n ⟨i, _, e, rt, hv⟩
        | ino d => exact n ⟨i, _, e, rt, hv⟩
      exact .inl ⟨rt, y, rfl, Root.mono r Sub.rfl' fun q h => by rw [upd_ne ny]; exact h⟩
    · exact .inr r
  fz := S.fz
  nz := S.nz
  one := S.one
  b1 := fun b y e m => by
    by_cases q : b = x
    · subst q; rw [f] at e; cases e
    · rw [upd_ne q]; exact S.b1 b y e m
  b2 := S.b2
  b3 := S.b3
  b4 := S.b4
  b5 := S.b5
  b6 := S.b6
  b7 := S.b7
  b8 := fun b q => by
    by_cases e : b = x
    · subst e; rw [upd_same]; exact fun z => nomatch z
    · rw [upd_ne e]; exact S.b8 b q
  b9 := S.b9
theorem Gr.touch {x : Addr} {o : HO} (g : Gr ρ ρ1 σ Z H Z1 H1) (h : H x = none) : Gr ρ ρ1 σ Z H Z1 (upd H1 x o) :=
  ⟨fun b y e n => by
    by_cases q : b = x
    · subst q; rw [h] at e; cases e
    · rw [upd_ne q]; exact g.keep b y e n, g.zsub, g.znew, g.less, g.lesu, fun b q => by
    by_cases e : b = x
    · subst e; rw [upd_same]; exact fun z => nomatch z
    · rw [upd_ne e]; exact g.there b q⟩
/-- the tests of a clause -/
def tTs (L : Lk) (B : Ba) (G : Gs) (es : Exs) : TT := fun σ H Q => ∃ ρ Z ρ' b, SI L B ρ σ Z H ∧ evT G es ρ = some (b, ρ') ∧ ∀ Z' H', SI L B ρ' σ Z' H' → Gr ρ ρ' σ Z H Z' H' → Q b H'
theorem pts_imp {ifs : List Expr} {t t' : TT} (h : PTs X ifs t) (i : ∀ σ H Q, t' σ H Q → t σ H Q) : PTs X ifs t' := ⟨fun pins s σ H Q I hw => h.run pins s σ H Q I (i σ H Q hw)⟩
theorem ts_nil : PTs X [] (tTs L B G .nil) := pts_imp pts_nil fun σ H Q ⟨ρ, Z, ρ', b, S, e, q⟩ => by
  simp only [evT] at e
  cases e
  exact q Z H S Gr.refl
theorem ts_one {r : Exs} (h : PT X c (tT L B G c')) : PTs X [c] (tTs L B G (.cons c' r)) := pts_imp (pts_one h) fun σ H Q ⟨ρ, Z, ρ', b, S, e, q⟩ => by
  simp only [evT] at e
  obtain ⟨⟨r1, ρ1⟩, e1, e⟩ := obE e
  obtain ⟨k, ek, e⟩ := omE e
  cases e
  exact ⟨ρ, Z, r1, _, _, S, e1, ek, q⟩
/-- back to the frame around -/
theorem turn_gr {w : En} (g : Gr ρt ρ2 σ3 Z H Z1 H1) (hw : w = Pi.wipe ρ fg) (h3 : L2.wipe σ3 fg = L2.wipe σ fg) (o3 : ∀ x, ow ρt σ3 x → ow w (L2.wipe σ fg) x) (u3 : ∀ x, us ρt σ3 x → us w (L2.wipe σ fg) x) :
    Gr w (Pi.wipe ρ2 fg) σ Z H Z1 H1 := by
  have ag : ∀ i s, En.sl (Pi.wipe ρ fg) i = some s → (L2.wipe σ fg)[i]? = σ[i]? := w_agree w_idem
  have oo : ∀ x, ow ρt σ3 x → ow w σ x := fun x h => by
    subst hw
    exact ow_reset ag (o3 x h)
  have uu : ∀ x, us ρt σ3 x → us w σ x := fun x h => by
    subst hw
    exact us_reset ag (u3 x h)
  have ag3 : ∀ i s, En.sl (Pi.wipe ρ2 fg) i = some s → σ[i]? = σ3[i]? := w_agree h3.symm
  exact ⟨fun b y e n => g.keep b y e fun q => n (oo b q), g.zsub, fun b e q => (g.znew b e q).elim .inl fun h => .inr (oo b h), fun b h => oo b (g.less b (ow_wipe (ow_reset ag3 h))), fun b h => uu b (g.lesu b (us_wipe (us_reset ag3 h))), g.there⟩
theorem Gr.wipe : Gr ρ (Pi.wipe ρ fg) σ Z H Z H := ⟨fun _ _ h _ => h, Sub.rfl', fun _ h q => absurd h q, fun _ h => ow_wipe h, fun _ h => us_wipe h, fun _ h => h⟩
/-- the reading of a comprehension -/
theorem lc_of {elt : Ex} {t : Tg} {it : Wk} {cond : Exs} {Q : VK} {vs : List Nat} (hv : vs = t.names) (h : tE L B G (.comp elt t it cond) σ H Q) :
    tLc (tI L B G it) (tG L B t) (tTs L B G cond) (tE L B G elt) vs σ H Q := by
  subst hv
  obtain ⟨ρ, Z, rv, ρ', S, e, q⟩ := h
  simp only [ev] at e
  obtain ⟨⟨xs, ρ1⟩, e1, e⟩ := obE e
  obtain ⟨⟨accF, ρF⟩, e2, e⟩ := omE e
  cases e
  refine ⟨ρ, Z, xs, ρ1, S, e1, fun J Z1 H1 S1 g1 w1 => ?_⟩
  intro D hD
  generalize hfg : t.names = fg at e2 ⊢
  have f0 : B.H0 D = none := S1.b0 hD
  have zD := S1.z_none hD
  have uD := S1.us_ne hD
  refine ⟨fun i m H' => ∃ ρi Zi acc vs, SI L B (Pi.wipe ρi fg) σ Zi H' ∧ Gr ρ1 (Pi.wipe ρi fg) σ Z1 H1 Zi H' ∧ Zi D = none ∧ H' D = some (.lst vs) ∧ RepL L Zi acc vs ∧
      compL t fg (fun ρ => evT G cond ρ) (fun ρ => (ev G elt ρ).bind fun q => toF q.2 q.1) acc (xs.drop i) ρi = some (accF, ρF) ∧ m = xs.length - i ∧ i ≤ xs.length,
    ⟨xs.length, ρ1, Z1, [], [], (S1.alloc hD).wipe fg, (Gr.alloc hD).trans Gr.wipe, zD, upd_same, .nil, by simpa using e2, by simp, Nat.zero_le _⟩, ?_⟩
  rintro i m Hi ⟨ρi, Zi, acc, vs, Si, gi, zi, hDi, ra, ei, rfl, hi⟩
  by_cases hlt : i < xs.length
  · refine .inr ⟨w1.go i Zi Hi (Si.later gi.zsub) hlt, fun H' => ∃ ρ' Z' acc vs, SI L B (Pi.wipe ρ' fg) σ Z' H' ∧ Gr ρ1 (Pi.wipe ρ' fg) σ Z1 H1 Z' H' ∧ Z' D = none ∧ H' D = some (.lst vs) ∧ RepL L Z' acc vs ∧
      compL t fg (fun ρ => evT G cond ρ) (fun ρ => (ev G elt ρ).bind fun q => toF q.2 q.1) acc (xs.drop (i + 1)) ρ' = some (accF, ρF), fun H' ⟨ρ', Z', acc', vs', a1, a2, a3, a4, a5, a6⟩ => ⟨xs.length - (i + 1), by omega, ρ', Z', acc', vs', a1, a2, a3, a4, a5, a6, rfl, hlt⟩, fun x H2 hy => ?_⟩
    obtain ⟨Z2, S2, g2, k2⟩ := (w1.yld i Zi Hi x H2 (Si.later gi.zsub) hy xs[i] (List.getElem?_eq_getElem hlt)).ok Si
    rw [List.drop_eq_getElem_cons hlt] at ei
    obtain ⟨ρt, et, ei⟩ := obE (show (tgt t xs[i] (Pi.wipe ρi fg)).bind _ = some (accF, ρF) from ei)
    obtain ⟨⟨k, ρ4⟩, ek, ei⟩ := obE ei
    have S2' : SI L B (Pi.wipe ρi fg) (L2.wipe σ fg) Z2 H2 := S2.reset (L2.wipe_length _ _) (w_agree w_idem)
    refine ⟨Pi.wipe ρi fg, Z2, xs[i], ρt, S2', k2, et, fun σ3 S3 w3 l3 o3 u3 => ?_⟩
    rw [hfg] at w3
    have w3' : L2.wipe σ3 fg = L2.wipe σ fg := w3.trans w_idem
    refine ⟨w3', ρt, Z2, ρ4, k, S3, ek, fun Z4 H4 S4 g4 => ?_⟩
    have l3' : σ.length = σ3.length := by rw [l3, L2.wipe_length]
    -- the turn's end
    have fin : ∀ {ρ5 : En} {Z5 H5 : Hp}, SI L B ρ5 σ3 Z5 H5 → Gr ρt ρ5 σ3 Z2 H2 Z5 H5 → SI L B (Pi.wipe ρ5 fg) σ Z5 H5 ∧ Gr ρ1 (Pi.wipe ρ5 fg) σ Z1 H1 Z5 H5 ∧ Z5 D = none ∧ H5 D = some (.lst vs) ∧ RepL L Z5 acc vs ∧ ¬ us (Pi.wipe ρ5 fg) σ D := fun {ρ5 Z5 H5} S5 g5 => by
      have gg : Gr (Pi.wipe ρi fg) (Pi.wipe ρ5 fg) σ Zi Hi Z5 H5 := g2.trans (turn_gr g5 rfl w3' o3 u3)
      have nD : ¬ ow (Pi.wipe ρi fg) σ D := fun q => uD (gi.lesu D q.us)
      refine ⟨(S5.wipe fg).reset l3' (w_agree w3'.symm), gi.trans gg, ?_, gg.keep D _ hDi nD, RepL.sub gg.zsub _ _ ra, fun q => uD (gi.lesu D (gg.lesu D q))⟩
      cases z5 : Z5 D with
      | none => rfl
      | some y =>
        rcases gg.znew D zi (by rw [z5]; exact fun q => nomatch q) with h | h
        · rw [hDi] at h; cases h
        · exact absurd h nD
    cases k with
    | false =>
      obtain ⟨a1, a2, a3, a4, a5, a6⟩ := fin S4 g4
      exact ⟨ρ4, Z4, acc, vs, a1, a2, a3, a4, a5, ei⟩
    | true =>
      obtain ⟨⟨y, ρ5⟩, ey, ei⟩ := obE ei
      obtain ⟨⟨r5, ρ6⟩, e5, e6⟩ := obE ey
      refine frz S4 e5 e6 fun v Z5 H5 S5 g5 rp => ?_
      obtain ⟨a1, a2, a3, a4, a5, a6⟩ := fin S5 (g4.trans g5)
      split at ei
      case isFalse => cases ei
      case isTrue hln =>
        refine ⟨vs, a4, by rw [← ra.len, ← SL_line]; exact hln, ρ5, Z5, acc ++ [y], vs ++ [v], a1.touch a3 a6 f0, a2.touch hD, a3, upd_same, a5.app (.cons rp .nil), ei⟩
  · have hge : xs.length ≤ i := Nat.le_of_not_lt hlt
    rw [List.drop_eq_nil_of_le hge] at ei
    cases ei
    refine .inl ⟨w1.stop i Zi Hi (Si.later gi.zsub) hge, q _ Zi Hi Si (g1.trans gi) ⟨D, rfl, zi, ⟨vs, hDi, ra⟩, fun h => uD (gi.lesu D h), ?_⟩⟩
    cases hH : H D with
    | none => rfl
    | some o => exact absurd hD (g1.there D (by rw [hH]; exact fun z => nomatch z))
theorem c_comp {elt tg iter : Expr} {ifs : List Expr} {scope : Scope} {own : List (Str × Nat)} {t : Tg} {it : Wk} {cond : Exs} (hc : X.calm = true) (hN : X.N.Nodup) (hi : PI X tg iter (tI L B G it)) (ok : BlkOk X.N X.env.scope scope own) (hown : own.map (·.2) = t.names)
    (hg : ∀ (s : Shared) (H : Hp) (C : Addr) (cl : List (Str × Addr)) (fp : List Addr), PG (X.blk s H scope (compEnvC scope cl C X.env) fp) tg (tG L B t))
    (ht : ∀ (s : Shared) (H : Hp) (C : Addr) (cl : List (Str × Addr)) (fp : List Addr), PTs (X.blk s H scope (compEnvC scope cl C X.env) fp) ifs (tTs L B G cond))
    (he : ∀ (s : Shared) (H : Hp) (C : Addr) (cl : List (Str × Addr)) (fp : List Addr), PE (X.blk s H scope (compEnvC scope cl C X.env) fp) elt (tE L B G a'))
    (hs : ∀ x, foldedSetIterable iter X.env x = pure x) : PE X (.ListComp elt [⟨tg, iter, ifs, 0⟩] scope pos) (tE L B G (.comp a' t it cond)) :=
  pe_imp (pe_lc hc hN hi ok hg ht he hs) fun σ H Q h => lc_of hown h
theorem s_assLc {elt tg iter : Expr} {ifs : List Expr} {scope : Scope} {own : List (Str × Nat)} {t : Tg} {it : Wk} {cond : Exs} {i : Nat} {y : Str} {py spos : Pos} (hc : X.calm = true) (hN : X.N.Nodup) (hy : X.N[i]? = some y) (hyl : X.env.scope.names.lookup y = some .local)
    (hsw : swapsWith (.ListComp elt [⟨tg, iter, ifs, 0⟩] scope pos) (some (.Name y py)) spos.line X.env = pure true) (hi : PI X tg iter (tI L B G it)) (ok : BlkOk X.N X.env.scope scope own) (hown : own.map (·.2) = t.names)
    (hg : ∀ (s : Shared) (H : Hp) (C : Addr) (cl : List (Str × Addr)) (fp : List Addr), PG (X.blk s H scope (compEnvC scope cl C X.env) fp) tg (tG L B t))
    (ht : ∀ (s : Shared) (H : Hp) (C : Addr) (cl : List (Str × Addr)) (fp : List Addr), PTs (X.blk s H scope (compEnvC scope cl C X.env) fp) ifs (tTs L B G cond))
    (he : ∀ (s : Shared) (H : Hp) (C : Addr) (cl : List (Str × Addr)) (fp : List Addr), PE (X.blk s H scope (compEnvC scope cl C X.env) fp) elt (tE L B G a'))
    (hs : ∀ x, foldedSetIterable iter X.env x = pure x) : PS X (.Assign [.Name y py] (.ListComp elt [⟨tg, iter, ifs, 0⟩] scope pos) spos) (tX L B G ro (.ass i (.comp a' t it cond))) :=
  ps_imp (ps_setLc hc hN hy hyl hsw hi ok hg ht he hs) fun E σ H hl ⟨ρ, Z, fl, S, e, q⟩ => by
    simp only [Pi.exec] at e
    obtain ⟨⟨r1, ρ1⟩, e1, e⟩ := obE e
    obtain ⟨ρ2, e2, e⟩ := omE e
    cases e
    refine lc_of hown ⟨ρ, Z, r1, ρ1, S, e1, fun v Z1 H1 S1 g1 k1 => ?_⟩
    have hil : i < σ.length := by rw [hl]; exact (List.getElem?_eq_some_iff.mp hy).1
    obtain ⟨Z2, S2, sz⟩ := sto_ok S1 S.b8 hil k1 e2
    exact q _ Z2 H1 S2 (g1.zsub.trans sz)
end
end Pi
/-! calls: arguments, what comes back -/
namespace Pi
open PySem PySem.Spec PyProof.Rows L2

def iVals : List Md → List V → List V
  | .I :: pm, v :: vs => v :: iVals pm vs
  | _ :: pm, _ :: vs => iVals pm vs
  | _, _ => []
def ArgOk (L : Lk) (Z H : Hp) : Md → D → V → Prop
  | .F, d, v => Rep L Z d v
  | .B, d, v => RB L Z H d v
  | .I, d, v => ∃ a, v = .ref a ∧ Root L Z H d a ∧ Z a = none
/-- the arguments as the callee finds them -/
structure Args (L : Lk) (Z H : Hp) (pm : List Md) (ds : List D) (vs : List V) : Prop where
  l1 : ds.length = pm.length
  l2 : vs.length = pm.length
  at_ : ∀ (p : Nat) (m : Md) (d : D) (v : V), pm[p]? = some m → ds[p]? = some d → vs[p]? = some v → ArgOk L Z H m d v
  sep : ∀ (p q : Nat) (m : Md) (a : Addr) (d : D), pm[p]? = some .I → vs[p]? = some (.ref a) → pm[q]? = some m → m ≠ .F → ds[q]? = some d → d.root = true → vs[q]? = some (.ref a) → p = q
def OutsOk (L : Lk) (Z H : Hp) : List V → List D → Prop
  | [], os => os = []
  | v :: vs, os => ∃ d t, os = d :: t ∧ (∃ a, v = .ref a ∧ Root L Z H d a ∧ Z a = none) ∧ OutsOk L Z H vs t
/-- what a callee leaves -/
structure Ret (L : Lk) (ro : Bool) (iv : List V) (Z H : Hp) (d : D) (os : List D) (v : V) (Z' H' : Hp) : Prop where
  sub : Sub Z Z'
  subH : Sub Z' H'
  znew : ∀ a, Z' a ≠ none → Z a ≠ none ∨ H a = none
  keep : ∀ a o, H a = some o → V.ref a ∉ iv → H' a = some o
  there : ∀ a, H a ≠ none → H' a ≠ none
  outs : OutsOk L Z' H' iv os
  new : ro = true → d.root = true → ∃ a, v = .ref a ∧ Root L Z' H' d a ∧ Z' a = none ∧ H a = none
  val : ro = false ∨ d.root = false → Rep L Z' d v
/-- a def's promise -/
def spR (L : Lk) (ro : Bool) (pm : List Md) (call : List D → Option (D × List D)) : Sp := fun vs H Q E => vs.length = pm.length ∧ ∃ Z ds d os, Sub Z H ∧ Args L Z H pm ds vs ∧ call ds = some (d, os) ∧
  ∀ v Z' H', Ret L ro (iVals pm vs) Z H d os v Z' H' → Q v H'

section
variable {L : Lk} {B : Ba} {G : Gs} {X : Cx} {ro : Bool} {a b c : Expr} {a' b' c' : Ex} {es : List Expr} {es' : Exs} {pos p pos' : Pos} {σ σ' σ3 : Sg} {H Z H1 Z1 H2 Z2 H3 Z3 Hs Z0 : Hp} {ρ ρ0 ρ1 ρ2 ρ' : En} {r1 r2 : Rv} {pm : List Md} {rs : List Rv} {vs : List V} {ds os : List D} {is : List (Option Nat)}
theorem RvsOk.at_ : ∀ {rs : List Rv} {vs : List V}, RvsOk L Hs ρ σ Z H rs vs → rs.length = vs.length ∧ ∀ (p : Nat) (r : Rv) (v : V), rs[p]? = some r → vs[p]? = some v → RvOk L Hs ρ σ Z H r v
  | [], vs, h => by
    have h : vs = [] := h
    subst h
    exact ⟨rfl, fun p r v e => by simp at e⟩
  | r :: rs, vs, ⟨v, t, e, h1, h2⟩ => by
    subst e
    obtain ⟨l, at_⟩ := RvsOk.at_ h2
    refine ⟨by simp [l], fun p r' v' e1 e2 => ?_⟩
    cases p with
    | zero => simp at e1 e2; subst e1 e2; exact h1
    | succ p => simp at e1 e2; exact at_ p r' v' e1 e2
theorem toF_fz {r : Rv} {d d' : D} {i : Nat} (e : toF ρ r = some (d', ρ')) (h : ρ.sl i = some (.fz d)) : ρ'.sl i = some (.fz d) := by
  cases r with
  | val _ => cases e; exact h
  | new _ => cases e; exact h
  | slot j =>
    have e' : (match ρ.sl j with | some (.own d) => some (d, ρ.set j (some (.fz d))) | _ => none) = some (d', ρ') := e
    split at e'
    · rename_i d0 hj
      cases e'
      rw [En.sl_ne (fun q => by subst q; rw [h] at hj; cases hj)]
      exact h
    · cases e'
theorem frzA_fz {d : D} {i : Nat} : ∀ {pm : List Md} {rs : List Rv} {ρ ρ' : En}, frzA pm rs ρ = some ρ' → ρ.sl i = some (.fz d) → ρ'.sl i = some (.fz d)
  | [], [], ρ, ρ', e, h => by cases e; exact h
  | [], _ :: _, ρ, ρ', e, h => by cases e
  | .F :: pm, [], ρ, ρ', e, h => by cases e
  | .B :: pm, [], ρ, ρ', e, h => by cases e
  | .I :: pm, [], ρ, ρ', e, h => by cases e
  | .F :: pm, r :: rs, ρ, ρ', e, h => by
    obtain ⟨⟨d1, ρ1⟩, e1, e2⟩ := obE (show (toF ρ r).bind (fun p => frzA pm rs p.2) = some ρ' from e)
    exact frzA_fz e2 (toF_fz e1 h)
  | .B :: pm, r :: rs, ρ, ρ', e, h => frzA_fz (pm := pm) (rs := rs) e h
  | .I :: pm, r :: rs, ρ, ρ', e, h => frzA_fz (pm := pm) (rs := rs) e h
theorem RvOk.frz {r : Rv} {v : V} (h : RvOk L Hs ρ σ Z H r v) (sz : Sub Z Z1) (w : ∀ b, b ∈ newA r v → Z b = none → Z1 b ≠ none → ow ρ σ b) (u : ∀ b, us ρ' σ b → us ρ σ b) : RvOk L Hs ρ' σ Z1 H r v := by
  cases r with
  | val d => exact Rep.sub sz _ _ h
  | new d =>
    obtain ⟨x, rfl, z, r, n, f⟩ := h
    refine ⟨x, rfl, ?_, Root.mono r sz fun o q => q, fun q => n (u x q), f⟩
    cases e : Z1 x with
    | none => rfl
    | some y => exact absurd (w x (by simp [newA]) z (by rw [e]; exact fun q => nomatch q)).us n
  | slot i => exact h
theorem RvsOk.frz (sz : Sub Z Z1) (u : ∀ b, us ρ' σ b → us ρ σ b) : ∀ {rs : List Rv} {vs : List V}, RvsOk L Hs ρ σ Z H rs vs → (∀ b, b ∈ newsOf rs vs → Z b = none → Z1 b ≠ none → ow ρ σ b) → RvsOk L Hs ρ' σ Z1 H rs vs
  | [], vs, h, _ => h
  | r :: rs, vs, ⟨v, t, e, h1, h2⟩, w => by
    subst e
    exact ⟨v, t, rfl, h1.frz sz (fun b hb => w b (List.mem_append_left _ hb)) u, RvsOk.frz sz u h2 fun b hb => w b (List.mem_append_right _ hb)⟩
theorem news_mem {b : Addr} : ∀ {rs : List Rv} {vs : List V}, RvsOk L Hs ρ σ Z H rs vs → b ∈ newsOf rs vs → ∃ r v, r ∈ rs ∧ RvOk L Hs ρ σ Z H r v ∧ b ∈ newA r v
  | [], vs, h, m => by cases vs <;> cases m
  | r0 :: rs, vs, ⟨v0, t0, e, k1, k2⟩, m => by
    subst e
    rcases List.mem_append.mp (show b ∈ newA r0 v0 ++ newsOf rs t0 from m) with m | m
    · exact ⟨r0, v0, List.mem_cons_self, k1, m⟩
    · obtain ⟨r', v', a1, a2⟩ := news_mem k2 m
      exact ⟨r', v', List.mem_cons_of_mem _ a1, a2⟩
/-- what goes for good is frozen -/
theorem frzA_ok (hs : ∀ a, B.H0 a ≠ none → Hs a ≠ none) : ∀ {pm : List Md} {rs : List Rv} {vs : List V} {ρ ρ' : En} {Z : Hp}, SI L B ρ σ Z H → RvsOk L Hs ρ σ Z H rs vs → (newsOf rs vs).Nodup → frzA pm rs ρ = some ρ' →
    ∃ Z', SI L B ρ' σ Z' H ∧ Sub Z Z' ∧ (∀ b, Z b = none → Z' b ≠ none → (Hs b = none ∧ b ∈ newsOf rs vs ∧ ¬ us ρ σ b) ∨ ow ρ σ b) ∧ (∀ b, ow ρ' σ b → ow ρ σ b) ∧ (∀ b, us ρ' σ b → us ρ σ b) ∧
      ∀ (p : Nat) (r : Rv) (v : V), rs[p]? = some r → vs[p]? = some v → (pm[p]? = some .F → ∀ d, rd ρ' r = some d → Rep L Z' d v) ∧ (pm[p]? ≠ some .F → RvOk L Hs ρ' σ Z' H r v)
  | [], [], vs, ρ, ρ', Z, S, R, nd, e => by
    cases e
    exact ⟨Z, S, Sub.rfl', fun b h q => absurd h q, fun _ h => h, fun _ h => h, fun p r v e => by simp at e⟩
  | [], _ :: _, vs, ρ, ρ', Z, S, R, nd, e => by cases e
  | .F :: pm, [], vs, ρ, ρ', Z, S, R, nd, e => by cases e
  | .B :: pm, [], vs, ρ, ρ', Z, S, R, nd, e => by cases e
  | .I :: pm, [], vs, ρ, ρ', Z, S, R, nd, e => by cases e
  | .F :: pm, r :: rs, vs, ρ, ρ', Z, S, ⟨v, t, ev, h1, h2⟩, nd, e => by
    subst ev
    obtain ⟨⟨d1, ρ1⟩, e1, e2⟩ := obE (show (toF ρ r).bind (fun p => frzA pm rs p.2) = some ρ' from e)
    have nd' : (newA r v ++ newsOf rs t).Nodup := nd
    rw [List.nodup_append] at nd'
    obtain ⟨Z1, S1, rp, sz, w, l, u⟩ := toF_ok2 S hs h1 e1
    have R1 : RvsOk L Hs ρ1 σ Z1 H rs t := RvsOk.frz sz u h2 fun b hb z q => by
      rcases w b z q with ⟨_, rfl, _, d', rfl⟩ | h
      · exact absurd rfl (nd'.2.2 b (by simp [newA]) b hb)
      · exact h
    obtain ⟨Z2, S2, sz2, w2, l2, u2, at2⟩ := frzA_ok hs S1 R1 nd'.2.1 e2
    refine ⟨Z2, S2, sz.trans sz2, fun b z q => ?_, fun b h => l b (l2 b h), fun b h => u b (u2 b h), fun p r' v' e3 e4 => ?_⟩
    · cases z1 : Z1 b with
      | none =>
        rcases w2 b z1 q with ⟨h, m, n⟩ | h
        · by_cases hu : us ρ σ b
          · -- b fresh: no slot has it
            obtain ⟨y, h3⟩ : ∃ r v, r ∈ rs ∧ RvOk L Hs ρ σ Z H r v ∧ b ∈ newA r v := by
              exact news_mem h2 m
            obtain ⟨v0, _, k, m⟩ := h3
            cases y with
            | new d =>
              obtain ⟨x, rfl, _, _, n, _⟩ := k
              have : b = x := by simpa [newA] using m
              subst this
              exact absurd hu n
            | val d => cases m
            | slot i => cases m
          · exact .inl ⟨h, List.mem_append_right _ m, hu⟩
        · exact .inr (l b h)
      | some y =>
        rcases w b z (by rw [z1]; exact fun q => nomatch q) with ⟨h, rfl, n, d', rfl⟩ | h
        · exact .inl ⟨h, List.mem_append_left _ (by simp [newA]), n⟩
        · exact .inr h
    · cases p with
      | zero =>
        simp at e3 e4
        subst e3 e4
        refine ⟨fun _ d hd => ?_, fun h => absurd rfl h⟩
        cases r with
        | val d0 =>
          cases e1
          cases hd
          exact Rep.sub sz2 _ _ rp
        | new d0 =>
          cases e1
          cases hd
          exact Rep.sub sz2 _ _ rp
        | slot i =>
          have e' : (match ρ.sl i with | some (.own d) => some (d, ρ.set i (some (.fz d))) | _ => none) = some (d1, ρ1) := e1
          split at e'
          · rename_i d0 hi
            cases e'
            have : ρ'.sl i = some (.fz d1) := frzA_fz e2 (En.sl_same (En.sl_lt hi))
            have hd' : (ρ'.sl i).map Sl.d = some d := hd
            rw [this] at hd'
            cases hd'
            exact S2.fz i _ v this h1
          · cases e'
      | succ p =>
        simp at e3 e4
        have := at2 p r' v' e3 e4
        simpa using this
  | .B :: pm, r :: rs, vs, ρ, ρ', Z, S, ⟨v, t, ev, h1, h2⟩, nd, e => by
    subst ev
    have nd' : (newA r v ++ newsOf rs t).Nodup := nd
    rw [List.nodup_append] at nd'
    obtain ⟨Z2, S2, sz2, w2, l2, u2, at2⟩ := frzA_ok hs S h2 nd'.2.1 (show frzA pm rs ρ = some ρ' from e)
    refine ⟨Z2, S2, sz2, fun b z q => (w2 b z q).elim (fun h => .inl ⟨h.1, List.mem_append_right _ h.2.1, h.2.2⟩) .inr, l2, u2, fun p r' v' e3 e4 => ?_⟩
    cases p with
    | zero =>
      simp at e3 e4
      subst e3 e4
      exact ⟨fun h => (nomatch h), fun _ => h1.frz sz2 (fun b hb z q => (w2 b z q).elim (fun h => absurd rfl (nd'.2.2 b hb b h.2.1)) id) u2⟩
    | succ p =>
      simp at e3 e4
      have := at2 p r' v' e3 e4
      simpa using this
  | .I :: pm, r :: rs, vs, ρ, ρ', Z, S, ⟨v, t, ev, h1, h2⟩, nd, e => by
    subst ev
    have nd' : (newA r v ++ newsOf rs t).Nodup := nd
    rw [List.nodup_append] at nd'
    obtain ⟨Z2, S2, sz2, w2, l2, u2, at2⟩ := frzA_ok hs S h2 nd'.2.1 (show frzA pm rs ρ = some ρ' from e)
    refine ⟨Z2, S2, sz2, fun b z q => (w2 b z q).elim (fun h => .inl ⟨h.1, List.mem_append_right _ h.2.1, h.2.2⟩) .inr, l2, u2, fun p r' v' e3 e4 => ?_⟩
    cases p with
    | zero =>
      simp at e3 e4
      subst e3 e4
      exact ⟨fun h => (nomatch h), fun _ => h1.frz sz2 (fun b hb z q => (w2 b z q).elim (fun h => absurd rfl (nd'.2.2 b hb b h.2.1)) id) u2⟩
    | succ p =>
      simp at e3 e4
      have := at2 p r' v' e3 e4
      simpa using this
/-! ### reading -/
def SlotNd : List (Option Nat) → Prop
  | [] => True
  | none :: r => SlotNd r
  | some i :: r => some i ∉ r ∧ SlotNd r
theorem readI_ok {r : Rv} {d : D} {o : Option Nat} (e : readI ρ r = some (d, o)) : (r = .new d ∧ o = none) ∨ ∃ i s, r = .slot i ∧ o = some i ∧ ρ.sl i = some s ∧ s.isOw = true ∧ s.d = d ∧ d.root = true := by
  cases r with
  | val d => cases e
  | new d => cases e; exact .inl ⟨rfl, rfl⟩
  | slot i =>
    have e' : (match ρ.sl i with | some (.own d) => if d.root = true then some (d, some i) else none | some (.ino d) => if d.root = true then some (d, some i) else none | _ => none) = some (d, o) := e
    split at e'
    · rename_i d0 h
      split at e'
      case isTrue hr => cases e'; exact .inr ⟨i, _, rfl, rfl, h, hr, rfl, hr⟩
      case isFalse => cases e'
    · rename_i d0 h
      split at e'
      case isTrue hr => cases e'; exact .inr ⟨i, _, rfl, rfl, h, hr, rfl, hr⟩
      case isFalse => cases e'
    · cases e'
/-- by position -/
structure ReadOk (ρ : En) (pm : List Md) (rs : List Rv) (vs : List V) (ds : List D) (is : List (Option Nat)) : Prop where
  l1 : ds.length = pm.length
  l2 : rs.length = pm.length
  at_ : ∀ (p : Nat) (m : Md) (r : Rv), pm[p]? = some m → rs[p]? = some r → ∃ d, ds[p]? = some d ∧ (m ≠ .I → rd ρ r = some d) ∧ (m = .I → ∃ o, readI ρ r = some (d, o) ∧ o ∈ is)
  to : ∀ (k : Nat) (o : Option Nat), is[k]? = some o → ∃ (p : Nat) (r : Rv) (d : D) (v : V), pm[p]? = some .I ∧ rs[p]? = some r ∧ vs[p]? = some v ∧ readI ρ r = some (d, o) ∧ (iVals pm vs)[k]? = some v
  li : is.length = (iVals pm vs).length
  mem : ∀ v, v ∈ iVals pm vs → ∃ p : Nat, pm[p]? = some .I ∧ vs[p]? = some v
theorem readA_ok : ∀ {pm : List Md} {rs : List Rv} {vs : List V} {ds : List D} {is : List (Option Nat)}, rs.length = vs.length → readA pm rs ρ = some (ds, is) → ReadOk ρ pm rs vs ds is
  | [], [], vs, ds, is, hl, e => by
    cases e
    exact ⟨rfl, rfl, fun p m r h => by simp at h, fun k o h => by simp at h, by cases vs <;> rfl, fun v h => by cases vs <;> cases h⟩
  | [], _ :: _, vs, ds, is, hl, e => by cases e
  | .F :: pm, [], vs, ds, is, hl, e => by cases e
  | .B :: pm, [], vs, ds, is, hl, e => by cases e
  | .I :: pm, [], vs, ds, is, hl, e => by cases e
  | .F :: pm, r :: rs, [], ds, is, hl, e => by cases hl
  | .B :: pm, r :: rs, [], ds, is, hl, e => by cases hl
  | .I :: pm, r :: rs, [], ds, is, hl, e => by cases hl
  | .F :: pm, r :: rs, v :: vs, ds, is, hl, e => by
    obtain ⟨d1, e1, e⟩ := obE (show (rd ρ r).bind (fun d => (readA pm rs ρ).map fun q => (d :: q.1, q.2)) = some (ds, is) from e)
    obtain ⟨⟨ds2, is2⟩, e2, e⟩ := omE e
    cases e
    have ih := readA_ok (vs := vs) (by simpa using hl) e2
    refine ⟨by simp [ih.l1], by simp [ih.l2], fun p m r' h1 h2 => ?_, fun k o h => ?_, ih.li, fun v h => ?_⟩
    · cases p with
      | zero => simp at h1 h2; subst h1 h2; exact ⟨d1, rfl, fun _ => e1, fun h => (nomatch h)⟩
      | succ p => simp at h1 h2; simpa using ih.at_ p m r' h1 h2
    · obtain ⟨p, r', d, v', a1, a2, a3, a4, a5⟩ := ih.to k o h
      exact ⟨p + 1, r', d, v', by simpa using a1, by simpa using a2, by simpa using a3, a4, a5⟩
    · obtain ⟨p, a1, a2⟩ := ih.mem v h
      exact ⟨p + 1, by simpa using a1, by simpa using a2⟩
  | .B :: pm, r :: rs, v :: vs, ds, is, hl, e => by
    obtain ⟨d1, e1, e⟩ := obE (show (rd ρ r).bind (fun d => (readA pm rs ρ).map fun q => (d :: q.1, q.2)) = some (ds, is) from e)
    obtain ⟨⟨ds2, is2⟩, e2, e⟩ := omE e
    cases e
    have ih := readA_ok (vs := vs) (by simpa using hl) e2
    refine ⟨by simp [ih.l1], by simp [ih.l2], fun p m r' h1 h2 => ?_, fun k o h => ?_, ih.li, fun v h => ?_⟩
    · cases p with
      | zero => simp at h1 h2; subst h1 h2; exact ⟨d1, rfl, fun _ => e1, fun h => (nomatch h)⟩
      | succ p => simp at h1 h2; simpa using ih.at_ p m r' h1 h2
    · obtain ⟨p, r', d, v', a1, a2, a3, a4, a5⟩ := ih.to k o h
      exact ⟨p + 1, r', d, v', by simpa using a1, by simpa using a2, by simpa using a3, a4, a5⟩
    · obtain ⟨p, a1, a2⟩ := ih.mem v h
      exact ⟨p + 1, by simpa using a1, by simpa using a2⟩
  | .I :: pm, r :: rs, v :: vs, ds, is, hl, e => by
    obtain ⟨⟨d1, o1⟩, e1, e⟩ := obE (show (readI ρ r).bind (fun d => (readA pm rs ρ).map fun q => (d.1 :: q.1, d.2 :: q.2)) = some (ds, is) from e)
    obtain ⟨⟨ds2, is2⟩, e2, e⟩ := omE e
    cases e
    have ih := readA_ok (vs := vs) (by simpa using hl) e2
    refine ⟨by simp [ih.l1], by simp [ih.l2], fun p m r' h1 h2 => ?_, fun k o h => ?_, by show _ + 1 = _ + 1; rw [ih.li], fun v' h => ?_⟩
    · cases p with
      | zero => simp at h1 h2; subst h1 h2; exact ⟨d1, rfl, fun h => absurd rfl h, fun _ => ⟨o1, e1, List.mem_cons_self⟩⟩
      | succ p =>
        simp at h1 h2
        obtain ⟨d, a1, a2, a3⟩ := ih.at_ p m r' h1 h2
        exact ⟨d, by simpa using a1, a2, fun h => by obtain ⟨o, b1, b2⟩ := a3 h; exact ⟨o, b1, List.mem_cons_of_mem _ b2⟩⟩
    · cases k with
      | zero =>
        simp at h
        subst h
        exact ⟨0, r, d1, v, rfl, rfl, rfl, e1, rfl⟩
      | succ k =>
        simp at h
        obtain ⟨p, r', d, v', a1, a2, a3, a4, a5⟩ := ih.to k o h
        exact ⟨p + 1, r', d, v', by simpa using a1, by simpa using a2, by simpa using a3, a4, by show (v :: iVals pm vs)[k + 1]? = _; simpa using a5⟩
    · rcases List.mem_cons.mp (show v' ∈ v :: iVals pm vs from h) with rfl | h
      · exact ⟨0, rfl, rfl⟩
      · obtain ⟨p, a1, a2⟩ := ih.mem v' h
        exact ⟨p + 1, by simpa using a1, by simpa using a2⟩
theorem countP_inj {α : Type} {P : α → Bool} : ∀ {l : List α} {p q : Nat} {x y : α}, l.countP P ≤ 1 → l[p]? = some x → l[q]? = some y → P x = true → P y = true → p = q
  | [], p, q, x, y, h, h1, h2, _, _ => by simp at h1
  | z :: l, p, q, x, y, h, h1, h2, px, py => by
    have pos : ∀ {k : Nat} {w : α}, l[k]? = some w → P w = true → 0 < l.countP P := fun {k w} e hw => List.countP_pos_iff.mpr ⟨w, List.mem_of_getElem? e, hw⟩
    rw [List.countP_cons] at h
    cases p with
    | zero =>
      simp at h1
      subst h1
      rw [if_pos px] at h
      cases q with
      | zero => rfl
      | succ q =>
        simp at h2
        have := pos h2 py
        omega
    | succ p =>
      simp at h1
      cases q with
      | zero =>
        simp at h2
        subst h2
        rw [if_pos py] at h
        have := pos h1 px
        omega
      | succ q =>
        simp at h2
        rw [countP_inj (by omega) h1 h2 px py]
theorem readA_mem {i : Nat} : ∀ {pm : List Md} {rs : List Rv} {ds : List D} {is : List (Option Nat)}, readA pm rs ρ = some (ds, is) → some i ∈ is → 0 < rs.countP (Rv.isSlot i)
  | [], [], ds, is, e, h => by cases e; cases h
  | [], _ :: _, ds, is, e, h => by cases e
  | .F :: pm, [], ds, is, e, h => by cases e
  | .B :: pm, [], ds, is, e, h => by cases e
  | .I :: pm, [], ds, is, e, h => by cases e
  | .F :: pm, r :: rs, ds, is, e, h => by
    obtain ⟨d1, e1, e⟩ := obE (show (rd ρ r).bind (fun d => (readA pm rs ρ).map fun q => (d :: q.1, q.2)) = some (ds, is) from e)
    obtain ⟨⟨ds2, is2⟩, e2, e⟩ := omE e
    cases e
    rw [List.countP_cons]
    have := readA_mem e2 h
    omega
  | .B :: pm, r :: rs, ds, is, e, h => by
    obtain ⟨d1, e1, e⟩ := obE (show (rd ρ r).bind (fun d => (readA pm rs ρ).map fun q => (d :: q.1, q.2)) = some (ds, is) from e)
    obtain ⟨⟨ds2, is2⟩, e2, e⟩ := omE e
    cases e
    rw [List.countP_cons]
    have := readA_mem e2 h
    omega
  | .I :: pm, r :: rs, ds, is, e, h => by
    obtain ⟨⟨d1, o1⟩, e1, e⟩ := obE (show (readI ρ r).bind (fun d => (readA pm rs ρ).map fun q => (d.1 :: q.1, d.2 :: q.2)) = some (ds, is) from e)
    obtain ⟨⟨ds2, is2⟩, e2, e⟩ := omE e
    cases e
    rw [List.countP_cons]
    rcases List.mem_cons.mp h with h | h
    · subst h
      rcases readI_ok e1 with ⟨_, h⟩ | ⟨i', s, rfl, h, _⟩
      · cases h
      · cases h
        have : Rv.isSlot i (.slot i) = true := by simp [Rv.isSlot]
        rw [if_pos this]
        omega
    · have := readA_mem e2 h
      omega
theorem readA_nd : ∀ {pm : List Md} {rs : List Rv} {ds : List D} {is : List (Option Nat)}, readA pm rs ρ = some (ds, is) → (∀ i, some i ∈ is → rs.countP (Rv.isSlot i) ≤ 1) → SlotNd is
  | [], [], ds, is, e, h => by cases e; trivial
  | [], _ :: _, ds, is, e, h => by cases e
  | .F :: pm, [], ds, is, e, h => by cases e
  | .B :: pm, [], ds, is, e, h => by cases e
  | .I :: pm, [], ds, is, e, h => by cases e
  | .F :: pm, r :: rs, ds, is, e, h => by
    obtain ⟨d1, e1, e⟩ := obE (show (rd ρ r).bind (fun d => (readA pm rs ρ).map fun q => (d :: q.1, q.2)) = some (ds, is) from e)
    obtain ⟨⟨ds2, is2⟩, e2, e⟩ := omE e
    cases e
    exact readA_nd e2 fun i hi => by
      have := h i hi
      rw [List.countP_cons] at this
      omega
  | .B :: pm, r :: rs, ds, is, e, h => by
    obtain ⟨d1, e1, e⟩ := obE (show (rd ρ r).bind (fun d => (readA pm rs ρ).map fun q => (d :: q.1, q.2)) = some (ds, is) from e)
    obtain ⟨⟨ds2, is2⟩, e2, e⟩ := omE e
    cases e
    exact readA_nd e2 fun i hi => by
      have := h i hi
      rw [List.countP_cons] at this
      omega
  | .I :: pm, r :: rs, ds, is, e, h => by
    obtain ⟨⟨d1, o1⟩, e1, e⟩ := obE (show (readI ρ r).bind (fun d => (readA pm rs ρ).map fun q => (d.1 :: q.1, d.2 :: q.2)) = some (ds, is) from e)
    obtain ⟨⟨ds2, is2⟩, e2, e⟩ := omE e
    cases e
    have ih := readA_nd e2 fun i hi => by
      have := h i (List.mem_cons_of_mem _ hi)
      rw [List.countP_cons] at this
      omega
    rcases readI_ok e1 with ⟨_, rfl⟩ | ⟨i, s, rfl, rfl, _⟩
    · exact ih
    · refine ⟨fun hm => ?_, ih⟩
      have h1 := readA_mem e2 hm
      have h2 := h i List.mem_cons_self
      rw [List.countP_cons, if_pos (by simp [Rv.isSlot])] at h2
      omega
theorem apartE {rs : List Rv} (h : apart is rs = true) : ∀ i, some i ∈ is → rs.countP (Rv.isSlot i) ≤ 1 := fun i hi => by
  have := List.all_eq_true.mp h _ hi
  simp at this
  omega
theorem news_at {x : Addr} : ∀ {rs : List Rv} {vs : List V} {k : Nat} {d : D}, rs[k]? = some (.new d) → vs[k]? = some (.ref x) → x ∈ newsOf rs vs
  | [], vs, k, d, e1, e2 => by simp at e1
  | r0 :: rs, [], k, d, e1, e2 => by simp at e2
  | r0 :: rs, v0 :: vs, 0, d, e1, e2 => by
    simp at e1 e2
    subst e1 e2
    exact List.mem_append_left _ (by simp [newA])
  | r0 :: rs, v0 :: vs, k + 1, d, e1, e2 => by
    simp at e1 e2
    exact List.mem_append_right _ (news_at e1 e2)
theorem news_inj : ∀ {rs : List Rv} {vs : List V} {p q : Nat} {d d' : D} {x : Addr}, (newsOf rs vs).Nodup → rs[p]? = some (.new d) → rs[q]? = some (.new d') → vs[p]? = some (.ref x) → vs[q]? = some (.ref x) → p = q
  | [], vs, p, q, d, d', x, nd, h1, h2, h3, h4 => by simp at h1
  | r :: rs, [], p, q, d, d', x, nd, h1, h2, h3, h4 => by simp at h3
  | r :: rs, v :: vs, p, q, d, d', x, nd, h1, h2, h3, h4 => by
    have nd' : (newA r v ++ newsOf rs vs).Nodup := nd
    rw [List.nodup_append] at nd'
    have mem : ∀ {k : Nat} {d : D}, rs[k]? = some (.new d) → vs[k]? = some (.ref x) → x ∈ newsOf rs vs := fun h h' => news_at h h'
    cases p with
    | zero =>
      simp at h1 h3
      subst h1 h3
      cases q with
      | zero => rfl
      | succ q =>
        simp at h2 h4
        exact absurd rfl (nd'.2.2 x (by simp [newA]) x (mem h2 h4))
    | succ p =>
      simp at h1 h3
      cases q with
      | zero =>
        simp at h2 h4
        subst h2 h4
        exact absurd rfl (nd'.2.2 x (by simp [newA]) x (mem h1 h3))
      | succ q =>
        simp at h2 h4
        rw [news_inj nd'.2.1 h1 h2 h3 h4]
end
end Pi
/-! calls: the caller's state behind one -/
namespace Pi
open PySem PySem.Spec PyProof.Rows L2
section
variable {L : Lk} {B : Ba} {G : Gs} {X : Cx} {ro : Bool} {a b c : Expr} {a' b' c' : Ex} {es : List Expr} {es' : Exs} {pos p pos' : Pos} {σ σ' σ3 : Sg} {H Z H' Z' H1 Z1 H2 Z2 H3 Z3 Hs Z0 : Hp} {ρ ρ0 ρ1 ρ2 ρ' : En} {r1 r2 : Rv} {pm : List Md} {rs : List Rv} {vs iv : List V} {ds os : List D} {is : List (Option Nat)}
theorem setD_d (s : Sl) (d : D) : (s.setD d).d = d := by cases s <;> rfl
theorem setD_ow {s : Sl} {d : D} (h : s.isOw = true) (r : d.root = true) : (s.setD d).isOw = true := by cases s <;> first | cases h; done | exact r
theorem setD_fz {s : Sl} {d d' : D} (h : s.isOw = true) : s.setD d ≠ .fz d' := by cases s <;> first | cases h; done | exact fun q => nomatch q
theorem ow_us {s : Sl} (h : s.isOw = true) : s.isUs = true := by cases s <;> first | exact h | cases h
theorem SI.there (S : SI L B ρ σ Z H) {i : Nat} {s : Sl} {x : Addr} (e : ρ.sl i = some s) (u : s.isUs = true) (v : σ[i]? = some (some (.ref x))) : H x ≠ none := fun h => S.us_ne h ⟨i, s, e, u, v⟩
/-- the callee has turned what it was handed -/
theorem SI.turn (S : SI L B ρ σ Z H) (sub : Sub Z Z') (subH : Sub Z' H') (znew : ∀ a, Z' a ≠ none → Z a ≠ none ∨ H a = none) (keep : ∀ a o, H a = some o → V.ref a ∉ iv → H' a = some o) (there : ∀ a, H a ≠ none → H' a ≠ none)
    (hl : ρ'.length = ρ.length) (hi : ∀ a, V.ref a ∈ iv → ow ρ σ a ∨ (B.H0 a = none ∧ Z a = none))
    (hc : ∀ i s', ρ'.sl i = some s' → (ρ.sl i = some s' ∧ (∀ a, s'.isUs = true → σ[i]? = some (some (.ref a)) → V.ref a ∉ iv)) ∨ ∃ s a d', ρ.sl i = some s ∧ s.isOw = true ∧ σ[i]? = some (some (.ref a)) ∧ s' = s.setD d' ∧ Root L Z' H' d' a ∧ Z' a = none) :
    SI L B ρ' σ Z' H' := by
  have zi : ∀ a, V.ref a ∈ iv → Z a = none := fun a h => (hi a h).elim (S.nz a) (·.2)
  have old : ∀ i s', ρ'.sl i = some s' → ∃ s, ρ.sl i = some s ∧ (s'.isOw = true → s.isOw = true) ∧ (s'.isUs = true → s.isUs = true) := fun i s' e => by
    rcases hc i s' e with ⟨h, _⟩ | ⟨s, a, d', h, o, _, rfl, _⟩
    · exact ⟨s', h, id, id⟩
    · exact ⟨s, h, fun _ => o, fun _ => ow_us o⟩
  refine ⟨hl.trans S.len, subH, fun i s' e => ?_, fun i d v e q => ?_, fun a ⟨i, s', e, o, q⟩ => ?_, fun i j a s t e1 o1 q1 e2 o2 q2 => ?_, fun a o e n => ?_, S.b2.trans sub, fun a h => ?_, fun i d a e r q => ?_, fun i d e => ?_, fun i d a e r q => ?_, S.b7, fun a h => there a (S.b8 a h), fun i d a e r q => ?_⟩
  · rcases hc i s' e with ⟨h, n⟩ | ⟨s, a, d', h, o, q, rfl, r, z⟩
    · obtain ⟨v, hv, rb⟩ := S.rep i s' h
      refine ⟨v, hv, ?_⟩
      rcases rb with ⟨rt, y, rfl, r⟩ | ⟨rt, rp⟩
      · have ny : V.ref y ∉ iv := fun m => by
          have us_ : s'.isUs = true → False := fun u => n y u hv m
          cases s' with
          | fz d =>
            obtain ⟨y', ey', ry⟩ := Rep.root (S.fz i d _ h hv) rt
            cases ey'
            exact ry.ne (zi _ m)
          | own d => exact us_ rt
          | bor d => exact us_ rt
          | ino d => exact us_ rt
        exact .inl ⟨rt, y, rfl, Root.mono r sub fun o ho => keep y o ho ny⟩
      · exact .inr ⟨rt, Rep.sub sub _ _ rp⟩
    · exact ⟨_, q, .inl ⟨by rw [setD_d]; exact r.isRoot, a, rfl, by rw [setD_d]; exact r⟩⟩
  · rcases hc i _ e with ⟨h, n⟩ | ⟨s, a, d', h, o, _, e', _⟩
    · exact Rep.sub sub _ _ (S.fz i d v h q)
    · exact absurd e'.symm (setD_fz o)
  · rcases hc i s' e with ⟨h, n⟩ | ⟨s, y, d', h, os, qs, rfl, r, z⟩
    · have z1 := S.nz a ⟨i, s', h, o, q⟩
      cases z2 : Z' a with
      | none => rfl
      | some y =>
        rcases znew a (by rw [z2]; exact fun q => nomatch q) with h1 | h1
        · exact absurd z1 h1
        · exact absurd h1 (S.there h (ow_us o) q)
    · rw [qs] at q
      cases q
      exact z
  · obtain ⟨s1, h1, k1, _⟩ := old i s e1
    obtain ⟨s2, h2, _, k2⟩ := old j t e2
    exact S.one i j a s1 s2 h1 (k1 o1) q1 h2 (k2 o2) q2
  · refine keep a o (S.b1 a o e n) fun m => ?_
    rcases hi a m with ⟨i, s, h, os, q⟩ | ⟨h, _⟩
    · cases s with
      | own d => rw [S.b4 i d a h os q] at e; cases e
      | ino d => exact n (S.b6 i d a h os q)
      | fz d => cases os
      | bor d => cases os
    · rw [h] at e; cases e
  · rcases znew a h with h | h
    · exact S.b3 a h
    · exact .inr (S.b0 h)
  · rcases hc i _ e with ⟨h, n⟩ | ⟨s, y, d', h, os, qs, e', rr, z⟩
    · exact S.b4 i d a h r q
    · cases s with
      | own d0 => exact S.b4 i d0 a h os q
      | _ => cases e'
  · rcases hc i _ e with ⟨h, n⟩ | ⟨s, y, d', h, os, qs, e', rr, z⟩
    · exact S.b5 i d h
    · cases s with
      | ino d0 => exact S.b5 i d0 h
      | _ => cases e'
  · rcases hc i _ e with ⟨h, n⟩ | ⟨s, y, d', h, os, qs, e', rr, z⟩
    · exact S.b6 i d a h r q
    · cases s with
      | ino d0 => exact S.b6 i d0 a h os q
      | _ => cases e'
  · rcases hc i _ e with ⟨h, n⟩ | ⟨s, y, d', h, os, qs, e', rr, z⟩
    · exact S.b9 i d a h r q
    · cases s with
      | bor d0 => cases os
      | _ => cases e'
theorem backI_ok : ∀ {is : List (Option Nat)} {os : List D} {ρ ρ' : En}, backI is os ρ = some ρ' → SlotNd is → ρ'.length = ρ.length ∧ is.length = os.length ∧
    ∀ j, (some j ∉ is ∧ ρ'.sl j = ρ.sl j) ∨ ∃ (k : Nat) (o : D), is[k]? = some (some j) ∧ os[k]? = some o ∧ ρ'.sl j = (ρ.sl j).map (Sl.put o)
  | [], [], ρ, ρ', e, _ => by cases e; exact ⟨rfl, rfl, fun j => .inl ⟨by simp, rfl⟩⟩
  | [], _ :: _, ρ, ρ', e, _ => by cases e
  | none :: is, [], ρ, ρ', e, _ => by cases e
  | some i :: is, [], ρ, ρ', e, _ => by cases e
  | none :: is, o :: os, ρ, ρ', e, nd => by
    obtain ⟨l, l2, h⟩ := backI_ok (show backI is os ρ = some ρ' from e) nd
    refine ⟨l, by simp [l2], fun j => ?_⟩
    rcases h j with ⟨n, q⟩ | ⟨k, o, h1, h2, h3⟩
    · exact .inl ⟨by simpa using n, q⟩
    · exact .inr ⟨k + 1, o, by simpa using h1, by simpa using h2, h3⟩
  | some i :: is, o :: os, ρ, ρ', e, nd => by
    obtain ⟨l, l2, h⟩ := backI_ok (show backI is os (ρ.set i ((ρ.sl i).map (Sl.put o))) = some ρ' from e) nd.2
    refine ⟨l.trans (List.length_set ..), by simp [l2], fun j => ?_⟩
    by_cases ej : j = i
    · subst ej
      rcases h j with ⟨n, q⟩ | ⟨k, o', h1, h2, h3⟩
      · refine .inr ⟨0, o, rfl, rfl, ?_⟩
        rw [q, En.sl_set]
        split
        · rfl
        · rename_i hn
          cases e : ρ.sl j with
          | none => rfl
          | some s => exact absurd ⟨rfl, En.sl_lt e⟩ hn
      · exact absurd (List.mem_of_getElem? h1) nd.1
    · rcases h j with ⟨n, q⟩ | ⟨k, o', h1, h2, h3⟩
      · refine .inl ⟨?_, ?_⟩
        · simp only [List.mem_cons, not_or]
          exact ⟨fun q => ej (Option.some.inj q), n⟩
        · rw [q, En.sl_ne ej]
      · exact .inr ⟨k + 1, o', by simpa using h1, by simpa using h2, by rw [h3, En.sl_ne ej]⟩
theorem put_setD {s : Sl} {o : D} (h : s.isOw = true) : s.put o = s.setD o := by cases s <;> first | rfl | cases h
theorem OutsOk.at_ {Z H : Hp} : ∀ {iv : List V} {os : List D}, OutsOk L Z H iv os → os.length = iv.length ∧ ∀ (k : Nat) (v : V) (d : D), iv[k]? = some v → os[k]? = some d → ∃ a, v = .ref a ∧ Root L Z H d a ∧ Z a = none
  | [], os, h => by
    have h : os = [] := h
    subst h
    exact ⟨rfl, fun k v d e => by simp at e⟩
  | v :: iv, os, ⟨d, t, e, h1, h2⟩ => by
    subst e
    obtain ⟨l, at_⟩ := OutsOk.at_ h2
    refine ⟨by simp [l], fun k v' d' e1 e2 => ?_⟩
    cases k with
    | zero => simp at e1 e2; subst e1 e2; exact h1
    | succ k => simp at e1 e2; exact at_ k v' d' e1 e2
/-- THE CALL: H the heap at it, Hs the heap ahead of the expression -/
theorem call_core {f : Nat} {d : D} (S : SI L B ρ σ Z H) (hs : ∀ a, B.H0 a ≠ none → Hs a ≠ none) (g0 : Gr ρ0 ρ σ Z0 Hs Z H) (R : RvsOk L Hs ρ σ Z H rs vs) (nd : (newsOf rs vs).Nodup) (e : doCall G f rs ρ = some (d, os, ρ')) :
    vs.length = (G.fi f).pm.length ∧ ∃ Z1 ds, Sub Z1 H ∧ Args L Z1 H (G.fi f).pm ds vs ∧ G.call f ds = some (d, os) ∧
      ∀ v Z' H', Ret L (G.fi f).ro (iVals (G.fi f).pm vs) Z1 H d os v Z' H' → SI L B ρ' σ Z' H' ∧ Gr ρ0 ρ' σ Z0 Hs Z' H' ∧ RvOk L Hs ρ' σ Z' H' (resR (G.fi f).ro d) v ∧ (∀ x, us ρ' σ x → us ρ σ x) := by
  unfold doCall at e
  generalize hpm : (G.fi f).pm = pm at e ⊢
  generalize hro : (G.fi f).ro = ro
  obtain ⟨ρ1, e1, e⟩ := obE e
  obtain ⟨⟨ds, is⟩, e2, e⟩ := obE e
  split at e
  case isFalse => cases e
  case isTrue hap =>
    obtain ⟨⟨d0, os0⟩, e3, e⟩ := obE e
    obtain ⟨ρ2, e4, e⟩ := omE e
    cases e
    obtain ⟨lrv, Rat⟩ := R.at_
    obtain ⟨Z1, S1, sz, w, l, u, fz⟩ := frzA_ok hs S R nd e1
    have K := readA_ok lrv e2
    have cnt := apartE hap
    have snd := readA_nd e2 cnt
    -- what stands at a position
    have rvat : ∀ {p : Nat} {r : Rv} {v : V}, rs[p]? = some r → vs[p]? = some v → pm[p]? ≠ some .F → RvOk L Hs ρ1 σ Z1 H r v := fun h1 h2 h3 => (fz _ _ _ h1 h2).2 h3
    have rsat : ∀ {p : Nat} {v : V}, vs[p]? = some v → ∃ r, rs[p]? = some r := fun {p v} h => by
      have : p < rs.length := by rw [lrv]; exact (List.getElem?_eq_some_iff.mp h).1
      exact ⟨rs[p], List.getElem?_eq_getElem this⟩
    -- an I position
    have Iat : ∀ {p : Nat} {x : Addr}, pm[p]? = some .I → vs[p]? = some (.ref x) → ∃ r d o, rs[p]? = some r ∧ ds[p]? = some d ∧ readI ρ1 r = some (d, o) ∧ o ∈ is ∧ Root L Z1 H d x ∧ Z1 x = none ∧
        ((r = .new d ∧ ¬ us ρ1 σ x ∧ Hs x = none) ∨ ∃ i s, r = .slot i ∧ some i ∈ is ∧ ρ1.sl i = some s ∧ s.isOw = true ∧ σ[i]? = some (some (.ref x))) := fun {p x} hp hv => by
      obtain ⟨r, hr⟩ := rsat hv
      obtain ⟨d, hd, _, hI⟩ := K.at_ p .I r hp hr
      obtain ⟨o, ho, hm⟩ := hI rfl
      have rv := rvat hr hv (by rw [hp]; exact fun q => nomatch q)
      refine ⟨r, d, o, hr, hd, ho, hm, ?_⟩
      rcases readI_ok ho with ⟨rfl, rfl⟩ | ⟨i, s, rfl, rfl, hsl, hos, hsd, hrt⟩
      · obtain ⟨x', ex, z, rt, n, f⟩ := rv
        cases ex
        exact ⟨rt, z, .inl ⟨rfl, n, f⟩⟩
      · have hv' : σ[i]? = some (some (.ref x)) := rv
        obtain ⟨x', hx', rt⟩ := S1.own_at hsl hos
        rw [hv'] at hx'
        cases hx'
        rw [hsd] at rt
        exact ⟨rt, S1.nz x ⟨i, s, hsl, hos, hv'⟩, .inr ⟨i, s, rfl, hm, hsl, hos, hv'⟩⟩
    have A : Args L Z1 H pm ds vs := by
      refine ⟨K.l1, by rw [← lrv]; exact K.l2, fun p m d v h1 h2 h3 => ?_, fun p q m x d h1 h2 h3 hm h4 hrt h5 => ?_⟩
      · obtain ⟨r, hr⟩ := rsat h3
        obtain ⟨d', hd', hrd, hI⟩ := K.at_ p m r h1 hr
        rw [h2] at hd'
        cases hd'
        cases m with
        | F => exact (fz p r v hr h3).1 h1 d (hrd (by decide))
        | B => exact RvOk.rd (rvat hr h3 (by rw [h1]; exact fun q => nomatch q)) S1 (hrd (by decide))
        | I =>
          obtain ⟨o, ho, hm⟩ := hI rfl
          have rv := rvat hr h3 (by rw [h1]; exact fun q => nomatch q)
          have : ∃ x, v = .ref x := by
            rcases readI_ok ho with ⟨rfl, rfl⟩ | ⟨i, s, rfl, rfl, hsl, hos, hsd, hrt⟩
            · obtain ⟨x', ex, _⟩ := rv
              exact ⟨x', ex⟩
            · obtain ⟨x', hx', _⟩ := S1.own_at hsl hos
              have hv' : σ[i]? = some (some v) := rv
              rw [hv'] at hx'
              cases hx'
              exact ⟨x', rfl⟩
          obtain ⟨x, rfl⟩ := this
          obtain ⟨r', d', o', hr', hd', _, _, rt, z, _⟩ := Iat h1 h3
          rw [h2] at hd'
          cases hd'
          exact ⟨x, rfl, rt, z⟩
      · obtain ⟨r, dp, o, hr, hd, ho, hmo, rt, z, cs⟩ := Iat h1 h2
        obtain ⟨r', hr'⟩ := rsat h5
        have rv' := rvat hr' h5 (by rw [h3]; exact fun q => hm (Option.some.inj q))
        obtain ⟨d', hd', hrd, hI⟩ := K.at_ q m r' h3 hr'
        rw [h4] at hd'
        cases hd'
        have rd' : rd ρ1 r' = some d := by
          cases m with
          | F => exact absurd rfl hm
          | B => exact hrd (by decide)
          | I =>
            obtain ⟨o', ho', _⟩ := hI rfl
            rcases readI_ok ho' with ⟨rfl, rfl⟩ | ⟨i, s, rfl, rfl, hsl, hos, hsd, _⟩
            · rfl
            · show (ρ1.sl i).map Sl.d = some d
              rw [hsl, ← hsd]
              rfl
        cases r' with
        | val dv =>
          cases rd'
          obtain ⟨y, ey, ry⟩ := Rep.root rv' hrt
          cases ey
          exact absurd z ry.ne
        | new dv =>
          obtain ⟨y, ey, _, _, n, _⟩ := rv'
          cases ey
          rcases cs with ⟨rfl, _, _⟩ | ⟨i, s, rfl, _, hsl, hos, hv'⟩
          · exact news_inj nd hr hr' h2 h5
          · exact absurd ⟨i, s, hsl, ow_us hos, hv'⟩ n
        | slot j =>
          have hj : σ[j]? = some (some (.ref x)) := rv'
          have hjs : (ρ1.sl j).map Sl.d = some d := rd'
          cases hsj : ρ1.sl j with
          | none => rw [hsj] at hjs; cases hjs
          | some sj =>
            rw [hsj] at hjs
            cases hjs
            have uj : sj.isUs = true ∨ ∃ d, sj = .fz d := by cases sj <;> first | exact .inl hrt | exact .inr ⟨_, rfl⟩
            rcases uj with uj | ⟨d2, rfl⟩
            · rcases cs with ⟨rfl, n, _⟩ | ⟨i, s, rfl, him, hsl, hos, hv'⟩
              · exact absurd ⟨j, sj, hsj, uj, hj⟩ n
              · have := S1.one i j x s sj hsl hos hv' hsj uj hj
                subst this
                exact countP_inj (cnt i him) hr hr' (by simp [Rv.isSlot]) (by simp [Rv.isSlot])
            · obtain ⟨y, ey, ry⟩ := Rep.root (S1.fz j d2 _ hsj hj) hrt
              cases ey
              exact absurd z ry.ne
    refine ⟨A.l2, Z1, ds, S1.sub, A, e3, fun v Z' H' T => ?_⟩
    obtain ⟨lb, lo, back⟩ := backI_ok e4 snd
    -- the I values
    have hi : ∀ x, V.ref x ∈ iVals pm vs → ow ρ1 σ x ∨ (Hs x = none ∧ Z1 x = none) := fun x hx => by
      obtain ⟨p, h1, h2⟩ := K.mem _ hx
      obtain ⟨r, d, o, _, _, _, _, _, z, cs⟩ := Iat h1 h2
      rcases cs with ⟨_, _, f⟩ | ⟨i, s, _, _, hsl, hos, hv'⟩
      · exact .inr ⟨f, z⟩
      · exact .inl ⟨i, s, hsl, hos, hv'⟩
    have b0 : ∀ x, Hs x = none → B.H0 x = none := fun x h => by
      cases q : B.H0 x with
      | none => rfl
      | some y => exact absurd h (hs x (by rw [q]; exact fun z => nomatch z))
    have hc : ∀ i s', ρ'.sl i = some s' → (ρ1.sl i = some s' ∧ (∀ a, s'.isUs = true → σ[i]? = some (some (.ref a)) → V.ref a ∉ iVals pm vs)) ∨
        ∃ s a d', ρ1.sl i = some s ∧ s.isOw = true ∧ σ[i]? = some (some (.ref a)) ∧ s' = s.setD d' ∧ Root L Z' H' d' a ∧ Z' a = none := fun i s' hs' => by
      rcases back i with ⟨n, q⟩ | ⟨k, o, h1, h2, h3⟩
      · rw [hs'] at q
        refine .inl ⟨q.symm, fun x ux hx hm => ?_⟩
        obtain ⟨p, p1, p2⟩ := K.mem _ hm
        obtain ⟨r, d, o, _, _, _, _, _, z, cs⟩ := Iat p1 p2
        rcases cs with ⟨_, nu, _⟩ | ⟨j, s, _, him, hsl, hos, hv'⟩
        · exact nu ⟨i, s', q.symm, ux, hx⟩
        · have := S1.one j i x s s' hsl hos hv' q.symm ux hx
          subst this
          exact n him
      · obtain ⟨p, r, dd, w', p1, p2, p3, p4, p5⟩ := K.to k _ h1
        rcases readI_ok p4 with ⟨_, q⟩ | ⟨i', s, rfl, q, hsl, hos, hsd, _⟩
        · cases q
        · cases q
          obtain ⟨_, oat⟩ := T.outs.at_
          obtain ⟨x, rfl, rt, z⟩ := oat k w' o p5 h2
          have rv := rvat p2 p3 (by rw [p1]; exact fun q => nomatch q)
          have hv' : σ[i]? = some (some (.ref x)) := rv
          rw [hsl] at h3
          rw [h3] at hs'
          cases hs'
          exact .inr ⟨s, x, o, hsl, hos, hv', put_setD hos, rt, z⟩
    have S' := S1.turn T.sub T.subH T.znew T.keep T.there lb (fun x hx => (hi x hx).imp id fun h => ⟨b0 x h.1, h.2⟩) hc
    have lo' : ∀ x, ow ρ' σ x → ow ρ1 σ x := fun x ⟨i, s', h, o, q⟩ => by
      rcases hc i s' h with ⟨h, _⟩ | ⟨s, y, d', h, os, qs, _, _⟩
      · exact ⟨i, s', h, o, q⟩
      · exact ⟨i, s, h, os, q⟩
    have lu' : ∀ x, us ρ' σ x → us ρ1 σ x := fun x ⟨i, s', h, o, q⟩ => by
      rcases hc i s' h with ⟨h, _⟩ | ⟨s, y, d', h, os, qs, _, _⟩
      · exact ⟨i, s', h, o, q⟩
      · exact ⟨i, s, h, ow_us os, q⟩
    have hsn : ∀ x, H x = none → Hs x = none := fun x h => by
      cases q : Hs x with
      | none => rfl
      | some y => exact absurd h (g0.there x (by rw [q]; exact fun z => nomatch z))
    refine ⟨S', ⟨fun x o ho n => T.keep x o (g0.keep x o ho n) fun m => ?_, g0.zsub.trans (sz.trans T.sub), fun x hz hz' => ?_, fun x h => g0.less x (l x (lo' x h)), fun x h => g0.lesu x (u x (lu' x h)), fun x h => T.there x (g0.there x h)⟩, ?_⟩
    · rcases hi x m with h | ⟨h, _⟩
      · exact n (g0.less x (l x h))
      · rw [h] at ho; cases ho
    · rcases T.znew x hz' with h | h
      · cases zz : Z x with
        | none =>
          rcases w x zz h with h | h
          · exact .inl h.1
          · exact .inr (g0.less x h)
        | some y => exact g0.znew x hz (by rw [zz]; exact fun q => nomatch q)
      · exact .inl (hsn x h)
    · refine ⟨?_, fun x h => u x (lu' x h)⟩
      unfold resR
      simp only
      cases ro with
      | false => exact T.val (.inl rfl)
      | true =>
        rw [if_pos rfl]
        cases hr : d0.root with
        | false => exact T.val (.inr hr)
        | true =>
          obtain ⟨x, rfl, rt, z, f⟩ := T.new rfl hr
          exact ⟨x, rfl, z, rt, fun h => S1.us_ne f (lu' x h), hsn x f⟩
end
end Pi
/-! calls: a def's body, at its entry and at its end -/
namespace Pi
open PySem PySem.Spec PyProof.Rows L2
section
variable {L : Lk} {B : Ba} {G : Gs} {X : Cx} {ro : Bool} {σ σ' : Sg} {H Z H' Z' : Hp} {ρ ρ' : En} {pm : List Md} {vs iv : List V} {ds os : List D} {N : List Str}
theorem entry_at {i : Nat} {s : Option Sl} (h : (entry pm ds)[i]? = some s) : ∃ m d, pm[i]? = some m ∧ ds[i]? = some d ∧ s = entS m d := by
  unfold entry at h
  rw [List.getElem?_zipWith] at h
  cases e1 : pm[i]? with
  | none => rw [e1] at h; cases h
  | some m =>
    cases e2 : ds[i]? with
    | none => rw [e1, e2] at h; cases h
    | some d =>
      rw [e1, e2] at h
      cases h
      exact ⟨m, d, rfl, rfl, rfl⟩
theorem start_sl {f : Fn} {i : Nat} {s : Sl} (h : En.sl (f.start ds) i = some s) : ∃ m d, f.fi.pm[i]? = some m ∧ ds[i]? = some d ∧ some s = entS m d := by
  unfold En.sl Fn.start at h
  rw [List.getD_eq_getElem?_getD, List.getElem?_append] at h
  split at h
  · rename_i hl
    cases e : (entry f.fi.pm ds)[i]? with
    | none => rw [e] at h; cases h
    | some x =>
      rw [e] at h
      have h : x = some s := h
      obtain ⟨m, d, h1, h2, h3⟩ := entry_at e
      exact ⟨m, d, h1, h2, by rw [← h3, h]⟩
  · rw [List.getElem?_replicate] at h
    split at h
    · cases h
    · cases h
theorem start_at {i : Nat} {v : V} (h : vs[i]? = some v) : (L2.start N vs)[i]? = some (some v) := by
  unfold L2.start
  have hi := (List.getElem?_eq_some_iff.mp h).1
  rw [List.getElem?_append_left (by simpa using hi), List.getElem?_map, h]
  rfl
theorem start_ge {i : Nat} {v : V} (h : (L2.start N vs)[i]? = some (some v)) : vs[i]? = some v := by
  unfold L2.start at h
  rw [List.getElem?_append] at h
  split at h
  · rw [List.getElem?_map] at h
    obtain ⟨w, e1, e2⟩ := omE h
    cases e2
    exact e1
  · rw [List.getElem?_replicate] at h
    split at h <;> cases h
theorem iVals_mem {p : Nat} {v : V} : ∀ {pm : List Md} {vs : List V} {p : Nat}, pm[p]? = some .I → vs[p]? = some v → v ∈ iVals pm vs
  | [], vs, p, h, _ => by simp at h
  | m :: pm, [], p, _, h => by simp at h
  | .F :: pm, w :: vs, 0, h, _ => by simp at h
  | .B :: pm, w :: vs, 0, h, _ => by simp at h
  | .I :: pm, w :: vs, 0, _, h => by simp at h; subst h; exact List.mem_cons_self
  | .F :: pm, w :: vs, p + 1, h, h' => by simp at h h'; exact iVals_mem (p := p) (pm := pm) (vs := vs) h h'
  | .B :: pm, w :: vs, p + 1, h, h' => by simp at h h'; exact iVals_mem (p := p) (pm := pm) (vs := vs) h h'
  | .I :: pm, w :: vs, p + 1, h, h' => by simp at h h'; exact List.mem_cons_of_mem _ (iVals_mem (p := p) (pm := pm) (vs := vs) h h')
theorem iVals_at {v : V} : ∀ {pm : List Md} {vs : List V}, v ∈ iVals pm vs → ∃ p : Nat, pm[p]? = some .I ∧ vs[p]? = some v
  | [], vs, h => by cases vs <;> cases h
  | .F :: pm, [], h => by cases h
  | .B :: pm, [], h => by cases h
  | .I :: pm, [], h => by cases h
  | .F :: pm, w :: vs, h => by obtain ⟨p, a1, a2⟩ := iVals_at (pm := pm) (vs := vs) h; exact ⟨p + 1, by simpa using a1, by simpa using a2⟩
  | .B :: pm, w :: vs, h => by obtain ⟨p, a1, a2⟩ := iVals_at (pm := pm) (vs := vs) h; exact ⟨p + 1, by simpa using a1, by simpa using a2⟩
  | .I :: pm, w :: vs, h => by
    rcases List.mem_cons.mp (show v ∈ w :: iVals pm vs from h) with rfl | h
    · exact ⟨0, rfl, rfl⟩
    · obtain ⟨p, a1, a2⟩ := iVals_at (pm := pm) (vs := vs) h; exact ⟨p + 1, by simpa using a1, by simpa using a2⟩
/-- at the entry -/
def baOf (Z H : Hp) (pm : List Md) (N : List Str) (vs : List V) : Ba := ⟨H, Z, L2.start N vs, fun a => V.ref a ∈ iVals pm vs⟩
theorem SI.entry {f : Fn} (sub : Sub Z H) (A : Args L Z H f.fi.pm ds vs) (hn : f.nn = N.length) (hl : f.fi.pm.length ≤ N.length) : SI L (baOf Z H f.fi.pm N vs) (f.start ds) (L2.start N vs) Z H := by
  have sl : ∀ {i s}, En.sl (f.start ds) i = some s → ∃ m d v, f.fi.pm[i]? = some m ∧ ds[i]? = some d ∧ vs[i]? = some v ∧ some s = entS m d ∧ ArgOk L Z H m d v := fun {i s} h => by
    obtain ⟨m, d, h1, h2, h3⟩ := start_sl h
    have hi : i < vs.length := by rw [A.l2]; exact (List.getElem?_eq_some_iff.mp h1).1
    exact ⟨m, d, vs[i], h1, h2, List.getElem?_eq_getElem hi, h3, A.at_ i m d _ h1 h2 (List.getElem?_eq_getElem hi)⟩
  have at_ : ∀ {i s x}, En.sl (f.start ds) i = some s → (L2.start N vs)[i]? = some (some x) → ∃ m d, f.fi.pm[i]? = some m ∧ ds[i]? = some d ∧ vs[i]? = some x ∧ some s = entS m d ∧ ArgOk L Z H m d x := fun {i s x} h q => by
    obtain ⟨m, d, v, h1, h2, h3, h4, h5⟩ := sl h
    have := start_ge q
    rw [h3] at this
    cases this
    exact ⟨m, d, h1, h2, h3, h4, h5⟩
  have usd : ∀ {m : Md} {d : D} {s : Sl}, some s = entS m d → s.isUs = true → m ≠ .F ∧ d.root = true := fun {m d s} e u => by
    cases m with
    | F => cases e; cases u
    | B =>
      have e : s = if d.root = true then .bor d else .fz d := Option.some.inj e
      split at e
      · rename_i h; exact ⟨fun q => (nomatch q), h⟩
      · subst e; cases u
    | I => cases e; exact ⟨fun q => (nomatch q), u⟩
  have owd : ∀ {m : Md} {d : D} {s : Sl}, some s = entS m d → s.isOw = true → m = .I := fun {m d s} e u => by
    cases m with
    | F => cases e; cases u
    | B =>
      have e : s = if d.root = true then .bor d else .fz d := Option.some.inj e
      split at e
      · subst e; cases u
      · subst e; cases u
    | I => rfl
  have iad : ∀ a, V.ref a ∈ iVals f.fi.pm vs → H a ≠ none ∧ Z a = none := fun a h => by
    obtain ⟨p, h1, h2⟩ := iVals_at h
    have hp : p < ds.length := by rw [A.l1]; exact (List.getElem?_eq_some_iff.mp h1).1
    obtain ⟨x, ex, r, z⟩ := A.at_ p .I ds[p] _ h1 (List.getElem?_eq_getElem hp) h2
    cases ex
    exact ⟨r.ne, z⟩
  refine ⟨?_, sub, fun i s h => ?_, fun i d v h q => ?_, fun a ⟨i, s, h, o, q⟩ => ?_, fun i j a s t h1 o1 q1 h2 o2 q2 => ?_, fun a o e _ => e, Sub.rfl', fun a h => .inl h, fun i d a h r q => ?_, fun i d h => rfl, fun i d a h r q => ?_, iad, fun a h => h, fun i d a h r q => ?_⟩
  · show (Pi.entry f.fi.pm ds ++ List.replicate (f.nn - f.fi.pm.length) none).length = (L2.start N vs).length
    unfold Pi.entry L2.start
    rw [List.length_append, List.length_zipWith, List.length_replicate, List.length_append, List.length_map, List.length_replicate, A.l1, A.l2, hn]
    omega
  · obtain ⟨m, d, v, h1, h2, h3, h4, h5⟩ := sl h
    refine ⟨v, start_at h3, ?_⟩
    cases m with
    | F => cases h4; exact Rep.rb h5 sub
    | B =>
      have e : s = if d.root = true then .bor d else .fz d := Option.some.inj h4
      split at e <;> (subst e; exact h5)
    | I =>
      cases h4
      obtain ⟨x, ex, r, z⟩ := h5
      exact .inl ⟨r.isRoot, x, ex, r⟩
  · obtain ⟨m, d', h1, h2, h3, h4, h5⟩ := at_ h q
    cases m with
    | F => cases h4; exact h5
    | B =>
      have e : Sl.fz d = if d'.root = true then .bor d' else .fz d' := Option.some.inj h4
      split at e
      · cases e
      · rename_i hr
        cases e
        rcases h5 with ⟨r, _⟩ | ⟨_, r⟩
        · exact absurd r hr
        · exact r
    | I => cases h4
  · obtain ⟨m, d, h1, h2, h3, h4, h5⟩ := at_ h q
    cases owd h4 o
    obtain ⟨x, ex, r, z⟩ := h5
    cases ex
    exact z
  · obtain ⟨m1, d1, a1, a2, a3, a4, a5⟩ := at_ h1 q1
    obtain ⟨m2, d2, b1, b2, b3, b4, b5⟩ := at_ h2 q2
    cases owd a4 o1
    obtain ⟨hm, hr⟩ := usd b4 o2
    exact A.sep i j m2 a d2 a1 a3 b1 hm b2 hr b3
  · obtain ⟨m, d', h1, h2, h3, h4, h5⟩ := at_ h q
    cases m with
    | F => cases h4
    | B =>
      have e : Sl.own d = if d'.root = true then .bor d' else .fz d' := Option.some.inj h4
      split at e <;> cases e
    | I => cases h4
  · obtain ⟨m, d', h1, h2, h3, h4, h5⟩ := at_ h q
    cases m with
    | F => cases h4
    | B =>
      have e : Sl.ino d = if d'.root = true then .bor d' else .fz d' := Option.some.inj h4
      split at e <;> cases e
    | I => exact iVals_mem (p := i) h1 h3
  · obtain ⟨m, d', h1, h2, h3, h4, h5⟩ := at_ h q
    cases m with
    | F => cases h4
    | I => cases h4
    | B =>
      have e : Sl.bor d = if d'.root = true then .bor d' else .fz d' := Option.some.inj h4
      split at e
      · rename_i hr
        cases e
        rcases h5 with ⟨_, x, ex, rr⟩ | ⟨r', _⟩
        · cases ex
          refine ⟨rr.ne, fun hm => ?_⟩
          obtain ⟨p, p1, p2⟩ := iVals_at hm
          have := A.sep p i .B a d p1 p2 h1 (fun q => nomatch q) h2 hr h3
          subst this
          rw [p1] at h1
          cases h1
        · rw [hr] at r'; cases r'
      · cases e
/-- at the end: what the caller finds in its own things -/
theorem outs_ok {W : V → D → Prop} : ∀ {pm : List Md} {ρ : En} {vs : List V} {os : List D}, outs pm ρ = some os → vs.length = pm.length → (∀ (p : Nat) (d : D) (v : V), ρ[p]? = some (some (.ino d)) → d.root = true → vs[p]? = some v → W v d) →
    ∃ l : List (V × D), l.map (·.1) = iVals pm vs ∧ l.map (·.2) = os ∧ ∀ q ∈ l, W q.1 q.2
  | [], ρ, vs, os, e, hl, h => by cases e; exact ⟨[], by cases vs <;> rfl, rfl, fun q hq => by cases hq⟩
  | .I :: pm, [], vs, os, e, hl, h => by cases e
  | .F :: pm, [], vs, os, e, hl, h => by cases e
  | .B :: pm, [], vs, os, e, hl, h => by cases e
  | m :: pm, s :: ρ, [], os, e, hl, h => by cases hl
  | .F :: pm, s :: ρ, v :: vs, os, e, hl, h => outs_ok (pm := pm) (ρ := ρ) (vs := vs) e (by simpa using hl) fun p d w a1 a2 a3 => h (p + 1) d w (by simpa using a1) a2 (by simpa using a3)
  | .B :: pm, s :: ρ, v :: vs, os, e, hl, h => outs_ok (pm := pm) (ρ := ρ) (vs := vs) e (by simpa using hl) fun p d w a1 a2 a3 => h (p + 1) d w (by simpa using a1) a2 (by simpa using a3)
  | .I :: pm, none :: ρ, v :: vs, os, e, hl, h => by cases e
  | .I :: pm, some (.fz _) :: ρ, v :: vs, os, e, hl, h => by cases e
  | .I :: pm, some (.own _) :: ρ, v :: vs, os, e, hl, h => by cases e
  | .I :: pm, some (.bor _) :: ρ, v :: vs, os, e, hl, h => by cases e
  | .I :: pm, some (.ino d) :: ρ, v :: vs, os, e, hl, h => by
    have e' : (if d.root = true then (outs pm ρ).map (d :: ·) else none) = some os := e
    split at e'
    case isFalse => cases e'
    case isTrue hr =>
      obtain ⟨os', e1, e2⟩ := omE e'
      subst e2
      obtain ⟨l, l1, l2, l3⟩ := outs_ok (vs := vs) e1 (by simpa using hl) fun p d w a1 a2 a3 => h (p + 1) d w (by simpa using a1) a2 (by simpa using a3)
      refine ⟨(v, d) :: l, by show v :: _ = v :: _; rw [l1], by show d :: _ = d :: _; rw [l2], fun q hq => ?_⟩
      rcases List.mem_cons.mp hq with rfl | hq
      · exact h 0 d v rfl hr rfl
      · exact l3 q hq
theorem OutsOk.of : ∀ {l : List (V × D)}, (∀ q ∈ l, ∃ a, q.1 = V.ref a ∧ Root L Z H q.2 a ∧ Z a = none) → OutsOk L Z H (l.map (·.1)) (l.map (·.2))
  | [], _ => rfl
  | q :: l, h => ⟨q.2, _, rfl, h q List.mem_cons_self, OutsOk.of fun q hq => h q (List.mem_cons_of_mem _ hq)⟩
theorem En.sl_of {i : Nat} {s : Sl} (h : ρ[i]? = some (some s)) : ρ.sl i = some s := by
  unfold En.sl
  rw [List.getD_eq_getElem?_getD, h]
  rfl
/-- the end of a def's body -/
theorem ret_of {f : Fn} {d : D} {v : V} (hl : vs.length = f.fi.pm.length) (S : SI L (baOf Z H f.fi.pm N vs) ρ' σ' Z' H') (r : RtOk L (baOf Z H f.fi.pm N vs) f.fi.ro d v ρ' σ' Z' H') (e : outs f.fi.pm ρ' = some os) :
    Ret L f.fi.ro (iVals f.fi.pm vs) Z H d os v Z' H' where
  sub := S.b2
  subH := S.sub
  znew := S.b3
  keep := S.b1
  there := S.b8
  outs := by
    obtain ⟨l, l1, l2, l3⟩ := outs_ok (W := fun v d => ∃ a, v = V.ref a ∧ Root L Z' H' d a ∧ Z' a = none) e hl fun p d v h hr hv => by
      have hsl := En.sl_of h
      obtain ⟨a, ha, rt⟩ := S.own_at hsl hr
      have h5 := S.b5 p d hsl
      rw [show (baOf Z H f.fi.pm N vs).s0[p]? = some (some v) from start_at hv, ha] at h5
      cases h5
      exact ⟨a, rfl, rt, S.nz a ⟨p, _, hsl, hr, ha⟩⟩
    rw [← l1, ← l2]
    exact OutsOk.of l3
  new := fun h1 h2 => by
    obtain ⟨a, e, rt, z, _, f0⟩ := r.1 h1 h2
    exact ⟨a, e, rt, z, f0⟩
  val := r.2
/-- THE DEF: its body's reading, its promise -/
theorem fn_ends {f : Fn} {Q : VK} (sub : Sub Z H) (A : Args L Z H f.fi.pm ds vs) (hn : f.nn = N.length) (hl : f.fi.pm.length ≤ N.length) {d : D} (e : f.run G ds = some (d, os)) (q : ∀ v Z' H', Ret L f.fi.ro (iVals f.fi.pm vs) Z H d os v Z' H' → Q v H') :
    tXs L (baOf Z H f.fi.pm N vs) G f.fi.ro f.body { nx := fun _ H' => Q .non H', rt := Q } (L2.start N vs) H := by
  unfold Fn.run at e
  split at e
  case isFalse => cases e
  case isTrue =>
    obtain ⟨fl, e1, e⟩ := obE e
    refine ⟨_, Z, fl, SI.entry sub A hn hl, e1, ?_⟩
    cases fl with
    | nx ρ' =>
      obtain ⟨os', e2, e⟩ := omE e
      cases e
      exact fun σ' Z' H' S' _ => q .non Z' H' (ret_of A.l2 S' ⟨fun _ h => (nomatch h), fun _ => rep_non⟩ e2)
    | rt d' ρ' =>
      obtain ⟨os', e2, e⟩ := omE e
      cases e
      exact fun v σ' Z' H' S' _ r => q v Z' H' (ret_of A.l2 S' r e2)
end
end Pi
/-! chains; calls of defs, methods, classes -/
namespace Pi
open PySem PySem.Spec PyProof.Rows L2
def Exs.len : Exs → Nat
  | .nil => 0
  | .cons _ r => Exs.len r + 1
section
variable {L : Lk} {B : Ba} {G : Gs} {X : Cx} {ro : Bool} {a b c : Expr} {a' b' c' : Ex} {es : List Expr} {es' : Exs} {pos p pos' apos : Pos} {σ σ' σ3 : Sg} {H Z H' Z' H1 Z1 H2 Z2 H3 Z3 Hs Z0 : Hp} {ρ ρ0 ρ1 ρ2 ρ' : En} {r1 r2 : Rv} {pm : List Md} {rs : List Rv} {vs iv : List V} {ds os : List D}
theorem c_chainR {co co' : CmpOp} {o o' : O2} {Q : VK} (h : tE L B G (.chain o o' a' b' c') σ H Q) : tChain (rO L o) (rO L o') (tE L B G a') (tE L B G b') (tE L B G c') σ H Q := by
  obtain ⟨ρ, Z, rv, ρ', S, e, q⟩ := h
  simp only [ev] at e
  obtain ⟨⟨r1, ρ1⟩, e1, e⟩ := obE e
  obtain ⟨⟨r2, ρ2⟩, e2, e⟩ := obE e
  obtain ⟨x, ex, e⟩ := obE e
  obtain ⟨y, ey, e⟩ := obE e
  obtain ⟨r, er, e⟩ := obE e
  refine ⟨ρ, Z, r1, ρ1, S, e1, fun v1 Z1 H1 S1 g1 k1 => ⟨ρ1, Z1, r2, ρ2, S1, e2, fun v2 Z2 H2 S2 g2 k2 => ?_⟩⟩
  refine ⟨Z2, x, y, r, S2.sub, (k1.mono g2).rd S2 ex, k2.rd S2 ey, er, fun v H' R => ?_⟩
  obtain ⟨Z3, S3, g3, k3⟩ := R.ok S2
  cases hb : asB r with
  | none => rw [hb] at e; cases e
  | some k =>
    rw [hb] at e
    cases asBE hb
    refine ⟨k, rv_bl k3, ?_⟩
    cases k with
    | false =>
      cases e
      rw [if_neg (by decide)]
      exact fin S3 (g1.trans (g2.trans g3)) (.here rep_bl) q
    | true =>
      rw [if_pos rfl]
      obtain ⟨⟨r4, ρ4⟩, e4, e⟩ := obE e
      obtain ⟨y', ey', e⟩ := obE e
      obtain ⟨z, ez, e⟩ := obE e
      obtain ⟨r5, er5, e⟩ := omE e
      cases e
      refine ⟨ρ2, Z3, r4, ρ4, S3, e4, fun v4 Z4 H4 S4 g4 k4 => ?_⟩
      exact ⟨Z4, y', z, _, S4.sub, ((k2.mono g3).mono g4).rd S4 ey', k4.rd S4 ez, er5, fun v H' R => fin S4 (g1.trans (g2.trans (g3.trans g4))) R q⟩
theorem c_chain {co co' : CmpOp} {o o' : O2} (ho : OpR X (compareOp co) (rO L o)) (ho' : OpR X (compareOp co') (rO L o')) (ha : PE X a (tE L B G a')) (hb : PE X b (tE L B G b')) (hc : PE X c (tE L B G c')) (hm : lastMarks [co, co'] [b, c] = false) :
    PE X (.Compare a [co, co'] [b, c] pos) (tE L B G (.chain o o' a' b' c')) := pe_imp (pe_chain ho ho' ha hb hc hm) fun σ H Q h => c_chainR (co := co) (co' := co') h
theorem c_chainT {co co' : CmpOp} {o o' : O2} (ho : OpR X (compareOp co) (rO L o)) (ho' : OpR X (compareOp co') (rO L o')) (ha : PE X a (tE L B G a')) (hb : PE X b (tE L B G b')) (hc : PE X c (tE L B G c')) (hm : lastMarks [co, co'] [b, c] = false) :
    PT X (.Compare a [co, co'] [b, c] pos) (tT L B G (.chain o o' a' b' c')) := pt_imp (pt_chain ho ho' ha hb hc hm) fun σ H Q ⟨ρ, Z, rv, ρ', k, S, e, ek, q⟩ => by
  cases asBE ek
  exact c_chainR (co := co) (co' := co') ⟨ρ, Z, _, ρ', S, e, fun v Z' H' S' g' k' => ⟨k, rv_bl k', q Z' H' S' g'⟩⟩

/-! ### calls -/
/-- what is known of a def, where it is called -/
structure FnX (X : Cx) (L : Lk) (G : Gs) (j : Nat) (f : Nat) : Prop where
  ok : FnOk X.prog X.w X.K X.mg X.base CX0 j (L.fa f) (L.fd f) (L.ps f) (spR L (G.fi f).ro (G.fi f).pm (G.call f))
  kp : PySem.W.keepIn X.K (.ref (L.fa f)) = true
  bnd : ∀ n, n + ((G.fi f).dfl.drop (n + (G.fi f).dfl.length - (G.fi f).pm.length)).length = (G.fi f).pm.length →
    ∃ (dvs : List V) (ds : List Value), Vals dvs ds ∧ Binds X.K (L.fd f) (L.ps f) ds ∧ ∀ Z, RepL L Z ((G.fi f).dfl.drop (n + (G.fi f).dfl.length - (G.fi f).pm.length)) dvs
theorem evs_len : ∀ {es' : Exs} {ρ ρ' : En} {rs : List Rv}, evs G es' ρ = some (rs, ρ') → rs.length = es'.len
  | .nil, ρ, ρ', rs, e => by simp only [evs] at e; cases e; rfl
  | .cons a r, ρ, ρ', rs, e => by
    simp only [evs] at e
    obtain ⟨⟨r1, ρ1⟩, e1, e⟩ := obE e
    obtain ⟨⟨rs2, ρ2⟩, e2, e⟩ := omE e
    cases e
    show rs2.length + 1 = r.len + 1
    rw [evs_len e2]
theorem frzA_len : ∀ {pm : List Md} {rs : List Rv} {ρ ρ' : En}, frzA pm rs ρ = some ρ' → rs.length = pm.length
  | [], [], ρ, ρ', e => rfl
  | [], _ :: _, ρ, ρ', e => by cases e
  | .F :: pm, [], ρ, ρ', e => by cases e
  | .B :: pm, [], ρ, ρ', e => by cases e
  | .I :: pm, [], ρ, ρ', e => by cases e
  | .F :: pm, r :: rs, ρ, ρ', e => by
    obtain ⟨⟨d1, ρ1⟩, e1, e2⟩ := obE (show (toF ρ r).bind (fun p => frzA pm rs p.2) = some ρ' from e)
    simp [frzA_len e2]
  | .B :: pm, r :: rs, ρ, ρ', e => by simp [frzA_len (show frzA pm rs ρ = some ρ' from e)]
  | .I :: pm, r :: rs, ρ, ρ', e => by simp [frzA_len (show frzA pm rs ρ = some ρ' from e)]
theorem RvsOk.app : ∀ {rs : List Rv} {vs : List V} {ds : List D} {dvs : List V}, RvsOk L Hs ρ σ Z H rs vs → RepL L Z ds dvs → RvsOk L Hs ρ σ Z H (rs ++ ds.map .val) (vs ++ dvs)
  | [], vs, [], dvs, h, k => by
    have h : vs = [] := h
    subst h
    cases k.nilE
    rfl
  | [], vs, d :: ds, dvs, h, k => by
    have h : vs = [] := h
    subst h
    obtain ⟨v, t, rfl, k1, k2⟩ := k.consE
    exact ⟨v, t, rfl, k1, RvsOk.app (rs := []) (vs := []) rfl k2⟩
  | r :: rs, vs, ds, dvs, ⟨v, t, e, h1, h2⟩, k => by
    subst e
    exact ⟨v, t ++ dvs, rfl, h1, RvsOk.app h2 k⟩
theorem news_val : ∀ {ds : List D} {dvs : List V}, newsOf (ds.map .val) dvs = []
  | [], _ => rfl
  | d :: ds, [] => rfl
  | d :: ds, v :: vs => by
    show newA (.val d) v ++ newsOf (ds.map .val) vs = []
    rw [news_val]
    rfl
theorem news_app : ∀ {rs : List Rv} {vs : List V} {ds : List D} {dvs : List V}, rs.length = vs.length → newsOf (rs ++ ds.map .val) (vs ++ dvs) = newsOf rs vs
  | [], [], ds, dvs, _ => by show newsOf (ds.map .val) dvs = []; exact news_val
  | [], _ :: _, ds, dvs, h => by cases h
  | _ :: _, [], ds, dvs, h => by cases h
  | r :: rs, v :: vs, ds, dvs, h => by
    show newA r v ++ newsOf (rs ++ ds.map .val) (vs ++ dvs) = newA r v ++ newsOf rs vs
    rw [news_app (by simpa using h)]
/-- the caller's continuation of a call -/
theorem call_k {f : Nat} {d : D} {Q : VK} {dvs : List V} {E : XK} {rv : Rv} (S : SI L B ρ1 σ Z H) (g0 : Gr ρ0 ρ1 σ Z0 Hs Z H) (hs : ∀ a, B.H0 a ≠ none → Hs a ≠ none) (R : RvsOk L Hs ρ1 σ Z H rs vs) (nd : (newsOf rs vs).Nodup)
    (hd : ∀ Z, RepL L Z ((G.fi f).dfl.drop (rs.length + (G.fi f).dfl.length - (G.fi f).pm.length)) dvs) (e : callD G f rs ρ1 = some (rv, ρ')) (q : ∀ v Z' H', SI L B ρ' σ Z' H' → Gr ρ0 ρ' σ Z0 Hs Z' H' → RvOk L Hs ρ' σ Z' H' rv v → Q v H') :
    spR L (G.fi f).ro (G.fi f).pm (G.call f) (vs ++ dvs) H Q E := by
  unfold callD at e
  obtain ⟨⟨d, os, ρ2⟩, e1, e⟩ := omE e
  cases e
  have R' : RvsOk L Hs ρ1 σ Z H (rs ++ defaults (G.fi f) rs.length) (vs ++ dvs) := R.app (hd Z)
  have nd' : (newsOf (rs ++ defaults (G.fi f) rs.length) (vs ++ dvs)).Nodup := by
    unfold defaults
    rw [news_app R.at_.1]
    exact nd
  obtain ⟨hl, Z1, ds, sub, A, ec, back⟩ := call_core S hs g0 R' nd' e1
  exact ⟨hl, Z1, ds, d, os, sub, A, ec, fun v Z' H' T => by obtain ⟨a1, a2, a3, _⟩ := back v Z' H' T; exact q v Z' H' a1 a2 a3⟩
theorem callD_len {f : Nat} {rv : Rv} (e : callD G f rs ρ = some (rv, ρ')) : rs.length + ((G.fi f).dfl.drop (rs.length + (G.fi f).dfl.length - (G.fi f).pm.length)).length = (G.fi f).pm.length := by
  unfold callD doCall at e
  obtain ⟨⟨d, os, ρ2⟩, e1, _⟩ := omE e
  obtain ⟨ρ3, e2, _⟩ := obE e1
  have := frzA_len e2
  unfold defaults at this
  rw [List.length_append, List.length_map] at this
  exact this
theorem pe_no {e : Expr} {t : TE} (h : ∀ σ H Q, t σ H Q → False) : PE X e t := ⟨fun pins s σ H Q I hw => (h σ H Q hw).elim⟩
theorem c_call {j f : Nat} {x : Str} (F : FnX X L G j f) (hr : Room j X.A) (hg : Gl X x) (hm : X.mg x = some (.ref (L.fa f))) (hdb : (x == ("__debug__" : Str)) = false) (hs : (a :: es).any isStar = false) (ha : PA X (a :: es) (tEs L B G es')) :
    PE X (.Call (.Name x p) (a :: es) [] pos) (tE L B G (.call f es')) := by
  have h1 : isStar a = false := by rw [List.any_cons, Bool.or_eq_false_iff] at hs; exact hs.1
  have h2 : es.any isStar = false := by rw [List.any_cons, Bool.or_eq_false_iff] at hs; exact hs.2
  by_cases hn : es'.len + ((G.fi f).dfl.drop (es'.len + (G.fi f).dfl.length - (G.fi f).pm.length)).length = (G.fi f).pm.length
  · obtain ⟨dvs, ds, hv, hb, hd⟩ := F.bnd es'.len hn
    refine pe_imp (pe_call F.ok hr hg hm F.kp hb hv pass0 ha hdb (star_cons h1) (star_plain h2)) fun σ H Q ⟨ρ, Z, rv, ρ', S, e, q⟩ => ?_
    simp only [ev] at e
    obtain ⟨⟨rs, ρ1⟩, e1, e⟩ := obE e
    have el := evs_len e1
    exact ⟨ρ, Z, rs, ρ1, S, e1, fun vs Z1 H1 S1 g1 k1 nd => call_k (d := .non) S1 g1 S.b8 k1 nd (by rw [el]; exact hd) e q⟩
  · refine pe_no fun σ H Q ⟨ρ, Z, rv, ρ', S, e, q⟩ => ?_
    simp only [ev] at e
    obtain ⟨⟨rs, ρ1⟩, e1, e⟩ := obE e
    have el := evs_len e1
    have := callD_len e
    rw [el] at this
    exact hn this
theorem c_call0 {j f : Nat} {x : Str} (F : FnX X L G j f) (hr : Room j X.A) (hg : Gl X x) (hm : X.mg x = some (.ref (L.fa f))) (hdb : (x == ("__debug__" : Str)) = false) :
    PE X (.Call (.Name x p) [] [] pos) (tE L B G (.call f .nil)) := by
  by_cases hn : 0 + ((G.fi f).dfl.drop (0 + (G.fi f).dfl.length - (G.fi f).pm.length)).length = (G.fi f).pm.length
  · obtain ⟨dvs, ds, hv, hb, hd⟩ := F.bnd 0 hn
    refine pe_imp (pe_call0 F.ok hr hg hm F.kp hb hv pass0 hdb) fun σ H Q ⟨ρ, Z, rv, ρ', S, e, q⟩ => ?_
    simp only [ev, evs] at e
    exact call_k (E := E0) (rs := []) (vs := []) (d := .non) S Gr.refl S.b8 rfl List.nodup_nil hd e q
  · refine pe_no fun σ H Q ⟨ρ, Z, rv, ρ', S, e, q⟩ => ?_
    simp only [ev, evs] at e
    exact hn (callD_len (rs := []) e)
theorem meth_core {j k : Nat} {m : Str} {Q : VK} (he : PE X a (tE L B G a')) (hr : Room j X.A) (hx : ∀ i, L.fld i ≠ some m)
    (hM : ∀ c f, G.meth c k = some f → Cls X.K (L.cls c) ∧ Meth X.K (L.cls c) m (L.fa f) ∧ FnX X L G j f) {pl : Sem Bool} {pins : List (Addr × Obj)} {s : Shared} (I : Inv X pins σ H s)
    (ht : eval (.Call (.Attribute a m apos) es [] pos) X.env = (do
      let ov ← eval a X.env
      standAt apos.atName
      let (f, first) ← holding [ov] (getMethod ov m pl)
      callWith pos f first (backTo pos (starEach es X.env)) (backToKw pos (keywordEach [] X.env)))) (h : tE L B G (.meth k a' es') σ H Q)
    (hA : ∀ s1 H1 (W : List V → Hp → Prop) f y, Inv X pins σ H1 s1 → tEs L B G es' σ H1 W → PySem.W.keepIn X.K (.ref f) = true → (∀ vs H2 us s2, Inv X pins σ H2 s2 → Vals vs us → W vs H2 → wpAny (model X.prog X.w) X.A (call (.ref f) ([.ref y] ++ us)) (EP X pins σ Q) X.xe s2) →
      wpAny (model X.prog X.w) X.A (callWith pos (.ref f) [.ref y] (backTo pos (starEach es X.env)) (backToKw pos (keywordEach [] X.env))) (EP X pins σ Q) X.xe s1) :
    wpAny (model X.prog X.w) X.A (eval (.Call (.Attribute a m apos) es [] pos) X.env) (EP X pins σ Q) X.xe s := by
  obtain ⟨ρ, Z, rv, ρ', S, e, q⟩ := h
  refine methcall_of (pl := pl) he I ?_ ht
  simp only [ev] at e
  obtain ⟨⟨r1, ρ1⟩, e1, e⟩ := obE e
  refine ⟨ρ, Z, r1, ρ1, S, e1, fun x Z1 H1 S1 g1 k1 => ?_⟩
  cases hd : rd ρ1 r1 with
  | none => simp only [hd] at e; cases e
  | some d =>
    simp only [hd] at e
    cases d <;> first | cases e; done | skip
    rename_i c fs
    obtain ⟨⟨rs, ρ2⟩, e2, e⟩ := obE e
    obtain ⟨f, ef, e⟩ := obE e
    obtain ⟨hc, hm, F⟩ := hM c f ef
    obtain ⟨y, dx, fV, rfl, hy, rr⟩ := (k1.rd S1 hd).obE
    refine ⟨y, L.cls c, dx, fV, L.fa f, rfl, hy, hc, hm, RepO.none hx rr, fun s1 I1 => ?_⟩
    have hn := callD_len e
    obtain ⟨dvs, ds, hv, hb, hdv⟩ := F.bnd _ hn
    refine hA s1 H1 (fun vs H2 => ∃ Z2, SI L B ρ2 σ Z2 H2 ∧ Gr ρ1 ρ2 σ Z1 H1 Z2 H2 ∧ RvsOk L H1 ρ2 σ Z2 H2 rs vs ∧ (newsOf rs vs).Nodup) (L.fa f) y I1 ⟨ρ1, Z1, rs, ρ2, S1, e2, fun vs Z2 H2 S2 g2 k2 nd => ⟨Z2, S2, g2, k2, nd⟩⟩ hm.kp
      fun vs H2 us s2 I2 r2 ⟨Z2, S2, g2, k2, nd⟩ => ?_
    refine run_fn (us := .ref y :: us) (vs := .ref y :: vs) F.ok hr hb hv pass0 I2 (.cons rfl r2) ?_
    refine call_k (rs := r1 :: rs) (vs := .ref y :: vs) (d := .non) S2 (g1.trans g2) S.b8 ⟨.ref y, vs, rfl, k1.mono g2, k2.start g1.there⟩ ?_ hdv e q
    show (newA r1 (.ref y) ++ newsOf rs vs).Nodup
    rw [List.nodup_append]
    exact ⟨newA_nodup _ _, nd, fun x hx y' hy' e => by
      subst e
      exact (newA_fresh k1 hx).2 (news_fresh k2 hy')⟩
theorem c_meth {j k : Nat} {m : Str} (he : PE X a (tE L B G a')) (hs : (b :: es).any isStar = false) (ha : PA X (b :: es) (tEs L B G es')) (hr : Room j X.A) (hx : ∀ i, L.fld i ≠ some m)
    (hM : ∀ c f, G.meth c k = some f → Cls X.K (L.cls c) ∧ Meth X.K (L.cls c) m (L.fa f) ∧ FnX X L G j f) {pl : Sem Bool}
    (ht : eval (.Call (.Attribute a m apos) (b :: es) [] pos) X.env = (do
      let ov ← eval a X.env
      standAt apos.atName
      let (f, first) ← holding [ov] (getMethod ov m pl)
      callWith pos f first (backTo pos (starEach (b :: es) X.env)) (backToKw pos (keywordEach [] X.env)))) :
    PE X (.Call (.Attribute a m apos) (b :: es) [] pos) (tE L B G (.meth k a' es')) := by
  have h1 : isStar b = false := by rw [List.any_cons, Bool.or_eq_false_iff] at hs; exact hs.1
  have h2 : es.any isStar = false := by rw [List.any_cons, Bool.or_eq_false_iff] at hs; exact hs.2
  exact ⟨fun pins s σ H Q I h => meth_core (pl := pl) he hr hx hM I ht h fun s1 H1 W f y I1 hW kp run =>
    PySem.W.callWith_K (first := [.ref y]) (h₀ := X.base) I1.ok.mod.kin kp (thn (ha.run pos pins s1 σ H1 _ I1 hW) fun us s2 ⟨vs, H2, I2, r, w⟩ => ⟨I2.kIn, run vs H2 us s2 I2 r w⟩) (star_cons h1) (star_plain h2)⟩
theorem c_meth0 {j k : Nat} {m : Str} (he : PE X a (tE L B G a')) (hr : Room j X.A) (hx : ∀ i, L.fld i ≠ some m)
    (hM : ∀ c f, G.meth c k = some f → Cls X.K (L.cls c) ∧ Meth X.K (L.cls c) m (L.fa f) ∧ FnX X L G j f) {pl : Sem Bool}
    (ht : eval (.Call (.Attribute a m apos) [] [] pos) X.env = (do
      let ov ← eval a X.env
      standAt apos.atName
      let (f, first) ← holding [ov] (getMethod ov m pl)
      callWith pos f first (backTo pos (starEach [] X.env)) (backToKw pos (keywordEach [] X.env)))) :
    PE X (.Call (.Attribute a m apos) [] [] pos) (tE L B G (.meth k a' .nil)) :=
  ⟨fun pins s σ H Q I h => meth_core (pl := pl) he hr hx hM I ht h fun s1 H1 W f y I1 hW kp run => by
    refine PySem.W.callWith_K0 (first := [.ref y]) I1.kIn kp (run [] H1 [] s1 I1 .nil ?_)
    obtain ⟨ρ, Z, rs, ρ1, S, e, q⟩ := hW
    simp only [evs] at e
    cases e
    exact q [] Z H1 S Gr.refl rfl List.nodup_nil⟩
/-! ### C(..) -/
theorem initD_ok {f c : Nat} {Q : VK} {dvs : List V} {E : XK} {rv : Rv} {x dx : Addr} (S : SI L B ρ1 σ Z H) (g0 : Gr ρ0 ρ1 σ Z0 Hs Z H) (hs : ∀ a, B.H0 a ≠ none → Hs a ≠ none) (R : RvsOk L Hs ρ1 σ Z H rs vs) (nd : (newsOf rs vs).Nodup)
    (hd : ∀ Z, RepL L Z ((G.fi f).dfl.drop (rs.length + 1 + (G.fi f).dfl.length - (G.fi f).pm.length)) dvs) (e : initD G f (.ob c []) rs ρ1 = some (rv, ρ')) (q : ∀ v Z' H', SI L B ρ' σ Z' H' → Gr ρ0 ρ' σ Z0 Hs Z' H' → RvOk L Hs ρ' σ Z' H' rv v → Q v H')
    (hx : H x = none) (hdx : H dx = none) (ne : dx ≠ x) :
    spR L (G.fi f).ro (G.fi f).pm (G.call f) (.ref x :: (vs ++ dvs)) (upd (upd H dx (.own x)) x (.ins (L.cls c) dx [])) (fun v H2 => v = .non ∧ Q (.ref x) H2) E := by
  unfold initD at e
  split at e
  case isFalse => cases e
  case isTrue hpm =>
    obtain ⟨⟨d, os, ρ2⟩, e1, e⟩ := obE e
    have hx1 : (upd H dx (.own x)) x = none := by rw [upd_ne (Ne.symm ne)]; exact hx
    have S1 := (S.alloc (o := .own x) hdx).alloc (o := .ins (L.cls c) dx []) hx1
    have ga : Gr ρ1 ρ1 σ Z H Z (upd (upd H dx (.own x)) x (.ins (L.cls c) dx [])) := (Gr.alloc hdx).trans (Gr.alloc hx1)
    have g1 := g0.trans ga
    have hsx : Hs x = none := by
      cases h : Hs x with
      | none => rfl
      | some y => exact absurd hx (g0.there x (by rw [h]; exact fun z => nomatch z))
    have rt : Root L Z (upd (upd H dx (.own x)) x (.ins (L.cls c) dx [])) (.ob c []) x := ⟨dx, [], upd_same, by simp only [RepO]⟩
    have R1 : RvsOk L Hs ρ1 σ Z (upd (upd H dx (.own x)) x (.ins (L.cls c) dx [])) (rs ++ defaults (G.fi f) (rs.length + 1)) (vs ++ dvs) := (RvsOk.mono ga R).app (hd Z)
    have nx : x ∉ newsOf rs vs := fun m => by
      obtain ⟨r, v, _, k, m⟩ := news_mem R m
      exact (newA_fresh k m).2 hx
    have nd1 : (newsOf (.new (.ob c []) :: (rs ++ defaults (G.fi f) (rs.length + 1))) (.ref x :: (vs ++ dvs))).Nodup := by
      show ([x] ++ newsOf (rs ++ defaults (G.fi f) (rs.length + 1)) (vs ++ dvs)).Nodup
      unfold defaults
      rw [news_app R.at_.1]
      exact List.nodup_cons.mpr ⟨nx, nd⟩
    have ux : ¬ us ρ1 σ x := S.us_ne hx
    obtain ⟨hl, Z1, ds, sub, A, ec, back⟩ := call_core (rs := .new (.ob c []) :: (rs ++ defaults (G.fi f) (rs.length + 1))) (vs := .ref x :: (vs ++ dvs)) S1 hs g1 ⟨.ref x, vs ++ dvs, rfl, ⟨x, rfl, S.z_none hx, rt, ux, hsx⟩, R1⟩ nd1 e1
    refine ⟨hl, Z1, ds, d, os, sub, A, ec, fun v Z' H' T => ?_⟩
    obtain ⟨a1, a2, a3, a4⟩ := back v Z' H' T
    cases d <;> first | cases e; done | skip
    cases os with
    | nil => cases e
    | cons d1 os =>
      cases e
      have hv : v = .non := by
        have := T.val (.inr rfl)
        simpa only [Rep] using this
      refine ⟨hv, q _ Z' H' a1 a2 ?_⟩
      obtain ⟨pm', hpm'⟩ : ∃ pm', (G.fi f).pm = .I :: pm' := by
        cases h : (G.fi f).pm with
        | nil => rw [h] at hpm; cases hpm
        | cons m pm' =>
          rw [h] at hpm
          have : m = .I := by simpa using hpm
          exact ⟨pm', by rw [this]⟩
      have To := T.outs
      rw [hpm'] at To
      obtain ⟨d', t, ee, ⟨y, ey, ry, zy⟩, _⟩ := To
      cases ee
      cases ey
      exact ⟨x, rfl, zy, ry, fun h => ux (a4 x h), hsx⟩
theorem initD_len {f : Nat} {d0 : D} {rv : Rv} (e : initD G f d0 rs ρ = some (rv, ρ')) : rs.length + 1 + ((G.fi f).dfl.drop (rs.length + 1 + (G.fi f).dfl.length - (G.fi f).pm.length)).length = (G.fi f).pm.length := by
  unfold initD doCall at e
  split at e
  case isFalse => cases e
  case isTrue =>
    obtain ⟨⟨d, os, ρ2⟩, e1, _⟩ := obE e
    obtain ⟨ρ3, e2, _⟩ := obE e1
    have := frzA_len e2
    unfold defaults at this
    rw [List.length_cons, List.length_append, List.length_map] at this
    omega
theorem c_mk {j c f : Nat} {x : Str} (hi : G.init c = some f) (M : Mk X.K (L.cls c) (L.fa f)) (F : FnX X L G j f) (hr : Room (j + 1) X.A) (hg : Gl X x) (hm : X.mg x = some (.ref (L.cls c))) (hdb : (x == ("__debug__" : Str)) = false) (hs : (a :: es).any isStar = false) (ha : PA X (a :: es) (tEs L B G es')) :
    PE X (.Call (.Name x p) (a :: es) [] pos) (tE L B G (.mk c es')) := by
  have h1 : isStar a = false := by rw [List.any_cons, Bool.or_eq_false_iff] at hs; exact hs.1
  have h2 : es.any isStar = false := by rw [List.any_cons, Bool.or_eq_false_iff] at hs; exact hs.2
  by_cases hn : es'.len + 1 + ((G.fi f).dfl.drop (es'.len + 1 + (G.fi f).dfl.length - (G.fi f).pm.length)).length = (G.fi f).pm.length
  · obtain ⟨dvs, ds, hv, hb, hd⟩ := F.bnd (es'.len + 1) hn
    refine pe_imp (pe_make M F.ok hr hg hm hb hv pass0 ha hdb (star_cons h1) (star_plain h2)) fun σ H Q ⟨ρ, Z, rv, ρ', S, e, q⟩ => ?_
    simp only [ev] at e
    obtain ⟨⟨rs, ρ1⟩, e1, e⟩ := obE e
    rw [hi] at e
    have el := evs_len e1
    exact ⟨ρ, Z, rs, ρ1, S, e1, fun vs Z1 H1 S1 g1 k1 nd x dx hx hdx ne => initD_ok S1 g1 S.b8 k1 nd (by rw [el]; exact hd) e q hx hdx ne⟩
  · refine pe_no fun σ H Q ⟨ρ, Z, rv, ρ', S, e, q⟩ => ?_
    simp only [ev] at e
    obtain ⟨⟨rs, ρ1⟩, e1, e⟩ := obE e
    rw [hi] at e
    have el := evs_len e1
    have := initD_len e
    rw [el] at this
    exact hn this
theorem c_mk0 {j c f : Nat} {x : Str} (hi : G.init c = some f) (M : Mk X.K (L.cls c) (L.fa f)) (F : FnX X L G j f) (hr : Room (j + 1) X.A) (hg : Gl X x) (hm : X.mg x = some (.ref (L.cls c))) (hdb : (x == ("__debug__" : Str)) = false) :
    PE X (.Call (.Name x p) [] [] pos) (tE L B G (.mk c .nil)) := by
  by_cases hn : 0 + 1 + ((G.fi f).dfl.drop (0 + 1 + (G.fi f).dfl.length - (G.fi f).pm.length)).length = (G.fi f).pm.length
  · obtain ⟨dvs, ds, hv, hb, hd⟩ := F.bnd (0 + 1) hn
    refine pe_imp (pe_make0 M F.ok hr hg hm hb hv pass0 hdb) fun σ H Q ⟨ρ, Z, rv, ρ', S, e, q⟩ => ?_
    simp only [ev, evs] at e
    rw [hi] at e
    exact fun x dx hx hdx ne => initD_ok (rs := []) (vs := []) S Gr.refl S.b8 rfl List.nodup_nil hd e q hx hdx ne
  · refine pe_no fun σ H Q ⟨ρ, Z, rv, ρ', S, e, q⟩ => ?_
    simp only [ev, evs] at e
    have e' : (match G.init c with | some f => initD G f (.ob c []) [] ρ | none => _) = some (rv, ρ') := e
    rw [hi] at e'
    exact hn (initD_len (rs := []) e')
end
end Pi
/-! isinstance; is as a test; tests of any kind -/
namespace Pi
open PySem PySem.Spec PyProof.Rows L2
/-- the forms that a test takes apart -/
def special : Expr → Bool
  | .UnaryOp .Not _ _ => true
  | .BoolOp _ _ _ => true
  | .IfExp _ _ _ _ => true
  | .Compare _ _ _ _ => true
  | _ => false
theorem tru_plain {e : Expr} {env : Env} (h : special e = false) : ∀ whole, isTrue e env whole = (do let v ← whole; standAt e.pos; holding [v] (truthy v)) := by
  intro whole
  cases e with
  | UnaryOp op a p => cases op <;> first | rfl | cases h
  | BoolOp _ _ _ => cases h
  | IfExp _ _ _ _ => cases h
  | Compare _ _ _ _ => cases h
  | _ => rfl
section
variable {L : Lk} {B : Ba} {G : Gs} {X : Cx} {a b c : Expr} {a' b' c' : Ex} {es : List Expr} {es' : Exs} {pos p p2 apos : Pos} {σ : Sg} {H Z : Hp} {ρ ρ1 ρ2 : En} {r1 r2 : Rv} {j : Nat} {k0 : Bool}
theorem c_isNT (ha : PE X a (tE L B G a')) : PT X (.Compare a [.Is] [.Constant .none j p2] pos) (tT L B G (.isC false .non a')) :=
  pt_imp (pt_cmpR op_isN ha pe_non (nomark _)) fun σ H Q ⟨ρ, Z, rv, ρ', b, S, e, eb, q⟩ => by
    simp only [ev] at e
    obtain ⟨⟨r1, ρ1⟩, e1, e⟩ := obE e
    obtain ⟨x, ex, e⟩ := obE e
    obtain ⟨k, er, e⟩ := omE e
    cases e
    cases eb
    exact ⟨ρ, Z, r1, ρ1, S, e1, fun v Z1 H1 S1 g1 k1 => ⟨rfl, _, rfl, by rw [non_is (k1.rd S1 ex) er]; have := q Z1 H1 S1 g1; cases k <;> exact this⟩⟩
theorem c_isNnT (ha : PE X a (tE L B G a')) : PT X (.Compare a [.IsNot] [.Constant .none j p2] pos) (tT L B G (.isC true .non a')) :=
  pt_imp (pt_cmpR op_notN ha pe_non (nomark _)) fun σ H Q ⟨ρ, Z, rv, ρ', b, S, e, eb, q⟩ => by
    simp only [ev] at e
    obtain ⟨⟨r1, ρ1⟩, e1, e⟩ := obE e
    obtain ⟨x, ex, e⟩ := obE e
    obtain ⟨k, er, e⟩ := omE e
    cases e
    cases eb
    exact ⟨ρ, Z, r1, ρ1, S, e1, fun v Z1 H1 S1 g1 k1 => ⟨rfl, _, rfl, by rw [non_is (k1.rd S1 ex) er]; have := q Z1 H1 S1 g1; cases k <;> exact this⟩⟩
theorem c_isBT (ha : PE X a (tE L B G a')) : PT X (.Compare a [.Is] [.Constant (.bool k0) j p2] pos) (tT L B G (.isC false (.bl k0) a')) :=
  pt_imp (pt_cmpR op_isBl ha pe_bl (nomark _)) fun σ H Q ⟨ρ, Z, rv, ρ', b, S, e, eb, q⟩ => by
    simp only [ev] at e
    obtain ⟨⟨r1, ρ1⟩, e1, e⟩ := obE e
    obtain ⟨x, ex, e⟩ := obE e
    obtain ⟨k, er, e⟩ := omE e
    cases e
    cases eb
    refine ⟨ρ, Z, r1, ρ1, S, e1, fun v Z1 H1 S1 g1 k1 => ?_⟩
    obtain ⟨c, ec, ek⟩ := bl_is (k1.rd S1 ex) er
    exact ⟨c, k0, ec, rfl, _, rfl, by rw [ek] at q; have := q Z1 H1 S1 g1; revert this; cases decide (c = k0) <;> exact id⟩
theorem c_isBnT (ha : PE X a (tE L B G a')) : PT X (.Compare a [.IsNot] [.Constant (.bool k0) j p2] pos) (tT L B G (.isC true (.bl k0) a')) :=
  pt_imp (pt_cmpR op_notBl ha pe_bl (nomark _)) fun σ H Q ⟨ρ, Z, rv, ρ', b, S, e, eb, q⟩ => by
    simp only [ev] at e
    obtain ⟨⟨r1, ρ1⟩, e1, e⟩ := obE e
    obtain ⟨x, ex, e⟩ := obE e
    obtain ⟨k, er, e⟩ := omE e
    cases e
    cases eb
    refine ⟨ρ, Z, r1, ρ1, S, e1, fun v Z1 H1 S1 g1 k1 => ?_⟩
    obtain ⟨c, ec, ek⟩ := bl_is (k1.rd S1 ex) er
    exact ⟨c, k0, ec, rfl, _, rfl, by rw [ek] at q; have := q Z1 H1 S1 g1; revert this; cases decide (c = k0) <;> exact id⟩
/-! ### isinstance -/
/-- the type of a tree -/
def D.tyv (L : Lk) : D → Value
  | .non => .type "NoneType"
  | .bl _ => .type "bool"
  | .int _ => .type "int"
  | .str _ => .type "str"
  | .tup _ => .type "tuple"
  | .lst _ => .type "list"
  | .dic _ => .type "dict"
  | .ob c _ => .ref (L.cls c)
  | .scr _ => .type "list"
def Ty.v (L : Lk) : Ty → Value
  | .str => .type "str"
  | .int => .type "int"
  | .bool => .type "bool"
  | .tuple => .type "tuple"
  | .list => .type "list"
  | .dict => .type "dict"
  | .cls c => .ref (L.cls c)
def tyNames : List String := ["str", "int", "bool", "tuple", "list", "dict"]
/-- what isinstance asks of the classes -/
structure IsiF (L : Lk) (G : Gs) (cl : Nat → Prop) : Prop where
  ins : ∀ c, G.ok c = true → Cls L.K (L.cls c) ∧ PySem.W.findIn L.K (.ref (L.cls c)) "__class__" = some (some (.builtin "object.__class__")) ∧ PySem.W.specialIn L.K (.builtin "object.__class__") "__get__" = some (some (.builtin "getset_descriptor.__get__")) ∧
    PySem.W.takesIn L.K (.builtin "object.__class__") = some true ∧ PySem.W.mroIn L.K (L.cls c) (.type "object") = some true
  toB : ∀ c n, G.ok c = true → n ∈ tyNames → PySem.W.kitOne L.K (.ref (L.cls c)) (.type n) = some false
  toC : ∀ c n, cl c → n ∈ "NoneType" :: tyNames → PySem.W.kitOne L.K (.type n) (.ref (L.cls c)) = some false
  toS : ∀ c c', G.ok c = true → cl c' → PySem.W.kitOne L.K (.ref (L.cls c)) (.ref (L.cls c')) = some (G.sub c c')
theorem tyx_of {cl : Nat → Prop} (F : IsiF L G cl) {d : D} {v : V} (h : RB L Z H d v) (s : Sub Z H) (ok : isiOk G.ok d = true) : TyX L.K H v (d.tyv L) := by
  cases d with
  | non => cases h.nonE; exact .base .non
  | bl b => cases h.blE; exact .base (.bl b)
  | int i => cases h.intE; exact .base (.int i)
  | str x => cases h.strE; exact .base (.str _)
  | tup xs =>
    obtain ⟨a, vs, rfl, hq, _⟩ := h.tupE
    rcases SqT.sub s hq with (h | ⟨o, h⟩) | ⟨o, its, n, e1, e2, _⟩
    · exact .base (.tup h)
    · exact .fTuple h
    · exact .kTuple e1 e2
  | lst xs => obtain ⟨a, vs, rfl, h, _⟩ := h.lstE; exact .base (.lst h)
  | dic xs => obtain ⟨a, vs, rfl, h, _⟩ := h.dicE; exact .base (.dK h)
  | ob c fs =>
    obtain ⟨a, dx, vs, rfl, h, _⟩ := h.obE
    obtain ⟨h1, h2, h3, h4, h5⟩ := F.ins c ok
    exact .base (.ins h h1 h2 h3 h4 h5)
  | scr xs => cases ok
theorem kit_of_ty {cl : Nat → Prop} (F : IsiF L G cl) {d : D} {t : Ty} (ok : isiOk G.ok d = true) (ht : ∀ c, t = .cls c → cl c) : PySem.W.kitOne L.K (d.tyv L) (t.v L) = some (Ty.has G.sub t d) := by
  cases t with
  | cls c =>
    have hc := ht c rfl
    cases d with
    | ob k fs => exact F.toS k c ok hc
    | scr xs => cases ok
    | _ => exact F.toC c _ hc (by decide)
  | _ =>
    cases d with
    | ob k fs => exact F.toB k _ ok (by decide)
    | scr xs => cases ok
    | _ => first | exact kit_ty (show kitB _ _ = some true by decide +kernel) | exact kit_ty (show kitB _ _ = some false by decide +kernel)
def ClsVE (X : Cx) (c : Expr) (v : V) (u : Value) : Prop := ClsV v u ∧ PE X c (tC v)
theorem c_isi {cl : Nat → Prop} {t : Ty} {v : V} (hK : X.K = L.K) (F : IsiF L G cl) (ht : ∀ c, t = .cls c → cl c) (hg : Gl X "isinstance") (hm : X.mg "isinstance" = none) (hs : isStar a = false) (hs2 : isStar c = false) (hv : ClsV v (t.v L)) (hc : PE X c (tC v)) (ha : PE X a (tE L B G a')) :
    PE X (.Call (.Name "isinstance" p) [a, c] [] pos) (tE L B G (.isi a' [t])) := by
  refine pe_imp (pe_callB call_isi hg hm (by decide +kernel) (pa_cons ha (pa_cons hc pa_nil (star_cons hs2)) (star_cons hs)) (by decide) (by decide) (star_cons hs) (star_plain (by simp [hs2]))) fun σ H Q ⟨ρ, Z, rv, ρ', S, e, q⟩ => ?_
  simp only [ev] at e
  obtain ⟨⟨r1, ρ1⟩, e1, e⟩ := obE e
  obtain ⟨d, ed, e⟩ := obE e
  split at e
  case isFalse => cases e
  case isTrue ok =>
    cases e
    refine ⟨ρ, Z, r1, ρ1, S, e1, fun x Z1 H1 S1 g1 k1 => ⟨x, v, d.tyv L, _, _, rfl, hv, ?_, ?_, fin S1 g1 (.here rep_bl) q⟩⟩
    · rw [hK]; exact tyx_of F (k1.rd S1 ed) S1.sub ok
    · rw [hK, kit_of_ty F ok ht]
      simp
/-! ### methods of texts -/
def rBm (L : Lk) (m : Bm) : V → List V → Hp → VK → Prop := fun x xs H Q => ∃ Z d ds r, Sub Z H ∧ RB L Z H d x ∧ RBs L Z H ds xs ∧ Pi.bm m d ds = some r ∧ ∀ v H', Res L Z H r v H' → Q v H'
theorem spl_map (S : Tx) : ∀ (l : Tx) (k : Nat) (acc : Tx), (splT S k acc l).map (List.map Fin.val) = TL.spl (S.map Fin.val) k (acc.map Fin.val) (l.map Fin.val)
  | [], k, acc => by cases k <;> rfl
  | c :: r, 0, acc => by
    have hp : TL.pre (S.map Fin.val) ((c :: r).map Fin.val) = preT S (c :: r) := by
      unfold TL.pre preT
      rw [List.length_map, ← List.map_take, Bool.eq_iff_iff, beq_iff_eq, beq_iff_eq]
      exact ⟨fun h => List.map_inj_right (fun a b h => Fin.ext h) |>.mp h, fun h => by rw [h]⟩
    show (if preT S (c :: r) = true then acc :: splT S (S.length - 1) [] r else splT S 0 (acc ++ [c]) r).map _ = (if TL.pre (S.map Fin.val) ((c :: r).map Fin.val) = true then acc.map Fin.val :: TL.spl (S.map Fin.val) ((S.map Fin.val).length - 1) [] (r.map Fin.val) else TL.spl (S.map Fin.val) 0 (acc.map Fin.val ++ [c.val]) (r.map Fin.val))
    rw [hp, List.length_map]
    split
    · rw [List.map_cons, spl_map S r (S.length - 1) []]
      rfl
    · rw [spl_map S r 0 (acc ++ [c]), List.map_append]
      rfl
  | c :: r, k + 1, acc => spl_map S r k acc
theorem join_map (S : Tx) : ∀ l : List Tx, (joinT S l).map Fin.val = TL.joinL (S.map Fin.val) (l.map (List.map Fin.val))
  | [] => rfl
  | [p] => rfl
  | p :: q :: r => by
    show (p ++ (S ++ joinT S (q :: r))).map _ = p.map Fin.val ++ (S.map Fin.val ++ TL.joinL (S.map Fin.val) ((q :: r).map (List.map Fin.val)))
    rw [List.map_append, List.map_append, join_map S (q :: r)]
theorem m_split : MtR X "str.split" (rBm L .split) := by
  intro pins s σ H x xs v us Q I rx rs ⟨Z, d, ds, r, sub, hx, hxs, e, q⟩
  cases d <;> first | (cases e; done) | skip
  rename_i t
  rcases ds with _ | ⟨y, _ | ⟨_, _⟩⟩
  · cases e
  · cases y <;> first | (cases e; done) | skip
    rename_i sep
    have e : (if sep ≠ [] ∧ (sep.all fun c => decide (c.val < 128)) = true ∧ t.length + 2 ≤ SL then some (Rv.new (.lst ((splT sep 0 [] t).map .str))) else none) = some r := e
    split at e
    case isFalse => cases e
    case isTrue hc =>
      obtain ⟨h1, h2, h3⟩ := hc
      cases e
      obtain ⟨z, rfl, hz⟩ := hxs.one
      have ex := hx.strE
      have ez := hz.strE
      subst ex ez
      have hl : t.length + 2 ≤ sizeLine := by rw [← SL_line]; exact h3
      have hne : ((tx sep).length == 0) = false := by
        rw [tx_length]
        cases sep with
        | nil => exact absurd rfl h1
        | cons _ _ => rfl
      have hsp : Txt.split (tx t) (tx sep) = (splT sep 0 [] t).map tx := by
        have hk : (sep.map Fin.val).all (· < 256) = true := by
          rw [List.all_map]
          refine List.all_eq_true.mpr fun c hc => ?_
          have := of_decide_eq_true (List.all_eq_true.mp h2 c hc)
          exact decide_eq_true (by show c.val < 256; omega)
        have := SX.split_S (a := t.map Fin.val) (b := sep.map Fin.val) (fun q => h1 (List.map_eq_nil_iff.mp q)) hk
        show Txt.split (SX.S (t.map Fin.val)) (SX.S (sep.map Fin.val)) = _
        rw [this]
        have e2 := spl_map sep t 0 []
        have e3 : TL.spl (sep.map Fin.val) 0 [] (t.map Fin.val) = (splT sep 0 [] t).map (List.map Fin.val) := e2.symm
        rw [e3, List.map_map]
        rfl
      refine mt_split pins s σ H _ _ v us Q I rx rs ⟨tx t, tx sep, rfl, rfl, hne, by rw [tx_length]; exact hl, fun p hp => ?_⟩
      rw [hsp, List.map_map]
      exact q _ _ (.mk hp ⟨_, upd_same, RepL.strs (splT sep 0 [] t)⟩)
  · cases y <;> cases e
theorem strs_vs : ∀ {xs : List D} {ys : List Tx} {vs : List V}, RepL L Z xs vs → strsOf xs = some ys → vs = (ys.map tx).map V.str
  | [], ys, vs, h, e => by cases e; exact h.nilE
  | d :: xs, ys, vs, h, e => by
    obtain ⟨v, r, rfl, q, t⟩ := h.consE
    cases d <;> first | (cases e; done) | skip
    rename_i u
    obtain ⟨ys', e1, e2⟩ := omE (show (strsOf xs).map (u :: ·) = some ys from e)
    subst e2
    have hv : v = V.str (tx u) := by simpa only [Rep] using q
    rw [strs_vs t e1, List.map_cons, List.map_cons, hv]
theorem m_join (hK : X.K = L.K) : MtR X "str.join" (rBm L .join) := by
  intro pins s σ H x xs v us Q I rx rs ⟨Z, d, ds, r, sub, hx, hxs, e, q⟩
  have main : ∀ (sep : Tx) (ys : List Tx) (p : Addr), d = .str sep → xs = [.ref p] → (SqL X.K H p ((ys.map tx).map V.str) ∨ SqT X.K H p ((ys.map tx).map V.str)) → (if (ys.map List.length).sum + ys.length * sep.length ≤ SL then some (Rv.val (.str (joinT sep ys))) else none) = some r → wpAny (model X.prog X.w) X.A (call (.builtin "str.join") (v :: us)) (EP X pins σ Q) X.xe s := fun sep ys p hd hxs hq em => by
    subst hd
    split at em
    case isFalse => cases em
    case isTrue hl =>
      cases em
      have ex := hx.strE
      subst ex hxs
      refine mt_join pins s σ H _ _ v us Q I rx rs ⟨tx sep, p, ys.map tx, rfl, rfl, hq, ?_, ?_⟩
      · rw [List.map_map, List.length_map, tx_length]
        have : (ys.map ((fun x : Str => x.length) ∘ tx)) = ys.map List.length := List.map_congr_left fun y _ => tx_length y
        have e0 : List.map ((·.length) ∘ tx) ys = ys.map List.length := this
        rw [e0]
        exact hl
      · have e1 : Txt.join (tx sep) (ys.map tx) = tx (joinT sep ys) := by
          have := SX.join_S (sep.map Fin.val) (ys.map (List.map Fin.val))
          rw [List.map_map] at this
          have e2 : ys.map tx = ys.map (SX.S ∘ List.map Fin.val) := rfl
          show Txt.join (SX.S (sep.map Fin.val)) _ = _
          rw [e2, this, ← join_map]
          rfl
        rw [e1]
        exact q _ _ (.here (rep_str rfl))
  cases d <;> first | (cases e; done) | skip
  rename_i sep
  rcases ds with _ | ⟨y, _ | ⟨_, _⟩⟩
  · cases e
  · cases y <;> first | (cases e; done) | skip
    · rename_i zs
      obtain ⟨ys, e1, e⟩ := obE (show (strsOf zs).bind _ = some r from e)
      obtain ⟨z, rfl, hz⟩ := hxs.one
      obtain ⟨p, vs, rfl, hq, rr⟩ := hz.tupE
      refine main sep ys p rfl rfl (.inr ?_) e
      rw [hK, ← strs_vs rr e1]
      exact SqT.sub sub hq
    · rename_i zs
      obtain ⟨ys, e1, e⟩ := obE (show (strsOf zs).bind _ = some r from e)
      obtain ⟨z, rfl, hz⟩ := hxs.one
      obtain ⟨p, vs, rfl, hq, rr⟩ := hz.lstE
      refine main sep ys p rfl rfl (.inl ?_) e
      rw [hK, ← strs_vs rr e1]
      exact SqL.of hq
  · cases y <;> cases e
theorem c_bmS {n : Str} {id : String} {m : Bm} (hty0 : ∀ o, bmTy m o = true → ∃ t, o = some (.str t)) (slot : Slot "str" n id) (hty : typeOf (.builtin id) = pure (.type "method_descriptor")) (hm : MtR X id (rBm L m)) (ho : PE X a (tE L B G a')) (ha : PA X (b :: es) (tEs L B G es')) (hn : noSuper a = true) (hs : (b :: es).any isStar = false) (hline : (apos.endLine == pos.line) = true) (hlen : (b :: es).length < 29) :
    PE X (.Call (.Attribute a n apos) (b :: es) [] pos) (tE L B G (.bm m a' es')) := by
  have h1 : isStar b = false := by rw [List.any_cons, Bool.or_eq_false_iff] at hs; exact hs.1
  have h2 : es.any isStar = false := by rw [List.any_cons, Bool.or_eq_false_iff] at hs; exact hs.2
  have few : ((backTo pos (starEach (b :: es) X.env)).all (fun x => !x.1) && (backToKw pos (keywordEach [] X.env)).all (fun x => x.1.isSome)
      && decide ((b :: es).length + ([] : List Keyword).length + (if ([] : List Keyword).isEmpty then 0 else 1) < 30)) = true := by
    have e1 : (backTo pos (starEach (b :: es) X.env)).all (fun x => !x.1) = true := by
      have := star_plain (pos := pos) (env := X.env) hs
      rw [List.all_eq_not_any_not]
      simp only [Bool.not_not, this]
      rfl
    rw [e1]
    have e2 : (backToKw pos (keywordEach [] X.env)).all (fun x => x.1.isSome) = true := rfl
    rw [e2]
    simp only [Bool.true_and]
    exact decide_eq_true (by show (b :: es).length + 0 + 0 < 30; omega)
  refine pe_imp (pe_bm PySem.F.plainAttrs_str slot hty hm ho ha (super_off hn) few hline (star_cons h1) (star_plain h2)) fun σ H Q ⟨ρ, Z, rv, ρ', S, e, q⟩ => ?_
  simp only [ev] at e
  obtain ⟨⟨r1, ρ1⟩, e1, e⟩ := obE e
  split at e
  case isFalse => cases e
  case isTrue ht =>
    obtain ⟨t, et⟩ := hty0 _ ht
    obtain ⟨⟨rs, ρ2⟩, e2, e⟩ := obE e
    obtain ⟨d, e3, e⟩ := obE e
    obtain ⟨ds, e4, e⟩ := obE e
    obtain ⟨r, e5, e⟩ := omE e
    cases e
    refine ⟨ρ, Z, r1, ρ1, S, e1, fun x Z1 H1 S1 g1 k1 => ⟨?_, ρ1, Z1, rs, ρ2, S1, e2, fun vs Z2 H2 S2 g2 k2 _ => ⟨Z2, d, ds, _, S2.sub, (k1.mono g2).rd S2 e3, k2.rds S2 e4, e5, fun v H' R => fin S2 (g1.trans g2) R q⟩⟩⟩
    have := (k1.rd S1 et).strE
    subst this
    rfl
end
end Pi
/-! what is compiled runs as the row's own text: expressions -/
namespace Pi
open PySem PySem.Spec PyProof.Rows L2
/-- what the text's names are, in a body's context -/
structure Lnk (X : Cx) (L : Lk) (G : Gs) (T : Tb) (j : Nat) : Prop where
  K : X.K = L.K
  mg : X.mg = L.mg
  room : Room (j + 1) X.A
  calm : X.calm = true
  fl : ∀ i x, T.fl[i]? = some x → L.fld i = some x
  inj : ∀ i j x, L.fld i = some x → L.fld j = some x → i = j
  cls : ∀ c, G.ok c = true → Cls L.K (L.cls c)
  noat : ∀ c i x, G.ok c = true → L.fld i = some x → NoAttr L.K (L.cls c) x
  fn : ∀ x f, T.fn.lookup x = some f → L.mg x = some (.ref (L.fa f)) ∧ FnX X L G j f
  cl : ∀ x c, T.cl.lookup x = some c → L.mg x = some (.ref (L.cls c)) ∧ ∀ f, G.init c = some f → Mk X.K (L.cls c) (L.fa f) ∧ FnX X L G j f
  co : ∀ x d, T.co.lookup x = some d → ∃ u v, L.mg x = some u ∧ RelV v u ∧ ∀ Z, Rep L Z d v
  me : ∀ m k, T.me.lookup m = some k → (∀ i, L.fld i ≠ some m) ∧ ∀ c f, G.meth c k = some f → Cls X.K (L.cls c) ∧ Meth X.K (L.cls c) m (L.fa f) ∧ FnX X L G j f
  fr : ∀ x, T.fr.contains x = true → L.mg x = none
  isi : IsiF L G fun c => ∃ x, T.cl.lookup x = some c
/-- a body's block -/
structure Gx (X : Cx) (S : Sc) : Prop where
  N : X.N = S.N
  nd : S.N.Nodup
  sc : X.env.scope = S.sc
  as : ∀ x, S.as x = true → X.fn x = true ∨ X.env.scope.names.lookup x = some .local
def OkE (L : Lk) (B : Ba) (G : Gs) (X : Cx) (f : Expr → Option Ex) : Prop := ∀ e e', f e = some e' → PE X e (tE L B G e')
def OkT (L : Lk) (B : Ba) (G : Gs) (X : Cx) (f : Expr → Option Ex) : Prop := ∀ e e', f e = some e' → PT X e (tT L B G e')

section
variable {L : Lk} {B : Ba} {G : Gs} {X : Cx} {T : Tb} {S : Sc} {j : Nat} {f : Expr → Option Ex} {g : Sc → Expr → Option Ex} {a b c e : Expr} {e' : Ex} {es : List Expr} {es' : Exs} {pos p : Pos}
theorem Lnk.un (K : Lnk X L G T j) : X.A.units + 66 < cLine := by
  have := K.room.un
  omega
theorem Lnk.hr (K : Lnk X L G T j) : Room j X.A := K.room.mono (Nat.le_succ _)
theorem a_all (hf : OkE L B G X f) : ∀ {es : List Expr} {es' : Exs}, es.any isStar = false → cEs f es = some es' → PA X es (tEs L B G es')
  | [], es', hs, h => by cases h; exact a_nil
  | a :: es, es', hs, h => by
    rw [List.any_cons, Bool.or_eq_false_iff] at hs
    obtain ⟨a', h1, h⟩ := obE (show (f a).bind _ = some es' from h)
    obtain ⟨r', h2, h⟩ := omE h
    subst h
    exact a_cons hs.1 (hf _ _ h1) (a_all hf hs.2 h2)
theorem f_all (hf : OkE L B G X f) : ∀ {es : List Expr} {es' : Exs}, es.any isStar = false → cEs f es = some es' → PA X es (tFs L B G es')
  | [], es', hs, h => by cases h; exact f_nil
  | a :: es, es', hs, h => by
    rw [List.any_cons, Bool.or_eq_false_iff] at hs
    obtain ⟨a', h1, h⟩ := obE (show (f a).bind _ = some es' from h)
    obtain ⟨r', h2, h⟩ := omE h
    subst h
    exact f_cons hs.1 (hf _ _ h1) (f_all hf hs.2 h2)
theorem o_all (hf : OkE L B G X f) {o : Option Expr} (h : cO f o = some es') : PO X o (tO L B G es') := by
  cases o with
  | none => cases h; exact o_none
  | some a =>
    obtain ⟨a', h1, h⟩ := omE (show (f a).map _ = some es' from h)
    subst h
    exact o_some (hf _ _ h1)
theorem and_all (hf : OkE L B G X f) : ∀ {es : List Expr} {es' : Exs} {e' : Ex}, cEs f es = some es' → foldB true es' = some e' → PE X (.BoolOp .And es pos) (tE L B G e')
  | [], es', e', h, k => by cases h; cases k
  | [a], es', e', h, k => by
    obtain ⟨a', h1, h⟩ := obE (show (f a).bind _ = some es' from h)
    obtain ⟨r', h2, h⟩ := omE h
    cases h2
    subst h
    cases k
    exact pe_one (hf _ _ h1)
  | a :: b :: es, es', e', h, k => by
    obtain ⟨a', h1, h⟩ := obE (show (f a).bind _ = some es' from h)
    obtain ⟨r', h2, h⟩ := omE h
    subst h
    obtain ⟨b', h3, h4⟩ := obE (show (f b).bind _ = some r' from h2)
    obtain ⟨r2, h5, h4⟩ := omE h4
    obtain ⟨k', k1, k2⟩ := omE (show (foldB true r').map (fun b => Ex.and a' b) = some e' by rw [← h4] at k ⊢; exact k)
    subst k2
    exact c_and (hf _ _ h1) (and_all hf (es := b :: es) h2 k1)
theorem or_all (hf : OkE L B G X f) : ∀ {es : List Expr} {es' : Exs} {e' : Ex}, cEs f es = some es' → foldB false es' = some e' → PE X (.BoolOp .Or es pos) (tE L B G e')
  | [], es', e', h, k => by cases h; cases k
  | [a], es', e', h, k => by
    obtain ⟨a', h1, h⟩ := obE (show (f a).bind _ = some es' from h)
    obtain ⟨r', h2, h⟩ := omE h
    cases h2
    subst h
    cases k
    exact pe_one (hf _ _ h1)
  | a :: b :: es, es', e', h, k => by
    obtain ⟨a', h1, h⟩ := obE (show (f a).bind _ = some es' from h)
    obtain ⟨r', h2, h⟩ := omE h
    subst h
    obtain ⟨b', h3, h4⟩ := obE (show (f b).bind _ = some r' from h2)
    obtain ⟨r2, h5, h4⟩ := omE h4
    obtain ⟨k', k1, k2⟩ := omE (show (foldB false r').map (fun b => Ex.or a' b) = some e' by rw [← h4] at k ⊢; exact k)
    subst k2
    exact c_or (hf _ _ h1) (or_all hf (es := b :: es) h2 k1)
theorem and_allT (hf : OkT L B G X f) : ∀ {es : List Expr} {es' : Exs} {e' : Ex}, cEs f es = some es' → foldB true es' = some e' → PW X (.BoolOp .And es pos) (tT L B G e')
  | [], es', e', h, k => by cases h; cases k
  | [a], es', e', h, k => by
    obtain ⟨a', h1, h⟩ := obE (show (f a).bind _ = some es' from h)
    obtain ⟨r', h2, h⟩ := omE h
    cases h2
    subst h
    cases k
    exact pw_and1 (hf _ _ h1)
  | a :: b :: es, es', e', h, k => by
    obtain ⟨a', h1, h⟩ := obE (show (f a).bind _ = some es' from h)
    obtain ⟨r', h2, h⟩ := omE h
    subst h
    obtain ⟨b', h3, h4⟩ := obE (show (f b).bind _ = some r' from h2)
    obtain ⟨r2, h5, h4⟩ := omE h4
    obtain ⟨k', k1, k2⟩ := omE (show (foldB true r').map (fun b => Ex.and a' b) = some e' by rw [← h4] at k ⊢; exact k)
    subst k2
    exact c_andT (hf _ _ h1) (and_allT hf (es := b :: es) h2 k1)
theorem or_allT (hf : OkT L B G X f) : ∀ {es : List Expr} {es' : Exs} {e' : Ex}, cEs f es = some es' → foldB false es' = some e' → PW X (.BoolOp .Or es pos) (tT L B G e')
  | [], es', e', h, k => by cases h; cases k
  | [a], es', e', h, k => by
    obtain ⟨a', h1, h⟩ := obE (show (f a).bind _ = some es' from h)
    obtain ⟨r', h2, h⟩ := omE h
    cases h2
    subst h
    cases k
    exact pw_or1 (hf _ _ h1)
  | a :: b :: es, es', e', h, k => by
    obtain ⟨a', h1, h⟩ := obE (show (f a).bind _ = some es' from h)
    obtain ⟨r', h2, h⟩ := omE h
    subst h
    obtain ⟨b', h3, h4⟩ := obE (show (f b).bind _ = some r' from h2)
    obtain ⟨r2, h5, h4⟩ := omE h4
    obtain ⟨k', k1, k2⟩ := omE (show (foldB false r').map (fun b => Ex.or a' b) = some e' by rw [← h4] at k ⊢; exact k)
    subst k2
    exact c_orT (hf _ _ h1) (or_allT hf (es := b :: es) h2 k1)
theorem glB_ok (E : Gx X S) {x : Str} (h : glB S.sc x = true) : Gl X x := by
  show X.env.scope.names.lookup x = some .globalImplicit
  rw [E.sc]
  exact of_decide_eq_true h
theorem beq_ff {x y : Str} (h : (!(x == y)) = true) : (x == y) = false := by
  cases q : x == y with
  | true => rw [q] at h; cases h
  | false => rfl
theorem cVar_ok (E : Gx X S) {x : Str} {i : Nat} (h : cVar S x = some i) : PE X (.Name x p) (tVar i) ∧ PE X (.Name x p) (tE L B G (.var i)) := by
  unfold cVar at h
  split at h
  case isFalse => cases h
  case isTrue hv =>
    rw [Bool.and_eq_true] at hv
    obtain ⟨h1, h2⟩ := hv
    unfold okName at h2
    rw [Bool.and_eq_true] at h2
    have hN : X.N[i]? = some x := by
      rw [E.N]
      have := (ixOf_ok h).2
      simpa using this
    have hV : Vis X.env.scope x := by
      rw [E.sc]
      unfold visB at h1
      cases q : S.sc.names.lookup x with
      | none => rw [q] at h1; cases h1
      | some k =>
        rw [q] at h1
        cases k <;> first | exact .inl q | exact .inr (.inl q) | exact .inr (.inr q) | cases h1
    exact ⟨pe_var hN hV (beq_ff h2.1) (beq_ff h2.2), c_var hN hV (beq_ff h2.1) (beq_ff h2.2)⟩
theorem cName_ok (K : Lnk X L G T j) (E : Gx X S) {x : Str} (h : cName T S x = some e') : PE X (.Name x p) (tE L B G e') := by
  unfold cName at h
  split at h
  · rename_i i hi
    cases h
    exact (cVar_ok E hi).2
  · split at h
    case isFalse => cases h
    case isTrue hv =>
      rw [Bool.and_eq_true] at hv
      obtain ⟨d, hd, rfl⟩ := omE h
      obtain ⟨u, v, hm, r, rp⟩ := K.co x d hd
      exact c_const (pe_glob (glB_ok E hv.1) (by rw [K.mg]; exact hm) r (beq_ff hv.2)) rp
theorem constD_ok {c : Const} {d : D} {k : Nat} (h : constD c = some d) : PE X (.Constant c k p) (tE L B G (.con d)) := by
  cases c with
  | none => cases h; exact c_const pe_non fun Z => rep_non
  | bool b => cases h; exact c_const pe_bl fun Z => rep_bl
  | int i => cases h; exact c_const pe_int fun Z => rep_int
  | str s =>
    obtain ⟨t, ht, rfl⟩ := omE (show (strTx s.cps.toList).map D.str = some d from h)
    refine c_const pe_str fun Z => rep_str ?_
    obtain ⟨cps⟩ := s
    show Str.mk cps = tx t
    unfold tx
    rw [strTx_ok ht]
  | _ => cases h
theorem bop_ok (K : Lnk X L G T j) {op : Operator} {o : O2} (h : bop op = some o) : OpR X (binaryOp op) (rO L o) := by
  cases op <;> first | cases h; done | skip
  · cases h; exact o_add K.K
  · cases h; exact o_sub K.K
  · cases h; exact o_mul K.K
  · cases h; exact o_mod K.K
  · cases h; exact o_pow K.K
  · cases h; exact o_shr K.K
  · cases h; exact o_fdiv K.K
theorem cop_ok (K : Lnk X L G T j) {op : CmpOp} {o : O2} (h : cop op = some o) : OpR X (compareOp op) (rO L o) := by
  have hu := K.un
  cases op <;> first | cases h; done | skip
  · cases h; exact o_eq K.K (by omega)
  · cases h; exact o_ne K.K (by omega)
  · cases h; exact o_lt K.K
  · cases h; exact o_le K.K
  · cases h; exact o_gt K.K
  · cases h; exact o_ge K.K
  · cases h; exact o_in K.K hu
  · cases h; exact o_notin K.K hu
theorem mark_ok {op : CmpOp} (h : isSet b = false) : behindInMarks op b = false := by
  cases b <;> first | rfl | cases h
theorem marks_ok {op op' : CmpOp} (h : isSet c = false) : lastMarks [op, op'] [b, c] = false := by
  show behindInMarks op' c = false
  exact mark_ok h
theorem isD_ok {d : D} (h : isD b = some d) : (∃ k p, b = .Constant .none k p ∧ d = .non) ∨ ∃ b0 k p, b = .Constant (.bool b0) k p ∧ d = .bl b0 := by
  cases b with
  | Constant c k p => cases c <;> first | (cases h; exact .inl ⟨_, _, rfl, rfl⟩) | (cases h; exact .inr ⟨_, _, _, rfl, rfl⟩) | cases h
  | _ => cases h
theorem cCmp_ok (K : Lnk X L G T j) (hf : OkE L B G X f) {ops : List CmpOp} {cs : List Expr} (h : cCmp f a ops cs = some e') : PE X (.Compare a ops cs pos) (tE L B G e') ∧ PT X (.Compare a ops cs pos) (tT L B G e') := by
  unfold cCmp at h
  split at h
  · rename_i op b
    split at h
    · obtain ⟨d, hd, h⟩ := obE h
      obtain ⟨a', ha, rfl⟩ := omE h
      rcases isD_ok hd with ⟨k, p, rfl, rfl⟩ | ⟨b0, k, p, rfl, rfl⟩
      · exact ⟨c_isN (hf _ _ ha), c_isNT (hf _ _ ha)⟩
      · exact ⟨c_isB (hf _ _ ha), c_isBT (hf _ _ ha)⟩
    · obtain ⟨d, hd, h⟩ := obE h
      obtain ⟨a', ha, rfl⟩ := omE h
      rcases isD_ok hd with ⟨k, p, rfl, rfl⟩ | ⟨b0, k, p, rfl, rfl⟩
      · exact ⟨c_isNn (hf _ _ ha), c_isNnT (hf _ _ ha)⟩
      · exact ⟨c_isBn (hf _ _ ha), c_isBnT (hf _ _ ha)⟩
    · split at h
      case isTrue => cases h
      case isFalse hs =>
        have hs : isSet b = false := by simpa using hs
        obtain ⟨o, ho, h⟩ := obE h
        obtain ⟨a', ha, h⟩ := obE h
        obtain ⟨b', hb, rfl⟩ := omE h
        exact ⟨c_cmp (cop_ok K ho) (hf _ _ ha) (hf _ _ hb) (mark_ok hs), c_cmpT (cop_ok K ho) (hf _ _ ha) (hf _ _ hb) (mark_ok hs)⟩
  · rename_i op op' b c
    split at h
    case isTrue => cases h
    case isFalse hs =>
      have hs : isSet c = false := by simpa using hs
      obtain ⟨o, ho, h⟩ := obE h
      obtain ⟨o', ho', h⟩ := obE h
      obtain ⟨a', ha, h⟩ := obE h
      obtain ⟨b', hb, h⟩ := obE h
      obtain ⟨c', hc, rfl⟩ := omE h
      exact ⟨c_chain (cop_ok K ho) (cop_ok K ho') (hf _ _ ha) (hf _ _ hb) (hf _ _ hc) (marks_ok hs), c_chainT (cop_ok K ho) (cop_ok K ho') (hf _ _ ha) (hf _ _ hb) (hf _ _ hc) (marks_ok hs)⟩
  · cases h
theorem bi_ok (K : Lnk X L G T j) {x : Str} {k : Bi} (h : biOf x = some k) (hg : Gl X x) (hm : X.mg x = none) (hdb : (x == ("__debug__" : Str)) = false) (hs : (a :: es).any isStar = false) (ha : PA X (a :: es) (tEs L B G es')) :
    PE X (.Call (.Name x p) (a :: es) [] pos) (tE L B G (.bi k es')) := by
  unfold biOf at h
  split at h
  · rename_i e; subst e; cases h
    exact c_biB (b_len K.K) hg hm (by decide +kernel) (by decide) hdb hs ha
  split at h
  · rename_i e; subst e; cases h
    exact c_biT (b_int K.K) hg hm (by decide +kernel) (by decide) hdb hs ha
  split at h
  · rename_i e; subst e; cases h
    exact c_biT (b_tuple K.K) hg hm (by decide +kernel) (by decide) hdb hs ha
  split at h
  · rename_i e; subst e; cases h
    exact c_biT (b_list K.K) hg hm (by decide +kernel) (by decide) hdb hs ha
  split at h
  · rename_i e; subst e; cases h
    exact c_biB (b_all K.K K.calm) hg hm (by decide +kernel) (by decide) hdb hs ha
  split at h
  · rename_i e; subst e; cases h
    exact c_biB (b_any K.K K.calm) hg hm (by decide +kernel) (by decide) hdb hs ha
  split at h
  · rename_i e; subst e; cases h
    exact c_biB (b_min K.K K.calm) hg hm (by decide +kernel) (by decide) hdb hs ha
  split at h
  · rename_i e; subst e; cases h
    exact c_biB (b_max K.K K.calm) hg hm (by decide +kernel) (by decide) hdb hs ha
  · cases h
theorem ty_ok (K : Lnk X L G T j) (E : Gx X S) {t : Ty} (h : tyOf T S c = some t) : (∀ k, t = .cls k → ∃ x, T.cl.lookup x = some k) ∧ isStar c = false ∧ ∃ v, ClsV v (t.v L) ∧ PE X c (tC v) := by
  unfold tyOf at h
  split at h
  · rename_i x p
    split at h
    case isFalse => cases h
    case isTrue hg =>
      rw [Bool.and_eq_true] at hg
      have gl := glB_ok E hg.1
      have hdb := beq_ff hg.2
      split at h
      · rename_i k hk
        cases h
        refine ⟨fun k' e => by cases e; exact ⟨x, hk⟩, rfl, .ref (L.cls k), .own _, pe_glob gl (by rw [K.mg]; exact (K.cl x k hk).1) rfl hdb⟩
      · split at h
        case isFalse => cases h
        case isTrue hfr =>
          have hm : X.mg x = none := by rw [K.mg]; exact K.fr x hfr
          unfold tyB at h
          have tyC : ∀ {n : String} {u : Ty}, bootBuiltins x = some (.type n) → x ≠ "__name__" → u.v L = .type n → (∀ k, u ≠ .cls k) → t = u → (∀ k, t = .cls k → ∃ x, T.cl.lookup x = some k) ∧ isStar (.Name x p) = false ∧ ∃ v, ClsV v (t.v L) ∧ PE X (.Name x p) (tC v) := fun {n u} hb hn hv hk ht => by
            subst ht
            exact ⟨fun k e => absurd e (hk k), rfl, .ty n, by rw [hv]; exact .ty n, pe_bltn gl hm hb rfl hn hdb⟩
          split at h
          · rename_i e; subst e; cases h; exact tyC (u := .str) boot_str (by decide) rfl (fun _ q => nomatch q) rfl
          split at h
          · rename_i e; subst e; cases h; exact tyC (u := .int) boot_int (by decide) rfl (fun _ q => nomatch q) rfl
          split at h
          · rename_i e; subst e; cases h; exact tyC (u := .bool) boot_bool (by decide) rfl (fun _ q => nomatch q) rfl
          split at h
          · rename_i e; subst e; cases h; exact tyC (u := .tuple) boot_tuple (by decide) rfl (fun _ q => nomatch q) rfl
          split at h
          · rename_i e; subst e; cases h; exact tyC (u := .list) boot_list (by decide) rfl (fun _ q => nomatch q) rfl
          split at h
          · rename_i e; subst e; cases h; exact tyC (u := .dict) boot_dict (by decide) rfl (fun _ q => nomatch q) rfl
          · cases h
  · cases h
theorem cEs_len : ∀ {es : List Expr} {es' : Exs}, cEs f es = some es' → es'.len = es.length
  | [], es', h => by cases h; rfl
  | a :: es, es', h => by
    obtain ⟨a', h1, h⟩ := obE (show (f a).bind _ = some es' from h)
    obtain ⟨r', h2, h⟩ := omE h
    subst h
    show r'.len + 1 = es.length + 1
    rw [cEs_len h2]
theorem callN_ok (K : Lnk X L G T j) (E : Gx X S) (hf : OkE L B G X f) {x : Str} (hg : Gl X x) (hdb : (x == ("__debug__" : Str)) = false) (hs : es.any isStar = false) (h : cCallN T S f x es = some e') : PE X (.Call (.Name x p) es [] pos) (tE L B G e') := by
  unfold cCallN at h
  split at h
  · rename_i k hk
    obtain ⟨es', h1, rfl⟩ := omE h
    obtain ⟨hm, F⟩ := K.fn x k hk
    cases es with
    | nil => cases h1; exact c_call0 F K.hr hg (by rw [K.mg]; exact hm) hdb
    | cons a es => exact c_call F K.hr hg (by rw [K.mg]; exact hm) hdb hs (a_all hf hs h1)
  · split at h
    · rename_i c hc
      obtain ⟨es', h1, rfl⟩ := omE h
      obtain ⟨hm, hi⟩ := K.cl x c hc
      cases q : G.init c with
      | none =>
        refine pe_no fun σ H Q ⟨ρ, Z, rv, ρ', S, e, _⟩ => ?_
        simp only [ev] at e
        obtain ⟨⟨rs, ρ1⟩, e1, e⟩ := obE e
        rw [q] at e
        cases e
      | some k =>
        obtain ⟨M, F⟩ := hi k q
        cases es with
        | nil => cases h1; exact c_mk0 q M F K.room hg (by rw [K.mg]; exact hm) hdb
        | cons a es => exact c_mk q M F K.room hg (by rw [K.mg]; exact hm) hdb hs (a_all hf hs h1)
    · split at h
      case isFalse => cases h
      case isTrue hfr =>
        have hm : X.mg x = none := by rw [K.mg]; exact K.fr x hfr
        split at h
        · rename_i ex
          subst ex
          split at h
          · rename_i a t
            obtain ⟨a', ha, h⟩ := obE h
            obtain ⟨ty, ht, rfl⟩ := omE h
            obtain ⟨h1, h2, v, h3, h4⟩ := ty_ok K E ht
            have hsa : isStar a = false := by rw [List.any_cons, Bool.or_eq_false_iff] at hs; exact hs.1
            exact c_isi K.K K.isi h1 hg hm hsa h2 h3 h4 (hf _ _ ha)
          · cases h
        · obtain ⟨k, hk, h⟩ := obE h
          split at h
          · cases h
          · rename_i a es
            obtain ⟨es', h1, rfl⟩ := omE h
            exact bi_ok K hk hg hm hdb hs (a_all hf hs h1)
end
end Pi
/-! what is compiled runs as the row's own text: methods, comprehensions, all expressions -/
namespace Pi
open PySem PySem.Spec PyProof.Rows L2
theorem few_ok {es : List Expr} {pos : Pos} {env : Env} (hs : es.any isStar = false) (hl : es.length < 29) : methodCallForm (es.length + ([] : List Keyword).length) (backTo pos (starEach es env)) (backToKw pos (keywordEach [] env)) = true := by
  have e1 : (backTo pos (starEach es env)).all (fun x => !x.1) = true := by
    have := star_plain (pos := pos) (env := env) hs
    rw [List.all_eq_not_any_not]
    simp only [Bool.not_not, this]
    rfl
  unfold methodCallForm
  rw [e1]
  have e2 : (backToKw pos (keywordEach [] env)).all (fun x => x.1.isSome) = true := rfl
  rw [e2]
  simp only [Bool.true_and]
  exact decide_eq_true (by show es.length + 0 + 0 < 30; omega)
theorem meth_ht {a : Expr} {m : Str} {es : List Expr} {apos pos : Pos} {env : Env} (h1 : noSuper a = true) (hs : es.any isStar = false) (hl : es.length < 29) (h4 : (apos.endLine == pos.line) = true) :
    eval (.Call (.Attribute a m apos) es [] pos) env = (do
      let ov ← eval a env
      standAt apos.atName
      let (f, first) ← holding [ov] (getMethod ov m (do return (← importBound a env).getD true))
      callWith pos f first (backTo pos (starEach es env)) (backToKw pos (keywordEach [] env))) := by
  rw [arm_eval_Call, super_off h1]
  unfold methodCall
  rw [few_ok hs hl]
  unfold calleeOf methodCallPos
  rw [h4]
  simp only [Bool.not_true, Bool.false_or, if_true, pure_bind]
section
variable {L : Lk} {B : Ba} {G : Gs} {X : Cx} {T : Tb} {S : Sc} {j : Nat} {f : Expr → Option Ex} {g : Sc → Expr → Option Ex} {a b c e tg it elt : Expr} {e' : Ex} {es : List Expr} {es' : Exs} {pos p apos : Pos} {scope : Scope}
theorem callM_ok (K : Lnk X L G T j) (E : Gx X S) (hf : OkE L B G X f) {m : Str} (hn : noSuper a = true) (hl : es.length < 29) (hline : (apos.endLine == pos.line) = true) (hs : es.any isStar = false) (h : cCallM T S f a m es = some e') :
    PE X (.Call (.Attribute a m apos) es [] pos) (tE L B G e') := by
  unfold cCallM at h
  split at h
  · rename_i k hk
    obtain ⟨a', ha, h⟩ := obE h
    obtain ⟨es', h1, rfl⟩ := omE h
    obtain ⟨hx, hM⟩ := K.me m k hk
    cases es with
    | nil => cases h1; exact c_meth0 (hf _ _ ha) K.hr hx hM (meth_ht hn hs hl hline)
    | cons b es => exact c_meth (hf _ _ ha) hs (a_all hf hs h1) K.hr hx hM (meth_ht hn hs hl hline)
  · split at h
    case h_2 =>
      obtain ⟨k, hk, h2⟩ := obE h
      clear h
      cases es with
      | nil => cases h2
      | cons b es =>
        obtain ⟨a', ha, h⟩ := obE (show (f a).bind _ = some e' from h2)
        obtain ⟨es', h1, rfl⟩ := omE h
        unfold bmOf at hk
        split at hk
        · rename_i e; subst e; cases hk
          exact c_bmS (fun o h => by cases o with
            | none => cases h
            | some d => cases d <;> first | (cases h; done) | exact ⟨_, rfl⟩) PySem.F.slot_str_split PySem.F.type_str_split m_split (hf _ _ ha) (a_all hf hs h1) hn hs hline hl
        split at hk
        · rename_i e; subst e; cases hk
          exact c_bmS (fun o h => by cases o with
            | none => cases h
            | some d => cases d <;> first | (cases h; done) | exact ⟨_, rfl⟩) PySem.F.slot_str_join PySem.F.type_str_join (m_join K.K) (hf _ _ ha) (a_all hf hs h1) hn hs hline hl
        · cases hk
    case h_1 k hk =>
    have h2 := h
    clear h
    split at h2
    case isFalse => cases h2
    case isTrue har =>
      cases a <;> first | (cases h2; done) | skip
      case Name x p =>
        obtain ⟨i, hi, h⟩ := obE (show (cVar S x).bind _ = some e' from h2)
        clear h2
        obtain ⟨es', h1, rfl⟩ := omE h
        have ho := (cVar_ok (L := L) (B := B) (G := G) (p := p) E hi).1
        have tc := PySem.F.type_list_append
        unfold mmOf at hk
        cases es with
        | nil =>
          cases h1
          split at hk
          · cases hk; cases har
          split at hk
          · cases hk; cases har
          split at hk
          · rename_i e; subst e; cases hk
            exact mut_none K.K PySem.F.slot_list_pop PySem.F.type_list_pop mt_pop m_pop ho hline
          split at hk
          · rename_i e; subst e; cases hk
            exact mut_none K.K PySem.F.slot_list_clear PySem.F.type_list_clear mt_clear m_clear ho hline
          · cases hk
        | cons b es =>
          obtain ⟨b', hb, h1⟩ := obE (show (f b).bind _ = some es' from h1)
          obtain ⟨r', hr, h1⟩ := omE h1
          subst h1
          have hF : PA X (b :: es) (tFs L B G (.cons b' r')) := f_all hf hs (by show (f b).bind _ = _; rw [hb]; show (cEs f es).map _ = _; rw [hr]; rfl)
          split at hk
          · rename_i e; subst e; cases hk
            exact mut_args K.K PySem.F.slot_list_append PySem.F.type_list_append mt_append (fun a0 as => m_append _) ho hF hs hline hl
          split at hk
          · rename_i e; subst e; cases hk
            exact mut_args K.K PySem.F.slot_list_extend PySem.F.type_list_extend mt_extend (fun a0 as => m_extend _) ho hF hs hline hl
          split at hk
          · rename_i e; subst e; cases hk
            exact mut_args K.K PySem.F.slot_list_pop PySem.F.type_list_pop mt_popAt m_popAt ho hF hs hline hl
          split at hk
          · cases hk; cases har
          · cases hk
theorem call_ok (K : Lnk X L G T j) (E : Gx X S) (hf : OkE L B G X f) {fn : Expr} {kws : List Keyword} (h : cCall T S f fn es kws pos = some e') : PE X (.Call fn es kws pos) (tE L B G e') := by
  unfold cCall at h
  split at h
  case isFalse => cases h
  case isTrue hk =>
    rw [Bool.and_eq_true] at hk
    have hkw : kws = [] := by cases kws <;> first | rfl | cases hk.1
    subst hkw
    have hs : es.any isStar = false := by simpa using hk.2
    split at h
    · rename_i x p
      split at h
      case isFalse => cases h
      case isTrue hg =>
        rw [Bool.and_eq_true] at hg
        exact callN_ok K E hf (glB_ok E hg.1) (beq_ff hg.2) hs h
    · rename_i o m ap
      split at h
      case isFalse => cases h
      case isTrue hg =>
        rw [Bool.and_eq_true, Bool.and_eq_true] at hg
        exact callM_ok K E hf hg.1.1 (of_decide_eq_true hg.1.2) hg.2 hs h
    · cases h
/-! ### walks, targets, comprehensions -/
theorem cI_ok (K : Lnk X L G T j) (E : Gx X S) (hf : OkE L B G X f) {w : Wk} (h : cI1 T S f it = some w) : PI X tg it (tI L B G w) := by
  unfold cI1 at h
  split at h
  · rename_i x p a q
    split at h
    case isTrue e =>
      subst e
      split at h
      case isFalse => cases h
      case isTrue hc =>
        rw [Bool.and_eq_true, Bool.and_eq_true] at hc
        obtain ⟨a', ha, rfl⟩ := omE h
        exact i_rng1 (by rw [K.mg]; exact K.fr _ hc.1.1) (glB_ok E hc.1.2) (by simpa using hc.2) (hf _ _ ha)
    case isFalse =>
      obtain ⟨a', ha, rfl⟩ := omE h
      exact i_seq K.K (hf _ _ ha)
  · rename_i x p a b q
    split at h
    case isTrue e =>
      subst e
      split at h
      case isFalse => cases h
      case isTrue hc =>
        rw [Bool.and_eq_true, Bool.and_eq_true, Bool.and_eq_true] at hc
        obtain ⟨a', ha, h⟩ := obE h
        obtain ⟨b', hb, rfl⟩ := omE h
        exact i_rng2 (by rw [K.mg]; exact K.fr _ hc.1.1.1) (glB_ok E hc.1.1.2) (by simpa using hc.1.2) (by simpa using hc.2) (hf _ _ ha) (hf _ _ hb)
    case isFalse =>
      obtain ⟨a', ha, rfl⟩ := omE h
      exact i_seq K.K (hf _ _ ha)
  · obtain ⟨a', ha, rfl⟩ := omE h
    exact i_seq K.K (hf _ _ ha)
theorem cSto_ok (E : Gx X S) {x : Str} {i : Nat} (h : cSto S x = some i) : X.N[i]? = some x ∧ Loc X.env.scope x ∧ (X.fn x = true ∨ X.env.scope.names.lookup x = some .local) := by
  unfold cSto at h
  split at h
  case isFalse => cases h
  case isTrue hv =>
    rw [Bool.and_eq_true] at hv
    refine ⟨?_, ?_, E.as x hv.2⟩
    · rw [E.N]
      have := (ixOf_ok h).2
      simpa using this
    · rw [E.sc]
      have h1 := hv.1
      unfold locB at h1
      cases q : S.sc.names.lookup x with
      | none => rw [q] at h1; cases h1
      | some k => rw [q] at h1; cases k <;> first | exact .inl q | exact .inr q | cases h1
theorem ndN (E : Gx X S) : X.N.Nodup := by rw [E.N]; exact E.nd
theorem g_name (E : Gx X S) {x : Str} {i : Nat} (h : cSto S x = some i) : PG X (.Name x p) (tG L B (.one i)) := by
  obtain ⟨h1, h2, h3⟩ := cSto_ok E h
  exact g_one (ndN E) h1 h2 h3 fun σ H pins s I => by rw [I.len]; exact (List.getElem?_eq_some_iff.mp h1).1
theorem cTgs_ok (E : Gx X S) : ∀ {es : List Expr} {is : List Nat}, cTgs S es = some is → PGs X es (tGs L B is) ∧ (assignEach es X.env).length = is.length ∧ (assignEach es X.env).findIdx? (·.1) = none
  | [], is, h => by cases h; exact ⟨gs_nil, rfl, rfl⟩
  | e :: es, is, h => by
    cases e <;> first | cases h; done | skip
    rename_i x p
    obtain ⟨i, h1, h⟩ := obE (show (cSto S x).bind _ = some is from h)
    obtain ⟨is', h2, h⟩ := omE h
    subst h
    obtain ⟨a1, a2, a3⟩ := cTgs_ok E h2
    refine ⟨gs_cons (g_name E h1) a1, ?_, ?_⟩
    · show (assignEach es X.env).length + 1 = is'.length + 1
      rw [a2]
    · show List.findIdx? (·.1) ((false, assign (.Name x p) X.env) :: assignEach es X.env) = none
      rw [List.findIdx?_cons]
      simp only [Bool.false_eq_true, if_false, a3]
      rfl
theorem cTg_ok (K : Lnk X L G T j) (E : Gx X S) {t : Tg} (h : cTg S tg = some t) : PG X tg (tG L B t) := by
  cases tg <;> first | (cases h; done) | skip
  case Tuple es k p =>
    obtain ⟨is, h1, h⟩ := omE (show (cTgs S es).map .many = some t from h)
    subst h
    obtain ⟨a1, a2, a3⟩ := cTgs_ok (L := L) (B := B) E h1
    exact g_many (n := 0) K.K K.calm a1 a2 a3
  case Name x p =>
    obtain ⟨i, h1, h⟩ := omE (show (cSto S x).map .one = some t from h)
    subst h
    exact g_name E h1
theorem cSto_ix {x : Str} {i : Nat} (h : cSto S x = some i) : ixOf x S.N 0 = some i := by
  unfold cSto at h
  split at h
  case isFalse => cases h
  case isTrue => exact h
theorem own_nms : ∀ {es : List Expr} {is : List Nat}, cTgs S es = some is → ((tgNms es).filterMap fun x => (ixOf x S.N 0).map fun i => (x, i)).map (·.2) = is
  | [], is, h => by cases h; rfl
  | e :: es, is, h => by
    cases e <;> first | cases h; done | skip
    rename_i x p
    obtain ⟨i, h1, h⟩ := obE (show (cSto S x).bind _ = some is from h)
    obtain ⟨is', h2, h⟩ := omE h
    subst h
    show (List.filterMap _ (x :: tgNms es)).map _ = _
    rw [List.filterMap_cons, cSto_ix h1]
    show i :: List.map _ _ = i :: is'
    rw [own_nms h2]
theorem own_ok {t : Tg} (h : cTg S tg = some t) : (ownOf S.N tg).map (·.2) = t.names := by
  cases tg <;> first | (cases h; done) | skip
  case Tuple es k p =>
    obtain ⟨is, h1, h⟩ := omE (show (cTgs S es).map .many = some t from h)
    subst h
    exact own_nms h1
  case Name x p =>
    obtain ⟨i, h1, h⟩ := omE (show (cSto S x).map .one = some t from h)
    subst h
    show (List.filterMap _ [x]).map _ = [i]
    rw [List.filterMap_cons, cSto_ix h1]
    rfl
theorem Lnk.blk (K : Lnk X L G T j) {s : Shared} {H : Hp} {cenv : Env} {fp : List Addr} : Lnk (X.blk s H scope cenv fp) L G T j :=
  ⟨K.K, K.mg, K.room, K.calm, K.fl, K.inj, K.cls, K.noat, fun x f h => ⟨(K.fn x f h).1, ⟨(K.fn x f h).2.ok, (K.fn x f h).2.kp, (K.fn x f h).2.bnd⟩⟩,
    fun x c h => ⟨(K.cl x c h).1, fun f hf => ⟨((K.cl x c h).2 f hf).1, ⟨((K.cl x c h).2 f hf).2.ok, ((K.cl x c h).2 f hf).2.kp, ((K.cl x c h).2 f hf).2.bnd⟩⟩⟩, K.co,
    fun m k h => ⟨(K.me m k h).1, fun c f hf => ⟨((K.me m k h).2 c f hf).1, ((K.me m k h).2 c f hf).2.1, ⟨((K.me m k h).2 c f hf).2.2.ok, ((K.me m k h).2 c f hf).2.2.kp, ((K.me m k h).2 c f hf).2.2.bnd⟩⟩⟩, K.fr, K.isi⟩
theorem Gx.blk (E : Gx X S) {s : Shared} {H : Hp} {cl : List (Str × Addr)} {C : Addr} {fp : List Addr} : Gx (X.blk s H scope (compEnvC scope cl C X.env) fp) (blkS S scope) := by
  have e : (compEnvC scope cl C X.env).scope = relS scope S.sc := by rw [← E.sc]; rfl
  refine ⟨E.N, E.nd, e, fun x h => ?_⟩
  have h : ((scope.names.lookup x == some .cell) || ((relS scope S.sc).names.lookup x == some .local)) = true := h
  rw [Bool.or_eq_true] at h
  rcases h with h | h
  · exact .inl h
  · refine .inr ?_
    show (compEnvC scope cl C X.env).scope.names.lookup x = some .local
    rw [e]
    simpa using h
/-- all that is known of a comprehension -/
theorem comp_ok (K : Lnk X L G T j) (E : Gx X S) (hf : OkE L B G X f) {g : Expr → Option Ex} (hg : ∀ X', Lnk X' L G T j → Gx X' (blkS S scope) → OkE L B G X' g ∧ OkT L B G X' g) {gens : List Comprehension} (h : cComp T S f g elt gens scope = some e') :
    PE X (.ListComp elt gens scope pos) (tE L B G e') ∧ ∀ {ro : Bool} {i : Nat} {y : Str} {py spos : Pos}, X.N[i]? = some y → X.env.scope.names.lookup y = some .local → swapsWith (.ListComp elt gens scope pos) (some (.Name y py)) spos.line X.env = pure true →
      PS X (.Assign [.Name y py] (.ListComp elt gens scope pos) spos) (tX L B G ro (.ass i e')) := by
  unfold cComp at h
  split at h
  · rename_i tg it ifs
    split at h
    case isFalse => cases h
    case isTrue hc =>
      rw [Bool.and_eq_true, Bool.and_eq_true] at hc
      obtain ⟨⟨h1, h2⟩, h3⟩ := hc
      obtain ⟨w, hw, h⟩ := obE h
      obtain ⟨t, ht, h⟩ := obE h
      obtain ⟨c', hcs, h⟩ := obE h
      obtain ⟨x', hx, rfl⟩ := omE h
      have hset : ∀ x, foldedSetIterable it X.env x = pure x := fun x => by
        cases it <;> first | rfl | cases h1
      have ok : BlkOk X.N X.env.scope scope (ownOf S.N tg) := by
        rw [E.N, E.sc]
        exact blkOk_by h3
      have hown := own_ok (S := blkS S scope) ht
      have PGk := fun (s : Shared) (H : Hp) (C : Addr) (cl : List (Str × Addr)) (fp : List Addr) => cTg_ok (L := L) (B := B) (K.blk (s := s) (H := H) (cenv := compEnvC scope cl C X.env) (fp := fp) (scope := scope)) E.blk ht
      have PTk : ∀ (s : Shared) (H : Hp) (C : Addr) (cl : List (Str × Addr)) (fp : List Addr), PTs (X.blk s H scope (compEnvC scope cl C X.env) fp) ifs (tTs L B G c') := fun s H C cl fp => by
        obtain ⟨gE, gT⟩ := hg _ (K.blk (s := s) (H := H) (cenv := compEnvC scope cl C X.env) (fp := fp) (scope := scope)) E.blk
        cases ifs with
        | nil => cases hcs; exact ts_nil
        | cons c0 r =>
          have : r = [] := by
            have := of_decide_eq_true h2
            cases r with
            | nil => rfl
            | cons _ _ => simp at this
          subst this
          obtain ⟨c1, hc1, hcs⟩ := obE (show (g c0).bind _ = some c' from hcs)
          cases hcs
          exact ts_one (gT _ _ hc1)
      have PEk := fun (s : Shared) (H : Hp) (C : Addr) (cl : List (Str × Addr)) (fp : List Addr) => (hg _ (K.blk (s := s) (H := H) (cenv := compEnvC scope cl C X.env) (fp := fp) (scope := scope)) E.blk).1 _ _ hx
      exact ⟨c_comp K.calm (ndN E) (cI_ok K E hf hw) ok hown PGk PTk PEk hset, fun h4 h5 h6 => s_assLc K.calm (ndN E) h4 h5 h6 (cI_ok K E hf hw) ok hown PGk PTk PEk hset⟩
  · cases h
theorem slc_ok (h : isSlice b = false) : cE1 T S f g (.Subscript a b p) = (f a).bind fun a => (f b).map fun i => Ex.idx a i := by
  cases b <;> first | rfl | cases h
/-- one form -/
theorem cE1_ok (K : Lnk X L G T j) (E : Gx X S) (hf : OkE L B G X f) (hft : OkT L B G X f) (hg : ∀ S' X', Lnk X' L G T j → Gx X' S' → OkE L B G X' (g S') ∧ OkT L B G X' (g S')) (h : cE1 T S f g e = some e') : PE X e (tE L B G e') := by
  cases e <;> first | (cases h; done) | skip
  case Constant c k p =>
    obtain ⟨d, hd, rfl⟩ := omE (show (constD c).map .con = some e' from h)
    exact constD_ok hd
  case Name x p => exact cName_ok K E h
  case UnaryOp op a p =>
    cases op <;> first | (cases h; done) | skip
    · obtain ⟨a', ha, rfl⟩ := omE (show (f a).map .not = some e' from h)
      exact c_not (hf _ _ ha)
    · obtain ⟨a', ha, rfl⟩ := omE (show (f a).map .neg = some e' from h)
      exact c_neg (hf _ _ ha)
  case BinOp a op b p =>
    obtain ⟨o, ho, h⟩ := obE (show (bop op).bind _ = some e' from h)
    obtain ⟨a', ha, h⟩ := obE h
    obtain ⟨b', hb, rfl⟩ := omE h
    exact c_op (bop_ok K ho) (hf _ _ ha) (hf _ _ hb)
  case Compare a ops cs p => exact (cCmp_ok K hf h).1
  case BoolOp op vs p =>
    cases op with
    | And => obtain ⟨es', h1, h2⟩ := obE (show (cEs f vs).bind (foldB true) = some e' from h); exact and_all hf h1 h2
    | Or => obtain ⟨es', h1, h2⟩ := obE (show (cEs f vs).bind (foldB false) = some e' from h); exact or_all hf h1 h2
  case IfExp c a b p =>
    obtain ⟨c', hc, h⟩ := obE (show (f c).bind _ = some e' from h)
    obtain ⟨a', ha, h⟩ := obE h
    obtain ⟨b', hb, rfl⟩ := omE h
    exact c_ite (hft _ _ hc) (hf _ _ ha) (hf _ _ hb)
  case Tuple es k p =>
    have h : (if es.any isStar then none else (cEs f es).map .tup) = some e' := h
    split at h
    case isTrue => cases h
    case isFalse hs =>
      obtain ⟨es', h1, rfl⟩ := omE h
      exact c_tup (f_all hf (by simpa using hs) h1)
  case List es p =>
    have h : (if es.any isStar then none else (cEs f es).map .lst) = some e' := h
    split at h
    case isTrue => cases h
    case isFalse hs =>
      obtain ⟨es', h1, rfl⟩ := omE h
      exact c_lst (f_all hf (by simpa using hs) h1)
  case Dict ks vs p =>
    cases ks with
    | cons _ _ => cases h
    | nil =>
      cases vs with
      | cons _ _ => cases h
      | nil => cases h; exact c_dnew
  case Subscript a i p =>
    cases hi : isSlice i with
    | false =>
      rw [slc_ok hi] at h
      obtain ⟨a', ha, h⟩ := obE h
      obtain ⟨i', hi', rfl⟩ := omE h
      exact c_idx K.K K.un hi (hf _ _ ha) (hf _ _ hi')
    | true =>
      cases i <;> first | (cases hi; done) | skip
      rename_i lo hi st p2
      cases st with
      | some _ => cases h
      | none =>
        obtain ⟨a', ha, h⟩ := obE (show (f a).bind _ = some e' from h)
        obtain ⟨lo', hlo, h⟩ := obE h
        obtain ⟨hi', hhi, rfl⟩ := omE h
        exact c_slc K.K (hf _ _ ha) (o_all hf hlo) (o_all hf hhi)
  case Attribute a x p =>
    have h : (if noSuper a then (ixOf x T.fl 0).bind fun k => (f a).map fun a => Ex.fld a k else none) = some e' := h
    split at h
    case isFalse => cases h
    case isTrue hs =>
      obtain ⟨k, hk, h⟩ := obE h
      obtain ⟨a', ha, rfl⟩ := omE h
      exact c_fld K.K K.inj K.cls K.noat (K.fl k x (by have := (ixOf_ok hk).2; simpa using this)) hs (hf _ _ ha)
  case Call fn args kws p => exact call_ok K E hf h
  case ListComp elt gens scope p => exact (comp_ok K E hf (fun X' K' E' => hg _ X' K' E') h).1
theorem cE1_okT (K : Lnk X L G T j) (E : Gx X S) (hf : OkE L B G X f) (hft : OkT L B G X f) (hg : ∀ S' X', Lnk X' L G T j → Gx X' S' → OkE L B G X' (g S') ∧ OkT L B G X' (g S')) (hi : ∀ c a b p, e ≠ .IfExp c a b p) (h : cE1 T S f g e = some e') : PT X e (tT L B G e') := by
  cases hsp : special e with
  | false => exact c_val (cE1_ok K E hf hft hg h) (tru_plain hsp)
  | true =>
    cases e <;> first | (cases hsp; done) | skip
    case UnaryOp op a p =>
      cases op <;> first | (cases hsp; done) | skip
      obtain ⟨a', ha, rfl⟩ := omE (show (f a).map .not = some e' from h)
      exact c_notT (hft _ _ ha)
    case BoolOp op vs p =>
      cases op with
      | And => obtain ⟨es', h1, h2⟩ := obE (show (cEs f vs).bind (foldB true) = some e' from h); exact (and_allT hft h1 h2).pt
      | Or => obtain ⟨es', h1, h2⟩ := obE (show (cEs f vs).bind (foldB false) = some e' from h); exact (or_allT hft h1 h2).pt
    case IfExp c a b p => exact absurd rfl (hi c a b p)
    case Compare a ops cs p => exact (cCmp_ok K hf h).2
end
end Pi
/-! what is compiled runs as the row's own text: all expressions, statements -/
namespace Pi
open PySem PySem.Spec PyProof.Rows L2
section
variable {L : Lk} {B : Ba} {G : Gs} {X : Cx} {T : Tb} {S : Sc} {j m n : Nat} {ro : Bool} {f : Expr → Option Ex} {g : List Stmt → Option Sms} {a b c e tg it elt : Expr} {a' b' c' e' : Ex} {es : List Expr} {es' : Exs} {pos p apos : Pos} {scope : Scope} {st : Stmt} {s' : Sm}
theorem c_iteT (hc : PT X c (tT L B G c')) (ha : PT X a (tT L B G a')) (hb : PT X b (tT L B G b')) : PT X (.IfExp c a b pos) (tT L B G (.ite c' a' b')) := by
  refine ⟨fun pins s σ H Q I ⟨ρ, Z, rv, ρ', k, S, e, ek, q⟩ => ?_⟩
  simp only [ev] at e
  obtain ⟨⟨r1, ρ1⟩, e1, e⟩ := obE e
  show wpAny _ _ (do if ← isTrue c X.env (eval c X.env) then isTrue a X.env (eval a X.env) else isTrue b X.env (eval b X.env)) _ _ s
  cases h : asB r1 with
  | none => rw [h] at e; cases e
  | some d =>
    rw [h] at e
    refine wpAny_bind (thn (hc.run pins s σ H (fun d' H1 => ∃ Z1, d' = d ∧ SI L B ρ1 σ Z1 H1 ∧ Gr ρ ρ1 σ Z H Z1 H1) I ⟨ρ, Z, r1, ρ1, d, S, e1, h, fun Z1 H1 S1 g1 => ⟨Z1, rfl, S1, g1⟩⟩) fun d' s1 ⟨H1, I1, Z1, ed, S1, g1⟩ => ?_)
    subst ed
    cases d' with
    | true => exact ha.run pins s1 σ H1 Q I1 ⟨ρ1, Z1, rv, ρ', k, S1, e, ek, fun Z2 H2 S2 g2 => q Z2 H2 S2 (g1.trans g2)⟩
    | false => exact hb.run pins s1 σ H1 Q I1 ⟨ρ1, Z1, rv, ρ', k, S1, e, ek, fun Z2 H2 S2 g2 => q Z2 H2 S2 (g1.trans g2)⟩
/-- EXPRESSIONS -/
theorem cE_ok : ∀ (n : Nat) {X : Cx} {S : Sc}, Lnk X L G T j → Gx X S → OkE L B G X (cE T n S) ∧ OkT L B G X (cE T n S)
  | 0, X, S, K, E => ⟨fun e e' h => (nomatch h), fun e e' h => (nomatch h)⟩
  | n + 1, X, S, K, E => by
    obtain ⟨hf, hft⟩ := cE_ok n K E
    have hg : ∀ S' X', Lnk X' L G T j → Gx X' S' → OkE L B G X' (cE T n S') ∧ OkT L B G X' (cE T n S') := fun S' X' K' E' => cE_ok n K' E'
    refine ⟨fun e e' h => cE1_ok K E hf hft hg h, fun e e' h => ?_⟩
    by_cases hi : ∃ c a b p, e = .IfExp c a b p
    · obtain ⟨c, a, b, p, rfl⟩ := hi
      obtain ⟨c', hc, h⟩ := obE (show (cE T n S c).bind _ = some e' from h)
      obtain ⟨a', ha, h⟩ := obE h
      obtain ⟨b', hb, rfl⟩ := omE h
      exact c_iteT (hft _ _ hc) (hft _ _ ha) (hft _ _ hb)
    · exact cE1_okT K E hf hft hg (fun c a b p q => hi ⟨c, a, b, p, q⟩) h
/-! ### statements -/
def OkS (L : Lk) (B : Ba) (G : Gs) (X : Cx) (ro : Bool) (f : Stmt → Option Sm) : Prop := ∀ st s', f st = some s' → PS X st (tX L B G ro s')
def OkSs (L : Lk) (B : Ba) (G : Gs) (X : Cx) (ro : Bool) (f : List Stmt → Option Sms) : Prop := ∀ st s', f st = some s' → PSs X st (tXs L B G ro s')
theorem skip_ok (h : isSkip st = true) : PS X st tNext := by
  cases st <;> first | (cases h; done) | skip
  case Pass p => exact ps_pass
  case Expr e p =>
    cases e <;> first | (cases h; done) | skip
    rename_i c k p2
    cases c <;> first | (cases h; done) | exact ps_doc
theorem cSs_ok {f : Stmt → Option Sm} (hf : OkS L B G X ro f) : OkSs L B G X ro (cSs f) := by
  intro st
  induction st with
  | nil => intro s' h; cases h; exact ss_nil
  | cons st r ih =>
    intro s' h
    have h : (if isSkip st then cSs f r else (cSs f r).map fun t => .cons ((f st).getD .stuck) t) = some s' := h
    split at h
    case isTrue hk => exact ss_skip (skip_ok hk) (ih _ h)
    case isFalse =>
      obtain ⟨r1, h2, rfl⟩ := omE h
      refine ss_cons ?_ (ih _ h2)
      cases q : f st with
      | none => exact s_never
      | some s1 => exact hf _ _ q
theorem sw_no {t : Option Expr} {n : Nat} (h : isComp e = false) : swapsWith e t n X.env = pure false := by
  cases e <;> first | rfl | cases h
theorem sw_sub {o : Expr} {n : Nat} (h : ∀ x p, o ≠ .Name x p) : swapsWith e (some o) n X.env = pure false := by
  unfold swapsWith
  cases e <;> first | rfl | (cases o <;> first | rfl | exact absurd rfl (h _ _))
theorem ss_no {ts : List Expr} (h : isTup e = false) : swappedStores ts e X.env = pure none := by
  unfold swappedStores
  cases e <;> first | (cases h; done) | skip
  all_goals (cases ts with
    | nil => rfl
    | cons t r => cases r with
      | nil => cases t <;> rfl
      | cons _ _ => cases t <;> rfl)
theorem ss_no2 {o : Expr} (h : isTup o = false) (h2 : ∀ es p, o ≠ .List es p) : swappedStores [o] e X.env = pure none := by
  unfold swappedStores
  cases o <;> first | (cases h; done) | rfl | exact absurd rfl (h2 _ _)
/-- name = e -/
theorem asg_name (K : Lnk X L G T j) (E : Gx X S) {x : Str} {i : Nat} {e0 : Ex} (hi : cSto S x = some i) (he : cE T m S e = some e0) : PS X (.Assign [.Name x p] e pos) (tX L B G ro (.ass i e0)) := by
  obtain ⟨h1, h2, h3⟩ := cSto_ok E hi
  obtain ⟨hf, hft⟩ := cE_ok (L := L) (B := B) (G := G) (T := T) (j := j) m K E
  by_cases hc : isComp e = true
  · cases e <;> first | (cases hc; done) | skip
    case ListComp elt gens sc p2 =>
      have key : swapsWith (.ListComp elt gens sc p2) (some (.Name x p)) pos.line X.env = pure (X.env.blockKind == .function && X.env.kindOf x == some .local && p.line == (Expr.ListComp elt gens sc p2).pos.line && !(sc.names.any fun (n, k) => n == x && (k == .local || k == .cell))) := rfl
      generalize hk : (X.env.blockKind == .function && X.env.kindOf x == some .local && p.line == (Expr.ListComp elt gens sc p2).pos.line && !(sc.names.any fun (n, k) => n == x && (k == .local || k == .cell))) = k at key
      cases k with
      | false => exact s_ass (ndN E) h1 h2 (hf _ _ he) key h3
      | true =>
        simp only [Bool.and_eq_true] at hk
        have hl : X.env.scope.names.lookup x = some .local := by
          have := hk.1.1.2
          simpa [Env.kindOf] using this
        cases m with
        | zero => cases he
        | succ m =>
          obtain ⟨hf', _⟩ := cE_ok (L := L) (B := B) (G := G) (T := T) (j := j) m K E
          exact (comp_ok K E hf' (fun X' K' E' => cE_ok m K' E') (show cComp T S (cE T m S) (cE T m (blkS S sc)) elt gens sc = some e0 from he)).2 h1 hl key
    all_goals (cases m with
      | zero => cases he
      | succ m => cases he)
  · exact s_ass (ndN E) h1 h2 (hf _ _ he) (sw_no (by simpa using hc)) h3
theorem asg_ok (K : Lnk X L G T j) (E : Gx X S) (h : cAsg S (cE T m S) tg e = some s') : PS X (.Assign [tg] e pos) (tX L B G ro s') := by
  obtain ⟨hf, hft⟩ := cE_ok (L := L) (B := B) (G := G) (T := T) (j := j) m K E
  have hu := K.un
  cases tg <;> first | (cases h; done) | skip
  case Name x p =>
    obtain ⟨i, hi, h⟩ := obE (show (cSto S x).bind _ = some s' from h)
    obtain ⟨e0, he, rfl⟩ := omE h
    exact asg_name K E hi he
  case Tuple es k p =>
    have h : (if isTup e || isComp e then none else (cTgs S es).bind fun is => (cE T m S e).map fun e => Sm.assT is e) = some s' := h
    split at h
    case isTrue => cases h
    case isFalse hc =>
      have hc : isTup e = false ∧ isComp e = false := by simpa using hc
      obtain ⟨is, hi, h⟩ := obE h
      obtain ⟨e0, he, rfl⟩ := omE h
      obtain ⟨a1, a2, a3⟩ := cTgs_ok (L := L) (B := B) E hi
      exact s_assT (d := .non) (g_many (n := 0) K.K K.calm a1 a2 a3) (hf _ _ he) (show swapsWith e (some (.Tuple es k p)) pos.line X.env = pure false from sw_no hc.2) (ss_no hc.1) rfl
  case Subscript o i p2 =>
    cases o <;> first | (cases h; done) | skip
    case Name x p =>
      have h : (if isSlice i then none else (cVar S x).bind fun i0 => (cE T m S i).bind fun k => (cE T m S e).map fun e => Sm.setI i0 k e) = some s' := h
      split at h
      case isTrue => cases h
      case isFalse hs =>
        obtain ⟨i0, hi, h⟩ := obE h
        obtain ⟨k, hk, h⟩ := obE h
        obtain ⟨e0, he, rfl⟩ := omE h
        refine s_setI (by omega) (cVar_ok (L := L) (B := B) (G := G) E hi).1 (hf _ _ he) (hf _ _ hk) ?_ (ss_no2 rfl (fun _ _ q => nomatch q)) rfl fun v => ?_
        · exact (show swapsWith e (some (.Subscript (.Name x p) i p2)) pos.line X.env = pure false from sw_sub fun _ _ q => nomatch q)
        · cases i <;> first | rfl | exact absurd rfl hs
theorem cS1_ok (K : Lnk X L G T j) (E : Gx X S) (hp : PassesOwn (model X.prog X.w) X.A X.env X.xe) (hg : OkSs L B G X ro g) (h : cS1 T S (cE T m S) g st = some s') : PS X st (tX L B G ro s') := by
  obtain ⟨hf, hft⟩ := cE_ok (L := L) (B := B) (G := G) (T := T) (j := j) m K E
  have iset : ∀ {it : Expr}, isSet it = false → ∀ x, foldedSetIterable it X.env x = pure x := fun {it} h x => by
    cases it <;> first | rfl | cases h
  cases st <;> first | (cases h; done) | skip
  case Expr e p =>
    have h : (if isComp e then none else (cE T m S e).map .ex) = some s' := h
    split at h
    case isTrue => cases h
    case isFalse hc =>
      obtain ⟨e0, he, rfl⟩ := omE h
      exact s_ex (hf _ _ he) (sw_no (by simpa using hc))
  case Assign tgs e p =>
    cases tgs with
    | nil => cases h
    | cons tg r =>
      cases r with
      | cons _ _ => cases tg <;> first | (cases h; done) | (rename_i o _ _; cases o <;> cases h) | (rename_i o _ _ _; cases o <;> cases h)
      | nil =>
        by_cases ht : ∃ x p1 f p2, tg = .Attribute (.Name x p1) f p2
        · obtain ⟨x, p1, a, p2, rfl⟩ := ht
          obtain ⟨i, hi, h⟩ := obE (show (cVar S x).bind _ = some s' from h)
          obtain ⟨k, hk, h⟩ := obE h
          obtain ⟨e0, he, rfl⟩ := omE h
          exact s_setF K.K K.inj K.cls K.noat (K.fl k a (by have := (ixOf_ok hk).2; simpa using this)) (cVar_ok (L := L) (B := B) (G := G) E hi).1 (hf _ _ he) (sw_sub fun _ _ q => nomatch q)
        · refine asg_ok (m := m) K E ?_
          rw [← h]
          cases tg <;> first | rfl | skip
          case Attribute o f p2 =>
            cases o <;> first | rfl | exact absurd ⟨_, _, _, _, rfl⟩ ht
  case Return e p =>
    cases e with
    | none => cases h; exact s_retN
    | some e =>
      obtain ⟨e0, he, rfl⟩ := omE (show (cE T m S e).map .ret = some s' from h)
      exact s_ret (hf _ _ he)
  case If c a b p =>
    obtain ⟨c', hc, h⟩ := obE (show (cE T m S c).bind _ = some s' from h)
    obtain ⟨a', ha, h⟩ := obE h
    obtain ⟨b', hb, rfl⟩ := omE h
    exact s_if (hft _ _ hc) (hg _ _ ha) (hg _ _ hb)
  case For tg it body orelse p =>
    cases orelse with
    | cons _ _ => cases h
    | nil =>
      have h : (if isSet it then none else (cI1 T S (cE T m S) it).bind fun i => (cTg S tg).bind fun t => (g body).map fun b => Sm.forS t i b (fgOf S.keep (t.names ++ b.asg))) = some s' := h
      split at h
      case isTrue => cases h
      case isFalse hs =>
        obtain ⟨w, hw, h⟩ := obE h
        obtain ⟨t, ht, h⟩ := obE h
        obtain ⟨b', hb, rfl⟩ := omE h
        exact s_for hp K.calm (cI_ok K E hf hw) (cTg_ok K E ht) (hg _ _ hb) (iset (by simpa using hs))
  case While c body orelse p =>
    cases orelse with
    | cons _ _ => cases h
    | nil =>
      obtain ⟨c', hc, h⟩ := obE (show (cE T m S c).bind _ = some s' from h)
      obtain ⟨b', hb, rfl⟩ := omE h
      exact s_while hp (hft _ _ hc) (hg _ _ hb)
/-- STATEMENTS -/
theorem cS_ok (K : Lnk X L G T j) (E : Gx X S) (hp : PassesOwn (model X.prog X.w) X.A X.env X.xe) : ∀ n, OkS L B G X ro (cS T m S n)
  | 0 => fun st s' h => (nomatch h)
  | n + 1 => fun st s' h => cS1_ok K E hp (cSs_ok (cS_ok K E hp n)) h
end
end Pi
/-! a whole text: its data, its checks, its defs keep their promises -/
namespace Pi
open PySem PySem.Spec PyProof.Rows L2

abbrev noArgs : Arguments := ⟨[], [], none, [], [], none, []⟩
abbrev noScope : Scope := { kind := .function, names := [], isGenerator := false, isCoroutine := false }
abbrev noDef : He.DefD := ⟨("", none), "", "", noArgs, [], noScope, [], []⟩
/-- a text: what its names are; its defs; the names by slot, the slots that loops carry, what callers know; its classes; methods, __init__s, classes above -/
structure La where
  T : Tb
  dn : List He.DefD
  Ns : List (List Str)
  ps : List (List Str)
  keep : List (List Nat)
  fi : List Fi
  cn : List Str
  me : List (Nat × Nat × Nat)
  ini : List (Nat × Nat)
  sub : List (Nat × Nat)
def La.d (a : La) (f : Nat) : He.DefD := a.dn.getD f noDef
def La.N (a : La) (f : Nat) : List Str := a.Ns.getD f []
def La.p (a : La) (f : Nat) : List Str := a.ps.getD f []
def La.c (a : La) (c : Nat) : Str := a.cn.getD c ""
def La.fn (a : La) (f : Nat) : Fn := ⟨a.fi.getD f ⟨[], false, []⟩, (a.N f).length, (cFn a.T (a.N f) (a.d f).scope (a.keep.getD f []) (a.d f).body).getD (.cons .stuck .nil)⟩
def La.meth (a : La) (c k : Nat) : Option Nat := (a.me.find? fun q => q.1 == c && q.2.1 == k).map (·.2.2)
def La.init (a : La) (c : Nat) : Option Nat := a.ini.lookup c
def La.subB (a : La) (c c' : Nat) : Bool := c == c' || a.sub.contains (c, c')
def La.ok (a : La) (c : Nat) : Bool := decide (c < a.cn.length)
def La.pr (a : La) : Pr := ⟨a.fn, a.meth, a.init, a.subB, a.ok⟩
abbrev La.FnD (a : La) (K : PySem.W.Frag) (f : Nat) (fd : FuncData) : Prop := FunD K (a.d f).name (a.d f).qual (a.d f).params (a.d f).body (a.d f).scope ((a.d f).dvs K) ((a.d f).kws K) (He.fAd K (a.d f).at_) fd
open Classical in
noncomputable def La.fdOf (a : La) (K : PySem.W.Frag) (f : Nat) : FuncData := if h : ∃ fd, a.FnD K f fd then h.choose else default
noncomputable def La.lk (a : La) (K : PySem.W.Frag) (mg : Str → Option Value) : Lk := ⟨K, mg, fun c => He.ga K (a.c c), fun i => a.T.fl[i]?, fun _ => "", fun f => He.fAd K (a.d f).at_, a.fdOf K, a.p⟩

/-! ### checks -/
def fnScB (N P : List Str) (sc : Scope) : Bool :=
  (match sc.kind with | .function => true | _ => false) && (!sc.isCoroutine && (!sc.isGenerator && (decide N.Nodup && (decide (N.take P.length = P) && ((P.all fun x => locB sc x) && sc.names.all fun y => match y.2 with | .free => false | _ => true)))))
theorem locB_ok {sc : Scope} {x : Str} (h : locB sc x = true) : sc.names.lookup x = some .local ∨ sc.names.lookup x = some .cell := by
  unfold locB at h
  cases q : sc.names.lookup x with
  | none => rw [q] at h; cases h
  | some k => rw [q] at h; cases k <;> first | exact .inl rfl | exact .inr rfl | cases h
theorem fnScB_ok {N P : List Str} {sc : Scope} (h : fnScB N P sc = true) : FnScope N P sc := by
  unfold fnScB at h
  simp only [Bool.and_eq_true, decide_eq_true_eq, List.all_eq_true, Bool.not_eq_true'] at h
  obtain ⟨h1, h2, h3, h4, h5, h6, h7⟩ := h
  refine ⟨?_, h2, h3, h4, h5, fun x hx => locB_ok (h6 x hx), fun y hy e => ?_⟩
  · cases q : sc.kind <;> first | rfl | (rw [q] at h1; cases h1)
  · have := h7 y hy
    rw [e] at this
    cases this
def La.defB (a : La) (f : Nat) : Bool := fnScB (a.N f) (a.p f) (a.d f).scope && (decide ((a.fn f).fi.pm.length = (a.p f).length) && (a.d f).kwd.isEmpty)
/-- f is the def at p -/
def La.atB (a : La) (f : Nat) (p : Str × Option Str) : Bool := decide (f < a.dn.length) && decide ((a.d f).at_ = p)
/-- what is checked of the text alone -/
def La.okB (a : La) : Bool :=
  (a.T.fn.all fun q => a.atB q.2 (q.1, none)) && ((a.T.cl.all fun q => decide (q.2 < a.cn.length) && (decide (a.c q.2 = q.1) && (match a.init q.2 with
    | none => true
    | some f => a.atB f (q.1, some "__init__")))) && ((a.T.me.all fun q => !a.T.fl.contains q.1 && a.me.all fun r => decide (r.2.1 ≠ q.2) || (decide (r.1 < a.cn.length) && a.atB r.2.2 (a.c r.1, some q.1))) &&
    (decide a.T.fl.Nodup && (List.range a.dn.length).all fun f => a.defB f)))
mutual
/-- a constant of the module -/
def repB (K : PySem.W.Frag) : D → Value → Bool
  | .non, u => decide (u = .none)
  | .bl b, u => decide (u = .bool b)
  | .int i, u => (match u with
    | .int j _ => decide (j = i)
    | _ => false)
  | .str s, u => (match u with
    | .str x _ => decide (x = tx s)
    | _ => false)
  | .tup ds, u => (match u with
    | .ref a => (match K.lookup a with
      | some ⟨.type c, _, .seq its _, _⟩ => decide (c = "tuple") && (decide (its.size ≤ sizeLine) && repsB K ds its.toList)
      | _ => false)
    | _ => false)
  | .lst _, _ => false
  | .dic _, _ => false
  | .ob _ _, _ => false
  | .scr _, _ => false
termination_by structural d => d
def repsB (K : PySem.W.Frag) : List D → List Value → Bool
  | [], us => us.isEmpty
  | d :: ds, us => (match us with
    | u :: us => repB K d u && repsB K ds us
    | [] => false)
termination_by structural d => d
end
mutual
theorem repB_ok {L : Lk} : ∀ {d : D} {u : Value}, repB L.K d u = true → ∃ v, RelV v u ∧ ∀ Z, Rep L Z d v
  | .non, u, h => by
    simp only [repB, decide_eq_true_eq] at h
    subst h
    exact ⟨.non, rfl, fun Z => rep_non⟩
  | .bl b, u, h => by
    simp only [repB, decide_eq_true_eq] at h
    subst h
    exact ⟨.bl b, rfl, fun Z => rep_bl⟩
  | .int i, u, h => by
    simp only [repB] at h
    cases u <;> first | (cases h; done) | skip
    rename_i j t
    have h : j = i := of_decide_eq_true h
    subst h
    exact ⟨.int j, ⟨t, rfl⟩, fun Z => rep_int⟩
  | .str s, u, h => by
    simp only [repB] at h
    cases u <;> first | (cases h; done) | skip
    rename_i x t
    have h : x = tx s := of_decide_eq_true h
    subst h
    exact ⟨.str (tx s), ⟨t, rfl⟩, fun Z => rep_str rfl⟩
  | .tup ds, u, h => by
    simp only [repB] at h
    cases u <;> first | (cases h; done) | skip
    rename_i a
    have h : (match L.K.lookup a with
      | some ⟨.type c, _, .seq its _, _⟩ => decide (c = "tuple") && (decide (its.size ≤ sizeLine) && repsB L.K ds its.toList)
      | _ => false) = true := h
    cases q : L.K.lookup a with
    | none => rw [q] at h; cases h
    | some o =>
      obtain ⟨oc, od, dt, osl⟩ := o
      rw [q] at h
      cases oc with
      | type c =>
        cases dt with
        | seq its n =>
          have h : (decide (c = "tuple") && (decide (its.size ≤ sizeLine) && repsB L.K ds its.toList)) = true := h
          simp only [Bool.and_eq_true, decide_eq_true_eq] at h
          obtain ⟨h1, h2, h3⟩ := h
          subst h1
          obtain ⟨vs, r, rp⟩ := repsB_ok h3
          exact ⟨.ref a, rfl, fun Z => by simp only [Rep]; exact ⟨a, vs, rfl, .inr ⟨_, its, n, q, rfl, rfl, h2, r⟩, rp Z⟩⟩
        | _ => cases h
      | _ => cases dt <;> cases h
  | .lst _, _, h => by simp [repB] at h
  | .dic _, _, h => by simp [repB] at h
  | .ob _ _, _, h => by simp [repB] at h
  | .scr _, _, h => by simp [repB] at h
termination_by structural d => d
theorem repsB_ok {L : Lk} : ∀ {ds : List D} {us : List Value}, repsB L.K ds us = true → ∃ vs, Vals vs us ∧ ∀ Z, RepL L Z ds vs
  | [], us, h => by
    simp only [repsB] at h
    cases us with
    | nil => exact ⟨[], .nil, fun Z => .nil⟩
    | cons _ _ => cases h
  | d :: ds, us, h => by
    simp only [repsB] at h
    cases us with
    | nil => cases h
    | cons u us =>
      have h : (repB L.K d u && repsB L.K ds us) = true := h
      rw [Bool.and_eq_true] at h
      obtain ⟨v, r, rp⟩ := repB_ok h.1
      obtain ⟨vs, rs, rps⟩ := repsB_ok h.2
      exact ⟨v :: vs, .cons r rs, fun Z => .cons (rp Z) (rps Z)⟩
termination_by structural d => d
end
def coB (K : PySem.W.Frag) (x : Str) (d : D) : Bool := match PySem.W.nsIn K mainGlobals x with
  | some (some u) => repB K d u
  | _ => false
def insB (K : PySem.W.Frag) (x : Str) : Bool := He.eqO (PySem.W.findIn K (.ref (He.ga K x)) "__class__") (some (some (.builtin "object.__class__"))) && (He.eqO (PySem.W.specialIn K (.builtin "object.__class__") "__get__") (some (some (.builtin "getset_descriptor.__get__"))) &&
  (decide (PySem.W.takesIn K (.builtin "object.__class__") = some true) && decide (PySem.W.mroIn K (He.ga K x) (.type "object") = some true)))
/-- what is checked of the written part -/
def La.ckB (a : La) (K : PySem.W.Frag) : Bool :=
  (a.T.fn.all fun q => (He.Fa.glo q.1).ok K) && ((a.T.cl.all fun q => (He.Fa.glo q.1).ok K && (match a.init q.2 with
    | none => true
    | some _ => (He.Fa.mkr q.1).ok K)) && ((a.T.co.all fun q => coB K q.1 q.2) && ((a.T.fr.all fun x => (He.Fa.free x).ok K) &&
    ((a.T.me.all fun q => a.me.all fun r => decide (r.2.1 ≠ q.2) || (He.Fa.meth (a.c r.1) q.1).ok K) && ((a.cn.all fun x => (He.Fa.cls x).ok K && (insB K x && ((a.T.fl.all fun f => (He.Fa.noat x f).ok K) && tyNames.all fun n => decide (PySem.W.kitOne K (.ref (He.ga K x)) (.type n) = some false)))) &&
    (a.T.cl.all fun q => (("NoneType" :: tyNames).all fun n => decide (PySem.W.kitOne K (.type n) (.ref (He.ga K q.1)) = some false)) && (List.range a.cn.length).all fun c => decide (PySem.W.kitOne K (.ref (He.ga K (a.c c))) (.ref (He.ga K q.1)) = some (a.subB c q.2))))))))
/-! ### the Hook -/
def La.obsK (a : La) (K : PySem.W.Frag) : He.AlD := (a.ckB K && a.dn.all fun d => d.ok K, a.dn.map fun d => He.fnW K d.at_)
def La.Says (a : La) (K : PySem.W.Frag) : Prop := a.obsK K = He.valD a.dn
def La.obsG (a : La) (n : Nat) (g : Addr → Option Obj) : He.AlD := a.obsK (He.frG g (He.asD g n))
def La.hook (a : La) (n : Nat) : PySem.W.Hook where
  α := He.AlD
  obs := fun s => a.obsG n s.heap.get?
  val := fun _ => He.valD a.dn
  says := fun _ h => ∃ K : PySem.W.Frag, K.In h ∧ a.Says K
  of := fun _ _ e => ⟨_, He.frG_in, e⟩
  keeps := fun _ _ _ ⟨K, hK, c⟩ k => ⟨K, PySem.W.Frag.In.keeps hK k, c⟩
theorem La.obsG_eq {a : La} {n : Nat} {g : Addr → Option Obj} {s : Shared} (h : ∀ b, g b = s.heap.get? b) : a.obsG n g = (a.hook n).obs s := by
  have e : g = s.heap.get? := funext h
  rw [e] <;> rfl
theorem La.Says.ck {a : La} {K : PySem.W.Frag} (c : a.Says K) : a.ckB K = true :=
  (Bool.and_eq_true_iff.mp (show (a.ckB K && a.dn.all fun d => d.ok K) = true from congrArg (fun z : He.AlD => z.1) c)).1
theorem La.Says.def_ {a : La} {K : PySem.W.Frag} (c : a.Says K) {f : Nat} (h : f < a.dn.length) : ∃ fd, a.FnD K f fd := by
  have c2 := (Bool.and_eq_true_iff.mp (show (a.ckB K && a.dn.all fun d => d.ok K) = true from congrArg (fun z : He.AlD => z.1) c)).2
  have e : a.dn.map (fun d => He.fnW K d.at_) = a.dn.map He.DefD.val := congrArg (fun z : He.AlD => z.2) c
  have hd : a.dn[f]? = some (a.d f) := by
    unfold La.d
    rw [List.getElem?_eq_getElem h, List.getD_eq_getElem?_getD, List.getElem?_eq_getElem h]
    rfl
  have e2 : (a.dn.map fun d => He.fnW K d.at_)[f]? = (a.dn.map He.DefD.val)[f]? := by rw [e]
  rw [List.getElem?_map, List.getElem?_map, hd] at e2
  exact He.DefD.funD (Option.some.inj e2) (List.all_eq_true.mp c2 _ (List.mem_of_getElem? hd))
theorem La.fd_ok {a : La} {K : PySem.W.Frag} {f : Nat} (h : ∃ fd, a.FnD K f fd) : a.FnD K f (a.fdOf K f) := by
  unfold La.fdOf
  rw [dif_pos h]
  exact h.choose_spec
theorem lookup_mem {β : Type} {l : List (Str × β)} {x : Str} {b : β} (h : l.lookup x = some b) : (x, b) ∈ l := PySem.mem_of_lookup h
theorem fl_inj {l : List Str} (h : l.Nodup) {i j : Nat} {x : Str} (h1 : l[i]? = some x) (h2 : l[j]? = some x) : i = j := by
  obtain ⟨a1, a2⟩ := List.getElem?_eq_some_iff.mp h1
  obtain ⟨b1, b2⟩ := List.getElem?_eq_some_iff.mp h2
  exact (List.getElem_inj h).mp (a2.trans b2.symm)
/-- what the law's own text adds: how each def binds -/
def La.Bnd (a : La) (K : PySem.W.Frag) (L : Lk) : Prop := ∀ f fd, f < a.dn.length → a.FnD K f fd → ∀ n, n + ((a.fn f).fi.dfl.drop (n + (a.fn f).fi.dfl.length - (a.fn f).fi.pm.length)).length = (a.fn f).fi.pm.length →
    ∃ (dvs : List V) (ds : List Value), Vals dvs ds ∧ Binds K fd (a.p f) ds ∧ ∀ Z, RepL L Z ((a.fn f).fi.dfl.drop (n + (a.fn f).fi.dfl.length - (a.fn f).fi.pm.length)) dvs
section
variable {a : La} {K : PySem.W.Frag} {mg : Str → Option Value} {h : Heap} {P : Program} {w : World} {base : Heap}
theorem La.atB_ok {f : Nat} {p : Str × Option Str} (h : a.atB f p = true) : f < a.dn.length ∧ (a.d f).at_ = p := by
  unfold La.atB at h
  simpa using h
/-- THE LINK -/
theorem La.link (ho : a.okB = true) (c : a.Says K) (X : K.In h) (G0 : h.Ns mainGlobals mg) {Y : Cx} {call : Nat → List D → Option (D × List D)} {j : Nat} (hK : Y.K = K) (hm : Y.mg = mg) (hr : Room (j + 1) Y.A) (hc : Y.calm = true)
    (F : ∀ f, f < a.dn.length → FnX Y (a.lk K mg) (a.pr.gs call) j f) : Lnk Y (a.lk K mg) (a.pr.gs call) a.T j := by
  have ck := c.ck
  unfold La.okB at ho
  unfold La.ckB at ck
  simp only [Bool.and_eq_true, List.all_eq_true, decide_eq_true_eq] at ho ck
  obtain ⟨o1, o2, o3, o4, o5⟩ := ho
  obtain ⟨k1, k2, k3, k4, k5, k6, k7⟩ := ck
  have cnm : ∀ {c : Nat}, c < a.cn.length → a.c c ∈ a.cn := fun {c} hc => by
    unfold La.c
    rw [List.getD_eq_getElem?_getD, List.getElem?_eq_getElem hc]
    exact List.getElem_mem hc
  have gl : ∀ {x : Str}, (He.Fa.glo x).ok K = true → mg x = some (.ref (He.ga K x)) := fun h => He.glo_ok X G0 h
  refine ⟨hK, hm, hr, hc, fun i x e => e, fun i j x e1 e2 => fl_inj o4 e1 e2, fun c hc => ?_, fun c i x hc e => ?_, fun x f e => ?_, fun x c e => ?_, fun x d e => ?_, fun m k e => ?_, fun x e => ?_, ?_⟩
  · have hc : c < a.cn.length := of_decide_eq_true hc
    exact He.cls_ok (k6 _ (cnm hc)).1
  · have hc : c < a.cn.length := of_decide_eq_true hc
    exact He.noat_ok ((k6 _ (cnm hc)).2.2.1 x (List.mem_of_getElem? e))
  · obtain ⟨hf, hat⟩ := La.atB_ok (o1 _ (lookup_mem e))
    refine ⟨?_, F f hf⟩
    show mg x = some (.ref (He.fAd K (a.d f).at_))
    rw [hat]
    exact gl (k1 _ (lookup_mem e))
  · obtain ⟨h1, h2, h3⟩ := o2 _ (lookup_mem e)
    obtain ⟨q1, q2⟩ := k2 _ (lookup_mem e)
    have ec : a.c c = x := h2
    refine ⟨?_, fun f hf => ?_⟩
    · show mg x = some (.ref (He.ga K (a.c c)))
      rw [ec]
      exact gl q1
    · have hf : a.init c = some f := hf
      simp only [hf] at h3 q2
      obtain ⟨hl, hat⟩ := La.atB_ok h3
      refine ⟨?_, F f hl⟩
      rw [hK]
      show Mk K (He.ga K (a.c c)) (He.fAd K (a.d f).at_)
      rw [ec, hat]
      exact He.mkr_ok q2
  · have q := k3 _ (lookup_mem e)
    unfold coB at q
    cases hn : PySem.W.nsIn K mainGlobals x with
    | none => simp only [hn] at q; cases q
    | some o =>
      cases o with
      | none => simp only [hn] at q; cases q
      | some u =>
        simp only [hn] at q
        obtain ⟨v, r, rp⟩ := repB_ok (L := a.lk K mg) q
        exact ⟨u, v, PySem.W.mg_of X G0 hn, r, rp⟩
  · obtain ⟨h1, h2⟩ := o3 _ (lookup_mem e)
    refine ⟨fun i q => ?_, fun c f hf => ?_⟩
    · have : a.T.fl.contains m = true := List.contains_iff_mem.mpr (List.mem_of_getElem? q)
      have h1 : (!a.T.fl.contains m) = true := h1
      rw [this] at h1
      cases h1
    · have hf : (a.me.find? fun q => q.1 == c && q.2.1 == k).map (·.2.2) = some f := hf
      obtain ⟨r, hr', er⟩ := omE hf
      have hmem := List.mem_of_find?_eq_some hr'
      have hp := List.find?_some hr'
      simp only [Bool.and_eq_true, beq_iff_eq] at hp
      obtain ⟨rc, rk⟩ := hp
      have q1 := h2 r hmem
      have q2 := k5 _ (lookup_mem e) r hmem
      simp only [Bool.or_eq_true, decide_eq_true_eq, Bool.and_eq_true] at q1 q2
      have q1 := q1.resolve_left (fun z => z rk)
      have q2 := q2.resolve_left (fun z => z rk)
      obtain ⟨hl, hat⟩ := La.atB_ok q1.2
      subst rc er
      refine ⟨?_, ?_, F _ hl⟩
      · rw [hK]; exact He.cls_ok (k6 _ (cnm q1.1)).1
      · rw [hK]
        show Meth K (He.ga K (a.c r.1)) m (He.fAd K (a.d r.2.2).at_)
        rw [hat]
        exact He.meth_ok q2
  · exact He.free_ok X G0 (k4 x (List.contains_iff_mem.mp e))
  · refine ⟨fun c hc => ?_, fun c n hc hn => ?_, fun c n hc hn => ?_, fun c c' hc hc' => ?_⟩
    · have hc : c < a.cn.length := of_decide_eq_true hc
      obtain ⟨q1, q2, _⟩ := k6 _ (cnm hc)
      unfold insB at q2
      simp only [Bool.and_eq_true, decide_eq_true_eq] at q2
      exact ⟨He.cls_ok q1, He.eqO_ok q2.1, He.eqO_ok q2.2.1, q2.2.2.1, q2.2.2.2⟩
    · have hc : c < a.cn.length := of_decide_eq_true hc
      exact (k6 _ (cnm hc)).2.2.2 n hn
    · obtain ⟨x, hx⟩ := hc
      have ec : a.c c = x := (o2 _ (lookup_mem hx)).2.1
      have := (k7 _ (lookup_mem hx)).1 n hn
      show PySem.W.kitOne K (.type n) (.ref (He.ga K (a.c c))) = some false
      rw [ec]
      exact this
    · have hc : c < a.cn.length := of_decide_eq_true hc
      obtain ⟨x, hx⟩ := hc'
      have ec : a.c c' = x := (o2 _ (lookup_mem hx)).2.1
      have := (k7 _ (lookup_mem hx)).2 c (List.mem_range.mpr hc)
      show PySem.W.kitOne K (.ref (He.ga K (a.c c))) (.ref (He.ga K (a.c c'))) = some (a.subB c c')
      rw [ec]
      exact this
/-- ALL DEFS -/
theorem La.defs (ho : a.okB = true) (c : a.Says K) (X : K.In h) (G0 : h.Ns mainGlobals mg) (hb : a.Bnd K (a.lk K mg)) : ∀ k f, f < a.dn.length →
    FnOk P w K mg base CX0 (2 * k) (He.fAd K (a.d f).at_) (a.fdOf K f) (a.p f) (spR (a.lk K mg) (a.fn f).fi.ro (a.fn f).fi.pm (a.pr.call k f)) := by
  have db : ∀ f, f < a.dn.length → a.defB f = true := fun f hf => by
    have ho' := ho
    unfold La.okB at ho'
    simp only [Bool.and_eq_true, List.all_eq_true] at ho'
    exact ho'.2.2.2.2 f (List.mem_range.mpr hf)
  intro k
  induction k with
  | zero =>
    intro f hf
    refine ⟨fun vs H Q E ⟨_, Z, ds, d, os, _, _, e, _⟩ => ?_, fun A outer s H args us vs Q E _ _ _ _ ⟨_, Z, ds, d, os, _, _, e, _⟩ => ?_⟩
    · exact nomatch (show (none : Option (D × List D)) = some (d, os) from e)
    · exact nomatch (show (none : Option (D × List D)) = some (d, os) from e)
  | succ k ih =>
    intro f hf
    have hd := db f hf
    unfold La.defB at hd
    simp only [Bool.and_eq_true, decide_eq_true_eq] at hd
    obtain ⟨h1, h2, h3⟩ := hd
    have S := fnScB_ok h1
    have F := La.fd_ok (c.def_ hf)
    have hl : (a.fn f).fi.pm.length ≤ (a.N f).length := by
      rw [h2]
      have := congrArg List.length S.pre
      rw [List.length_take] at this
      omega
    show FnOk P w K mg base CX0 (2 * k + 1 + 1) _ _ _ _
    refine F.ok S (fun vs H Q E hsp => by rw [hsp.1, h2]) fun cdv A outer s H vs Q E hr hsp => ?_
    obtain ⟨lv, Z, ds, d, os, sub, Ar, e, q⟩ := hsp
    have LX : Lnk (cxOf CX0 P w K mg base (a.N f) (a.d f).qual (a.d f).scope (He.fAd K (a.d f).at_) cdv A outer s H E).nox (a.lk K mg) (a.pr.gs (a.pr.call k)) a.T (2 * k) :=
      La.link ho c X G0 rfl rfl hr rfl fun f' hf' => ⟨ih f' hf', (La.fd_ok (c.def_ hf')).kp, fun n hn => hb f' _ hf' (La.fd_ok (c.def_ hf')) n hn⟩
    have EX : Gx (cxOf CX0 P w K mg base (a.N f) (a.d f).qual (a.d f).scope (He.fAd K (a.d f).at_) cdv A outer s H E).nox ⟨a.N f, (a.d f).scope, fun _ => true, a.keep.getD f []⟩ :=
      ⟨rfl, S.nd, rfl, fun x _ => .inl rfl⟩
    refine ⟨tXs (a.lk K mg) (baOf Z H (a.fn f).fi.pm (a.N f) vs) (a.pr.gs (a.pr.call k)) (a.fn f).fi.ro (a.fn f).body, PSs.nox ?_, fn_ends sub Ar rfl hl e q⟩
    have hbd : (a.fn f).body = (cFn a.T (a.N f) (a.d f).scope (a.keep.getD f []) (a.d f).body).getD (.cons .stuck .nil) := rfl
    rw [hbd]
    cases hcf : cFn a.T (a.N f) (a.d f).scope (a.keep.getD f []) (a.d f).body with
    | none =>
      refine ⟨fun pins s σ H E' I ⟨ρ, Z, fl, _, e, _⟩ => ?_⟩
      simp only [Option.getD, Pi.execs, Pi.exec] at e
      cases e
    | some b => exact cSs_ok (cS_ok LX EX .never 20) _ _ hcf
/-- a def without defaults binds -/
theorem La.bnd0 {f : Nat} {fd : FuncData} {L : Lk} (hd : (a.fn f).fi.dfl = []) (h2 : (a.fn f).fi.pm.length = (a.p f).length) (h3 : (a.d f).dfl = []) (F : a.FnD K f fd)
    (hb : ∀ (kV doc pm : Value) (an : Option Addr) (cdv ct : Value) (us : List Value), us.length = (a.p f).length → bindArgs (PySem.W.fnOf (a.d f).name (a.d f).qual (a.d f).params (a.d f).body (a.d f).scope .none kV doc pm an cdv ct) ⟨us, []⟩ = pure ((a.p f).zip us)) :
    ∀ n, n + ((a.fn f).fi.dfl.drop (n + (a.fn f).fi.dfl.length - (a.fn f).fi.pm.length)).length = (a.fn f).fi.pm.length →
    ∃ (dvs : List V) (ds : List Value), Vals dvs ds ∧ Binds K fd (a.p f) ds ∧ ∀ Z, RepL L Z ((a.fn f).fi.dfl.drop (n + (a.fn f).fi.dfl.length - (a.fn f).fi.pm.length)) dvs := fun n hn => by
  have e0 : (a.d f).dvs K = [] := by unfold He.DefD.dvs; rw [h3]; rfl
  unfold La.FnD at F
  rw [e0] at F
  refine ⟨[], [], .nil, F.bindsN hb, fun Z => ?_⟩
  rw [hd, List.drop_nil]
  exact .nil
def dvB : He.Dv → D → Bool
  | .non, .non => true
  | .bl b, .bl c => b == c
  | .int i, .int j => i == j
  | .str x, .str t => decide (x = tx t)
  | _, _ => false
def dvsB : List He.Dv → List D → Bool
  | [], [] => true
  | x :: xs, d :: ds => dvB x d && dvsB xs ds
  | _, _ => false
theorem dv_rep {L : Lk} {Z : Hp} {x : He.Dv} {d : D} (h : dvB x d = true) : Rep L Z d (x.v K) := by
  cases x <;> cases d <;> first | (cases h; done) | skip
  · exact rep_non
  · have h : (_ == _) = true := h
    rw [beq_iff_eq] at h
    subst h
    exact rep_bl
  · have h : (_ == _) = true := h
    rw [beq_iff_eq] at h
    subst h
    exact rep_int
  · exact rep_str (of_decide_eq_true h)
theorem dvs_rep {L : Lk} {Z : Hp} : ∀ {xs : List He.Dv} {ds : List D}, dvsB xs ds = true → RepL L Z ds (xs.map (He.Dv.v K))
  | [], [], _ => .nil
  | [], _ :: _, h => by cases h
  | _ :: _, [], h => by cases h
  | x :: xs, d :: ds, h => by
    have h : (dvB x d && dvsB xs ds) = true := h
    rw [Bool.and_eq_true] at h
    exact .cons (dv_rep h.1) (dvs_rep h.2)
/-- a def with defaults binds -/
theorem La.bnd1 {f : Nat} {fd : FuncData} {L : Lk} (hd : dvsB (a.d f).dfl (a.fn f).fi.dfl = true) (h0 : (a.d f).dfl ≠ []) (h2 : (a.fn f).fi.pm.length = (a.p f).length) (hle : (a.fn f).fi.dfl.length ≤ (a.fn f).fi.pm.length) (hlen : (a.d f).dfl.length = (a.fn f).fi.dfl.length) (hk : (a.d f).kwd = []) (F : a.FnD K f fd)
    (hb : ∀ n j, j ≤ (a.d f).dfl.length → n + ((a.d f).dfl.length - j) = (a.p f).length → ∀ (T : Addr) (kV doc pm : Value) (an : Option Addr) (cdv ct : Value) (us its : List Value), us.length = n → its.length = (a.d f).dfl.length →
      ∃ k, bindArgs (PySem.W.fnOf (a.d f).name (a.d f).qual (a.d f).params (a.d f).body (a.d f).scope (.ref T) kV doc pm an cdv ct) ⟨us, []⟩ = seqItems? (.ref T) >>= k ∧ k (some its.toArray) = pure ((a.p f).zip (us ++ its.drop j))) :
    ∀ n, n + ((a.fn f).fi.dfl.drop (n + (a.fn f).fi.dfl.length - (a.fn f).fi.pm.length)).length = (a.fn f).fi.pm.length →
    ∃ (dvs : List V) (ds : List Value), Vals dvs ds ∧ Binds K fd (a.p f) ds ∧ ∀ Z, RepL L Z ((a.fn f).fi.dfl.drop (n + (a.fn f).fi.dfl.length - (a.fn f).fi.pm.length)) dvs := fun n hn => by
  generalize hj : n + (a.fn f).fi.dfl.length - (a.fn f).fi.pm.length = j at hn ⊢
  rw [List.length_drop] at hn
  have ld : ((a.d f).dvs K).length = (a.d f).dfl.length := by unfold He.DefD.dvs; rw [List.length_map]
  have e0 : (a.d f).kws K = [] := by unfold He.DefD.kws; rw [hk]; rfl
  unfold La.FnD at F
  rw [e0] at F
  obtain ⟨ds, hv, hbn⟩ := F.binds1 (ps := a.p f) n j (fun q => h0 (by
      have := congrArg List.length q
      rw [ld] at this
      exact List.length_eq_zero_iff.mp this)) (by rw [ld, hlen]; omega) fun T kV doc pm an cdv ct us its h1 h3 => hb n j (by omega) (by omega) T kV doc pm an cdv ct us its h1 (by rw [h3, ld])
  exact ⟨((a.d f).dvs K).drop j, ds, hv, hbn, fun Z => (dvs_rep hd).drop j⟩
/-- THE LAW'S END: at every script the text's law hands back True -/
theorem La.law_ok {f : Nat} {k n : Nat} {fa : Addr} {x : Str} (ho : a.okB = true) (c : a.Says K) (X : K.In h) (G0 : h.Ns mainGlobals mg) (hb : a.Bnd K (a.lk K mg)) (hf : f < a.dn.length) (hat : (a.d f).at_ = (("law" : Str), none)) (hglo : (He.Fa.glo ("law" : Str)).ok K = true) (hfa : mg "law" = some (.ref fa))
    (hpm : (a.fn f).fi.pm = [.F]) (hro : (a.fn f).fi.ro = false) (hp : a.p f = [x]) (hv : ∀ ns : List Int, ns.length ≤ n → a.pr.call k f [.scr ns] = some (.bl true, [])) :
    FnOk P w K mg base CX0 (2 * k) fa (a.fdOf K f) [x] (fun vs H Q _ => ∃ (b : Addr) (ns : List Int), vs = [.ref b] ∧ ns.length ≤ n ∧ SqL K H b (ns.map V.int) ∧ ∀ H', Q (.bl true) H') := by
  have D := La.defs (P := P) (w := w) (base := base) ho c X G0 hb k f hf
  have ea : He.fAd K (a.d f).at_ = fa := by
    rw [hat]
    have := hfa.symm.trans (He.glo_ok X G0 hglo)
    cases this
    rfl
  rw [ea, hp] at D
  refine D.imp fun vs H Q E ⟨b, ns, ev, hl, hS, q⟩ => ?_
  subst ev
  rw [hpm, hro]
  refine ⟨rfl, H, [.scr ns], .bl true, [], Sub.rfl', ⟨rfl, rfl, fun p m d v h1 h2 h3 => ?_, fun p q m x d h1 => ?_⟩, hv ns hl, fun v Z' H' T => ?_⟩
  · cases p with
    | zero =>
      cases h1; cases h2; cases h3
      show Rep (a.lk K mg) H (.scr ns) (.ref b)
      simp only [Rep]
      exact ⟨b, rfl, hS⟩
    | succ p => simp at h1
  · cases p with
    | zero => cases h1
    | succ p => simp at h1
  · have := T.val (.inl rfl)
    simp only [Rep] at this
    subst this
    exact q H'
end
end Pi
/-! the plain part: loops, comprehensions, data -/
namespace Pi
def hd : Sms → Sm
  | .cons s _ => s
  | .nil => .stuck
def tl : Sms → Sms
  | .cons _ r => r
  | .nil => .nil
theorem ex_cons {G : Gs} {ro : Bool} {s : Sm} {r : Sms} {ρ : En} : execs G ro (.cons s r) ρ = (exec G ro s ρ).bind (Fl.thn fun ρ => execs G ro r ρ) := by simp only [execs]
theorem ex_nil {G : Gs} {ro : Bool} {ρ : En} : execs G ro .nil ρ = some (.nx ρ) := by simp only [execs]
/-- a block whose first statement is known -/
theorem ex_nx {G : Gs} {ro : Bool} {b : Sms} {s : Sm} {r : Sms} {ρ ρ' : En} {x : Option Fl} (hb : b = .cons s r) (h : exec G ro s ρ = some (.nx ρ')) (hr : execs G ro r ρ' = x) : execs G ro b ρ = x := by
  subst hb
  rw [ex_cons, h]
  exact hr
theorem ex_rt {G : Gs} {ro : Bool} {b : Sms} {s : Sm} {r : Sms} {ρ ρ' : En} {d : D} (hb : b = .cons s r) (h : exec G ro s ρ = some (.rt d ρ')) : execs G ro b ρ = some (.rt d ρ') := by
  subst hb
  rw [ex_cons, h]
  rfl
theorem ex_for {G : Gs} {ro : Bool} {t : Tg} {it : Wk} {body : Sms} {fg : List Nat} {ρ ρ1 : En} {xs : List D} {fl : Fl} (h : evI G it ρ = some (xs, ρ1)) (h2 : forL t fg (fun ρ => execs G ro body ρ) xs ρ1 = some fl) : exec G ro (.forS t it body fg) ρ = some fl := by
  simp only [exec, h]
  exact h2
theorem ev_comp {G : Gs} {elt : Ex} {t : Tg} {it : Wk} {cond : Exs} {ρ ρ1 ρ2 : En} {xs ys : List D} (h : evI G it ρ = some (xs, ρ1)) (h2 : compL t t.names (fun ρ => evT G cond ρ) (fun ρ => (ev G elt ρ).bind fun q => toF q.2 q.1) [] xs ρ1 = some (ys, ρ2)) :
    ev G (.comp elt t it cond) ρ = some (.new (.lst ys), ρ2) := by
  simp only [ev, h]
  show (compL t t.names _ _ [] xs ρ1).map _ = _
  rw [h2]
  rfl
theorem ex_ass {G : Gs} {ro : Bool} {i : Nat} {e : Ex} {ρ ρ1 ρ2 : En} {r : Rv} (h : ev G e ρ = some (r, ρ1)) (h2 : sto i ρ1 r = some ρ2) : exec G ro (.ass i e) ρ = some (.nx ρ2) := by
  simp only [exec, h]
  show (sto i ρ1 r).map _ = _
  rw [h2]
  rfl
theorem ex_if {G : Gs} {ro : Bool} {c : Ex} {a b : Sms} {ρ ρ1 : En} {k : Bool} {x : Option Fl} (h : ev G c ρ = some (.val (.bl k), ρ1)) (h2 : execs G ro (if k then a else b) ρ1 = x) : exec G ro (.ifS c a b) ρ = x := by
  simp only [exec, h]
  cases k <;> exact h2
theorem ex_ret {G : Gs} {ro : Bool} {e : Ex} {ρ ρ1 : En} {r : Rv} {x : Option Fl} (h : ev G e ρ = some (r, ρ1)) (h2 : retR ro ρ1 r = x) : exec G ro (.ret e) ρ = x := by
  simp only [exec, h]
  exact h2
theorem run_rt {G : Gs} {ro : Bool} {b : Sms} {ρ ρ' : En} {d : D} {pm : List Md} {os : List D} (h : execs G ro b ρ = some (.rt d ρ')) (ho : outs pm ρ' = some os) : (execs G ro b ρ).bind (Fl.fin pm) = some (d, os) := by
  rw [h]
  show (outs pm ρ').map _ = _
  rw [ho]
  rfl
/-- a loop that runs to its end -/
theorem forL_inv {t : Tg} {fg : List Nat} {body : En → Option Fl} (P : Nat → En → Prop) : ∀ (ds : List D) (i : Nat) (ρ : En), P i ρ → (∀ j d, ds[j]? = some d → ∀ ρ, P (i + j) ρ → ∃ ρ1 ρ', tgt t d (Pi.wipe ρ fg) = some ρ1 ∧ body ρ1 = some (.nx ρ') ∧ P (i + j + 1) ρ') →
    ∃ ρ', forL t fg body ds ρ = some (.nx (Pi.wipe ρ' fg)) ∧ P (i + ds.length) ρ'
  | [], i, ρ, h, _ => ⟨ρ, rfl, h⟩
  | d :: ds, i, ρ, h, hs => by
    obtain ⟨ρ1, ρ2, h1, h2, h3⟩ := hs 0 d rfl ρ h
    obtain ⟨ρ', h4, h5⟩ := forL_inv P ds (i + 1) ρ2 h3 fun j d' e ρ hp => by
      have := hs (j + 1) d' (by simpa using e) ρ (by rw [show i + (j + 1) = i + 1 + j by omega]; exact hp)
      rwa [show i + (j + 1) + 1 = i + 1 + j + 1 by omega] at this
    refine ⟨ρ', ?_, by rw [show i + (d :: ds).length = i + 1 + ds.length by simp; omega]; exact h5⟩
    show (tgt t d (Pi.wipe ρ fg)).bind _ = _
    rw [h1]
    show (body ρ1).bind _ = _
    rw [h2]
    exact h4
/-- a comprehension: ρ0 the slots without the block's own names -/
theorem compL_all {t : Tg} {fg : List Nat} {test : En → Option (Bool × En)} {elt : En → Option (D × En)} (ρ0 : En) (c : D → Bool) (f : D → D) : ∀ (ds acc : List D) (ρ : En), Pi.wipe ρ fg = ρ0 → acc.length + ds.length ≤ SL →
    (∀ d ∈ ds, ∃ ρ1 ρ2, tgt t d ρ0 = some ρ1 ∧ test ρ1 = some (c d, ρ2) ∧ (c d = true → ∃ ρ3, elt ρ2 = some (f d, ρ3) ∧ Pi.wipe ρ3 fg = ρ0) ∧ (c d = false → Pi.wipe ρ2 fg = ρ0)) → compL t fg test elt acc ds ρ = some (acc ++ (ds.filter c).map f, ρ0)
  | [], acc, ρ, h, _, _ => by
    show some (acc, Pi.wipe ρ fg) = _
    rw [h]
    simp
  | d :: ds, acc, ρ, h, hl, hs => by
    obtain ⟨ρ1, ρ2, h1, h2, h3, h4⟩ := hs d List.mem_cons_self
    show (tgt t d (Pi.wipe ρ fg)).bind _ = _
    rw [h, h1]
    show (test ρ1).bind _ = _
    rw [h2]
    simp only [List.length_cons] at hl
    cases hc : c d with
    | true =>
      obtain ⟨ρ3, h5, h6⟩ := h3 hc
      show (elt ρ2).bind _ = _
      rw [h5]
      show (if acc.length < SL then compL t fg test elt (acc ++ [f d]) ds ρ3 else none) = _
      rw [if_pos (by omega), compL_all ρ0 c f ds (acc ++ [f d]) ρ3 h6 (by rw [List.length_append, List.length_singleton]; omega) fun d' hd => hs d' (List.mem_cons_of_mem _ hd)]
      rw [List.filter_cons_of_pos hc]
      simp
    | false =>
      show compL t fg test elt acc ds ρ2 = _
      rw [compL_all ρ0 c f ds acc ρ2 (h4 hc) (by omega) fun d' hd => hs d' (List.mem_cons_of_mem _ hd), List.filter_cons_of_neg (by simp [hc])]
section
variable {G : Gs} {a b c : Ex} {es : Exs} {ρ ρ1 ρ2 ρ3 : En} {r r1 r2 : Rv} {rs : List Rv} {k l : Bool} {x y : D}
theorem ev_andT (h : ev G a ρ = some (.val (.bl true), ρ1)) : ev G (.and a b) ρ = ev G b ρ1 := by simp only [ev, h]; rfl
theorem ev_andF (h : ev G a ρ = some (.val (.bl false), ρ1)) : ev G (.and a b) ρ = some (.val (.bl false), ρ1) := by simp only [ev, h]; rfl
theorem ev_andB (h : ev G a ρ = some (.val (.bl k), ρ)) (h2 : ev G b ρ = some (.val (.bl l), ρ)) : ev G (.and a b) ρ = some (.val (.bl (k && l)), ρ) := by
  cases k with
  | true => rw [ev_andT h, h2]; rfl
  | false => rw [ev_andF h]; rfl
theorem ev_orT (h : ev G a ρ = some (.val (.bl true), ρ1)) : ev G (.or a b) ρ = some (.val (.bl true), ρ1) := by simp only [ev, h]; rfl
theorem ev_orF (h : ev G a ρ = some (.val (.bl false), ρ1)) : ev G (.or a b) ρ = ev G b ρ1 := by simp only [ev, h]; rfl
theorem ev_orB (h : ev G a ρ = some (.val (.bl k), ρ)) (h2 : ev G b ρ = some (.val (.bl l), ρ)) : ev G (.or a b) ρ = some (.val (.bl (k || l)), ρ) := by
  cases k with
  | true => rw [ev_orT h]; rfl
  | false => rw [ev_orF h, h2]; rfl
theorem ev_not (h : ev G a ρ = some (.val (.bl k), ρ1)) : ev G (.not a) ρ = some (.val (.bl (!k)), ρ1) := by simp only [ev, h]; rfl
theorem ev_op {o : O2} (h : ev G a ρ = some (r1, ρ1)) (h2 : ev G b ρ1 = some (r2, ρ2)) (hx : rd ρ2 r1 = some x) (hy : rd ρ2 r2 = some y) (ho : o2 o x y = some r) : ev G (.op o a b) ρ = some (r, ρ2) := by
  simp only [ev, h]
  show (ev G b ρ1).bind _ = _
  rw [h2]
  show (rd ρ2 r1).bind _ = _
  rw [hx]
  show (rd ρ2 r2).bind _ = _
  rw [hy]
  show (o2 o x y).map _ = _
  rw [ho]
  rfl
theorem ev_call {f : Nat} {z : Rv × En} (h : evs G es ρ = some (rs, ρ1)) (h2 : callD G f rs ρ1 = some z) : ev G (.call f es) ρ = some z := by
  simp only [ev, h]
  exact h2
theorem ev_bi {f : Bi} {ds : List D} (h : evs G es ρ = some (rs, ρ1)) (h2 : rds ρ1 rs = some ds) (h3 : bi f ds = some r) : ev G (.bi f es) ρ = some (r, ρ1) := by
  simp only [ev, h]
  show (rds ρ1 rs).bind _ = _
  rw [h2]
  show (bi f ds).map _ = _
  rw [h3]
  rfl
theorem evs_one (h : ev G a ρ = some (r, ρ1)) : evs G (.cons a .nil) ρ = some ([r], ρ1) := by
  simp only [evs, h]
  rfl
theorem evs_cons (h : ev G a ρ = some (r, ρ1)) (h2 : evs G es ρ1 = some (rs, ρ2)) : evs G (.cons a es) ρ = some (r :: rs, ρ2) := by
  simp only [evs, h]
  show (evs G es ρ1).map _ = _
  rw [h2]
  rfl
end
theorem blsOf_map {α : Type} (g : α → Bool) : ∀ l : List α, blsOf (l.map fun x => D.bl (g x)) = some (l.map g)
  | [] => rfl
  | x :: l => by
    show (blsOf (l.map fun x => D.bl (g x))).map _ = _
    rw [blsOf_map g l]
    rfl
theorem datL_strs {α : Type} (g : α → Tx) : ∀ l : List α, D.datL (l.map fun x => D.str (g x)) = true
  | [] => rfl
  | x :: l => by
    show (D.dat (.str (g x)) && D.datL (l.map fun x => D.str (g x))) = true
    rw [datL_strs g l]
    rfl
theorem depL_strs {α : Type} (g : α → Tx) : ∀ l : List α, D.depL (l.map fun x => D.str (g x)) = 0
  | [] => rfl
  | x :: l => by
    show max (D.dep (.str (g x))) (D.depL (l.map fun x => D.str (g x))) = 0
    rw [depL_strs g l]
    rfl
theorem eqvL_nil (l : List D) : D.eqvL l [] = l.isEmpty := by
  cases l <;> simp [D.eqvL]
theorem txLt_one (a b : Ch) : txLt [a] [b] = decide (a.val < b.val) := by
  simp [txLt, List.cons_lt_cons_iff]
end Pi
/-! the laws' own draw, data that equals itself -/
namespace Pi
mutual
theorem eqv_refl : ∀ d : D, d.dat = true → D.eqv d d = true
  | .non, _ => rfl
  | .bl b, _ => by simp [D.eqv]
  | .int i, _ => by simp [D.eqv]
  | .str s, _ => by simp [D.eqv]
  | .tup xs, h => by simp only [D.eqv]; exact eqvL_refl xs (by simpa [D.dat] using h)
  | .lst xs, h => by simp only [D.eqv]; exact eqvL_refl xs (by simpa [D.dat] using h)
  | .dic _, h => by simp [D.dat] at h
  | .ob _ _, h => by simp [D.dat] at h
  | .scr _, h => by simp [D.dat] at h
termination_by structural d => d
theorem eqvL_refl : ∀ ds : List D, D.datL ds = true → D.eqvL ds ds = true
  | [], _ => rfl
  | d :: ds, h => by
    simp only [D.datL, Bool.and_eq_true] at h
    simp only [D.eqvL, eqv_refl d h.1, eqvL_refl ds h.2, Bool.and_self]
termination_by structural ds => ds
end
theorem eq_self {d : D} (h : d.sane = true) : o2 .eq d d = some (.val (.bl true)) := by
  have hd : d.dat = true := (Bool.and_eq_true_iff.mp h).1
  show (D.eqq d d).map _ = _
  unfold D.eqq
  rw [if_pos ⟨h, h⟩, eqv_refl d hd]
  rfl
theorem ne_self {d : D} (h : d.sane = true) : o2 .ne d d = some (.val (.bl false)) := by
  have hd : d.dat = true := (Bool.and_eq_true_iff.mp h).1
  show (D.eqq d d).map _ = _
  unfold D.eqq
  rw [if_pos ⟨h, h⟩, eqv_refl d hd]
  rfl
/-! ### the draw -/
def digB : Sms := (.cons (.ifS (.op .eq (.bi .len (.cons (.var 0) .nil)) (.con (.int 1))) (.cons (.ass 2 (.idx (.var 0) (.con (.int 0)))) (.cons (.setI 0 (.con (.int 0)) (.op .mul (.var 2) (.bi .int (.cons (.op .ge (.var 2) (.op .pow (.con (.int 10)) (.con (.int 18)))) .nil)))) (.cons (.ex (.mut .extend 0 (.cons (.lst (.cons (.op .mod (.var 2) (.con (.int 2147483647))) (.cons (.con (.int 0)) .nil))) .nil))) .nil))) .nil) (.cons (.ifS (.op .gt (.idx (.var 0) (.con (.int 0))) (.con (.int 0))) (.cons (.ass 3 (.op .mod (.idx (.var 0) (.con (.int 0))) (.var 1))) (.cons (.setI 0 (.con (.int 0)) (.op .fdiv (.idx (.var 0) (.con (.int 0))) (.var 1))) (.cons (.ret (.var 3)) .nil))) .nil) (.cons (.setI 0 (.con (.int 2)) (.op .add (.idx (.var 0) (.con (.int 2))) (.con (.int 1)))) (.cons (.ass 4 (.op .mod (.op .mul (.op .add (.op .add (.idx (.var 0) (.con (.int 1))) (.op .mul (.con (.int 7919)) (.idx (.var 0) (.con (.int 2))))) (.con (.int 1))) (.con (.int 48271))) (.con (.int 2147483647)))) (.cons (.ass 4 (.op .mod (.op .mul (.var 4) (.op .add (.op .fdiv (.var 4) (.con (.int 1009))) (.con (.int 69621)))) (.con (.int 2147483647)))) (.cons (.ret (.op .mod (.op .mod (.op .mul (.var 4) (.op .add (.op .fdiv (.var 4) (.con (.int 2003))) (.con (.int 40692)))) (.con (.int 2147483399))) (.var 1))) .nil))))))
theorem dig_tail {G : Gs} (base : Int) (h0 : 0 < base) (h1 : base < 2 ^ 30) (a b n : Int) (s2 : Option Sl) : ∃ r a' b' n' l, execs G false (tl digB) [some (.ino (.lst [.int a, .int b, .int n])), some (.fz (.int base)), s2, none, none] =
    some (.rt (.int r) (some (.ino (.lst [.int a', .int b', .int n'])) :: some (.fz (.int base)) :: l)) ∧ 0 ≤ r ∧ r < base := by
  have hb : base < 18446744073709551616 := by omega
  by_cases ha : 0 < a
  · have q := And.intro (Int.emod_nonneg a (show base ≠ 0 by omega)) (Int.emod_lt_of_pos a h0)
    refine ⟨a % base, a / base, b, n, [s2, some (.fz (.int (a % base))), none], ?_, q⟩
    simp [digB, tl, execs, exec, ev, evs, evF, varR, slR, En.sl, Sl.d, rd, rds, bi, o2, asB, D.eqq, D.sane, D.dat, D.dep, D.eqv, ix, atI, Pi.ixN, toF, putSl, Pi.setItem, sto, notI, retR, D.root, ha, h0, hb, Fl.thn]
  · generalize e1 : ((b + 7919 * (n + 1) + 1) * 48271) % 2147483647 = x
    have x0 : 0 ≤ x := by rw [← e1]; exact Int.emod_nonneg _ (by decide)
    have x1 : x < 2147483647 := by rw [← e1]; exact Int.emod_lt_of_pos _ (by decide)
    generalize e2 : x * (x / 1009 + 69621) % 2147483647 = y
    have y0 : 0 ≤ y := by rw [← e2]; exact Int.emod_nonneg _ (by decide)
    have y1 : y < 2147483647 := by rw [← e2]; exact Int.emod_lt_of_pos _ (by decide)
    have q := And.intro (Int.emod_nonneg (y * (y / 2003 + 40692) % 2147483399) (show base ≠ 0 by omega)) (Int.emod_lt_of_pos (y * (y / 2003 + 40692) % 2147483399) h0)
    refine ⟨y * (y / 2003 + 40692) % 2147483399 % base, a, b, n + 1, [s2, none, some (.fz (.int y))], ?_, q⟩
    have x2 : -18446744073709551616 < x ∧ x < 18446744073709551616 := by omega
    have y2 : -18446744073709551616 < y ∧ y < 18446744073709551616 := by omega
    simp [digB, tl, execs, exec, ev, evs, evF, varR, slR, En.sl, Sl.d, rd, rds, bi, o2, asB, D.eqq, D.sane, D.dat, D.dep, D.eqv, ix, atI, Pi.ixN, toF, putSl, Pi.setItem, sto, notI, retR, D.root, ha, h0, hb, e1, e2, x2, y2, Fl.thn]
/-- a draw's state -/
def DSt (s : D) : Prop := (∃ c : Int, s = .lst [.int c]) ∨ ∃ a b n : Int, s = .lst [.int a, .int b, .int n]
theorem DSt.one (c : Int) : DSt (.lst [.int c]) := .inl ⟨c, rfl⟩
theorem DSt.root {s : D} (h : DSt s) : s.root = true := by
  rcases h with ⟨c, rfl⟩ | ⟨a, b, n, rfl⟩ <;> rfl
theorem dig_ok {G : Gs} (base : Int) (h0 : 0 < base) (h1 : base < 2 ^ 30) {s : D} (hs : DSt s) : ∃ r s', (execs G false digB [some (.ino s), some (.fz (.int base)), none, none, none]).bind (Fl.fin [.I, .F]) = some (.int r, [s']) ∧ 0 ≤ r ∧ r < base ∧ DSt s' := by
  have hb : digB = .cons (hd digB) (tl digB) := rfl
  rcases hs with ⟨c, rfl⟩ | ⟨a, b, n, rfl⟩
  · obtain ⟨r, a', b', n', l, e, q⟩ := dig_tail (G := G) base h0 h1 (c * if (1000000000000000000 : Int) ≤ c then 1 else 0) (c % 2147483647) 0 (some (.fz (.int c)))
    refine ⟨r, .lst [.int a', .int b', .int n'], run_rt (ex_nx hb ?_ e) rfl, q.1, q.2, .inr ⟨_, _, _, rfl⟩⟩
    by_cases hc : (1000000000000000000 : Int) ≤ c
    · simp [digB, hd, execs, exec, ev, evs, evF, varR, slR, En.sl, Sl.d, rd, rds, bi, o2, asB, D.eqq, D.sane, D.dat, D.dep, D.depL, D.eqv, ix, atI, Pi.ixN, toF, putSl, Pi.setItem, sto, notI, D.root, isL, mutD, SL, D.datL, hc, Fl.thn]
    · simp [digB, hd, execs, exec, ev, evs, evF, varR, slR, En.sl, Sl.d, rd, rds, bi, o2, asB, D.eqq, D.sane, D.dat, D.dep, D.depL, D.eqv, ix, atI, Pi.ixN, toF, putSl, Pi.setItem, sto, notI, D.root, isL, mutD, SL, D.datL, hc, Fl.thn]
  · obtain ⟨r, a', b', n', l, e, q⟩ := dig_tail (G := G) base h0 h1 a b n none
    refine ⟨r, .lst [.int a', .int b', .int n'], run_rt (ex_nx hb ?_ e) rfl, q.1, q.2, .inr ⟨_, _, _, rfl⟩⟩
    simp [digB, hd, execs, exec, ev, evs, varR, slR, En.sl, Sl.d, rd, rds, bi, o2, asB, D.eqq, D.sane, D.dat, D.dep, D.eqv, D.root]
/-- a draw within an expression: the state stands in slot 0 -/
theorem ev_draw {G : Gs} {f : Nat} {s s' : D} {e : Ex} {m r : Int} {ρr : En} (hfi : G.fi f = ⟨[.I, .F], false, []⟩) (hc : G.call f [s, .int m] = some (.int r, [s'])) (hs : s.root = true) (he : ev G e (some (.ino s) :: ρr) = some (.val (.int m), some (.ino s) :: ρr)) :
    ev G (.call f (.cons (.var 0) (.cons e .nil))) (some (.ino s) :: ρr) = some (.val (.int r), some (.ino s') :: ρr) := by
  refine ev_call (rs := [.slot 0, .val (.int m)]) (ρ1 := some (.ino s) :: ρr) (evs_cons ?_ (evs_one he)) ?_
  · simp [ev, varR, slR, En.sl, hs]
  · simp [callD, doCall, frzA, readA, readI, toF, rd, hfi, En.sl, hs, apart, Rv.isSlot, backI, resR, defaults, Sl.put, hc]
/-- a function of the state alone -/
theorem ev_drawN {G : Gs} {f : Nat} {s s' d : D} {ρr : En} (hfi : G.fi f = ⟨[.I], false, []⟩) (hc : G.call f [s] = some (d, [s'])) (hs : s.root = true) :
    ev G (.call f (.cons (.var 0) .nil)) (some (.ino s) :: ρr) = some (.val d, some (.ino s') :: ρr) := by
  refine ev_call (rs := [.slot 0]) (ρ1 := some (.ino s) :: ρr) (evs_one ?_) ?_
  · simp [ev, varR, slR, En.sl, hs]
  · simp [callD, doCall, frzA, readA, readI, toF, rd, hfi, En.sl, hs, apart, Rv.isSlot, backI, resR, defaults, Sl.put, hc]
/-- a comprehension whose items draw: an invariant, a property of what is made -/
theorem compL_inv {t : Tg} {fg : List Nat} {test : En → Option (Bool × En)} {elt : En → Option (D × En)} (P : En → Prop) (W : D → Prop) : ∀ (ds acc : List D) (ρ : En), P (Pi.wipe ρ fg) → acc.length + ds.length ≤ SL → (∀ x ∈ acc, W x) →
    (∀ d ∈ ds, ∀ ρ0, P ρ0 → ∃ ρ1 ρ2 ρ3 y, tgt t d ρ0 = some ρ1 ∧ test ρ1 = some (true, ρ2) ∧ elt ρ2 = some (y, ρ3) ∧ W y ∧ P (Pi.wipe ρ3 fg)) → ∃ ys ρ', compL t fg test elt acc ds ρ = some (ys, ρ') ∧ P ρ' ∧ ys.length = acc.length + ds.length ∧ ∀ x ∈ ys, W x
  | [], acc, ρ, h, _, hw, _ => ⟨acc, _, rfl, h, rfl, hw⟩
  | d :: ds, acc, ρ, h, hl, hw, hs => by
    obtain ⟨ρ1, ρ2, ρ3, y, h1, h2, h3, h4, h5⟩ := hs d List.mem_cons_self _ h
    simp only [List.length_cons] at hl
    obtain ⟨ys, ρ', e, p, l, w⟩ := compL_inv P W ds (acc ++ [y]) ρ3 h5 (by rw [List.length_append, List.length_singleton]; omega) (fun x hx => by
      rcases List.mem_append.mp hx with hx | hx
      · exact hw x hx
      · rw [List.mem_singleton.mp hx]; exact h4) fun d' hd => hs d' (List.mem_cons_of_mem _ hd)
    refine ⟨ys, ρ', ?_, p, by rw [l, List.length_append, List.length_singleton, List.length_cons]; omega, w⟩
    show (tgt t d (Pi.wipe ρ fg)).bind _ = _
    rw [h1]
    show (test ρ1).bind _ = _
    rw [h2]
    show (elt ρ2).bind _ = _
    rw [h3]
    show (if acc.length < SL then compL t fg test elt (acc ++ [y]) ds ρ3 else none) = _
    rw [if_pos (by omega)]
    exact e
def isStr : D → Bool
  | .str _ => true
  | _ => false
theorem datL_isStr : ∀ {l : List D}, (∀ x ∈ l, isStr x = true) → D.datL l = true ∧ D.depL l = 0
  | [], _ => ⟨rfl, rfl⟩
  | x :: l, h => by
    obtain ⟨h1, h2⟩ := datL_isStr (l := l) fun y hy => h y (List.mem_cons_of_mem _ hy)
    have hx := h x List.mem_cons_self
    cases x <;> first | (cases hx; done) | skip
    exact ⟨by show (D.dat (.str _) && D.datL l) = true; rw [h1]; rfl, by show max (D.dep (.str _)) (D.depL l) = 0; rw [h2]; rfl⟩
end Pi
set_option maxHeartbeats 0
namespace Lw
open PySem PySem.Spec PyProof.Rows L2 Pi
abbrev rw0 := PySem.Challenge.rw_tellworld_k02_words_of_a_row
def top (i : Nat) : Stmt := PySem.Challenge.pw_tellworld_k02_words_of_a_row.main.body.getD i (.Pass ⟨0, 0, 0, 0⟩)
def clsB : Stmt → List Stmt
  | .ClassDef (body := b) .. => b
  | _ => []
def dd (at_ : PySem.Str × Option PySem.Str) (name qual : PySem.Str) (s : Stmt) (dfl : List He.Dv) : He.DefD := ⟨at_, name, qual, defArgs s, defBody s, defScope s, dfl, []⟩
def dn : List He.DefD := [dd ("words_of", none) "words_of" "words_of" (top 2) [], dd ("_law_cell_at", none) "_law_cell_at" "_law_cell_at" (top 4) [], dd ("_law_digit", none) "_law_digit" "_law_digit" (top 5) [], dd ("_law_row", none) "_law_row" "_law_row" (top 6) [], dd ("law", none) "law" "law" (top 7) []]
def Ns : List (List PySem.Str) := [["row", "word"], ["_law_script", "_law_k"], ["_law_state", "_law_base", "_law_cell", "_law_found", "_law_number"], ["_law_state", "_law_some", "_law_row_here", "_law_words", "_law_k", "_law_word"], ["_law_script", "_law_cell", "_law_row_here", "_law_words", "_law_found"]]
def ps : List (List PySem.Str) := [["row"], ["_law_script", "_law_k"], ["_law_state", "_law_base"], ["_law_state"], ["_law_script"]]
def keep : List (List Nat) := [[], [], [], [2, 3], []]
def fi : List Fi := [⟨[.F], false, []⟩, ⟨[.F, .F], false, []⟩, ⟨[.I, .F], false, []⟩, ⟨[.I], false, []⟩, ⟨[.F], false, []⟩]
def co : List (PySem.Str × D) := [("LEFT_OUT", .tup [.str [116, 104, 101], .str [97]])]
def fnT : List (PySem.Str × Nat) := [("words_of", 0), ("_law_cell_at", 1), ("_law_digit", 2), ("_law_row", 3), ("law", 4)]
def tb : Tb := ⟨fnT, [], co, [], [], ["len", "int", "isinstance", "range", "tuple"]⟩
def la : La := ⟨tb, dn, Ns, ps, keep, fi, [], [], [], []⟩
theorem la_ok : la.okB = true := by decide +kernel
theorem bd0 (kV doc pm : Value) (an : Option Addr) (cdv ct : Value) (us : List Value) (hl : us.length = (la.p 0).length) : bindArgs (PySem.W.fnOf (la.d 0).name (la.d 0).qual (la.d 0).params (la.d 0).body (la.d 0).scope .none kV doc pm an cdv ct) ⟨us, []⟩ = pure ((la.p 0).zip us) := match us, hl with | [_], _ => rfl
theorem bd1 (kV doc pm : Value) (an : Option Addr) (cdv ct : Value) (us : List Value) (hl : us.length = (la.p 1).length) : bindArgs (PySem.W.fnOf (la.d 1).name (la.d 1).qual (la.d 1).params (la.d 1).body (la.d 1).scope .none kV doc pm an cdv ct) ⟨us, []⟩ = pure ((la.p 1).zip us) := match us, hl with | [_, _], _ => rfl
theorem bd2 (kV doc pm : Value) (an : Option Addr) (cdv ct : Value) (us : List Value) (hl : us.length = (la.p 2).length) : bindArgs (PySem.W.fnOf (la.d 2).name (la.d 2).qual (la.d 2).params (la.d 2).body (la.d 2).scope .none kV doc pm an cdv ct) ⟨us, []⟩ = pure ((la.p 2).zip us) := match us, hl with | [_, _], _ => rfl
theorem bd3 (kV doc pm : Value) (an : Option Addr) (cdv ct : Value) (us : List Value) (hl : us.length = (la.p 3).length) : bindArgs (PySem.W.fnOf (la.d 3).name (la.d 3).qual (la.d 3).params (la.d 3).body (la.d 3).scope .none kV doc pm an cdv ct) ⟨us, []⟩ = pure ((la.p 3).zip us) := match us, hl with | [_], _ => rfl
theorem bd4 (kV doc pm : Value) (an : Option Addr) (cdv ct : Value) (us : List Value) (hl : us.length = (la.p 4).length) : bindArgs (PySem.W.fnOf (la.d 4).name (la.d 4).qual (la.d 4).params (la.d 4).body (la.d 4).scope .none kV doc pm an cdv ct) ⟨us, []⟩ = pure ((la.p 4).zip us) := match us, hl with | [_], _ => rfl
theorem bnd {K : PySem.W.Frag} {L : Lk} : la.Bnd K L := fun f fd hf F => match f, hf, F with
  | 0, _, F => La.bnd0 rfl rfl rfl F bd0
  | 1, _, F => La.bnd0 rfl rfl rfl F bd1
  | 2, _, F => La.bnd0 rfl rfl rfl F bd2
  | 3, _, F => La.bnd0 rfl rfl rfl F bd3
  | 4, _, F => La.bnd0 rfl rfl rfl F bd4
  | n + 5, h, _ => absurd h (by rw [show la.dn.length = 5 from rfl]; omega)
abbrev R : PySem.W.OpenRow := PySem.W.OpenLaw.row rw0
abbrev hk : PySem.W.Hook := la.hook 5
def ob (s : PySem.W.SharedT) : He.AlD := la.obsG 5 (HandSHeadRun.getT s)
theorem ob_eq (s : PySem.W.SharedT) : ob s = hk.obs s.abs := La.obsG_eq (HandSHeadRun.getT_eq s)
def names : List PySem.Str := ["LEFT_OUT", "words_of", "_law_cell_at", "_law_digit", "_law_row"]
theorem run (w : World) : HandSHeadRun.RunEq R (PySem.W.view R.prog [7]) hk ob 20000 names w := by
  intro os
  kernel_rfl
def lawIx : Nat := 4
theorem facts (hv : ∀ ns : List Int, ns.length ≤ 63 → la.pr.call 9 4 [.scr ns] = some (.bl true, [])) {P : Program} {w : World} {K : PySem.W.Frag} {h : Heap} {mg : PySem.Str → Option Value} {f : Addr} (X : K.In h) (G : h.Ns mainGlobals mg) (hfa : mg ("law" : PySem.Str) = some (.ref f)) (c : la.Says K) :
    ∃ fd : FuncData, (∀ (s : Shared) (v : Value), BindsTo s fd ⟨[v], []⟩ [("_law_script", v)]) ∧ ∀ base : Heap, K.In base → base.Ns mainGlobals mg → FnOk P w K mg base CX0 18 f fd ["_law_script"] (fun vs H Q _ => ∃ (b : Addr) (ns : List Int), vs = [.ref b] ∧ ns.length ≤ 63 ∧ SqL K H b (ns.map V.int) ∧ ∀ H', Q (.bl true) H') := by
  have hl : 4 < la.dn.length := by decide +kernel
  have gq : (He.Fa.glo ("law" : PySem.Str)).ok K = true := by
    have ck := c.ck
    unfold La.ckB at ck
    simp only [Bool.and_eq_true, List.all_eq_true] at ck
    exact ck.1 (("law" : PySem.Str), 4) (by decide +kernel)
  refine ⟨la.fdOf K 4, fun s v => ?_, fun base _ _ => La.law_ok la_ok c X G bnd hl rfl gq hfa rfl rfl rfl hv⟩
  have F : la.FnD K 4 (la.fdOf K 4) := La.fd_ok (c.def_ hl)
  exact FunD.bindsA (ps := ["_law_script"]) F (fun kV doc pm an cdv ct us hl => match us, hl with | [_], _ => rfl) s [v] rfl
end Lw
section
open PySem PySem.W PySem.Calls PyProof.Rows
theorem Lw.holds (hv : ∀ ns : List Int, ns.length ≤ 63 → Lw.la.pr.call 9 4 [.scr ns] = some (.bl true, [])) : PySem.Challenge.rw_tellworld_k02_words_of_a_row.Holds := by
  w_on; o_law
  refine HandSHeadRun.head_any (r := OpenLaw.row PySem.Challenge.rw_tellworld_k02_words_of_a_row) (q := view (OpenLaw.row PySem.Challenge.rw_tellworld_k02_words_of_a_row).prog [7]) (H := Lw.hk) (ob := Lw.ob) (M := 20000) (loose := Lw.names) (d := HandSHeadRun.topDef (OpenLaw.row PySem.Challenge.rw_tellworld_k02_words_of_a_row).prog 7) (kwd := []) Lw.ob_eq
    (by kernel_rfl) (fun s => by kernel_rfl) Lw.run (by kernel_rfl) (by kernel_rfl) (by kernel_rfl) (by rfl) (by first | assumption | decide +kernel) (by decide +kernel) ⟨rfl, rfl, rfl, rfl, rfl, by decide +kernel⟩ ?hw ?hc
  case hw => w_witness2
  case hc =>
    refine L2.walk_ofE (l := PySem.Challenge.rw_tellworld_k02_words_of_a_row) (n := 63) (k := 18) (x := "_law_script") (CX := L2.CX0) rfl (by decide) (by kernel_rfl) ⟨rfl, by decide, by decide⟩ ?F (fun _ _ _ _ z => z)
    intro w mg fa h Y G hmg0
    obtain ⟨K, KX, c⟩ := Y
    have hmg : mg ("law" : PySem.Str) = some (.ref fa) := by
      have e : (HandSHeadRun.topDef (OpenLaw.row PySem.Challenge.rw_tellworld_k02_words_of_a_row).prog 7).name = ("law" : PySem.Str) := by kernel_rfl
      rw [← e]
      exact hmg0
    obtain ⟨fd, hb, hF⟩ := Lw.facts hv (P := (PySem.Challenge.rw_tellworld_k02_words_of_a_row).prog) (w := w) KX G hmg c
    exact ⟨K, fd, _, KX, hb, fun H a ns hl _ hS => ⟨a, ns, rfl, hl, hS, fun _ => rfl⟩, hF⟩
end
namespace Lw
open Pi
def b0 : Sms := (.cons (.ret (.bi .tuple (.cons (.comp (.var 1) (.one 1) (.seq (.bm .split (.var 0) (.cons (.con (.str [32])) .nil))) (.cons (.and (.op .ne (.var 1) (.con (.str []))) (.op .notin (.var 1) (.con (.tup [.str [116, 104, 101], .str [97]])))) .nil)) .nil))) .nil)
def b1 : Sms := (.cons (.ifS (.op .lt (.var 1) (.bi .len (.cons (.var 0) .nil))) (.cons (.ret (.idx (.var 0) (.var 1))) .nil) .nil) (.cons (.ret (.con (.int 0))) .nil))
def b2 : Sms := (.cons (.ifS (.op .eq (.bi .len (.cons (.var 0) .nil)) (.con (.int 1))) (.cons (.ass 2 (.idx (.var 0) (.con (.int 0)))) (.cons (.setI 0 (.con (.int 0)) (.op .mul (.var 2) (.bi .int (.cons (.op .ge (.var 2) (.op .pow (.con (.int 10)) (.con (.int 18)))) .nil)))) (.cons (.ex (.mut .extend 0 (.cons (.lst (.cons (.op .mod (.var 2) (.con (.int 2147483647))) (.cons (.con (.int 0)) .nil))) .nil))) .nil))) .nil) (.cons (.ifS (.op .gt (.idx (.var 0) (.con (.int 0))) (.con (.int 0))) (.cons (.ass 3 (.op .mod (.idx (.var 0) (.con (.int 0))) (.var 1))) (.cons (.setI 0 (.con (.int 0)) (.op .fdiv (.idx (.var 0) (.con (.int 0))) (.var 1))) (.cons (.ret (.var 3)) .nil))) .nil) (.cons (.setI 0 (.con (.int 2)) (.op .add (.idx (.var 0) (.con (.int 2))) (.con (.int 1)))) (.cons (.ass 4 (.op .mod (.op .mul (.op .add (.op .add (.idx (.var 0) (.con (.int 1))) (.op .mul (.con (.int 7919)) (.idx (.var 0) (.con (.int 2))))) (.con (.int 1))) (.con (.int 48271))) (.con (.int 2147483647)))) (.cons (.ass 4 (.op .mod (.op .mul (.var 4) (.op .add (.op .fdiv (.var 4) (.con (.int 1009))) (.con (.int 69621)))) (.con (.int 2147483647)))) (.cons (.ret (.op .mod (.op .mod (.op .mul (.var 4) (.op .add (.op .fdiv (.var 4) (.con (.int 2003))) (.con (.int 40692)))) (.con (.int 2147483399))) (.var 1))) .nil))))))
def b3 : Sms := (.cons (.ass 1 (.lst (.cons (.con (.str [116, 104, 101])) (.cons (.con (.str [97])) (.cons (.con (.str [116, 104, 101, 110])) (.cons (.con (.str [97, 116])) (.cons (.con (.str [116, 97, 107, 101])) (.cons (.con (.str [107, 101, 121])) (.cons (.con (.str [97])) (.cons (.con (.str [84, 104, 101])) (.cons (.con (.str [98, 50])) (.cons (.con (.str [45])) (.cons (.con (.str [97, 97])) (.cons (.con (.str [108, 97, 109, 112, 44])) (.cons (.con (.str [116, 104, 101])) .nil))))))))))))))) (.cons (.ass 2 (.con (.str []))) (.cons (.ass 3 (.lst .nil)) (.cons (.forS (.one 4) (.rng1 (.call 2 (.cons (.var 0) (.cons (.con (.int 10)) .nil)))) (.cons (.ass 5 (.idx (.var 1) (.call 2 (.cons (.var 0) (.cons (.bi .len (.cons (.var 1) .nil)) .nil))))) (.cons (.ass 2 (.op .add (.op .add (.var 2) (.op .mul (.con (.str [32])) (.op .add (.con (.int 1)) (.call 2 (.cons (.var 0) (.cons (.con (.int 3)) .nil)))))) (.var 5))) (.cons (.ifS (.and (.op .ne (.var 5) (.con (.str [116, 104, 101]))) (.op .ne (.var 5) (.con (.str [97])))) (.cons (.ex (.mut .append 3 (.cons (.var 5) .nil))) .nil) .nil) .nil))) [4, 5]) (.cons (.ifS (.op .eq (.call 2 (.cons (.var 0) (.cons (.con (.int 2)) .nil))) (.con (.int 1))) (.cons (.ass 2 (.slc (.var 2) (.cons (.con (.int 1)) .nil) .nil)) .nil) .nil) (.cons (.ret (.tup (.cons (.op .add (.var 2) (.op .mul (.con (.str [32])) (.call 2 (.cons (.var 0) (.cons (.con (.int 3)) .nil))))) (.cons (.bi .tuple (.cons (.var 3) .nil)) .nil)))) .nil))))))
def b4 : Sms := (.cons (.forS (.one 1) (.seq (.slc (.var 0) .nil (.cons (.con (.int 40)) .nil))) (.cons (.assT [2, 3] (.call 3 (.cons (.lst (.cons (.var 1) .nil)) .nil))) (.cons (.ass 4 (.call 0 (.cons (.var 2) .nil))) (.cons (.ifS (.or (.not (.isi (.var 4) [.tuple])) (.or (.op .ne (.var 4) (.var 3)) (.op .ne (.call 0 (.cons (.bm .join (.con (.str [32])) (.cons (.var 3) .nil)) .nil)) (.var 3)))) (.cons (.ret (.con (.bl false))) .nil) .nil) .nil))) [1, 2, 3, 4]) (.cons (.ifS (.or (.op .ne (.call 0 (.cons (.con (.str [])) .nil)) (.tup .nil)) (.or (.op .ne (.call 0 (.cons (.con (.str [32, 32, 32])) .nil)) (.tup .nil)) (.op .ne (.call 0 (.cons (.con (.str [116, 104, 101, 32, 97, 32, 32, 116, 104, 101])) .nil)) (.tup .nil)))) (.cons (.ret (.con (.bl false))) .nil) .nil) (.cons (.ret (.op .eq (.call 0 (.cons (.con (.str [97, 32, 98, 32, 116, 104, 101, 32, 32, 99, 32])) .nil)) (.tup (.cons (.con (.str [98])) (.cons (.con (.str [99])) .nil))))) .nil)))
theorem fn0 : la.fn 0 = ⟨⟨[.F], false, []⟩, 2, b0⟩ := by kernel_rfl
theorem fi0 {call : Nat → List D → Option (D × List D)} : (la.pr.gs call).fi 0 = ⟨[.F], false, []⟩ := congrArg Fn.fi fn0
theorem call0 (k : Nat) (ds : List D) : la.pr.call (k + 1) 0 ds = Fn.run ⟨⟨[.F], false, []⟩, 2, b0⟩ (la.pr.gs (la.pr.call k)) ds := by show (la.fn 0).run _ ds = _; rw [fn0]
theorem fn1 : la.fn 1 = ⟨⟨[.F, .F], false, []⟩, 2, b1⟩ := by kernel_rfl
theorem fi1 {call : Nat → List D → Option (D × List D)} : (la.pr.gs call).fi 1 = ⟨[.F, .F], false, []⟩ := congrArg Fn.fi fn1
theorem call1 (k : Nat) (ds : List D) : la.pr.call (k + 1) 1 ds = Fn.run ⟨⟨[.F, .F], false, []⟩, 2, b1⟩ (la.pr.gs (la.pr.call k)) ds := by show (la.fn 1).run _ ds = _; rw [fn1]
theorem fn2 : la.fn 2 = ⟨⟨[.I, .F], false, []⟩, 5, b2⟩ := by kernel_rfl
theorem fi2 {call : Nat → List D → Option (D × List D)} : (la.pr.gs call).fi 2 = ⟨[.I, .F], false, []⟩ := congrArg Fn.fi fn2
theorem call2 (k : Nat) (ds : List D) : la.pr.call (k + 1) 2 ds = Fn.run ⟨⟨[.I, .F], false, []⟩, 5, b2⟩ (la.pr.gs (la.pr.call k)) ds := by show (la.fn 2).run _ ds = _; rw [fn2]
theorem fn3 : la.fn 3 = ⟨⟨[.I], false, []⟩, 6, b3⟩ := by kernel_rfl
theorem fi3 {call : Nat → List D → Option (D × List D)} : (la.pr.gs call).fi 3 = ⟨[.I], false, []⟩ := congrArg Fn.fi fn3
theorem call3 (k : Nat) (ds : List D) : la.pr.call (k + 1) 3 ds = Fn.run ⟨⟨[.I], false, []⟩, 6, b3⟩ (la.pr.gs (la.pr.call k)) ds := by show (la.fn 3).run _ ds = _; rw [fn3]
theorem fn4 : la.fn 4 = ⟨⟨[.F], false, []⟩, 5, b4⟩ := by kernel_rfl
theorem fi4 {call : Nat → List D → Option (D × List D)} : (la.pr.gs call).fi 4 = ⟨[.F], false, []⟩ := congrArg Fn.fi fn4
theorem call4 (k : Nat) (ds : List D) : la.pr.call (k + 1) 4 ds = Fn.run ⟨⟨[.F], false, []⟩, 5, b4⟩ (la.pr.gs (la.pr.call k)) ds := by show (la.fn 4).run _ ds = _; rw [fn4]
theorem go0 (k : Nat) (d0 : D) : la.pr.call (k + 1) 0 [d0] = (execs (la.pr.gs (la.pr.call k)) false b0 [some (.fz d0), none]).bind (Fl.fin [.F]) := by rw [call0]; rfl
theorem go1 (k : Nat) (d0 d1 : D) : la.pr.call (k + 1) 1 [d0, d1] = (execs (la.pr.gs (la.pr.call k)) false b1 [some (.fz d0), some (.fz d1)]).bind (Fl.fin [.F, .F]) := by rw [call1]; rfl
theorem go2 (k : Nat) (d0 d1 : D) : la.pr.call (k + 1) 2 [d0, d1] = (execs (la.pr.gs (la.pr.call k)) false b2 [some (.ino d0), some (.fz d1), none, none, none]).bind (Fl.fin [.I, .F]) := by rw [call2]; rfl
theorem go3 (k : Nat) (d0 : D) : la.pr.call (k + 1) 3 [d0] = (execs (la.pr.gs (la.pr.call k)) false b3 [some (.ino d0), none, none, none, none, none]).bind (Fl.fin [.I]) := by rw [call3]; rfl
theorem go4 (k : Nat) (d0 : D) : la.pr.call (k + 1) 4 [d0] = (execs (la.pr.gs (la.pr.call k)) false b4 [some (.fz d0), none, none, none, none]).bind (Fl.fin [.F]) := by rw [call4]; rfl
theorem gsc {call : Nat → List D → Option (D × List D)} : (la.pr.gs call).call = call := rfl
end Lw
namespace Lw
open Pi
theorem dg (k : Nat) (base : Int) (h0 : 0 < base) (h1 : base < 2 ^ 30) {s : D} (hs : DSt s) : ∃ r s', la.pr.call (k + 1) 2 [s, .int base] = some (.int r, [s']) ∧ 0 ≤ r ∧ r < base ∧ DSt s' := by
  rw [go2]
  exact dig_ok base h0 h1 hs
theorem ix_at {xs : List D} {r : Int} (h0 : 0 ≤ r) (h1 : r < xs.length) : ∃ x ∈ xs, ix (.lst xs) (.int r) = some (.val x) := by
  have h : r.toNat < xs.length := by omega
  refine ⟨xs[r.toNat], List.getElem_mem h, ?_⟩
  simp [ix, atI, Pi.ixN, h0, h1, h]
theorem ev_ix {G : Gs} {a b : Ex} {ρ ρ1 ρ2 : En} {r1 r2 r : Rv} {x y : D} (h : ev G a ρ = some (r1, ρ1)) (h2 : ev G b ρ1 = some (r2, ρ2)) (hx : rd ρ2 r1 = some x) (hy : rd ρ2 r2 = some y) (ho : ix x y = some r) : ev G (.idx a b) ρ = some (r, ρ2) := by
  simp only [ev, h]
  show (ev G b ρ1).bind _ = _
  rw [h2]
  show (rd ρ2 r1).bind _ = _
  rw [hx]
  show (rd ρ2 r2).bind _ = _
  rw [hy]
  show (ix x y).map _ = _
  rw [ho]
  rfl
/-! ### words -/
def left : List D := [.str [116, 104, 101], .str [97]]
def keepW (w : Tx) : Bool := !(w == []) && !inL (.str w) left
def W (t : Tx) : List Tx := (splT [32] 0 [] t).filter keepW
theorem spl_sp (acc r : Tx) : splT [32] 0 acc (32 :: r) = acc :: splT [32] 0 [] r := rfl
theorem spl_ne {c : Ch} (h : c ≠ 32) (acc r : Tx) : splT [32] 0 acc (c :: r) = splT [32] 0 (acc ++ [c]) r := by
  have : preT [32] (c :: r) = false := by
    unfold preT
    simp [h]
  show (if preT [32] (c :: r) = true then _ else _) = _
  rw [this]
  rfl
theorem spl_app (r : Tx) : ∀ (l acc : Tx), splT [32] 0 acc (l ++ 32 :: r) = splT [32] 0 acc l ++ splT [32] 0 [] r
  | [], acc => rfl
  | c :: l, acc => by
    by_cases h : c = 32
    · subst h
      show splT [32] 0 acc (32 :: (l ++ 32 :: r)) = _
      rw [spl_sp, spl_sp, spl_app r l []]
      rfl
    · show splT [32] 0 acc (c :: (l ++ 32 :: r)) = _
      rw [spl_ne h, spl_ne h, spl_app r l]
theorem spl_word : ∀ (w acc : Tx), (∀ c ∈ w, c ≠ 32) → splT [32] 0 acc w = [acc ++ w]
  | [], acc, _ => by simp [splT]
  | c :: w, acc, h => by
    rw [spl_ne (h c List.mem_cons_self), spl_word w _ fun d hd => h d (List.mem_cons_of_mem _ hd)]
    simp
theorem W_app (l r : Tx) : W (l ++ 32 :: r) = W l ++ W r := by
  unfold W
  rw [spl_app, List.filter_append]
theorem W_nil : W [] = [] := rfl
theorem W_sp (r : Tx) : W (32 :: r) = W r := by
  have := W_app [] r
  rw [W_nil] at this
  exact this
theorem W_sps (r : Tx) : ∀ n, W (List.replicate n 32 ++ r) = W r
  | 0 => rfl
  | n + 1 => by
    show W (32 :: (List.replicate n 32 ++ r)) = _
    rw [W_sp, W_sps r n]
theorem W_tail (l : Tx) : ∀ n, W (l ++ List.replicate n 32) = W l
  | 0 => by simp
  | n + 1 => by
    show W (l ++ 32 :: List.replicate n 32) = _
    have := W_sps [] n
    simp at this
    rw [W_app, this, W_nil]
    simp
def noSp (w : Tx) : Bool := w.all fun c => decide (c ≠ 32)
theorem W_word {w : Tx} (h : noSp w = true) : W w = [w].filter keepW := by
  unfold W
  rw [spl_word w [] fun c hc => of_decide_eq_true (List.all_eq_true.mp h c hc)]
  rfl
theorem W_join : ∀ ws : List Tx, (∀ w ∈ ws, noSp w = true ∧ keepW w = true) → W (joinT [32] ws) = ws
  | [], _ => rfl
  | [w], h => by
    obtain ⟨h1, h2⟩ := h w List.mem_cons_self
    show W w = [w]
    rw [W_word h1, List.filter_cons_of_pos h2]
    rfl
  | w :: v :: ws, h => by
    obtain ⟨h1, h2⟩ := h w List.mem_cons_self
    show W (w ++ 32 :: joinT [32] (v :: ws)) = _
    rw [W_app, W_word h1, List.filter_cons_of_pos h2, W_join (v :: ws) fun x hx => h x (List.mem_cons_of_mem _ hx)]
    rfl
theorem sane_str (t : Tx) : (D.str t).sane = true := by simp [D.sane, D.dat, D.dep]
theorem str_ne0 (a b : Tx) : o2 .ne (.str a) (.str b) = some (.val (.bl (!(a == b)))) := by
  have h : D.eqq (.str a) (.str b) = some (a == b) := by
    unfold D.eqq
    rw [if_pos ⟨sane_str a, sane_str b⟩]
    simp only [D.eqv]
  show (D.eqq (.str a) (.str b)).map (fun k => Rv.val (.bl (!k))) = _
  rw [h]
  rfl
theorem words_test (k : Nat) (t w : Tx) : evT (la.pr.gs (la.pr.call k)) (.cons (.and (.op .ne (.var 1) (.con (.str []))) (.op .notin (.var 1) (.con (.tup left)))) .nil) [some (.fz (.str t)), some (.fz (.str w))] = some (keepW w, [some (.fz (.str t)), some (.fz (.str w))]) := by
  have hs : (D.tup left).sane = true := by decide
  have h2 : o2 .notin (.str w) (.tup left) = some (.val (.bl (!inL (.str w) left))) := by simp [o2, sane_str, hs]
  have := ev_andB (G := la.pr.gs (la.pr.call k)) (a := .op .ne (.var 1) (.con (.str []))) (b := .op .notin (.var 1) (.con (.tup left))) (ρ := [some (.fz (.str t)), some (.fz (.str w))]) (k := !(w == [])) (l := !inL (.str w) left)
    (ev_op (r1 := .val (.str w)) (r2 := .val (.str [])) (ρ1 := [some (.fz (.str t)), some (.fz (.str w))]) (by simp [ev, varR, slR, En.sl]) (by simp [ev]) rfl rfl (str_ne0 w []))
    (ev_op (r1 := .val (.str w)) (r2 := .val (.tup left)) (ρ1 := [some (.fz (.str t)), some (.fz (.str w))]) (by simp [ev, varR, slR, En.sl]) (by simp [ev]) rfl rfl h2)
  simp only [evT, this]
  rfl
theorem spl_len : ∀ (l acc : Tx), (splT [32] 0 acc l).length ≤ l.length + 1
  | [], acc => by simp [splT]
  | c :: l, acc => by
    by_cases h : c = 32
    · subst h; rw [spl_sp]; have := spl_len l []; simp only [List.length_cons]; omega
    · rw [spl_ne h]; have := spl_len l (acc ++ [c]); simp only [List.length_cons]; omega
theorem split_bm (t : Tx) (h : t.length + 2 ≤ SL) : bm .split (.str t) [.str [32]] = some (.new (.lst ((splT [32] 0 [] t).map .str))) := by
  have h1 : ([32] : Tx) ≠ [] ∧ (([32] : Tx).all fun c => decide (c.val < 128)) = true ∧ t.length + 2 ≤ SL := ⟨List.cons_ne_nil _ _, by decide, h⟩
  simp only [bm]
  exact if_pos h1
theorem words_ei (k : Nat) (t : Tx) (h : t.length + 2 ≤ SL) : evI (la.pr.gs (la.pr.call k)) (.seq (.bm .split (.var 0) (.cons (.con (.str [32])) .nil))) [some (.fz (.str t)), none] = some ((splT [32] 0 [] t).map .str, [some (.fz (.str t)), none]) := by
  have hb := split_bm t h
  generalize (splT [32] 0 [] t).map D.str = ws at hb ⊢
  simp [evI, ev, evs, varR, slR, En.sl, rd, rds, bmTy, hb, toW, seqOf]
theorem words_ok (k : Nat) (t : Tx) (ht : t.length ≤ 1000) : la.pr.call (k + 1) 0 [.str t] = some (.tup ((W t).map .str), []) := by
  rw [go0]
  have hsl : t.length + 2 ≤ SL := by simp only [SL]; omega
  have ei := words_ei k t hsl
  have hc := compL_all (t := .one 1) (fg := [1]) (test := fun ρ => evT (la.pr.gs (la.pr.call k)) (.cons (.and (.op .ne (.var 1) (.con (.str []))) (.op .notin (.var 1) (.con (.tup left)))) .nil) ρ) (elt := fun ρ => (ev (la.pr.gs (la.pr.call k)) (.var 1) ρ).bind fun q => toF q.2 q.1)
    [some (.fz (.str t)), none] (fun d => match d with | .str w => keepW w | _ => false) id ((splT [32] 0 [] t).map .str) [] [some (.fz (.str t)), none] rfl (by
      have := spl_len t []
      rw [List.length_map]
      simp only [SL, List.length_nil]
      omega) ?_
  · have e0 : List.filter ((fun d => match d with | .str w => keepW w | _ => false) ∘ D.str) (splT [32] 0 [] t) = W t := List.filter_congr fun x _ => rfl
    rw [List.map_id, List.filter_map, e0, List.nil_append] at hc
    have hbi : bi .tuple [.lst ((W t).map .str)] = some (.val (.tup ((W t).map .str))) := by simp only [bi]
    generalize (W t).map D.str = ws at hc hbi ⊢
    exact run_rt (ρ' := [some (.fz (.str t)), none]) (ex_rt rfl (ex_ret (ρ1 := [some (.fz (.str t)), none]) (r := .val (.tup ws)) (ev_bi (ds := [.lst ws]) (evs_one (ev_comp ei hc)) rfl hbi) rfl)) rfl
  · intro d hd
    obtain ⟨w, hw, rfl⟩ := List.mem_map.mp hd
    refine ⟨[some (.fz (.str t)), some (.fz (.str w))], [some (.fz (.str t)), some (.fz (.str w))], ?_, ?_, fun _ => ⟨[some (.fz (.str t)), some (.fz (.str w))], ?_, rfl⟩, fun _ => rfl⟩
    · simp [tgt, sto, notI, En.sl]
    · exact words_test k t w
    · simp [ev, varR, slR, En.sl, toF]
/-! ### a row -/
def some13 : List D := [.str [116, 104, 101], .str [97], .str [116, 104, 101, 110], .str [97, 116], .str [116, 97, 107, 101], .str [107, 101, 121], .str [97], .str [84, 104, 101], .str [98, 50], .str [45], .str [97, 97], .str [108, 97, 109, 112, 44], .str [116, 104, 101]]
def okW : D → Bool
  | .str w => noSp w && (decide (w.length ≤ 5) && !(w == []))
  | _ => false
theorem some_ok : ∀ d ∈ some13, okW d = true := fun d hd => List.all_eq_true.mp (show some13.all okW = true by decide) d hd
theorem keep_of {w : Tx} (h : (w == []) = false) : keepW w = (!(w == [116, 104, 101]) && !(w == [97])) := by
  unfold keepW inL left
  rw [h]
  simp [D.eqv]
  rw [Bool.eq_iff_iff]
  simp
  constructor
  · rintro ⟨a, b⟩; exact ⟨fun q => a q.symm, fun q => b q.symm⟩
  · rintro ⟨a, b⟩; exact ⟨fun q => a q.symm, fun q => b q.symm⟩
/-- what a row is while it grows -/
structure Row (row : Tx) (ws : List Tx) (n : Nat) : Prop where
  w : W row = ws
  hd : row = [] ∨ ∃ r, row = 32 :: r
  len : row.length ≤ 8 * n
  wl : ws.length ≤ n
  ok : ∀ w ∈ ws, (noSp w = true ∧ keepW w = true) ∧ w.length ≤ 5
theorem mul_sp {j : Int} (h0 : 0 ≤ j) (h1 : j ≤ 3) : o2 .mul (.str [32]) (.int j) = some (.val (.str (List.replicate j.toNat 32))) := by
  have : ((List.replicate j.toNat ([32] : Tx)).flatten) = List.replicate j.toNat 32 := by
    generalize j.toNat = n
    induction n with
    | zero => rfl
    | succ n ih => rw [List.replicate_succ, List.flatten_cons, ih]; rfl
  have h2 : j ≤ 1000 := by omega
  simp [o2, h0, h2, this]
theorem add_str (a b : Tx) (h : a.length + b.length ≤ 100000) : o2 .add (.str a) (.str b) = some (.val (.str (a ++ b))) := by
  have : a.length + b.length ≤ SL := by show _ ≤ 16777216; omega
  simp [o2, this]
theorem str_ne (a b : Tx) : o2 .ne (.str a) (.str b) = some (.val (.bl (!(a == b)))) := by
  show (D.eqq (.str a) (.str b)).map (fun k => Rv.val (.bl (!k))) = _
  unfold D.eqq
  rw [if_pos ⟨sane_str a, sane_str b⟩]
  rfl
theorem row_ok (k : Nat) (c : Int) : ∃ row ws s, la.pr.call (k + 2) 3 [.lst [.int c]] = some (.tup [.str row, .tup (ws.map .str)], [s]) ∧ W row = ws ∧ row.length ≤ 100 ∧ ws.length ≤ 10 ∧ ∀ w ∈ ws, (noSp w = true ∧ keepW w = true) ∧ w.length ≤ 5 := by
  obtain ⟨r1, s1, e1, r10, r11, hs1⟩ := dg k 10 (by decide) (by decide) (DSt.one c)
  have loop := forL_inv (t := .one 4) (fg := [4, 5]) (body := fun ρ => execs (la.pr.gs (la.pr.call (k + 1))) false (.cons (.ass 5 (.idx (.var 1) (.call 2 (.cons (.var 0) (.cons (.bi .len (.cons (.var 1) .nil)) .nil))))) (.cons (.ass 2 (.op .add (.op .add (.var 2) (.op .mul (.con (.str [32])) (.op .add (.con (.int 1)) (.call 2 (.cons (.var 0) (.cons (.con (.int 3)) .nil)))))) (.var 5))) (.cons (.ifS (.and (.op .ne (.var 5) (.con (.str [116, 104, 101]))) (.op .ne (.var 5) (.con (.str [97])))) (.cons (.ex (.mut .append 3 (.cons (.var 5) .nil))) .nil) .nil) .nil))) ρ)
    (fun i ρ => ∃ s row ws x4 x5, DSt s ∧ ρ = [some (.ino s), some (.own (.lst some13)), some (.fz (.str row)), some (.own (.lst (ws.map .str))), x4, x5] ∧ Row row ws i) (iRange 0 r1.toNat) 0 [some (.ino s1), some (.own (.lst some13)), some (.fz (.str [])), some (.own (.lst [])), none, none] ⟨s1, [], [], none, none, hs1, rfl, ⟨rfl, .inl rfl, by simp, by simp, fun w hw => by cases hw⟩⟩ (fun j d hj ρ ⟨s, row, ws, x4, x5, hs, hρ, hR⟩ => by
      subst hρ
      have hj' : j < r1.toNat := by
        have := (List.getElem?_eq_some_iff.mp hj).1
        simpa [iRange] using this
      obtain ⟨r2, s2, e2, r20, r21, hs2⟩ := dg k 13 (by decide) (by decide) hs
      obtain ⟨wd, hwd, hix⟩ := ix_at (xs := some13) (r := r2) r20 (by show r2 < 13; omega)
      have hok := some_ok wd hwd
      cases wd <;> first | (cases hok; done) | skip
      rename_i w
      simp only [okW, Bool.and_eq_true, decide_eq_true_eq, Bool.not_eq_true'] at hok
      obtain ⟨hn, hl5, hne⟩ := hok
      obtain ⟨r3, s3, e3, r30, r31, hs3⟩ := dg k 3 (by decide) (by decide) hs2
      have hl := hR.len
      have hl2 := hR.wl
      let row2 : Tx := row ++ List.replicate (1 + r3).toNat 32 ++ w
      have hrep : List.replicate (1 + r3).toNat (32 : Ch) = 32 :: List.replicate r3.toNat 32 := by
        rw [show (1 + r3).toNat = r3.toNat + 1 by omega]; rfl
      have hrow2 : row2 = row ++ 32 :: (List.replicate r3.toNat 32 ++ w) := by
        show row ++ List.replicate (1 + r3).toNat 32 ++ w = _
        rw [hrep]
        simp
      have hlen2 : row2.length ≤ 8 * (0 + j + 1) := by
        rw [hrow2]
        simp only [List.length_append, List.length_cons, List.length_replicate]
        omega
      have hWr : W row2 = ws ++ [w].filter keepW := by rw [hrow2, W_app, W_sps, W_word hn, hR.w]
      have hkeep := keep_of hne
      let ρa : En := [some (.ino s2), some (.own (.lst some13)), some (.fz (.str row)), some (.own (.lst (ws.map .str))), some (.fz d), some (.fz (.str w))]
      let ρb : En := [some (.ino s3), some (.own (.lst some13)), some (.fz (.str row2)), some (.own (.lst (ws.map .str))), some (.fz d), some (.fz (.str w))]
      let ρc : En := [some (.ino s3), some (.own (.lst some13)), some (.fz (.str row2)), some (.own (.lst ((ws ++ [w].filter keepW).map .str))), some (.fz d), some (.fz (.str w))]
      refine ⟨[some (.ino s), some (.own (.lst some13)), some (.fz (.str row)), some (.own (.lst (ws.map .str))), some (.fz d), none], ρc, ?_, ?_, s3, row2, _, _, _, hs3, rfl, ⟨hWr, .inr ?_, hlen2, ?_, ?_⟩⟩
      · simp [tgt, Pi.wipe, sto, notI, En.sl]
      · have d2 := ev_draw (G := la.pr.gs (la.pr.call (k + 1))) (f := 2) (e := .bi .len (.cons (.var 1) .nil)) (ρr := [some (.own (.lst some13)), some (.fz (.str row)), some (.own (.lst (ws.map .str))), some (.fz d), none]) fi2 e2 hs.root (by simp [ev, evs, varR, slR, En.sl, D.root, rds, rd, Sl.d, bi, some13])
        have d3 := ev_draw (G := la.pr.gs (la.pr.call (k + 1))) (f := 2) (e := .con (.int 3)) (ρr := [some (.own (.lst some13)), some (.fz (.str row)), some (.own (.lst (ws.map .str))), some (.fz d), some (.fz (.str w))]) fi2 e3 hs2.root (by simp [ev])
        have q1 : ev (la.pr.gs (la.pr.call (k + 1))) (.op .add (.con (.int 1)) (.call 2 (.cons (.var 0) (.cons (.con (.int 3)) .nil)))) ρa = some (.val (.int (1 + r3)), [some (.ino s3), some (.own (.lst some13)), some (.fz (.str row)), some (.own (.lst (ws.map .str))), some (.fz d), some (.fz (.str w))]) :=
          ev_op (r1 := .val (.int 1)) (ρ1 := ρa) (by simp [ev]) d3 rfl rfl rfl
        have q2 := ev_op (G := la.pr.gs (la.pr.call (k + 1))) (a := .con (.str [32])) (ρ := ρa) (ρ1 := ρa) (r1 := .val (.str [32])) (by simp [ev]) q1 rfl rfl (mul_sp (by omega) (by omega))
        have hlr : row.length ≤ 80 := by omega
        have q3 := ev_op (G := la.pr.gs (la.pr.call (k + 1))) (a := .var 2) (ρ := ρa) (ρ1 := ρa) (r1 := .val (.str row)) (by simp [ρa, ev, varR, slR, En.sl]) q2 rfl rfl (add_str row _ (by rw [List.length_replicate]; omega))
        have q4 := ev_op (G := la.pr.gs (la.pr.call (k + 1))) (b := .var 5) (ρ := ρa) (r2 := .val (.str w)) q3 (by simp [ev, varR, slR, En.sl]; rfl) rfl rfl (add_str _ w (by rw [List.length_append, List.length_replicate]; omega))
        have hc : ev (la.pr.gs (la.pr.call (k + 1))) (.and (.op .ne (.var 5) (.con (.str [116, 104, 101]))) (.op .ne (.var 5) (.con (.str [97])))) ρb = some (.val (.bl (keepW w)), ρb) := by
          rw [hkeep]
          exact ev_andB (ev_op (r1 := .val (.str w)) (r2 := .val (.str [116, 104, 101])) (ρ1 := ρb) (by simp [ρb, ev, varR, slR, En.sl]) (by simp [ev]) rfl rfl (str_ne _ _)) (ev_op (r1 := .val (.str w)) (r2 := .val (.str [97])) (ρ1 := ρb) (by simp [ρb, ev, varR, slR, En.sl]) (by simp [ev]) rfl rfl (str_ne _ _))
        refine ex_nx rfl (ρ' := ρa) (ex_ass (r := .val (.str w)) (ev_ix (r1 := .slot 1) (ρ1 := [some (.ino s), some (.own (.lst some13)), some (.fz (.str row)), some (.own (.lst (ws.map .str))), some (.fz d), none]) (by simp [ev, varR, slR, En.sl, D.root]) d2 rfl rfl hix) (by simp [sto, notI, En.sl, ρa])) (ex_nx rfl (ρ' := ρb) (ex_ass q4 (by simp [sto, notI, En.sl, ρb, row2])) (ex_nx rfl (ρ' := ρc) (ex_if (k := keepW w) (ρ1 := ρb) hc ?_) ex_nil))
        cases hk : keepW w with
        | false =>
          show execs _ _ .nil ρb = _
          rw [ex_nil]
          simp [ρb, ρc, hk]
        | true =>
          have hsl : ws.length < SL := by show _ < 16777216; omega
          refine ex_nx rfl (ρ' := ρc) ?_ ex_nil
          simp [ρb, ρc, hk, exec, ev, evF, isL, En.sl, varR, slR, toF, mutD, hsl]
      · rcases hR.hd with h | ⟨r, h⟩
        · exact ⟨_, by rw [hrow2, h]; rfl⟩
        · exact ⟨_, by rw [hrow2, h]; rfl⟩
      · rw [List.length_append]
        have := List.length_filter_le keepW [w]
        simp only [List.length_singleton] at this
        omega
      · intro v hv
        rcases List.mem_append.mp hv with hv | hv
        · exact hR.ok v hv
        · obtain ⟨h1, h2⟩ := List.mem_filter.mp hv
          rw [List.mem_singleton.mp h1] at h2 ⊢
          exact ⟨⟨hn, h2⟩, hl5⟩)
  obtain ⟨ρ', hl, s2, row, ws, x4, x5, hs2, rfl, hR⟩ := loop
  have hr1 : (iRange 0 r1.toNat).length ≤ 9 := by simp [iRange]; omega
  have hl1 := hR.len
  have hl2 := hR.wl
  obtain ⟨r4, s4, e4, r40, r41, hs4⟩ := dg k 2 (by decide) (by decide) hs2
  obtain ⟨r5, s5, e5, r50, r51, hs5⟩ := dg k 3 (by decide) (by decide) hs4
  have d1 := ev_draw (G := la.pr.gs (la.pr.call (k + 1))) (f := 2) (e := .con (.int 10)) (ρr := [some (.own (.lst some13)), some (.fz (.str [])), some (.own (.lst [])), none, none]) fi2 e1 rfl (by simp [ev])
  have d4 := ev_draw (G := la.pr.gs (la.pr.call (k + 1))) (f := 2) (e := .con (.int 2)) (ρr := [some (.own (.lst some13)), some (.fz (.str row)), some (.own (.lst (ws.map .str))), none, none]) fi2 e4 hs2.root (by simp [ev])
  -- the first sign may be dropped
  have cut : ∃ row2, W row2 = ws ∧ row2.length ≤ 80 ∧ exec (la.pr.gs (la.pr.call (k + 1))) false (hd (tl (tl (tl (tl b3))))) [some (.ino s2), some (.own (.lst some13)), some (.fz (.str row)), some (.own (.lst (ws.map .str))), none, none] = some (.nx [some (.ino s4), some (.own (.lst some13)), some (.fz (.str row2)), some (.own (.lst (ws.map .str))), none, none]) := by
    have ce : ev (la.pr.gs (la.pr.call (k + 1))) (.op .eq (.call 2 (.cons (.var 0) (.cons (.con (.int 2)) .nil))) (.con (.int 1))) [some (.ino s2), some (.own (.lst some13)), some (.fz (.str row)), some (.own (.lst (ws.map .str))), none, none] = some (.val (.bl (r4 == 1)), [some (.ino s4), some (.own (.lst some13)), some (.fz (.str row)), some (.own (.lst (ws.map .str))), none, none]) :=
      ev_op d4 (r2 := .val (.int 1)) (by simp [ev]) rfl rfl (by
        show (D.eqq (.int r4) (.int 1)).map (fun k => Rv.val (.bl k)) = _
        unfold D.eqq
        rw [if_pos ⟨rfl, rfl⟩]
        simp [D.eqv])
    cases hk : (r4 == 1) with
    | false =>
      rw [hk] at ce
      exact ⟨row, hR.w, by omega, ex_if ce ex_nil⟩
    | true =>
      rw [hk] at ce
      have hsz : row.length ≤ 16777216 := by omega
      refine ⟨row.drop 1, ?_, by rw [List.length_drop]; omega, ex_if ce (ex_nx rfl (ex_ass (ρ1 := [some (.ino s4), some (.own (.lst some13)), some (.fz (.str row)), some (.own (.lst (ws.map .str))), none, none]) (r := .val (.str (row.drop 1))) ?_ (by simp [sto, notI, En.sl])) ex_nil)⟩
      · rcases hR.hd with h | ⟨r, h⟩
        · have := hR.w
          rw [h] at this
          rw [h]
          exact this
        · have := hR.w
          rw [h, W_sp] at this
          rw [h]
          exact this
      · have hcut : cutL row (some 1) none = row.drop 1 := by
          unfold cutL
          have e1 : sIx row.length 0 (some 1) = min 1 row.length := by simp [sIx]
          have e2 : sIx row.length row.length none = row.length := rfl
          rw [e1, e2]
          rcases hR.hd with h | ⟨r, h⟩
          · rw [h]; rfl
          · rw [h]; simp
        simp only [ev, evO, asI]
        simp [varR, slR, En.sl, rd, slcD, SL, hsz, hcut, asI]
  obtain ⟨row2, hw2, hl3, ex5⟩ := cut
  have d5 := ev_draw (G := la.pr.gs (la.pr.call (k + 1))) (f := 2) (e := .con (.int 3)) (ρr := [some (.own (.lst some13)), some (.fz (.str row2)), some (.own (.lst (ws.map .str))), none, none]) fi2 e5 hs4.root (by simp [ev])
  refine ⟨row2 ++ List.replicate r5.toNat 32, ws, s5, ?_, by rw [W_tail]; exact hw2, by rw [List.length_append, List.length_replicate]; omega, by omega, hR.ok⟩
  have hr : smallI r1 := by unfold smallI; omega
  rw [go3]
  refine run_rt (ρ' := [some (.ino s5), some (.own (.lst some13)), some (.fz (.str row2)), some (.own (.lst (ws.map .str))), none, none]) (ex_nx (b := b3) (s := hd b3) (r := tl b3) (ρ' := [some (.ino (.lst [.int c])), some (.own (.lst some13)), none, none, none, none]) rfl ?_ (ex_nx (b := tl b3) (s := hd (tl b3)) (r := tl (tl b3)) (ρ' := [some (.ino (.lst [.int c])), some (.own (.lst some13)), some (.fz (.str [])), none, none, none]) rfl ?_
    (ex_nx (b := tl (tl b3)) (s := hd (tl (tl b3))) (r := tl (tl (tl b3))) (ρ' := [some (.ino (.lst [.int c])), some (.own (.lst some13)), some (.fz (.str [])), some (.own (.lst [])), none, none]) rfl ?_
    (ex_nx (b := tl (tl (tl b3))) (s := hd (tl (tl (tl b3)))) (r := tl (tl (tl (tl b3)))) rfl (ex_for (xs := iRange 0 r1.toNat) (ρ1 := [some (.ino s1), some (.own (.lst some13)), some (.fz (.str [])), some (.own (.lst [])), none, none]) ?_ hl)
    (ex_nx (b := tl (tl (tl (tl b3)))) (s := hd (tl (tl (tl (tl b3))))) (r := tl (tl (tl (tl (tl b3))))) rfl ex5
    (ex_rt (b := tl (tl (tl (tl (tl b3))))) rfl (ex_ret (r := .val (.tup [.str (row2 ++ List.replicate r5.toNat 32), .tup (ws.map .str)])) (ρ1 := [some (.ino s5), some (.own (.lst some13)), some (.fz (.str row2)), some (.own (.lst (ws.map .str))), none, none]) ?_ rfl))))))) (by simp [outs, hs5.root])
  · simp [b3, hd, exec, ev, evF, toF, SL, sto, notI, En.sl, some13]
  · simp [b3, hd, tl, exec, ev, sto, notI, En.sl]
  · simp [b3, hd, tl, exec, ev, evF, SL, sto, notI, En.sl]
  · simp only [evI, d1]
    show (if smallI r1 then _ else _) = _
    rw [if_pos hr]
  · have q2 := ev_op (G := la.pr.gs (la.pr.call (k + 1))) (a := .con (.str [32])) (ρ := [some (.ino s4), some (.own (.lst some13)), some (.fz (.str row2)), some (.own (.lst (ws.map .str))), none, none]) (ρ1 := [some (.ino s4), some (.own (.lst some13)), some (.fz (.str row2)), some (.own (.lst (ws.map .str))), none, none]) (r1 := .val (.str [32])) (by simp [ev]) d5 rfl rfl (mul_sp (by omega) (by omega))
    have q3 := ev_op (G := la.pr.gs (la.pr.call (k + 1))) (a := .var 2) (ρ := [some (.ino s4), some (.own (.lst some13)), some (.fz (.str row2)), some (.own (.lst (ws.map .str))), none, none]) (ρ1 := [some (.ino s4), some (.own (.lst some13)), some (.fz (.str row2)), some (.own (.lst (ws.map .str))), none, none]) (r1 := .val (.str row2)) (by simp [ev, varR, slR, En.sl]) q2 rfl rfl (add_str row2 _ (by rw [List.length_replicate]; omega))
    have q4 : ev (la.pr.gs (la.pr.call (k + 1))) (.bi .tuple (.cons (.var 3) .nil)) [some (.ino s5), some (.own (.lst some13)), some (.fz (.str row2)), some (.own (.lst (ws.map .str))), none, none] = some (.val (.tup (ws.map .str)), [some (.ino s5), some (.own (.lst some13)), some (.fz (.str row2)), some (.own (.lst (ws.map .str))), none, none]) := by
      simp [ev, evs, varR, slR, En.sl, D.root, rds, rd, Sl.d, bi]
    show ev (la.pr.gs (la.pr.call (k + 1))) (.tup (.cons (.op .add (.var 2) (.op .mul (.con (.str [32])) (.call 2 (.cons (.var 0) (.cons (.con (.int 3)) .nil))))) (.cons (.bi .tuple (.cons (.var 3) .nil)) .nil))) _ = _
    generalize hE : Ex.op .add (.var 2) (.op .mul (.con (.str [32])) (.call 2 (.cons (.var 0) (.cons (.con (.int 3)) .nil)))) = E at q3
    generalize hF : Ex.bi .tuple (.cons (.var 3) .nil) = F at q4
    simp only [ev, evF, q3]
    simp [toF, q4, SL]
/-! ### the law -/
theorem strsOf_map : ∀ ws : List Tx, strsOf (ws.map .str) = some ws
  | [] => rfl
  | w :: ws => by
    show (strsOf (ws.map .str)).map (w :: ·) = _
    rw [strsOf_map ws]
    rfl
theorem sum_le : ∀ ws : List Tx, (∀ w ∈ ws, w.length ≤ 5) → (ws.map List.length).sum ≤ 5 * ws.length
  | [], _ => by simp
  | w :: ws, h => by
    have h1 := h w List.mem_cons_self
    have h2 := sum_le ws fun x hx => h x (List.mem_cons_of_mem _ hx)
    simp only [List.map_cons, List.sum_cons, List.length_cons]
    omega
theorem join_le : ∀ ws : List Tx, (∀ w ∈ ws, w.length ≤ 5) → (joinT [32] ws).length ≤ 6 * ws.length
  | [], _ => by simp [joinT]
  | [w], h => by
    have h1 := h w List.mem_cons_self
    show w.length ≤ 6 * 1
    omega
  | w :: v :: ws, h => by
    have h1 := h w List.mem_cons_self
    have h2 := join_le (v :: ws) fun x hx => h x (List.mem_cons_of_mem _ hx)
    show (w ++ ([32] ++ joinT [32] (v :: ws))).length ≤ _
    simp only [List.length_append, List.length_cons, List.length_nil] at h2 ⊢
    omega
theorem join_bm (ws : List Tx) (h : ∀ w ∈ ws, w.length ≤ 5) (hl : ws.length ≤ 10) : bm .join (.str [32]) [.tup (ws.map .str)] = some (.val (.str (joinT [32] ws))) := by
  have h1 := sum_le ws h
  have hc : (ws.map List.length).sum + ws.length * ([32] : Tx).length ≤ SL := by
    simp only [SL, List.length_cons, List.length_nil]
    omega
  show (strsOf (ws.map D.str)).bind _ = _
  rw [strsOf_map]
  exact if_pos hc
theorem sane_words (ws : List Tx) : (D.tup (ws.map .str)).sane = true := by
  have h1 := datL_strs (fun x : Tx => x) ws
  have h2 := depL_strs (fun x : Tx => x) ws
  simp [D.sane, D.dat, D.dep, h1, h2]
theorem call_words (t : Tx) (ht : t.length ≤ 1000) (e : Ex) (ρ ρ1 : En) (he : ev (la.pr.gs (la.pr.call 8)) e ρ = some (.val (.str t), ρ1)) : ev (la.pr.gs (la.pr.call 8)) (.call 0 (.cons e .nil)) ρ = some (.val (.tup ((W t).map .str)), ρ1) := by
  refine ev_call (evs_one he) ?_
  have h := words_ok 7 t ht
  generalize (W t).map D.str = ws at h ⊢
  simp at h
  simp [callD, doCall, frzA, readA, toF, rd, gsc, fi0, h, apart, backI, resR, defaults]
theorem const_words (t : Tx) (ht : t.length ≤ 1000) (ρ : En) : ev (la.pr.gs (la.pr.call 8)) (.call 0 (.cons (.con (.str t)) .nil)) ρ = some (.val (.tup ((W t).map .str)), ρ) := call_words t ht _ ρ ρ (by simp only [ev])
theorem ne_tup {xs : List D} (hs : (D.tup xs).sane = true) {a b : Ex} {ρ ρ1 ρ2 : En} (ha : ev (la.pr.gs (la.pr.call 8)) a ρ = some (.val (.tup xs), ρ1)) (hb : ev (la.pr.gs (la.pr.call 8)) b ρ1 = some (.val (.tup xs), ρ2)) : ev (la.pr.gs (la.pr.call 8)) (.op .ne a b) ρ = some (.val (.bl false), ρ2) := ev_op ha hb rfl rfl (ne_self hs)
theorem law_ok (ns : List Int) : la.pr.call 9 4 [.scr ns] = some (.bl true, []) := by
  rw [go4]
  have loop1 := forL_inv (t := .one 1) (fg := [1, 2, 3, 4]) (body := fun ρ => execs (la.pr.gs (la.pr.call 8)) false (.cons (.assT [2, 3] (.call 3 (.cons (.lst (.cons (.var 1) .nil)) .nil))) (.cons (.ass 4 (.call 0 (.cons (.var 2) .nil))) (.cons (.ifS (.or (.not (.isi (.var 4) [.tuple])) (.or (.op .ne (.var 4) (.var 3)) (.op .ne (.call 0 (.cons (.bm .join (.con (.str [32])) (.cons (.var 3) .nil)) .nil)) (.var 3)))) (.cons (.ret (.con (.bl false))) .nil) .nil) .nil))) ρ)
    (fun i ρ => ∃ x1 x2 x3 x4, ρ = [some (.fz (.scr ns)), x1, x2, x3, x4]) ((cutL ns none (some 40)).map .int) 0 [some (.fz (.scr ns)), none, none, none, none] ⟨none, none, none, none, rfl⟩ (fun j d hj ρ ⟨x1, x2, x3, x4, hρ⟩ => by
      subst hρ
      obtain ⟨c, hc, rfl⟩ := List.mem_map.mp (List.mem_of_getElem? hj)
      obtain ⟨row, ws, s, e, hw, hl, hn, hok⟩ := row_ok 6 c
      have h5 : ∀ w ∈ ws, w.length ≤ 5 := fun w hw => (hok w hw).2
      have hj5 := join_le ws h5
      have hWj := W_join ws fun w hw => (hok w hw).1
      have hjb := join_bm ws h5 hn
      have hsn := sane_words ws
      simp at e
      let ρ3 : En := [some (.fz (.scr ns)), some (.fz (.int c)), some (.fz (.str row)), some (.fz (.tup (ws.map .str))), none]
      let ρ4 : En := [some (.fz (.scr ns)), some (.fz (.int c)), some (.fz (.str row)), some (.fz (.tup (ws.map .str))), some (.fz (.tup (ws.map .str)))]
      have cw := call_words row (by omega) (.var 2) ρ3 ρ3 (by simp [ρ3, ev, varR, slR, En.sl])
      rw [hw] at cw
      have jn : ev (la.pr.gs (la.pr.call 8)) (.bm .join (.con (.str [32])) (.cons (.var 3) .nil)) ρ4 = some (.val (.str (joinT [32] ws)), ρ4) := by
        simp [ρ4, ev, evs, varR, slR, En.sl, rd, rds, bmTy, hjb]
      have cj := call_words (joinT [32] ws) (by omega) _ ρ4 ρ4 jn
      rw [hWj] at cj
      refine ⟨[some (.fz (.scr ns)), some (.fz (.int c)), none, none, none], ρ4, ?_, ?_, _, _, _, _, rfl⟩
      · simp [tgt, Pi.wipe, sto, notI, En.sl]
      · refine ex_nx rfl (ρ' := ρ3) ?_ (ex_nx rfl (ρ' := ρ4) (ex_ass cw (by simp [sto, notI, En.sl, ρ3, ρ4])) (ex_nx rfl (ρ' := ρ4) (ex_if (k := false) (ρ1 := ρ4) (ev_orB (k := false) (l := false) (ev_not (k := true) ?_) (ev_orB (k := false) (l := false) (ne_tup hsn (ρ1 := ρ4) ?_ ?_) (ne_tup hsn cj ?_))) ex_nil) ex_nil))
        · simp [exec, ev, evs, evF, varR, slR, En.sl, callD, doCall, frzA, readA, readI, toF, rd, gsc, fi3, e, apart, backI, resR, defaults, SL, stoL, sto, notI, ρ3]
        · simp [ρ4, ev, varR, slR, En.sl, rd, isiOk, Ty.has]
        · simp [ρ4, ev, varR, slR, En.sl]
        · simp [ρ4, ev, varR, slR, En.sl]
        · simp [ρ4, ev, varR, slR, En.sl])
  obtain ⟨ρ1, hl1, x1, x2, x3, x4, rfl⟩ := loop1
  have nil_e : ∀ ρ, ev (la.pr.gs (la.pr.call 8)) (.tup .nil) ρ = some (.val (.tup []), ρ) := fun ρ => by simp [ev, evF, SL]
  have c1 := const_words [] (by decide) [some (.fz (.scr ns)), none, none, none, none]
  have c2 := const_words [32, 32, 32] (by decide) [some (.fz (.scr ns)), none, none, none, none]
  have c3 := const_words [116, 104, 101, 32, 97, 32, 32, 116, 104, 101] (by decide) [some (.fz (.scr ns)), none, none, none, none]
  have c4 := const_words [97, 32, 98, 32, 116, 104, 101, 32, 32, 99, 32] (by decide) [some (.fz (.scr ns)), none, none, none, none]
  rw [show W [] = [] from by decide] at c1
  rw [show W [32, 32, 32] = [] from by decide] at c2
  rw [show W [116, 104, 101, 32, 97, 32, 32, 116, 104, 101] = [] from by decide] at c3
  rw [show W [97, 32, 98, 32, 116, 104, 101, 32, 32, 99, 32] = [[98], [99]] from by decide] at c4
  refine run_rt (ρ' := [some (.fz (.scr ns)), none, none, none, none]) (ex_nx rfl (ex_for (xs := (cutL ns none (some 40)).map .int) (ρ1 := [some (.fz (.scr ns)), none, none, none, none]) ?_ hl1)
    (ex_nx rfl (ρ' := [some (.fz (.scr ns)), none, none, none, none]) (ex_if (k := false) (ρ1 := [some (.fz (.scr ns)), none, none, none, none]) (ev_orB (k := false) (l := false) (ne_tup rfl c1 (nil_e _)) (ev_orB (k := false) (l := false) (ne_tup rfl c2 (nil_e _)) (ne_tup rfl c3 (nil_e _)))) ex_nil)
    (ex_rt rfl (ex_ret (r := .val (.bl true)) (ρ1 := [some (.fz (.scr ns)), none, none, none, none]) (ev_op c4 (r2 := .val (.tup [.str [98], .str [99]])) (by simp [ev, evF, toF, SL]) rfl rfl (eq_self rfl)) rfl)))) rfl
  simp [evI, ev, evO, asI, varR, slR, En.sl, rd, slcD, toW, seqOf]
end Lw
theorem PySem.Challenge.cw_tellworld_k02_words_of_a_row_holds : PySem.Challenge.rw_tellworld_k02_words_of_a_row.Holds := by
  exact Lw.holds fun ns _ => Lw.law_ok ns
