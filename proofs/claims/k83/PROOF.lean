import PyProof.Rows.All
import Wide.All
import OpenK.AllK
import Wide.FinOn
import PySem.Challenge.RW_countrealm_k83_whole_steps_of_slopes
import HandS.ForMost
import HandS.Gcd
import HandS.Wide
import HandS.TupAny
import HandS.TupLe
import HandS.IsInst
import HandS.Style
import HandS.TupMul
import HandS.Replace
import HandS.SortInts
import HandS.RaiseMore
import HandS.Iter
import KE.GoesMore
import KE.GoesNew
import HandS.Defaults
import HandS.HeadHook1
import HandS.HeadHook2
import PyProof.ReprBulk
import PyProof.FitsInt
set_option Elab.async false
set_option linter.all false
set_option maxRecDepth 100000
/-! A small language for the program's defs, and its plain evaluator. -/
namespace Cz
open PySem

/-- a value: data that never changes, or a list of the store -/
inductive Val where
  | d (x : PyData)
  | l (i : Nat)
abbrev Store := List (List PyData)
abbrev Slots := List (Option Val)
/-- what an operation gives -/
inductive Res where
  | d (x : PyData)
  | new (ds : List PyData)

/-- the operations on values -/
inductive Op where
  | add | sub | mul | fdiv | md | pow | neg
  | eq | ne | lt | le | gt | ge | is_ | isnot
  | ix | sl00 | sl10 | sl01 | sl11 | rev
  | len | abs | min2 | max2 | int1 | sum | all | any | tupleOf | listOf | sorted | repr | gcd | join | index
  | isInt | isBool | isTup | isStr
  deriving DecidableEq

inductive Tg where
  | nm (i : Nat)
  | tp (is : List Nat)
  deriving DecidableEq
def Tg.slots : Tg → List Nat
  | .nm i => [i]
  | .tp is => is
/-- what a for walks -/
inductive Ik where
  | seq | range1 | range2 | zip2 | enum
  deriving DecidableEq

inductive E where
  | nil
  | cons (h t : E)
  | var (i : Nat)
  | k (x : PyData)
  | glob (i : Nat)
  | op (o : Op) (es : E)
  | tup (es : E)
  | lst (es : E)
  | call (f : Nat) (es : E)
  | ite (c a b : E)
  | and (a b : E)
  | or (a b : E)
  | not (a : E)
  | chain (o1 o2 : Op) (a b c : E)
  | comp (elt : E) (t : Tg) (ik : Ik) (its : E) (conds : E)

inductive S where
  | nil
  | cons (s t : S)
  | asg (t : Tg) (e : E)
  | par (is : List Nat) (es : E)
  | setix (o i v : E)
  | app (o v : E)
  | ifs (c : E) (a b : S)
  | for_ (t : Tg) (ik : Ik) (its : E) (b : S)
  | whl (c : E) (b : S)
  | ret (e : E)
  | expr (e : E)
  | brk | cnt | pas | nev

/-! ### data -/
mutual
def eqD : PyData → PyData → Bool
  | .none, .none => true
  | .bool a, .bool b => a == b
  | .int a, .int b => a == b
  | .str a, .str b => a == b
  | .list a, .list b => eqDs a b
  | .tuple a, .tuple b => eqDs a b
  | _, _ => false
def eqDs : List PyData → List PyData → Bool
  | [], [] => true
  | x :: xs, y :: ys => eqD x y && eqDs xs ys
  | _, _ => false
end

def ints? : List PyData → Option (List Int)
  | [] => some []
  | .int i :: r => (ints? r).map (i :: ·)
  | _ => none
def bools? : List PyData → Option (List Bool)
  | [] => some []
  | .bool i :: r => (bools? r).map (i :: ·)
  | _ => none
def strs? : List PyData → Option (List Str)
  | [] => some []
  | .str i :: r => (strs? r).map (i :: ·)
  | _ => none

def cutA {α : Type} (xs : List α) (lo hi : Option Int) : List α :=
  (xs.drop (HT.sIx xs.length 0 lo)).take (HT.sIx xs.length xs.length hi - HT.sIx xs.length 0 lo)
def atA {α : Type} (xs : List α) (i : Int) : Option α := (L2.ixN xs.length i).bind fun j => xs[j]?
def part? : PyData → Option (Option Int)
  | .int i => some (some i)
  | _ => none
def sizeMax : Nat := 100000
/-- insertion sort -/
def insI (x : Int) : List Int → List Int
  | [] => [x]
  | y :: r => if x ≤ y then x :: y :: r else y :: insI x r
def sortI : List Int → List Int
  | [] => []
  | x :: r => insI x (sortI r)

def slice (c : PyData) (lo hi : Option Int) : Option Res :=
  match c with
  | .list xs => some (.new (cutA xs lo hi))
  | .tuple xs => some (.d (.tuple (cutA xs lo hi)))
  | .str z => if z.length ≤ sizeMax then some (.d (.str ⟨(cutA z.cps.toList lo hi).toArray⟩)) else none
  | _ => none
def mulOk (i j : Int) : Bool := decide (-(2 ^ 64) < i ∧ i < 2 ^ 64) || decide (-(2 ^ 64) < j ∧ j < 2 ^ 64) || decide (i.natAbs.log2 + j.natAbs.log2 < 1000000)
def cmpInt (p : Int → Int → Bool) : List PyData → Option Res
  | [.int i, .int j] => some (.d (.bool (p i j)))
  | _ => none
def shownOk (d : PyData) : Bool := d.showable && !d.hasDict && decide (d.depth ≤ 30) && decide (d.shown.length ≤ sizeMax)

def Op.run : Op → List PyData → Option Res
  | .add, [.int i, .int j] => some (.d (.int (i + j)))
  | .add, [.str i, .str j] => if i.length + j.length ≤ sizeMax then some (.d (.str (i ++ j))) else none
  | .add, [.tuple xs, .tuple ys] => if xs.length + ys.length ≤ sizeMax then some (.d (.tuple (xs ++ ys))) else none
  | .add, [.list xs, .list ys] => if xs.length + ys.length ≤ sizeMax then some (.new (xs ++ ys)) else none
  | .sub, [.int i, .int j] => some (.d (.int (i - j)))
  | .mul, [.int i, .int j] => if mulOk i j then some (.d (.int (i * j))) else none
  | .mul, [.str z, .int n] => if n < 2 ^ 62 ∧ -(2 ^ 62) < n ∧ z.length * n.toNat ≤ sizeMax then some (.d (.str ⟨(List.replicate n.toNat z.cps.toList).flatten.toArray⟩)) else none
  | .mul, [.list xs, .int n] => if n < 2 ^ 62 ∧ -(2 ^ 62) < n ∧ xs.length * n.toNat ≤ sizeMax then some (.new (List.replicate n.toNat xs).flatten) else none
  | .mul, [.tuple xs, .int n] => if 2 ≤ n ∧ n ≤ 1000 ∧ 0 < xs.length ∧ xs.length ≤ 100 then some (.d (.tuple (List.replicate n.toNat xs).flatten)) else none
  | .fdiv, [.int i, .int j] => if 0 < j ∧ j.natAbs.log2 < 9000 then some (.d (.int (i / j))) else none
  | .md, [.int i, .int j] => if 0 < j then some (.d (.int (i % j))) else none
  | .pow, [.int i, .int j] => if 0 ≤ j ∧ j ≤ 1000000 ∧ i.natAbs < 2 ^ 64 then some (.d (.int (i ^ j.toNat))) else none
  | .neg, [.int i] => some (.d (.int (-i)))
  | .eq, [.str a, .str b] => some (.d (.bool (decide (a = b))))
  | .ne, [.str a, .str b] => some (.d (.bool (!decide (a = b))))
  | .eq, [a, b] => if SeqAt.shaped a && SeqAt.shaped b then some (.d (.bool (PyData.eqv a b))) else none
  | .ne, [a, b] => if SeqAt.shaped a && SeqAt.shaped b then some (.d (.bool (!PyData.eqv a b))) else none
  | .lt, cs => cmpInt (fun i j => decide (i < j)) cs
  | .le, cs => cmpInt (fun i j => decide (i ≤ j)) cs
  | .gt, cs => cmpInt (fun i j => decide (j < i)) cs
  | .ge, cs => cmpInt (fun i j => decide (j ≤ i)) cs
  | .is_, [.bool a, .bool b] => some (.d (.bool (decide (a = b))))
  | .is_, [a, .none] => some (.d (.bool (match a with | .none => true | _ => false)))
  | .isnot, [.bool a, .bool b] => some (.d (.bool (!decide (a = b))))
  | .isnot, [a, .none] => some (.d (.bool (match a with | .none => false | _ => true)))
  | .ix, [.list xs, .int i] => (atA xs i).map .d
  | .ix, [.tuple xs, .int i] => (atA xs i).map .d
  | .ix, [.str z, .int i] => if z.length ≤ sizeMax then (atA z.cps.toList i).map fun c => .d (.str ⟨#[c]⟩) else none
  | .sl00, [c] => slice c none none
  | .sl10, [c, .int i] => slice c (some i) none
  | .sl01, [c, .int i] => slice c none (some i)
  | .sl11, [c, .int i, .int j] => slice c (some i) (some j)
  | .rev, [.list xs] => some (.new xs.reverse)
  | .rev, [.tuple xs] => some (.d (.tuple xs.reverse))
  | .len, [.list xs] => some (.d (.int xs.length))
  | .len, [.tuple xs] => some (.d (.int xs.length))
  | .len, [.str z] => if z.length ≤ sizeMax then some (.d (.int z.length)) else none
  | .abs, [.int i] => some (.d (.int (if i < 0 then -i else i)))
  | .min2, [.int i, .int j] => some (.d (.int (if j < i then j else i)))
  | .max2, [.int i, .int j] => some (.d (.int (if j > i then j else i)))
  | .int1, [.int i] => some (.d (.int i))
  | .int1, [.bool b] => some (.d (.int (if b then 1 else 0)))
  | .sum, [.list xs] => (ints? xs).map fun ns => .d (.int ns.sum)
  | .sum, [.tuple xs] => (ints? xs).map fun ns => .d (.int ns.sum)
  | .all, [.list xs] => (bools? xs).map fun bs => .d (.bool (bs.all id))
  | .any, [.list xs] => (bools? xs).map fun bs => .d (.bool (bs.any id))
  | .tupleOf, [.list xs] => some (.d (.tuple xs))
  | .tupleOf, [.tuple xs] => some (.d (.tuple xs))
  | .listOf, [.list xs] => some (.new xs)
  | .listOf, [.tuple xs] => some (.new xs)
  | .sorted, [.list xs] => if xs.length < 64 then (ints? xs).map fun ns => .new ((sortI ns).map .int) else none
  | .sorted, [.tuple xs] => if xs.length < 64 then (ints? xs).map fun ns => .new ((sortI ns).map .int) else none
  | .repr, [.int i] => if i.natAbs.log2 < 1920 then some (.d (.str (toString i))) else none
  | .repr, [.tuple xs] => if shownOk (.tuple xs) then some (.d (.str (PyData.tuple xs).shown)) else none
  | .repr, [.list xs] => if shownOk (.list xs) then some (.d (.str (PyData.list xs).shown)) else none
  | .gcd, [.int i, .int j] => some (.d (.int ((Nat.gcd i.natAbs j.natAbs : Nat) : Int)))
  | .join, [.str a, .list xs] => (strs? xs).bind fun ys => if (ys.map (·.length)).sum + ys.length * a.length ≤ 16777216 then some (.d (.str (Txt.join a ys))) else none
  | .index, [.str a, .str b] => match Builtin.Str.occurrences a b 0 a.length 1 with
    | [] => none
    | i :: _ => some (.d (.int ((i : Nat) : Int)))
  | .isInt, [c] => some (.d (.bool (match c with | .int _ => true | .bool _ => true | _ => false)))
  | .isBool, [c] => some (.d (.bool (match c with | .bool _ => true | _ => false)))
  | .isTup, [c] => some (.d (.bool (match c with | .tuple _ => true | _ => false)))
  | .isStr, [c] => some (.d (.bool (match c with | .str _ => true | _ => false)))
  | _, _ => none

/-! ### the store -/
/-- what a value holds -/
def cont (μ : Store) : Val → Option PyData
  | .d x => some x
  | .l i => (μ[i]?).map .list
def conts (μ : Store) : List Val → Option (List PyData)
  | [] => some []
  | w :: ws => (cont μ w).bind fun x => (conts μ ws).map (x :: ·)
/-- what may be put into a tuple or a list: data, or a list made since (n: the store's size before) -/
def frz (n : Nat) (μ : Store) : Val → Option PyData
  | .d x => some x
  | .l i => if n ≤ i then (μ[i]?).map .list else none
def frzs (n : Nat) (μ : Store) : List Val → Option (List PyData)
  | [] => some []
  | w :: ws => (frz n μ w).bind fun x => (frzs n μ ws).map (x :: ·)
/-- behind an operation: what was made on the way is dropped -/
def fin (n : Nat) (μ : Store) : Res → List Val × Store
  | .d x => ([.d x], μ.take n)
  | .new ds => ([.l n], μ.take n ++ [ds])
def finV (n : Nat) (μ : Store) : Val → Option (Val × Store)
  | .d x => some (.d x, μ.take n)
  | .l i => if i < n then some (.l i, μ.take n) else (μ[i]?).map fun ds => (.l n, μ.take n ++ [ds])
/-- what is walked: a list made for it is data from then on -/
def thaw (n : Nat) (μ : Store) : Val → Option Val
  | .d x => some (.d x)
  | .l i => if i < n then some (.l i) else (μ[i]?).map fun ds => .d (.list ds)
def thaws (n : Nat) (μ : Store) : List Val → Option (List Val)
  | [] => some []
  | w :: ws => (thaw n μ w).bind fun x => (thaws n μ ws).map (x :: ·)
/-- a walked list is as it was -/
def same (μ : Store) : Val → PyData → Bool
  | .d _, _ => true
  | .l i, .list ds => match μ[i]? with
    | some es => eqDs es ds
    | none => false
  | .l _, _ => false
def sames (μ : Store) : List Val → List PyData → Bool
  | [], [] => true
  | w :: ws, c :: cs => same μ w c && sames μ ws cs
  | _, _ => false
def chars (z : Str) : List PyData := z.cps.toList.map fun c => .str ⟨#[c]⟩
def enumFrom (i : Nat) : List PyData → List PyData
  | [] => []
  | x :: r => .tuple [.int (i : Int), x] :: enumFrom (i + 1) r
def rangeD (lo : Int) : Nat → List PyData
  | 0 => []
  | n + 1 => .int lo :: rangeD (lo + 1) n
def zipD : List PyData → List PyData → List PyData
  | x :: xs, y :: ys => .tuple [x, y] :: zipD xs ys
  | _, _ => []
def seqOf : PyData → Option (List PyData)
  | .list xs => some xs
  | .tuple xs => some xs
  | _ => none
def bound62 (i : Int) : Bool := decide (-(2 ^ 62) ≤ i ∧ i < 2 ^ 62)
def Ik.items : Ik → List PyData → Option (List PyData)
  | .seq, [.list xs] => some xs
  | .seq, [.tuple xs] => some xs
  | .seq, [.str z] => if z.length ≤ sizeMax then some (chars z) else none
  | .range1, [.int j] => if bound62 j then some (rangeD 0 j.toNat) else none
  | .range2, [.int i, .int j] => if bound62 i && bound62 j then some (rangeD i (j - i).toNat) else none
  | .zip2, [a, b] => (seqOf a).bind fun xs => (seqOf b).map fun ys => zipD xs ys
  | .enum, [a] => (seqOf a).map fun xs => enumFrom 0 xs
  | _, _ => none

def setSlots : Slots → List Nat → List Val → Slots
  | ρ, i :: is, v :: vs => setSlots (ρ.set i (some v)) is vs
  | ρ, _, _ => ρ
def wipeS (ρ : Slots) : List Nat → Slots
  | [] => ρ
  | i :: is => (wipeS ρ is).set i none
/-- a target takes an item -/
def Tg.put : Tg → PyData → Slots → Option Slots
  | .nm i, x, ρ => some (ρ.set i (some (.d x)))
  | .tp is, .tuple xs, ρ => if xs.length = is.length then some (setSlots ρ is (xs.map .d)) else none
  | .tp _, _, _ => none

def loopC (f : PyData → Store → Option (Option PyData × Store)) (ok : Store → Bool) : List PyData → List PyData → Store → Option (List PyData × Store)
  | [], acc, μ => if ok μ then some (acc, μ) else none
  | x :: r, acc, μ => if ok μ && decide (acc.length < sizeMax) then (f x μ).bind fun p => match p.1 with
      | some y => loopC f ok r (acc ++ [y]) p.2
      | none => loopC f ok r acc p.2
    else none

abbrev CallF := Nat → List Val → Store → Option (Val × Store)

def bool1 : List Val × Store → Option (Bool × Store)
  | ([.d (.bool b)], μ) => some (b, μ)
  | _ => none
def val1 : List Val × Store → Option (Val × Store)
  | ([v], μ) => some (v, μ)
  | _ => none

section
variable (F : CallF) (C : List PyData)
/-- an expression gives one value, a list of expressions a list -/
def evE : E → Slots → Store → Option (List Val × Store)
  | .nil, _, μ => some ([], μ)
  | .cons h t, ρ, μ => (evE h ρ μ).bind fun p => (evE t ρ p.2).map fun q => (p.1 ++ q.1, q.2)
  | .var i, ρ, μ => ((ρ[i]?).bind id).map fun v => ([v], μ)
  | .k x, _, μ => some ([.d x], μ)
  | .glob i, _, μ => (C[i]?).map fun x => ([.d x], μ)
  | .op o es, ρ, μ => (evE es ρ μ).bind fun p => (conts p.2 p.1).bind fun cs => (o.run cs).map fun r => fin μ.length p.2 r
  | .tup es, ρ, μ => (evE es ρ μ).bind fun p => (frzs μ.length p.2 p.1).bind fun cs => if cs.length ≤ sizeMax then some (fin μ.length p.2 (.d (.tuple cs))) else none
  | .lst es, ρ, μ => (evE es ρ μ).bind fun p => (frzs μ.length p.2 p.1).bind fun cs => if cs.length ≤ sizeMax then some (fin μ.length p.2 (.new cs)) else none
  | .call f es, ρ, μ => (evE es ρ μ).bind fun p => (F f p.1 p.2).bind fun q => (finV μ.length q.2 q.1).map fun r => ([r.1], r.2)
  | .ite c a b, ρ, μ => (evE c ρ μ).bind fun p => (bool1 p).bind fun q => if q.1 then evE a ρ q.2 else evE b ρ q.2
  | .and a b, ρ, μ => (evE a ρ μ).bind fun p => (bool1 p).bind fun q => if q.1 then evE b ρ q.2 else some ([.d (.bool false)], q.2)
  | .or a b, ρ, μ => (evE a ρ μ).bind fun p => (bool1 p).bind fun q => if q.1 then some ([.d (.bool true)], q.2) else evE b ρ q.2
  | .not a, ρ, μ => (evE a ρ μ).bind fun p => (bool1 p).map fun q => ([.d (.bool (!q.1))], q.2)
  | .chain o1 o2 a b c, ρ, μ => (evE a ρ μ).bind fun p => (evE b ρ p.2).bind fun q => (conts q.2 (p.1 ++ q.1)).bind fun cs => (o1.run cs).bind fun r => match r with
      | .d (.bool true) => (evE c ρ q.2).bind fun s => (conts s.2 (q.1 ++ s.1)).bind fun cs => (o2.run cs).map fun r => fin μ.length s.2 r
      | .d (.bool false) => some ([.d (.bool false)], q.2.take μ.length)
      | _ => none
  | .comp elt t ik its conds, ρ, μ => (evE its ρ μ).bind fun p => (thaws μ.length p.2 p.1).bind fun ws => (conts p.2 p.1).bind fun cs => (ik.items cs).bind fun xs =>
      (loopC (fun x μ' => (t.put x (wipeS ρ t.slots)).bind fun ρ' => (evE conds ρ' μ').bind fun c => match c.1 with
          | [.d (.bool false)] => some (none, c.2)
          | [.d (.bool true)] => (evE elt ρ' c.2).bind fun q => (frzs c.2.length q.2 q.1).bind fun ys => match ys with
            | [y] => some (some y, q.2.take c.2.length)
            | _ => none
          | [] => (evE elt ρ' c.2).bind fun q => (frzs c.2.length q.2 q.1).bind fun ys => match ys with
            | [y] => some (some y, q.2.take c.2.length)
            | _ => none
          | _ => none)
        (fun μ' => sames μ' ws cs) xs [] (p.2.take μ.length)).map fun q => fin μ.length q.2 (.new q.1)

inductive Fl where
  | nx | rt (v : Val) | bk | ct
abbrev Outc := Option (Fl × Slots × Store)

def whileN (c : Slots → Store → Option (Bool × Store)) (b : Slots → Store → Outc) : Nat → Slots → Store → Outc
  | 0, _, _ => none
  | n + 1, ρ, μ => (c ρ μ).bind fun q => if q.1 then (b ρ q.2).bind fun r => match r.1 with
      | .nx => whileN c b n r.2.1 r.2.2
      | .ct => whileN c b n r.2.1 r.2.2
      | .bk => some (.nx, r.2.1, r.2.2)
      | .rt v => some (.rt v, r.2.1, r.2.2)
    else some (.nx, ρ, q.2)
def forL (t : Tg) (b : Slots → Store → Outc) (ok : Store → Bool) : List PyData → Slots → Store → Outc
  | [], ρ, μ => if ok μ then some (.nx, ρ, μ) else none
  | x :: r, ρ, μ => if ok μ then (t.put x ρ).bind fun ρ' => (b ρ' μ).bind fun q => match q.1 with
      | .nx => forL t b ok r q.2.1 q.2.2
      | .ct => forL t b ok r q.2.1 q.2.2
      | .bk => some (.nx, q.2.1, q.2.2)
      | .rt v => some (.rt v, q.2.1, q.2.2)
    else none

/-- statements; w: the greatest number of turns of a while -/
def evS (w : Nat) : S → Slots → Store → Outc
  | .nil, ρ, μ => some (.nx, ρ, μ)
  | .cons s t, ρ, μ => (evS w s ρ μ).bind fun q => match q.1 with
      | .nx => evS w t q.2.1 q.2.2
      | .rt v => some (.rt v, q.2.1, q.2.2)
      | .bk => some (.bk, q.2.1, q.2.2)
      | .ct => some (.ct, q.2.1, q.2.2)
  | .asg (.nm i) e, ρ, μ => (evE F C e ρ μ).bind fun p => (val1 p).map fun q => (.nx, ρ.set i (some q.1), q.2)
  | .asg (.tp is) e, ρ, μ => (evE F C e ρ μ).bind fun p => (val1 p).bind fun q => match q.1 with
      | .d x => ((Tg.tp is).put x ρ).map fun ρ' => (.nx, ρ', q.2)
      | .l _ => none
  | .par is es, ρ, μ => (evE F C es ρ μ).bind fun p => if p.1.length = is.length then some (.nx, setSlots ρ is p.1, p.2) else none
  | .setix o i v, ρ, μ => (evE F C v ρ μ).bind fun p => (frzs μ.length p.2 p.1).bind fun ys => (evE F C o ρ (p.2.take μ.length)).bind fun q => (evE F C i ρ q.2).bind fun r =>
      match ys, q.1, r.1 with
      | [y], [.l n], [.d (.int k)] => (r.2[n]?).bind fun xs => (L2.ixN xs.length k).map fun j => (.nx, ρ, (r.2.take μ.length).set n (xs.set j y))
      | _, _, _ => none
  | .app o v, ρ, μ => (evE F C o ρ μ).bind fun q => (evE F C v ρ q.2).bind fun p => (frzs q.2.length p.2 p.1).bind fun ys =>
      match ys, q.1 with
      | [y], [.l n] => (p.2[n]?).bind fun xs => if xs.length < sizeMax then some (.nx, ρ, (p.2.take μ.length).set n (xs ++ [y])) else none
      | _, _ => none
  | .ifs c a b, ρ, μ => (evE F C c ρ μ).bind fun p => (bool1 p).bind fun q => if q.1 then evS w a ρ q.2 else evS w b ρ q.2
  | .for_ t ik its b, ρ, μ => (evE F C its ρ μ).bind fun p => (thaws μ.length p.2 p.1).bind fun ws => (conts p.2 p.1).bind fun cs => (ik.items cs).bind fun xs =>
      forL t (evS w b) (fun μ' => sames μ' ws cs) xs ρ (p.2.take μ.length)
  | .whl c b, ρ, μ => whileN (fun ρ μ => (evE F C c ρ μ).bind bool1) (evS w b) w ρ μ
  | .ret e, ρ, μ => (evE F C e ρ μ).bind fun p => (val1 p).map fun q => (.rt q.1, ρ, q.2)
  | .expr e, ρ, μ => (evE F C e ρ μ).map fun p => (.nx, ρ, p.2.take μ.length)
  | .brk, ρ, μ => some (.bk, ρ, μ)
  | .cnt, ρ, μ => some (.ct, ρ, μ)
  | .pas, ρ, μ => some (.nx, ρ, μ)
  | .nev, _, _ => none
end

/-- a def: how many parameters, how many names, its body -/
structure Df where
  np : Nat
  nn : Nat
  body : S
def startS (d : Df) (vs : List Val) : Slots := vs.map some ++ List.replicate (d.nn - vs.length) none
def run (ds : List Df) (C : List PyData) (w : Nat) : Nat → CallF
  | 0, _, _, _ => none
  | k + 1, f, vs, μ => (ds[f]?).bind fun d => if vs.length = d.np then (evS (run ds C w k) C w d.body (startS d vs) μ).bind fun q => match q.1 with
      | .rt v => finV μ.length q.2.2 v
      | .nx => some (.d .none, q.2.2.take μ.length)
      | _ => none
    else none
end Cz
set_option Elab.async false
set_option linter.all false
set_option maxRecDepth 100000
set_option maxHeartbeats 4000000
/-! What the evaluator's values are in the abstract heap. -/
namespace Cz
open PySem PySem.Spec L2

/-- a list that the module holds -/
def KL (K : PySem.W.Frag) (a : Addr) (xs : List V) : Prop := ∃ (its : List Value) (n : Nat), K.lookup a = some { cls := .type "list", data := .seq its.toArray n } ∧ Vals xs its ∧ xs.length ≤ sizeLine
mutual
inductive Rp (K : PySem.W.Frag) (L : List Addr) (H : Hp) : V → PyData → Prop
  | non : Rp K L H .non .none
  | bl (b : Bool) : Rp K L H (.bl b) (.bool b)
  | int (i : Int) : Rp K L H (.int i) (.int i)
  | str (x : Str) : Rp K L H (.str x) (.str x)
  | lst {a : Addr} {xs : List V} {ds : List PyData} : a ∉ L → Rd H a (.lst xs) → RpAll K L H xs ds → Rp K L H (.ref a) (.list ds)
  | kl {a : Addr} {xs : List V} {ds : List PyData} : KL K a xs → RpAll K L H xs ds → Rp K L H (.ref a) (.list ds)
  | tup {a : Addr} {xs : List V} {ds : List PyData} : SqT K H a xs → RpAll K L H xs ds → Rp K L H (.ref a) (.tuple ds)
inductive RpAll (K : PySem.W.Frag) (L : List Addr) (H : Hp) : List V → List PyData → Prop
  | nil : RpAll K L H [] []
  | cons {v : V} {vs : List V} {d : PyData} {ds : List PyData} : Rp K L H v d → RpAll K L H vs ds → RpAll K L H (v :: vs) (d :: ds)
end
theorem KL.sq {K : PySem.W.Frag} {H : Hp} {a : Addr} {xs : List V} (h : KL K a xs) : SqL K H a xs := by
  obtain ⟨its, n, e, r, hz⟩ := h
  exact .inr ⟨_, its.toArray, n, e, rfl, rfl, rfl, by rw [List.size_toArray, ← r.length]; exact hz, by simpa using r⟩
/-- a list that is read -/
def LsR (K : PySem.W.Frag) (H : Hp) (a : Addr) (xs : List V) : Prop := Rd H a (.lst xs) ∨ KL K a xs
theorem LsR.sq {K : PySem.W.Frag} {H : Hp} {a : Addr} {xs : List V} (h : LsR K H a xs) : SqL K H a xs := h.elim (fun z => .inl z) fun z => z.sq
theorem LsR.ok {X : Cx} {pins : List (Addr × Obj)} {σ : St} {H : Hp} {s : Shared} {a : Addr} {xs : List V} (I : Inv X pins σ H s) (h : LsR X.K H a xs) : ∃ (_ : xs.length ≤ sizeLine) (its : List Value) (n : Nat), Vals xs its ∧ s.heap.get? a = some { cls := .type "list", data := .seq its.toArray n } := by
  rcases h with h | ⟨its, n, e, r, hz⟩
  · obtain ⟨z, its, n, r, e⟩ := h.ok I.hok
    exact ⟨z, its, n, r, e⟩
  · exact ⟨hz, its, n, r, I.kIn a _ e⟩
section
variable {K : PySem.W.Frag} {L L' : List Addr} {H H' : Hp}
mutual
theorem Rp.mono (h1 : ∀ a xs, a ∉ L → Rd H a (.lst xs) → a ∉ L' ∧ Rd H' a (.lst xs)) (h2 : ∀ a xs, SqT K H a xs → SqT K H' a xs) : ∀ (d : PyData) (v : V), Rp K L H v d → Rp K L' H' v d
  | .none, _, h => by cases h; exact .non
  | .bool b, _, h => by cases h; exact .bl b
  | .int i, _, h => by cases h; exact .int i
  | .str x, _, h => by cases h; exact .str x
  | .list ds, _, h => by
    cases h with
    | lst hn hr ha => exact .lst (h1 _ _ hn hr).1 (h1 _ _ hn hr).2 (RpAll.mono h1 h2 ds _ ha)
    | kl hk ha => exact .kl hk (RpAll.mono h1 h2 ds _ ha)
  | .tuple ds, _, h => by
    cases h with
    | tup hs ha => exact .tup (h2 _ _ hs) (RpAll.mono h1 h2 ds _ ha)
  | .dict _, _, h => by cases h
theorem RpAll.mono (h1 : ∀ a xs, a ∉ L → Rd H a (.lst xs) → a ∉ L' ∧ Rd H' a (.lst xs)) (h2 : ∀ a xs, SqT K H a xs → SqT K H' a xs) : ∀ (ds : List PyData) (vs : List V), RpAll K L H vs ds → RpAll K L' H' vs ds
  | [], _, h => by cases h; exact .nil
  | d :: ds, _, h => by
    cases h with
    | cons a b => exact .cons (Rp.mono h1 h2 d _ a) (RpAll.mono h1 h2 ds _ b)
end
mutual
theorem Rp.dp : ∀ (d : PyData) (v : V), Rp K L H v d → Dp K H v d
  | .none, _, h => by cases h; exact .non
  | .bool b, _, h => by cases h; exact .bl b
  | .int i, _, h => by cases h; exact .int i
  | .str x, _, h => by cases h; exact .str x
  | .list ds, _, h => by
    cases h with
    | lst hn hr ha => exact .lst (.inl hr) (RpAll.dp ds _ ha)
    | kl hk ha => exact .lst (KL.sq hk) (RpAll.dp ds _ ha)
  | .tuple ds, _, h => by
    cases h with
    | tup hs ha => exact .tup hs (RpAll.dp ds _ ha)
  | .dict _, _, h => by cases h
theorem RpAll.dp : ∀ (ds : List PyData) (vs : List V), RpAll K L H vs ds → DpAll K H vs ds
  | [], _, h => by cases h; exact .nil
  | d :: ds, _, h => by
    cases h with
    | cons a b => exact .cons (Rp.dp d _ a) (RpAll.dp ds _ b)
end
theorem RpAll.length : ∀ {ds : List PyData} {vs : List V}, RpAll K L H vs ds → vs.length = ds.length
  | [], _, h => by cases h; rfl
  | _ :: _, _, h => by
    cases h with
    | cons a b => simp [RpAll.length b]
theorem RpAll.append : ∀ {ds es : List PyData} {vs ws : List V}, RpAll K L H vs ds → RpAll K L H ws es → RpAll K L H (vs ++ ws) (ds ++ es)
  | [], _, _, _, h, g => by cases h; exact g
  | _ :: _, _, _, _, h, g => by
    cases h with
    | cons a b => exact .cons a (RpAll.append b g)
theorem RpAll.take : ∀ {ds : List PyData} {vs : List V} (n : Nat), RpAll K L H vs ds → RpAll K L H (vs.take n) (ds.take n)
  | _, _, 0, _ => by simp; exact .nil
  | [], _, _ + 1, h => by cases h; exact .nil
  | _ :: _, _, n + 1, h => by
    cases h with
    | cons a b => exact .cons a (RpAll.take n b)
theorem RpAll.drop : ∀ {ds : List PyData} {vs : List V} (n : Nat), RpAll K L H vs ds → RpAll K L H (vs.drop n) (ds.drop n)
  | _, _, 0, h => h
  | [], _, _ + 1, h => by cases h; exact .nil
  | _ :: _, _, n + 1, h => by
    cases h with
    | cons a b => exact RpAll.drop n b
theorem RpAll.rev : ∀ {ds : List PyData} {vs : List V}, RpAll K L H vs ds → RpAll K L H vs.reverse ds.reverse
  | [], _, h => by cases h; exact .nil
  | _ :: _, _, h => by
    cases h with
    | cons a b =>
      rw [List.reverse_cons, List.reverse_cons]
      exact (RpAll.rev b).append (.cons a .nil)
theorem RpAll.get : ∀ {ds : List PyData} {vs : List V} {i : Nat} {d : PyData}, RpAll K L H vs ds → ds[i]? = some d → ∃ v, vs[i]? = some v ∧ Rp K L H v d
  | [], _, _, _, h, e => by simp at e
  | _ :: _, _, 0, _, h, e => by
    cases h with
    | cons a b => simp at e; subst e; exact ⟨_, rfl, a⟩
  | _ :: _, _, i + 1, _, h, e => by
    cases h with
    | cons a b =>
      obtain ⟨v, h1, h2⟩ := RpAll.get (i := i) b (by simpa using e)
      exact ⟨v, by simpa using h1, h2⟩
theorem RpAll.set : ∀ {ds : List PyData} {vs : List V} {d : PyData} {v : V} (i : Nat), RpAll K L H vs ds → Rp K L H v d → RpAll K L H (vs.set i v) (ds.set i d)
  | [], _, _, _, _, h, _ => by cases h; exact .nil
  | _ :: _, _, _, _, 0, h, r => by
    cases h with
    | cons a b => exact .cons r b
  | _ :: _, _, _, _, i + 1, h, r => by
    cases h with
    | cons a b => exact .cons a (RpAll.set i b r)
theorem RpAll.ints : ∀ {ds : List PyData} {vs : List V} {ns : List Int}, RpAll K L H vs ds → ints? ds = some ns → vs = ns.map V.int ∧ ds = ns.map .int
  | [], _, ns, h, e => by
    cases h
    have e' : some ([] : List Int) = some ns := e
    cases e'
    exact ⟨rfl, rfl⟩
  | d :: ds, _, ns, h, e => by
    cases h with
    | cons a b =>
      cases d with
      | int i =>
        have e' : (ints? ds).map (i :: ·) = some ns := e
        obtain ⟨r, h1, h2⟩ := Option.map_eq_some_iff.mp e'
        subst h2
        obtain ⟨h3, h4⟩ := RpAll.ints b h1
        cases a
        rw [h3, h4]
        exact ⟨rfl, rfl⟩
      | _ =>
        have e' : (none : Option (List Int)) = some ns := e
        cases e'
theorem RpAll.bools : ∀ {ds : List PyData} {vs : List V} {ns : List Bool}, RpAll K L H vs ds → bools? ds = some ns → vs = ns.map V.bl
  | [], _, ns, h, e => by
    cases h
    have e' : some ([] : List Bool) = some ns := e
    cases e'
    rfl
  | d :: ds, _, ns, h, e => by
    cases h with
    | cons a b =>
      cases d with
      | bool i =>
        have e' : (bools? ds).map (i :: ·) = some ns := e
        obtain ⟨r, h1, h2⟩ := Option.map_eq_some_iff.mp e'
        subst h2
        cases a
        rw [RpAll.bools b h1]
        rfl
      | _ =>
        have e' : (none : Option (List Bool)) = some ns := e
        cases e'
theorem RpAll.strs : ∀ {ds : List PyData} {vs : List V} {ns : List Str}, RpAll K L H vs ds → strs? ds = some ns → vs = ns.map V.str
  | [], _, ns, h, e => by
    cases h
    have e' : some ([] : List Str) = some ns := e
    cases e'
    rfl
  | d :: ds, _, ns, h, e => by
    cases h with
    | cons a b =>
      cases d with
      | str i =>
        have e' : (strs? ds).map (i :: ·) = some ns := e
        obtain ⟨r, h1, h2⟩ := Option.map_eq_some_iff.mp e'
        subst h2
        cases a
        rw [RpAll.strs b h1]
        rfl
      | _ =>
        have e' : (none : Option (List Str)) = some ns := e
        cases e'
theorem RpAll.ofInts : ∀ (ns : List Int), RpAll K L H (ns.map V.int) (ns.map .int)
  | [] => .nil
  | n :: ns => .cons (.int n) (RpAll.ofInts ns)
end

/-- the heap bears the store: as: the lists' places; hid: lists that are being made -/
structure St3 (K : PySem.W.Frag) (hid as : List Addr) (H : Hp) (μ : Store) : Prop where
  nd : (hid ++ as).Nodup
  len : as.length = μ.length
  cell : ∀ (i : Nat) (a : Addr), as[i]? = some a → ∃ (xs : List V) (ds : List PyData), μ[i]? = some ds ∧ H a = some (.lst xs) ∧ RpAll K (hid ++ as) H xs ds
  hidc : ∀ a ∈ hid, ∃ xs, H a = some (.lst xs)
/-- how a heap goes on -/
structure Evo (as : List Addr) (H : Hp) (as' : List Addr) (H' : Hp) : Prop where
  keep : ∀ b o, H b = some o → b ∉ as → H' b = some o
  new : ∀ b ∈ as', b ∈ as ∨ H b = none
def RpV (K : PySem.W.Frag) (hid as : List Addr) (H : Hp) (v : V) : Val → Prop
  | .d x => Rp K (hid ++ as) H v x
  | .l i => ∃ a, v = .ref a ∧ as[i]? = some a
inductive RpVs (K : PySem.W.Frag) (hid as : List Addr) (H : Hp) : List V → List Val → Prop
  | nil : RpVs K hid as H [] []
  | cons {v : V} {w : Val} {vs : List V} {ws : List Val} : RpV K hid as H v w → RpVs K hid as H vs ws → RpVs K hid as H (v :: vs) (w :: ws)
structure EnvOk (K : PySem.W.Frag) (hid as : List Addr) (H : Hp) (σ : St) (ρ : Slots) : Prop where
  len : ρ.length = σ.length
  at_ : ∀ (i : Nat) (w : Val), ρ[i]? = some (some w) → ∃ v : V, σ[i]? = some (some v) ∧ RpV K hid as H v w
/-- what a value holds, at this moment -/
def RC (K : PySem.W.Frag) (L : List Addr) (H : Hp) (v : V) (c : PyData) : Prop :=
  Rp K L H v c ∨ ∃ a xs ds, v = .ref a ∧ c = .list ds ∧ H a = some (.lst xs) ∧ RpAll K L H xs ds
inductive RCs (K : PySem.W.Frag) (L : List Addr) (H : Hp) : List V → List PyData → Prop
  | nil : RCs K L H [] []
  | cons {v : V} {c : PyData} {vs : List V} {cs : List PyData} : RC K L H v c → RCs K L H vs cs → RCs K L H (v :: vs) (c :: cs)

section
variable {K : PySem.W.Frag} {hid as as1 as' : List Addr} {H H1 H' : Hp} {μ μ' : Store} {σ : St} {ρ : Slots}
theorem St3.asl (s : St3 K hid as H μ) {a : Addr} (h : a ∈ as) : ∃ xs, H a = some (.lst xs) := by
  obtain ⟨i, hi⟩ := List.getElem?_of_mem h
  obtain ⟨xs, ds, _, e, _⟩ := s.cell i a hi
  exact ⟨xs, e⟩
theorem Evo.refl : Evo as H as H := ⟨fun _ _ h _ => h, fun _ h => .inl h⟩
theorem Evo.trans (a : Evo as H as1 H1) (b : Evo as1 H1 as' H') : Evo as H as' H' where
  keep := fun c o h n => b.keep c o (a.keep c o h n) fun m => by
    rcases a.new c m with z | z
    · exact n z
    · rw [h] at z; cases z
  new := fun c m => by
    rcases b.new c m with z | z
    · exact a.new c z
    · by_cases hc : c ∈ as
      · exact .inl hc
      · refine .inr ?_
        cases q : H c with
        | none => rfl
        | some o => rw [a.keep c o q hc] at z; cases z
theorem Evo.same (s : ∀ b o, H b = some o → H' b = some o) : Evo as H as H' := ⟨fun b o h _ => s b o h, fun _ h => .inl h⟩
theorem Evo.rp (s : St3 K hid as H μ) (e : Evo as H as' H') {v : V} {d : PyData} (r : Rp K (hid ++ as) H v d) : Rp K (hid ++ as') H' v d := by
  refine Rp.mono (fun a xs hn hr => ?_) (fun a xs hs => ?_) d v r
  · have n1 : a ∉ hid := fun m => hn (List.mem_append_left _ m)
    have n2 : a ∉ as := fun m => hn (List.mem_append_right _ m)
    have go : ∀ o, H a = some o → a ∉ hid ++ as' := fun o h m => by
      rcases List.mem_append.mp m with m | m
      · exact n1 m
      · rcases e.new a m with z | z
        · exact n2 z
        · rw [h] at z; cases z
    rcases hr with h | ⟨o, h⟩
    · exact ⟨go _ h, .inl (e.keep _ _ h n2)⟩
    · exact ⟨go _ h, .inr ⟨o, e.keep _ _ h n2⟩⟩
  · have na : ∀ o, H a = some o → (∀ xs, o ≠ .lst xs) → a ∉ as := fun o h n m => by
      obtain ⟨ys, q⟩ := s.asl m
      rw [h] at q; cases q
      exact n _ rfl
    rcases hs with (h | ⟨o, h⟩) | h
    · exact .inl (.inl (e.keep _ _ h (na _ h fun _ z => by cases z)))
    · exact .inl (.inr ⟨o, e.keep _ _ h (na _ h fun _ z => by cases z)⟩)
    · exact .inr h
theorem Evo.rps (s : St3 K hid as H μ) (e : Evo as H as' H') : ∀ {ds : List PyData} {vs : List V}, RpAll K (hid ++ as) H vs ds → RpAll K (hid ++ as') H' vs ds
  | [], _, h => by cases h; exact .nil
  | _ :: _, _, h => by
    cases h with
    | cons a b => exact .cons (e.rp s a) (Evo.rps s e b)
theorem getp {α : Type} {l l' : List α} (h : l <+: l') {i : Nat} {x : α} (e : l[i]? = some x) : l'[i]? = some x := by
  obtain ⟨t, rfl⟩ := h
  have hi : i < l.length := (List.getElem?_eq_some_iff.mp e).1
  rw [List.getElem?_append_left hi]
  exact e
theorem Evo.rpv (s : St3 K hid as H μ) (p : as <+: as') (e : Evo as H as' H') {v : V} : ∀ {w : Val}, RpV K hid as H v w → RpV K hid as' H' v w
  | .d x, r => e.rp s r
  | .l i, ⟨a, h1, h2⟩ => ⟨a, h1, getp p h2⟩
theorem Evo.rpvs (s : St3 K hid as H μ) (p : as <+: as') (e : Evo as H as' H') : ∀ {vs : List V} {ws : List Val}, RpVs K hid as H vs ws → RpVs K hid as' H' vs ws
  | _, _, .nil => .nil
  | _, _, .cons a b => .cons (e.rpv s p a) (Evo.rpvs s p e b)
theorem EnvOk.evo (s : St3 K hid as H μ) (p : as <+: as') (e : Evo as H as' H') (h : EnvOk K hid as H σ ρ) : EnvOk K hid as' H' σ ρ :=
  ⟨h.len, fun i w q => let ⟨v, h1, h2⟩ := h.at_ i w q; ⟨v, h1, e.rpv s p h2⟩⟩
theorem RpVs.append : ∀ {vs us : List V} {ws xs : List Val}, RpVs K hid as H vs ws → RpVs K hid as H us xs → RpVs K hid as H (vs ++ us) (ws ++ xs)
  | _, _, _, _, .nil, h => h
  | _, _, _, _, .cons a b, h => .cons a (RpVs.append b h)
theorem RpVs.length : ∀ {vs : List V} {ws : List Val}, RpVs K hid as H vs ws → vs.length = ws.length
  | _, _, .nil => rfl
  | _, _, .cons _ b => by simp [RpVs.length b]
/-- new objects alone: the store is borne on -/
theorem St3.same (s : St3 K hid as H μ) (h : ∀ b o, H b = some o → H' b = some o) : St3 K hid as H' μ where
  nd := s.nd
  len := s.len
  cell := fun i a q => let ⟨xs, ds, h1, h2, h3⟩ := s.cell i a q; ⟨xs, ds, h1, h _ _ h2, (Evo.same h).rps s h3⟩
  hidc := fun a m => let ⟨xs, q⟩ := s.hidc a m; ⟨xs, h _ _ q⟩
theorem St3.rc (s : St3 K hid as H μ) {v : V} : ∀ {w : Val} {c : PyData}, RpV K hid as H v w → cont μ w = some c → RC K (hid ++ as) H v c
  | .d x, c, r, e => by
    have e' : some x = some c := e
    cases e'
    exact .inl r
  | .l i, c, ⟨a, h1, h2⟩, e => by
    obtain ⟨xs, ds, m, q, r⟩ := s.cell i a h2
    have e' : (μ[i]?).map PyData.list = some c := e
    rw [m] at e'
    have e2 : some (PyData.list ds) = some c := e'
    cases e2
    exact .inr ⟨a, xs, ds, h1, rfl, q, r⟩
theorem St3.rcs (s : St3 K hid as H μ) : ∀ {vs : List V} {ws : List Val} {cs : List PyData}, RpVs K hid as H vs ws → conts μ ws = some cs → RCs K (hid ++ as) H vs cs
  | _, _, cs, .nil, e => by
    have e' : some [] = some cs := e
    cases e'
    exact .nil
  | _, _, cs, .cons (w := w) (ws := ws) a b, e => by
    have e' : (cont μ w).bind (fun x => (conts μ ws).map (x :: ·)) = some cs := e
    obtain ⟨x, h1, h2⟩ := Option.bind_eq_some_iff.mp e'
    obtain ⟨r, h3, h4⟩ := Option.map_eq_some_iff.mp h2
    subst h4
    exact .cons (s.rc a h1) (s.rcs b h3)
/-- the store cut down to its first n lists -/
theorem St3.cut (s : St3 K hid as1 H1 μ) (p : as <+: as1) : St3 K hid as H1 (μ.take as.length) := by
  obtain ⟨t, rfl⟩ := p
  have hl := s.len
  rw [List.length_append] at hl
  have nd := s.nd
  rw [← List.append_assoc] at nd
  refine ⟨(List.nodup_append.mp nd).1, by rw [List.length_take]; omega, fun i a q => ?_, s.hidc⟩
  have hi : i < as.length := (List.getElem?_eq_some_iff.mp q).1
  obtain ⟨xs, ds, h1, h2, h3⟩ := s.cell i a (by rw [List.getElem?_append_left hi]; exact q)
  refine ⟨xs, ds, by rw [List.getElem?_take_of_lt hi]; exact h1, h2, ?_⟩
  exact RpAll.mono (fun b ys hn hr => ⟨fun m => hn (by
    rcases List.mem_append.mp m with m | m
    · exact List.mem_append_left _ m
    · exact List.mem_append_right _ (List.mem_append_left _ m)), hr⟩) (fun _ _ h => h) ds xs h3
/-- .. a value that is data stays data -/
theorem rp_cut {v : V} {d : PyData} (p : as <+: as1) (r : Rp K (hid ++ as1) H v d) : Rp K (hid ++ as) H v d := by
  obtain ⟨t, rfl⟩ := p
  exact Rp.mono (fun b ys hn hr => ⟨fun m => hn (by
    rcases List.mem_append.mp m with m | m
    · exact List.mem_append_left _ m
    · exact List.mem_append_right _ (List.mem_append_left _ m)), hr⟩) (fun _ _ h => h) d v r
theorem rps_cut {vs : List V} {ds : List PyData} (p : as <+: as1) (r : RpAll K (hid ++ as1) H vs ds) : RpAll K (hid ++ as) H vs ds := by
  obtain ⟨t, rfl⟩ := p
  exact RpAll.mono (fun b ys hn hr => ⟨fun m => hn (by
    rcases List.mem_append.mp m with m | m
    · exact List.mem_append_left _ m
    · exact List.mem_append_right _ (List.mem_append_left _ m)), hr⟩) (fun _ _ h => h) ds vs r
theorem Evo.cut (e : Evo as H as1 H1) : Evo as H as H1 := ⟨e.keep, fun _ h => .inl h⟩
/-- .. and one list more: p, which is new to the start, or was made since -/
theorem St3.more (s : St3 K hid as H μ) {p : Addr} {xs : List V} {ds : List PyData} (hp : p ∉ hid ++ as) (e : H p = some (.lst xs)) (r : RpAll K (hid ++ (as ++ [p])) H xs ds)
    (h : ∀ (i : Nat) (a : Addr), as[i]? = some a → ∀ (xs : List V) (ds : List PyData), μ[i]? = some ds → H a = some (.lst xs) → RpAll K (hid ++ as) H xs ds → RpAll K (hid ++ (as ++ [p])) H xs ds) : St3 K hid (as ++ [p]) H (μ ++ [ds]) where
  nd := by
    rw [← List.append_assoc]
    refine List.nodup_append.mpr ⟨s.nd, by simp, fun a ha b hb => ?_⟩
    have : b = p := by simpa using hb
    subst this
    rintro rfl
    exact hp ha
  len := by simp [s.len]
  cell := fun i a q => by
    by_cases hi : i < as.length
    · rw [List.getElem?_append_left hi] at q
      obtain ⟨xs, es, h1, h2, h3⟩ := s.cell i a q
      exact ⟨xs, es, by rw [List.getElem?_append_left (by rw [← s.len]; exact hi)]; exact h1, h2, h i a q xs es h1 h2 h3⟩
    · have hi' : i = as.length := by
        have := (List.getElem?_eq_some_iff.mp q).1
        rw [List.length_append] at this
        simp at this
        omega
      subst hi'
      rw [List.getElem?_append_right (Nat.le_refl _)] at q
      simp at q
      subst q
      exact ⟨xs, ds, by rw [s.len, List.getElem?_append_right (Nat.le_refl _)]; simp, e, r⟩
  hidc := s.hidc
end
end Cz
set_option Elab.async false
set_option linter.all false
set_option maxRecDepth 100000
set_option maxHeartbeats 4000000
/-! The operations, by values. -/
namespace Cz
open PySem PySem.Spec L2

def Live (L : List Addr) (H : Hp) : Prop := ∀ a ∈ L, ∃ xs, H a = some (.lst xs)
/-- what is wanted behind an operation -/
def Post (K : PySem.W.Frag) (L : List Addr) (H : Hp) (Q : VK) : Res → Prop
  | .d z => ∀ v H', (∀ b o, H b = some o → H' b = some o) → Rp K L H' v z → Q v H'
  | .new ds => ∀ p H' xs, H p = none → (∀ b o, H b = some o → H' b = some o) → H' p = some (.lst xs) → RpAll K L H xs ds → Q (.ref p) H'
def rOp (K : PySem.W.Frag) (o : Op) : List V → Hp → VK → Prop := fun vs H Q => ∃ L cs r, RCs K L H vs cs ∧ o.run cs = some r ∧ Post K L H Q r

section
variable {K : PySem.W.Frag} {L : List Addr} {H : Hp} {v : V}
theorem RC.int {i : Int} (h : RC K L H v (.int i)) : v = .int i := by
  rcases h with h | ⟨_, _, _, _, h, _⟩
  · cases h; rfl
  · cases h
theorem RC.bool {i : Bool} (h : RC K L H v (.bool i)) : v = .bl i := by
  rcases h with h | ⟨_, _, _, _, h, _⟩
  · cases h; rfl
  · cases h
theorem RC.str {i : Str} (h : RC K L H v (.str i)) : v = .str i := by
  rcases h with h | ⟨_, _, _, _, h, _⟩
  · cases h; rfl
  · cases h
theorem RC.none (h : RC K L H v .none) : v = .non := by
  rcases h with h | ⟨_, _, _, _, h, _⟩
  · cases h; rfl
  · cases h
theorem RC.tuple {ds : List PyData} (h : RC K L H v (.tuple ds)) : ∃ a xs, v = .ref a ∧ SqT K H a xs ∧ RpAll K L H xs ds := by
  rcases h with h | ⟨_, _, _, _, h, _⟩
  · cases h with
    | tup a b => exact ⟨_, _, rfl, a, b⟩
  · cases h
theorem RC.list {ds : List PyData} (h : RC K L H v (.list ds)) : ∃ a xs, v = .ref a ∧ LsR K H a xs ∧ RpAll K L H xs ds := by
  rcases h with h | ⟨a, xs, es, h1, h2, h3, h4⟩
  · cases h with
    | lst _ a b => exact ⟨_, _, rfl, .inl a, b⟩
    | kl a b => exact ⟨_, _, rfl, .inr a, b⟩
  · cases h2
    exact ⟨a, xs, h1, .inl (.inl h3), h4⟩
theorem RC.dict {kvs : List (PyData × PyData)} (h : RC K L H v (.dict kvs)) : False := by
  rcases h with h | ⟨_, _, _, _, h, _⟩
  · cases h
  · cases h
theorem RC.dp {d : PyData} (h : RC K L H v d) : Dp K H v d := by
  rcases h with h | ⟨a, xs, es, h1, h2, h3, h4⟩
  · exact h.dp
  · subst h1; subst h2
    exact .lst (.inl (.inl h3)) h4.dp
theorem RCs.one {vs : List V} {c : PyData} (h : RCs K L H vs [c]) : ∃ v, vs = [v] ∧ RC K L H v c := by
  cases h with
  | cons a b => cases b; exact ⟨_, rfl, a⟩
theorem RCs.two {vs : List V} {c d : PyData} (h : RCs K L H vs [c, d]) : ∃ v u, vs = [v, u] ∧ RC K L H v c ∧ RC K L H u d := by
  cases h with
  | cons a b =>
    cases b with
    | cons b c => cases c; exact ⟨_, _, rfl, a, b⟩
theorem RCs.three {vs : List V} {c d e : PyData} (h : RCs K L H vs [c, d, e]) : ∃ v u w, vs = [v, u, w] ∧ RC K L H v c ∧ RC K L H u d ∧ RC K L H w e := by
  cases h with
  | cons a b =>
    cases b with
    | cons b c =>
      cases c with
      | cons c d => cases d; exact ⟨_, _, _, rfl, a, b, c⟩
theorem same_new {p : Addr} {o : HO} (h : H p = none) : ∀ b u, H b = some u → (upd H p o) b = some u := fun b u e => by
  rw [upd_ne (ne_of_none e h)]
  exact e
theorem rp_new {p : Addr} {o : HO} (h : H p = none) {d : PyData} {v : V} (r : Rp K L H v d) : Rp K L (upd H p o) v d :=
  Rp.mono (fun a xs hn hr => ⟨hn, by
    rcases hr with q | ⟨ob, q⟩
    · exact .inl (same_new h _ _ q)
    · exact .inr ⟨ob, same_new h _ _ q⟩⟩) (fun a xs hs => by
    rcases hs with (q | ⟨ob, q⟩) | q
    · exact .inl (.inl (same_new h _ _ q))
    · exact .inl (.inr ⟨ob, same_new h _ _ q⟩)
    · exact .inr q) d v r
theorem rps_new {p : Addr} {o : HO} (h : H p = none) {ds : List PyData} {vs : List V} (r : RpAll K L H vs ds) : RpAll K L (upd H p o) vs ds :=
  RpAll.mono (fun a xs hn hr => ⟨hn, by
    rcases hr with q | ⟨ob, q⟩
    · exact .inl (same_new h _ _ q)
    · exact .inr ⟨ob, same_new h _ _ q⟩⟩) (fun a xs hs => by
    rcases hs with (q | ⟨ob, q⟩) | q
    · exact .inl (.inl (same_new h _ _ q))
    · exact .inl (.inr ⟨ob, same_new h _ _ q⟩)
    · exact .inr q) ds vs r
theorem Post.now {Q : VK} {z : PyData} (h : Post K L H Q (.d z)) (r : Rp K L H v z) : Q v H := h v H (fun _ _ e => e) r
theorem Post.tup {Q : VK} {ds : List PyData} {xs : List V} {p : Addr} (h : Post K L H Q (.d (.tuple ds))) (hp : H p = none) (r : RpAll K L H xs ds) : Q (.ref p) (upd H p (.tup xs)) :=
  h _ _ (same_new hp) (.tup (.inl (.inl upd_same)) (rps_new hp r))
theorem Post.lst {Q : VK} {ds : List PyData} {xs : List V} {p : Addr} (h : Post K L H Q (.new ds)) (hp : H p = none) (r : RpAll K L H xs ds) : Q (.ref p) (upd H p (.lst xs)) :=
  h p _ xs hp (same_new hp) upd_same r
end

theorem szm {n : Nat} (h : n ≤ sizeMax) : n ≤ sizeLine := Nat.le_trans h (by decide)

section
variable {X : Cx}
/-- list + list, whatever else knows the lists -/
theorem op_catR : OpR X (binaryOp .Add) (fun x y H Q => ∃ l b xs zs, x = .ref l ∧ y = .ref b ∧ LsR X.K H l xs ∧ LsR X.K H b zs ∧ xs.length + zs.length ≤ sizeLine ∧ ∀ p, H p = none → Q (.ref p) (upd H p (.lst (xs ++ zs)))) := by
  intro pins s σ H x y v u Q I rx ry h
  obtain ⟨l, b, xs, zs, rfl, rfl, hH, hB, hz, q⟩ := h
  cases rx
  cases ry
  obtain ⟨z, its, n, r, e⟩ := hH.ok I
  obtain ⟨z2, its2, n2, r2, e2⟩ := hB.ok I
  have hl := r.length
  have hl2 := r2.length
  refine PySem.P.add_list e e2 ?_ (by rw [List.size_toArray, List.size_toArray]; omega)
  have ea : its.toArray ++ its2.toArray = (its ++ its2).toArray := by simp
  rw [ea]
  exact ⟨.ref _, _, I.lnew (t' := s.toks) (r.append r2) (by rw [List.length_append]; omega), rfl, q _ I.fresh⟩

def opB (o : Op) : Option Operator := match o with
  | .add => some .Add | .sub => some .Sub | .mul => some .Mult | .fdiv => some .FloorDiv | .md => some .Mod | .pow => some .Pow
  | _ => none
abbrev r2 (K : PySem.W.Frag) (o : Op) : R2 := fun x y H Q => rOp K o [x, y] H Q
theorem ro_add : OpR X (binaryOp .Add) (r2 X.K .add) := by
  intro pins s σ H x y v u Q I rx ry h
  obtain ⟨L, cs, r, hc, hr, q⟩ := h
  cases hc with
  | cons hx hc =>
  cases hc with
  | cons hy hc =>
  cases hc
  rename_i c d
  cases c with
  | int i =>
    cases d with
    | int j =>
      have e : some (Res.d (.int (i + j))) = some r := hr
      cases e
      exact op_add pins s σ H x y v u Q I rx ry ⟨i, j, hx.int, hy.int, q.now (.int _)⟩
    | _ => cases hr
  | str i =>
    cases d with
    | str j =>
      have e : (if i.length + j.length ≤ sizeMax then some (Res.d (.str (i ++ j))) else none) = some r := hr
      split at e
      · rename_i hz
        cases e
        exact op_add_str pins s σ H x y v u Q I rx ry ⟨i, j, hx.str, hy.str, szm hz, q.now (.str _)⟩
      · cases e
    | _ => cases hr
  | tuple xs =>
    cases d with
    | tuple ys =>
      have e : (if xs.length + ys.length ≤ sizeMax then some (Res.d (.tuple (xs ++ ys))) else none) = some r := hr
      split at e
      · rename_i hz
        cases e
        obtain ⟨a, vs, e1, ta, ra⟩ := hx.tuple
        obtain ⟨b, ws, e2, tb, rb⟩ := hy.tuple
        have l1 := ra.length
        have l2 := rb.length
        refine op_catA pins s σ H x y v u Q I rx ry ⟨a, b, vs, ws, e1, e2, ta, tb, szm (by omega), fun z => ?_, fun _ z => ?_, fun _ _ p hp => q.tup hp (ra.append rb)⟩
        · subst z
          cases ra
          exact q.now (.tup tb rb)
        · subst z
          cases rb
          rw [List.append_nil] at q
          exact q.now (.tup ta ra)
      · cases e
    | _ => cases hr
  | list xs =>
    cases d with
    | list ys =>
      have e : (if xs.length + ys.length ≤ sizeMax then some (Res.new (xs ++ ys)) else none) = some r := hr
      split at e
      · rename_i hz
        cases e
        obtain ⟨a, vs, e1, ta, ra⟩ := hx.list
        obtain ⟨b, ws, e2, tb, rb⟩ := hy.list
        have l1 := ra.length
        have l2 := rb.length
        exact op_catR pins s σ H x y v u Q I rx ry ⟨a, b, vs, ws, e1, e2, ta, tb, szm (by omega), fun p hp => q.lst hp (ra.append rb)⟩
      · cases e
    | _ => cases hr
  | none => cases hr
  | bool _ => cases hr
  | dict _ => cases hr
/-- two ints alone -/
theorem two_ints {o : Op} {f : Value → Value → Sem Value} (P : Int → Int → Res → Prop) (h1 : ∀ c d r, o.run [c, d] = some r → ∃ i j, c = .int i ∧ d = .int j ∧ P i j r)
    (h2 : ∀ (pins : List (Addr × Obj)) (s : Shared) (σ : St) (H : Hp) (v u : Value) (Q : VK) (L : List Addr) (i j : Int) (r : Res), Inv X pins σ H s → RelV (.int i) v → RelV (.int j) u → P i j r → Post X.K L H Q r → wpAny (model X.prog X.w) X.A (f v u) (EP X pins σ Q) X.xe s) :
    OpR X f (r2 X.K o) := by
  intro pins s σ H x y v u Q I rx ry h
  obtain ⟨L, cs, r, hc, hr, q⟩ := h
  cases hc with
  | cons hx hc =>
  cases hc with
  | cons hy hc =>
  cases hc
  obtain ⟨i, j, rfl, rfl, p⟩ := h1 _ _ _ hr
  have e1 := hx.int
  have e2 := hy.int
  subst e1; subst e2
  exact h2 pins s σ H v u Q L i j r I rx ry p q
theorem run2 {o : Op} {P : Int → Int → Res → Prop} (h : ∀ i j r, o.run [.int i, .int j] = some r → P i j r) (hn : ∀ c d, (∀ i j, ¬ (c = .int i ∧ d = .int j)) → o.run [c, d] = none) :
    ∀ c d r, o.run [c, d] = some r → ∃ i j, c = .int i ∧ d = .int j ∧ P i j r := fun c d r e => by
  by_cases hc : ∃ i j, c = .int i ∧ d = .int j
  · obtain ⟨i, j, rfl, rfl⟩ := hc
    exact ⟨i, j, rfl, rfl, h i j r e⟩
  · rw [hn c d fun i j z => hc ⟨i, j, z⟩] at e
    cases e
theorem ro_sub : OpR X (binaryOp .Sub) (r2 X.K .sub) :=
  two_ints (fun i j r => r = .d (.int (i - j))) (run2 (fun i j r e => (Option.some.inj e).symm) fun c d hn => by
    cases c <;> cases d <;> first | rfl | exact absurd ⟨rfl, rfl⟩ (hn _ _)) fun pins s σ H v u Q L i j r I rx ry p q => by
    subst p
    exact op_sub pins s σ H _ _ v u Q I rx ry ⟨i, j, rfl, rfl, q.now (.int _)⟩
theorem mulOk_ok {i j : Int} (h : mulOk i j = true) : CMul i j ∨ CMulW i j := by
  unfold mulOk at h
  simp only [Bool.or_eq_true, decide_eq_true_eq] at h
  rcases h with (h | h) | h
  · exact .inl (.inl h)
  · exact .inl (.inr h)
  · exact .inr h
theorem ro_mulI (pins : List (Addr × Obj)) (s : Shared) (σ : St) (H : Hp) (v u : Value) (Q : VK) (L : List Addr) (i j : Int) (I : Inv X pins σ H s) (rx : RelV (.int i) v) (ry : RelV (.int j) u)
    (hm : mulOk i j = true) (q : Post X.K L H Q (.d (.int (i * j)))) : wpAny (model X.prog X.w) X.A (binaryOp .Mult v u) (EP X pins σ Q) X.xe s := by
  rcases mulOk_ok hm with h | h
  · exact op_mul pins s σ H _ _ v u Q I rx ry ⟨i, j, rfl, rfl, h, q.now (.int _)⟩
  · exact op_mulW pins s σ H _ _ v u Q I rx ry ⟨i, j, rfl, rfl, h, q.now (.int _)⟩
theorem foldl_repG {α : Type} (a : Array α) : ∀ (k : Nat) (acc : List α), List.foldl (fun x1 x2 => x1 ++ x2) acc.toArray (List.replicate k a) = (acc ++ (List.replicate k a.toList).flatten).toArray
  | 0, acc => by simp
  | k + 1, acc => by
    have e : acc.toArray ++ a = (acc ++ a.toList).toArray := by simp
    rw [List.replicate_succ, List.foldl_cons, e, foldl_repG a k (acc ++ a.toList), List.replicate_succ, List.flatten_cons, List.append_assoc]
theorem RpAll.rep {K : PySem.W.Frag} {L : List Addr} {H : Hp} {vs : List V} {ds : List PyData} (r : RpAll K L H vs ds) : ∀ k : Nat, RpAll K L H (List.replicate k vs).flatten (List.replicate k ds).flatten
  | 0 => .nil
  | k + 1 => by
    rw [List.replicate_succ, List.flatten_cons, List.replicate_succ, List.flatten_cons]
    exact r.append (RpAll.rep r k)
theorem rep_str {pins : List (Addr × Obj)} {s : Shared} {σ : St} {H : Hp} {z : Str} {n : Int} {t u : Tok} {Q : VK} (I : Inv X pins σ H s) (h1 : n < 2 ^ 62) (h2 : -(2 ^ 62) < n) (hz : z.length * n.toNat ≤ sizeMax)
    (q : Q (.str ⟨(List.replicate n.toNat z.cps.toList).flatten.toArray⟩) H) : wpAny (model X.prog X.w) X.A (binaryOp .Mult (.str z t) (.int n u)) (EP X pins σ Q) X.xe s := by
  have hsz : z.length * n.toNat ≤ sizeLine := szm hz
  refine PySem.P.mul_str (by rw [decide_eq_false (show ¬ n < -(2 ^ 63 : Int) by omega), decide_eq_false (show ¬ n ≥ (2 ^ 63 : Int) by omega)]; rfl) (fun hn hx => ?_) (fun _ _ => decide_eq_false (Nat.not_lt.mpr hsz)) ?_
  · intro hgt
    have hz' : z.length * n.toNat ≤ 100000 := hz
    have hle : z.length ≤ 100000 := by
      have : 1 ≤ n.toNat := by omega
      exact Nat.le_trans (Nat.le_mul_of_pos_right _ this) hz'
    have e : (z.length : Int) * n = ((z.length * n.toNat : Nat) : Int) := by
      rw [Int.natCast_mul, Int.toNat_of_nonneg (by omega)]
    have h3 : ((z.length * n.toNat : Nat) : Int) ≤ ((100000 : Nat) : Int) := Int.ofNat_le.mpr hz'
    have h4 : (z.length : Int) ≤ (2 ^ 63 - 1) / n := (Int.le_ediv_iff_mul_le (by omega)).mpr (by rw [e]; omega)
    exact absurd hgt (Int.not_lt.mpr h4)
  · split
    · rename_i hn
      have e : n.toNat = 0 := by omega
      rw [e] at q
      refine ⟨by decide, ?_⟩
      exact ⟨.str _, H, I.tok _, ⟨_, rfl⟩, q⟩
    · split
      · rename_i hn hx
        refine ⟨.str z, H, I, ⟨t, rfl⟩, ?_⟩
        have e : (⟨(List.replicate n.toNat z.cps.toList).flatten.toArray⟩ : Str) = z := by
          obtain ⟨cps⟩ := z
          rw [Bool.or_eq_true] at hx
          rcases hx with hx | hx
          · have e : n = 1 := by simpa using hx
            subst e
            simp
          · have e : cps.size = 0 := eq_of_beq hx
            have e2 : cps = #[] := Array.eq_empty_of_size_eq_zero e
            subst e2
            congr 1
            have : ∀ k : Nat, (List.replicate k ([] : List _)).flatten = ([] : List Nat) := fun k => by
              induction k with
              | zero => rfl
              | succ k ih => rw [List.replicate_succ, List.flatten_cons, ih]; rfl
            simp
        rw [e] at q
        exact q
      · have e : (List.replicate n.toNat z.cps).foldl (· ++ ·) #[] = (List.replicate n.toNat z.cps.toList).flatten.toArray := by
          have := foldl_repG z.cps n.toNat []
          rw [List.nil_append] at this
          exact this
        rw [e]
        refine ⟨?_, ?_⟩
        · show (List.replicate n.toNat z.cps.toList).flatten.toArray.size ≤ _
          have : (List.replicate n.toNat z.cps.toList).flatten.length = n.toNat * z.length := by
            rw [PyProof.Rows.lm_len_rep_flat]
            simp [Str.length]
          rw [List.size_toArray, this, Nat.mul_comm]
          exact hsz
        · exact ⟨.str _, H, I.tok _, ⟨_, rfl⟩, q⟩
theorem rep_list {pins : List (Addr × Obj)} {s : Shared} {σ : St} {H : Hp} {l : Addr} {xs : List V} {k : Int} {t : Tok} {Q : VK} (I : Inv X pins σ H s) (hH : LsR X.K H l xs) (h1 : -(2 ^ 63) ≤ k) (h2 : k < 2 ^ 63) (hz : xs.length * k.toNat ≤ sizeLine)
    (q : ∀ p, H p = none → Q (.ref p) (upd H p (.lst (List.replicate k.toNat xs).flatten))) : wpAny (model X.prog X.w) X.A (binaryOp .Mult (.ref l) (.int k t)) (EP X pins σ Q) X.xe s := by
  obtain ⟨z, its, n, r, e⟩ := hH.ok I
  have hl := r.length
  have hlen : its.toArray.size * k.toNat ≤ sizeLine := by rw [List.size_toArray, ← hl]; exact hz
  have hcap : ¬ its.toArray.size * k.toNat > (2 ^ 63 - 1) / 8 := by
    have : (sizeLine : Nat) ≤ (2 ^ 63 - 1) / 8 := by decide
    omega
  have hfit : ¬ (!Builtin.List.listFitsIndex k) = true := by
    rw [fitsIndex_both h1 h2]
    exact Bool.false_ne_true
  have hlong : ¬ Builtin.List.listTooLong (its.toArray.size * k.toNat) = true := by
    rw [notLongL hlen]
    exact Bool.false_ne_true
  have hnew : List.foldl (fun x1 x2 => x1 ++ x2) #[] (List.replicate (if its.toArray.isEmpty = true then 0 else k.toNat) its.toArray) = (List.replicate k.toNat its).flatten.toArray := by
    have f0 : ∀ m : Nat, List.foldl (fun x1 x2 => x1 ++ x2) #[] (List.replicate m its.toArray) = (List.replicate m its).flatten.toArray := fun m => by
      have := foldl_rep its m []
      rw [List.nil_append] at this
      exact this
    rw [f0]
    cases its with
    | nil => simp
    | cons a r' => rw [if_neg (by simp)]
  refine wpAny_binaryOp_repeat_ref (T := "list") (U := "int") (by decide) ⟨_, e, rfl⟩ (fun s' => typeIs_int s' k t) noFill_list_mul F.fills_int_mul F.slot_int_rmul repeat_list F.slot_int_index.lookup
    (call_meets F.slot_int_rmul (typeIs_int s k t) F.entry_int_rmul (F.args_int_rmul_2 _ _) (int___rmul___int_list k t l its.toArray n)
      ⟨e, rfl, ⟨_, e, rfl⟩, call_meets F.slot_list_mul ⟨_, e, rfl⟩ F.entry_list_mul (F.args_list_mul_2 _ _) (AutoListH.list___mul___list_int_3 l its.toArray n k t hfit hcap hlong) ⟨e, ?_⟩⟩)
  rw [hnew]
  exact ⟨.ref _, _, I.lnew (t' := s.toks) (r.rep k.toNat) (by rw [PyProof.Rows.lm_len_rep_flat, Nat.mul_comm]; exact hz), rfl, q _ I.fresh⟩
theorem ro_mul : OpR X (binaryOp .Mult) (r2 X.K .mul) := by
  intro pins s σ H x y v u Q I rx ry h
  obtain ⟨L, cs, r, hc, hr, q⟩ := h
  cases hc with
  | cons hx hc =>
  cases hc with
  | cons hy hc =>
  cases hc
  rename_i c d
  cases d with
  | int j =>
    have ey := hy.int
    subst ey
    cases c with
    | int i =>
      have e' : (if mulOk i j = true then some (Res.d (.int (i * j))) else none) = some r := hr
      split at e'
      · rename_i hm
        cases e'
        have ex := hx.int
        subst ex
        exact ro_mulI pins s σ H v u Q L i j I rx ry hm q
      · cases e'
    | str z =>
      have e' : (if j < 2 ^ 62 ∧ -(2 ^ 62) < j ∧ z.length * j.toNat ≤ sizeMax then some (Res.d (.str ⟨(List.replicate j.toNat z.cps.toList).flatten.toArray⟩)) else none) = some r := hr
      split at e'
      · rename_i hm
        cases e'
        have ex := hx.str
        subst ex
        obtain ⟨t, rfl⟩ := rx
        obtain ⟨t', rfl⟩ := ry
        exact rep_str I hm.1 hm.2.1 hm.2.2 (q.now (.str _))
      · cases e'
    | list ds =>
      have e' : (if j < 2 ^ 62 ∧ -(2 ^ 62) < j ∧ ds.length * j.toNat ≤ sizeMax then some (Res.new (List.replicate j.toNat ds).flatten) else none) = some r := hr
      split at e'
      · rename_i hm
        cases e'
        obtain ⟨a, xs, rfl, hl, ra⟩ := hx.list
        cases rx
        obtain ⟨t', rfl⟩ := ry
        exact rep_list I hl (by omega) (by omega) (by rw [ra.length]; exact szm hm.2.2) fun p hp => q.lst hp (ra.rep _)
      · cases e'
    | tuple ds =>
      have e' : (if 2 ≤ j ∧ j ≤ 1000 ∧ 0 < ds.length ∧ ds.length ≤ 100 then some (Res.d (.tuple (List.replicate j.toNat ds).flatten)) else none) = some r := hr
      split at e'
      · rename_i hm
        cases e'
        obtain ⟨a, xs, rfl, hl, ra⟩ := hx.tuple
        exact op_repT pins s σ H _ _ v u Q I rx ry ⟨a, j, xs, rfl, rfl, hl, fun z => by
          subst z
          have := ra.length
          simp at this
          omega, hm.1, hm.2.1, by rw [ra.length]; omega, fun p hp => q.tup hp (ra.rep _)⟩
      · cases e'
    | _ => cases hr
  | _ => cases c <;> cases hr
theorem ro_fdiv : OpR X (binaryOp .FloorDiv) (r2 X.K .fdiv) :=
  two_ints (fun i j r => (0 < j ∧ j.natAbs.log2 < 9000) ∧ r = .d (.int (i / j))) (run2 (fun i j r e => by
    have e' : (if 0 < j ∧ j.natAbs.log2 < 9000 then some (Res.d (.int (i / j))) else none) = some r := e
    split at e'
    · rename_i h
      exact ⟨h, (Option.some.inj e').symm⟩
    · cases e') fun c d hn => by
    cases c <;> cases d <;> first | rfl | exact absurd ⟨rfl, rfl⟩ (hn _ _)) fun pins s σ H v u Q L i j r I rx ry p q => by
    obtain ⟨hm, p⟩ := p
    subst p
    exact op_fdivW pins s σ H _ _ v u Q I rx ry ⟨i, j, rfl, rfl, hm, q.now (.int _)⟩
theorem ro_md : OpR X (binaryOp .Mod) (r2 X.K .md) :=
  two_ints (fun i j r => 0 < j ∧ r = .d (.int (i % j))) (run2 (fun i j r e => by
    have e' : (if 0 < j then some (Res.d (.int (i % j))) else none) = some r := e
    split at e'
    · rename_i h
      exact ⟨h, (Option.some.inj e').symm⟩
    · cases e') fun c d hn => by
    cases c <;> cases d <;> first | rfl | exact absurd ⟨rfl, rfl⟩ (hn _ _)) fun pins s σ H v u Q L i j r I rx ry p q => by
    obtain ⟨hm, p⟩ := p
    subst p
    exact op_mod pins s σ H _ _ v u Q I rx ry ⟨i, j, rfl, rfl, hm, q.now (.int _)⟩
theorem ro_pow : OpR X (binaryOp .Pow) (r2 X.K .pow) :=
  two_ints (fun i j r => (0 ≤ j ∧ j ≤ 1000000 ∧ i.natAbs < 2 ^ 64) ∧ r = .d (.int (i ^ j.toNat))) (run2 (fun i j r e => by
    have e' : (if 0 ≤ j ∧ j ≤ 1000000 ∧ i.natAbs < 2 ^ 64 then some (Res.d (.int (i ^ j.toNat))) else none) = some r := e
    split at e'
    · rename_i h
      exact ⟨h, (Option.some.inj e').symm⟩
    · cases e') fun c d hn => by
    cases c <;> cases d <;> first | rfl | exact absurd ⟨rfl, rfl⟩ (hn _ _)) fun pins s σ H v u Q L i j r I rx ry p q => by
    obtain ⟨hm, p⟩ := p
    subst p
    exact op_pow pins s σ H _ _ v u Q I rx ry ⟨i, j, rfl, rfl, hm, q.now (.int _)⟩
theorem cmp_run {o : Op} {p : Int → Int → Bool} (ho : ∀ cs, o.run cs = cmpInt p cs) : ∀ c d r, o.run [c, d] = some r → ∃ i j, c = .int i ∧ d = .int j ∧ r = .d (.bool (p i j)) :=
  run2 (fun i j r e => by rw [ho] at e; exact (Option.some.inj e).symm) fun c d hn => by
    rw [ho]
    cases c <;> cases d <;> first | rfl | exact absurd ⟨rfl, rfl⟩ (hn _ _)
theorem ro_lt : OpR X (compareOp .Lt) (r2 X.K .lt) := two_ints _ (cmp_run fun _ => rfl) fun pins s σ H v u Q L i j r I rx ry p q => by
  subst p
  exact op_lt pins s σ H _ _ v u Q I rx ry ⟨i, j, rfl, rfl, q.now (.bl _)⟩
theorem ro_le : OpR X (compareOp .LtE) (r2 X.K .le) := two_ints _ (cmp_run fun _ => rfl) fun pins s σ H v u Q L i j r I rx ry p q => by
  subst p
  exact op_le pins s σ H _ _ v u Q I rx ry ⟨i, j, rfl, rfl, q.now (.bl _)⟩
theorem ro_gt : OpR X (compareOp .Gt) (r2 X.K .gt) := two_ints _ (cmp_run fun _ => rfl) fun pins s σ H v u Q L i j r I rx ry p q => by
  subst p
  exact op_gt pins s σ H _ _ v u Q I rx ry ⟨i, j, rfl, rfl, q.now (.bl _)⟩
theorem ro_ge : OpR X (compareOp .GtE) (r2 X.K .ge) := two_ints _ (cmp_run fun _ => rfl) fun pins s σ H v u Q L i j r I rx ry p q => by
  subst p
  exact op_ge pins s σ H _ _ v u Q I rx ry ⟨i, j, rfl, rfl, q.now (.bl _)⟩
theorem ro_eq (hu : X.A.units + 64 < cLine) : OpR X (compareOp .Eq) (r2 X.K .eq) := by
  intro pins s σ H x y v u Q I rx ry h
  obtain ⟨L, cs, r, hc, hr, q⟩ := h
  cases hc with
  | cons hx hc =>
  cases hc with
  | cons hy hc =>
  cases hc
  rename_i c d
  by_cases hst : ∃ a b, c = .str a ∧ d = .str b
  · obtain ⟨i, j, rfl, rfl⟩ := hst
    have e : some (Res.d (.bool (decide (i = j)))) = some r := hr
    cases e
    have ex := hx.str
    have ey := hy.str
    subst ex
    subst ey
    refine op_eq pins s σ H _ _ v u Q I rx ry ⟨rfl, ?_⟩
    have ed : decide (V.str i = V.str j) = decide (i = j) := by
      by_cases h : i = j
      · subst h; simp
      · have : ¬ V.str i = V.str j := fun z => h (V.str.inj z)
        simp [h, this]
    rw [ed]
    exact q.now (.bl _)
  have hr0 : Op.eq.run [c, d] = (if (SeqAt.shaped c && SeqAt.shaped d) = true then some (Res.d (.bool (PyData.eqv c d))) else none) := by
    cases c <;> cases d <;> first | rfl | exact absurd ⟨_, _, rfl, rfl⟩ hst
  have e : (if (SeqAt.shaped c && SeqAt.shaped d) = true then some (Res.d (.bool (PyData.eqv c d))) else none) = some r := hr0.symm.trans hr
  split at e
  · rename_i hs
    rw [Bool.and_eq_true] at hs
    cases e
    exact op_eqD hu pins s σ H x y v u Q I rx ry ⟨c, d, hx.dp, hy.dp, hs.1, hs.2, q.now (.bl _)⟩
  · cases e
theorem ro_ne (hu : X.A.units + 64 < cLine) : OpR X (compareOp .NotEq) (r2 X.K .ne) := by
  intro pins s σ H x y v u Q I rx ry h
  obtain ⟨L, cs, r, hc, hr, q⟩ := h
  cases hc with
  | cons hx hc =>
  cases hc with
  | cons hy hc =>
  cases hc
  rename_i c d
  by_cases hst : ∃ a b, c = .str a ∧ d = .str b
  · obtain ⟨i, j, rfl, rfl⟩ := hst
    have e : some (Res.d (.bool (!decide (i = j)))) = some r := hr
    cases e
    have ex := hx.str
    have ey := hy.str
    subst ex
    subst ey
    refine op_ne pins s σ H _ _ v u Q I rx ry ⟨rfl, ?_⟩
    have ed : decide (V.str i = V.str j) = decide (i = j) := by
      by_cases h : i = j
      · subst h; simp
      · have : ¬ V.str i = V.str j := fun z => h (V.str.inj z)
        simp [h, this]
    rw [ed]
    exact q.now (.bl _)
  have hr0 : Op.ne.run [c, d] = (if (SeqAt.shaped c && SeqAt.shaped d) = true then some (Res.d (.bool (!PyData.eqv c d))) else none) := by
    cases c <;> cases d <;> first | rfl | exact absurd ⟨_, _, rfl, rfl⟩ hst
  have e : (if (SeqAt.shaped c && SeqAt.shaped d) = true then some (Res.d (.bool (!PyData.eqv c d))) else none) = some r := hr0.symm.trans hr
  split at e
  · rename_i hs
    rw [Bool.and_eq_true] at hs
    cases e
    exact op_neD hu pins s σ H x y v u Q I rx ry ⟨c, d, hx.dp, hy.dp, hs.1, hs.2, q.now (.bl _)⟩
  · cases e
end
end Cz
set_option Elab.async false
set_option linter.all false
set_option maxRecDepth 100000
set_option maxHeartbeats 4000000
namespace Cz
open PySem PySem.Spec L2
section
variable {X : Cx}
theorem ro_is : OpR X (compareOp .Is) (r2 X.K .is_) := by
  intro pins s σ H x y v u Q I rx ry h
  obtain ⟨L, cs, r, hc, hr, q⟩ := h
  cases hc with
  | cons hx hc =>
  cases hc with
  | cons hy hc =>
  cases hc
  rename_i c d
  cases d with
  | none =>
    have ey := hy.none
    subst ey
    have fin : ∀ b : Bool, r = .d (.bool b) → decide (x = .non) = b → wpAny (model X.prog X.w) X.A (compareOp .Is v u) (EP X pins σ Q) X.xe s := fun b e1 e2 => by
      subst e1
      exact op_isN pins s σ H x .non v u Q I rx ry ⟨rfl, by rw [e2]; exact q.now (.bl _)⟩
    cases c with
    | none => exact fin true (Option.some.inj hr).symm (by rw [hx.none]; rfl)
    | bool b => exact fin false (Option.some.inj hr).symm (by rw [hx.bool]; rfl)
    | int b => exact fin false (Option.some.inj hr).symm (by rw [hx.int]; rfl)
    | str b => exact fin false (Option.some.inj hr).symm (by rw [hx.str]; rfl)
    | list b =>
      obtain ⟨a, xs, e, _⟩ := hx.list
      exact fin false (Option.some.inj hr).symm (by rw [e]; rfl)
    | tuple b =>
      obtain ⟨a, xs, e, _⟩ := hx.tuple
      exact fin false (Option.some.inj hr).symm (by rw [e]; rfl)
    | dict b => exact hx.dict.elim
  | bool j =>
    cases c with
    | bool i =>
      have e : some (Res.d (.bool (decide (i = j)))) = some r := hr
      cases e
      exact op_isBl pins s σ H x y v u Q I rx ry ⟨i, j, hx.bool, hy.bool, q.now (.bl _)⟩
    | _ => cases hr
  | int _ => cases c <;> cases hr
  | str _ => cases c <;> cases hr
  | list _ => cases c <;> cases hr
  | tuple _ => cases c <;> cases hr
  | dict _ => cases c <;> cases hr
theorem ro_isnot : OpR X (compareOp .IsNot) (r2 X.K .isnot) := by
  intro pins s σ H x y v u Q I rx ry h
  obtain ⟨L, cs, r, hc, hr, q⟩ := h
  cases hc with
  | cons hx hc =>
  cases hc with
  | cons hy hc =>
  cases hc
  rename_i c d
  cases d with
  | none =>
    have ey := hy.none
    subst ey
    have fin : ∀ b : Bool, r = .d (.bool b) → (!decide (x = .non)) = b → wpAny (model X.prog X.w) X.A (compareOp .IsNot v u) (EP X pins σ Q) X.xe s := fun b e1 e2 => by
      subst e1
      exact op_notN pins s σ H x .non v u Q I rx ry ⟨rfl, by rw [e2]; exact q.now (.bl _)⟩
    cases c with
    | none => exact fin false (Option.some.inj hr).symm (by rw [hx.none]; rfl)
    | bool b => exact fin true (Option.some.inj hr).symm (by rw [hx.bool]; rfl)
    | int b => exact fin true (Option.some.inj hr).symm (by rw [hx.int]; rfl)
    | str b => exact fin true (Option.some.inj hr).symm (by rw [hx.str]; rfl)
    | list b =>
      obtain ⟨a, xs, e, _⟩ := hx.list
      exact fin true (Option.some.inj hr).symm (by rw [e]; rfl)
    | tuple b =>
      obtain ⟨a, xs, e, _⟩ := hx.tuple
      exact fin true (Option.some.inj hr).symm (by rw [e]; rfl)
    | dict b => exact hx.dict.elim
  | bool j =>
    cases c with
    | bool i =>
      have e : some (Res.d (.bool (!decide (i = j)))) = some r := hr
      cases e
      exact op_notBl pins s σ H x y v u Q I rx ry ⟨i, j, hx.bool, hy.bool, q.now (.bl _)⟩
    | _ => cases hr
  | int _ => cases c <;> cases hr
  | str _ => cases c <;> cases hr
  | list _ => cases c <;> cases hr
  | tuple _ => cases c <;> cases hr
  | dict _ => cases c <;> cases hr
theorem rp_at {K : PySem.W.Frag} {L : List Addr} {H : Hp} {vs : List V} {ds : List PyData} {i : Int} {d : PyData} (r : RpAll K L H vs ds) (h : atA ds i = some d) : ∃ v, atI vs i = some v ∧ Rp K L H v d := by
  unfold atA at h
  obtain ⟨j, h1, h2⟩ := Option.bind_eq_some_iff.mp h
  obtain ⟨v, h3, h4⟩ := r.get h2
  refine ⟨v, ?_, h4⟩
  unfold atI
  rw [r.length, h1]
  exact h3
theorem ro_ix : IxR X (r2 X.K .ix) := by
  intro value sl pins s σ H x y v u Q I rx ry h hs
  obtain ⟨L, cs, r, hc, hr, q⟩ := h
  cases hc with
  | cons hx hc =>
  cases hc with
  | cons hy hc =>
  cases hc
  rename_i c d
  cases d with
  | int i =>
    have ey := hy.int
    cases c with
    | list ds =>
      obtain ⟨a, xs, e, hl, ra⟩ := hx.list
      have e2 : (atA ds i).map Res.d = some r := hr
      obtain ⟨z, h1, h2⟩ := Option.map_eq_some_iff.mp e2
      subst h2
      obtain ⟨w, h3, h4⟩ := rp_at ra h1
      exact ix_list value sl pins s σ H x y v u Q I rx ry ⟨a, xs, i, w, e, ey, hl.sq, h3, q.now h4⟩ hs
    | tuple ds =>
      obtain ⟨a, xs, e, hl, ra⟩ := hx.tuple
      have e2 : (atA ds i).map Res.d = some r := hr
      obtain ⟨z, h1, h2⟩ := Option.map_eq_some_iff.mp e2
      subst h2
      obtain ⟨w, h3, h4⟩ := rp_at ra h1
      exact ix_tup value sl pins s σ H x y v u Q I rx ry ⟨a, xs, i, w, e, ey, hl, h3, q.now h4⟩ hs
    | str z =>
      have e2 : (if z.length ≤ sizeMax then (atA z.cps.toList i).map (fun c => Res.d (.str ⟨#[c]⟩)) else none) = some r := hr
      split at e2
      · rename_i hz
        obtain ⟨c, h1, h2⟩ := Option.map_eq_some_iff.mp e2
        subst h2
        exact ix_str value sl pins s σ H x y v u Q I rx ry ⟨z, i, c, hx.str, ey, szm hz, h1, q.now (.str _)⟩ hs
      · cases e2
    | _ => cases hr
  | _ => cases c <;> cases hr
/-- slices by values -/
theorem so_slice : SlR X (fun x lo hi H Q => ∃ L c r, RC X.K L H x c ∧ slice c lo hi = some r ∧ Post X.K L H Q r) := by
  intro pins s σ H x v vl vu lo hi sl Q I rx hs pl pu h
  obtain ⟨L, c, r, hx, hr, q⟩ := h
  cases c with
  | list ds =>
    have e : some (Res.new (cutA ds lo hi)) = some r := hr
    cases e
    obtain ⟨a, xs, e, hl, ra⟩ := hx.list
    refine sl_list pins s σ H x v vl vu lo hi sl Q I rx hs pl pu ⟨a, xs, e, hl.sq, fun p hp => q.lst hp ?_⟩
    unfold cutV cutA
    rw [ra.length]
    exact (ra.drop _).take _
  | tuple ds =>
    have e : some (Res.d (.tuple (cutA ds lo hi))) = some r := hr
    cases e
    obtain ⟨a, xs, e, hl, ra⟩ := hx.tuple
    refine sl_tupA pins s σ H x v vl vu lo hi sl Q I rx hs pl pu ⟨a, xs, e, hl, fun hw => ?_, fun _ p hp => q.tup hp ?_⟩
    · have e3 : cutA ds lo hi = ds := by
        unfold cutA
        rw [ra.length] at hw
        rw [hw.1, hw.2]
        simp
      rw [e3] at q
      exact q.now (.tup hl ra)
    · unfold cutV cutA
      rw [ra.length]
      exact (ra.drop _).take _
  | str z =>
    have e : (if z.length ≤ sizeMax then some (Res.d (.str ⟨(cutA z.cps.toList lo hi).toArray⟩)) else none) = some r := hr
    split at e
    · rename_i hz
      cases e
      refine sl_str pins s σ H x v vl vu lo hi sl Q I rx hs pl pu ⟨z, hx.str, szm hz, ?_⟩
      have e4 : cutS z lo hi = ⟨(cutA z.cps.toList lo hi).toArray⟩ := by
        unfold cutS cutA
        have hl : z.cps.toList.length = z.length := by simp [Str.length]
        rw [hl]
      rw [e4]
      exact q.now (.str _)
    · cases e
  | _ => cases hr

/-! ### calls -/
abbrev r1 (K : PySem.W.Frag) (o : Op) : List V → Hp → VK → Prop := fun vs H Q => rOp K o vs H Q
theorem run1 {o : Op} {cs : List PyData} {r : Res} (h : ∀ c d t, o.run (c :: d :: t) = none) (h0 : o.run [] = none) (e : o.run cs = some r) : ∃ c, cs = [c] := by
  match cs, e with
  | [], e => rw [h0] at e; cases e
  | [c], _ => exact ⟨c, rfl⟩
  | c :: d :: t, e => rw [h] at e; cases e
theorem ro_len : CallR X (.builtin "len") (r1 X.K .len) := by
  intro pins s σ H vs us Q I rs h
  obtain ⟨L, cs, r, hc, hr, q⟩ := h
  obtain ⟨c, rfl⟩ := run1 (o := .len) (fun c d t => by cases c <;> rfl) rfl hr
  obtain ⟨v, rfl, hx⟩ := hc.one
  cases c with
  | list ds =>
    have e : some (Res.d (.int ds.length)) = some r := hr
    cases e
    obtain ⟨a, xs, e, hl, ra⟩ := hx.list
    subst e
    exact call_len_seq pins s σ H _ us Q I rs ⟨a, xs, rfl, .inl hl.sq, by rw [ra.length]; exact q.now (.int _)⟩
  | tuple ds =>
    have e : some (Res.d (.int ds.length)) = some r := hr
    cases e
    obtain ⟨a, xs, e, hl, ra⟩ := hx.tuple
    subst e
    exact call_len_seq pins s σ H _ us Q I rs ⟨a, xs, rfl, .inr hl, by rw [ra.length]; exact q.now (.int _)⟩
  | str z =>
    have e : (if z.length ≤ sizeMax then some (Res.d (.int z.length)) else none) = some r := hr
    split at e
    · rename_i hz
      cases e
      have e := hx.str
      subst e
      exact call_len_str pins s σ H _ us Q I rs ⟨z, rfl, szm hz, q.now (.int _)⟩
    · cases e
  | _ => cases hr
theorem ro_abs : CallR X (.builtin "abs") (r1 X.K .abs) := by
  intro pins s σ H vs us Q I rs h
  obtain ⟨L, cs, r, hc, hr, q⟩ := h
  obtain ⟨c, rfl⟩ := run1 (o := .abs) (fun c d t => by cases c <;> rfl) rfl hr
  obtain ⟨v, rfl, hx⟩ := hc.one
  cases c with
  | int i =>
    have e : some (Res.d (.int (if i < 0 then -i else i))) = some r := hr
    cases e
    have e := hx.int
    subst e
    exact call_abs pins s σ H _ us Q I rs ⟨i, rfl, q.now (.int _)⟩
  | _ => cases hr
theorem ro_int1 : CallR X (.type "int") (r1 X.K .int1) := by
  intro pins s σ H vs us Q I rs h
  obtain ⟨L, cs, r, hc, hr, q⟩ := h
  obtain ⟨c, rfl⟩ := run1 (o := .int1) (fun c d t => by cases c <;> rfl) rfl hr
  obtain ⟨v, rfl, hx⟩ := hc.one
  cases c with
  | int i =>
    have e : some (Res.d (.int i)) = some r := hr
    cases e
    have e := hx.int
    subst e
    exact call_int1 pins s σ H _ us Q I rs (.inl ⟨i, rfl, q.now (.int _)⟩)
  | bool i =>
    have e : some (Res.d (.int (if i then 1 else 0))) = some r := hr
    cases e
    have e := hx.bool
    subst e
    exact call_int1 pins s σ H _ us Q I rs (.inr ⟨i, rfl, q.now (.int _)⟩)
  | _ => cases hr
theorem pair_of {o : Op} {cs : List PyData} {r : Res} (h : ∀ c d e t, o.run (c :: d :: e :: t) = none) (h0 : o.run [] = none) (h1 : ∀ c, o.run [c] = none) (hn : ∀ c d, (∀ i j, ¬ (c = .int i ∧ d = .int j)) → o.run [c, d] = none) (e : o.run cs = some r) :
    ∃ i j, cs = [.int i, .int j] := by
  match cs, e with
  | [], e => rw [h0] at e; cases e
  | [c], e => rw [h1] at e; cases e
  | c :: d :: f :: t, e => rw [h] at e; cases e
  | [c, d], e =>
    by_cases hc : ∃ i j, c = .int i ∧ d = .int j
    · obtain ⟨i, j, rfl, rfl⟩ := hc
      exact ⟨i, j, rfl⟩
    · rw [hn c d fun i j z => hc ⟨i, j, z⟩] at e
      cases e
theorem ro_min2 (hc : X.calm = true) : CallR X (.builtin "min") (r1 X.K .min2) := by
  intro pins s σ H vs us Q I rs h
  obtain ⟨L, cs, r, hcs, hr, q⟩ := h
  obtain ⟨i, j, rfl⟩ := pair_of (o := .min2) (fun c d e t => by cases c <;> cases d <;> rfl) rfl (fun c => by cases c <;> rfl) (fun c d hn => by
    cases c <;> cases d <;> first | rfl | exact absurd ⟨rfl, rfl⟩ (hn _ _)) hr
  obtain ⟨v, w, rfl, hx, hy⟩ := hcs.two
  have e1 := hx.int
  have e2 := hy.int
  subst e1; subst e2
  have e : some (Res.d (.int (if j < i then j else i))) = some r := hr
  cases e
  exact call_min2 hc pins s σ H _ us Q I rs ⟨i, j, rfl, q.now (.int _)⟩
theorem ro_max2 (hc : X.calm = true) : CallR X (.builtin "max") (r1 X.K .max2) := by
  intro pins s σ H vs us Q I rs h
  obtain ⟨L, cs, r, hcs, hr, q⟩ := h
  obtain ⟨i, j, rfl⟩ := pair_of (o := .max2) (fun c d e t => by cases c <;> cases d <;> rfl) rfl (fun c => by cases c <;> rfl) (fun c d hn => by
    cases c <;> cases d <;> first | rfl | exact absurd ⟨rfl, rfl⟩ (hn _ _)) hr
  obtain ⟨v, w, rfl, hx, hy⟩ := hcs.two
  have e1 := hx.int
  have e2 := hy.int
  subst e1; subst e2
  have e : some (Res.d (.int (if j > i then j else i))) = some r := hr
  cases e
  exact call_max2 hc pins s σ H _ us Q I rs ⟨i, j, rfl, q.now (.int _)⟩
theorem ro_gcd : CallR X (.builtin "math.gcd") (r1 X.K .gcd) := by
  intro pins s σ H vs us Q I rs h
  obtain ⟨L, cs, r, hcs, hr, q⟩ := h
  obtain ⟨i, j, rfl⟩ := pair_of (o := .gcd) (fun c d e t => by cases c <;> cases d <;> rfl) rfl (fun c => by cases c <;> rfl) (fun c d hn => by
    cases c <;> cases d <;> first | rfl | exact absurd ⟨rfl, rfl⟩ (hn _ _)) hr
  obtain ⟨v, w, rfl, hx, hy⟩ := hcs.two
  have e1 := hx.int
  have e2 := hy.int
  subst e1; subst e2
  have e : some (Res.d (.int ((Nat.gcd i.natAbs j.natAbs : Nat) : Int))) = some r := hr
  cases e
  exact cr_gcd pins s σ H _ us Q I rs ⟨i, j, rfl, q.now (.int _)⟩
theorem ro_all (hc : X.calm = true) : CallR X (.builtin "all") (r1 X.K .all) := by
  intro pins s σ H vs us Q I rs h
  obtain ⟨L, cs, r, hcs, hr, q⟩ := h
  obtain ⟨c, rfl⟩ := run1 (o := .all) (fun c d t => by cases c <;> rfl) rfl hr
  obtain ⟨v, rfl, hx⟩ := hcs.one
  cases c with
  | list ds =>
    have e : (bools? ds).map (fun bs => Res.d (.bool (bs.all id))) = some r := hr
    obtain ⟨bs, h1, h2⟩ := Option.map_eq_some_iff.mp e
    subst h2
    obtain ⟨a, xs, e, hl, ra⟩ := hx.list
    subst e
    have eb := ra.bools h1
    subst eb
    exact cr_all hc pins s σ H _ us Q I rs ⟨a, bs, rfl, hl.sq, q.now (.bl _)⟩
  | _ => cases hr
theorem ro_any (hc : X.calm = true) : CallR X (.builtin "any") (r1 X.K .any) := by
  intro pins s σ H vs us Q I rs h
  obtain ⟨L, cs, r, hcs, hr, q⟩ := h
  obtain ⟨c, rfl⟩ := run1 (o := .any) (fun c d t => by cases c <;> rfl) rfl hr
  obtain ⟨v, rfl, hx⟩ := hcs.one
  cases c with
  | list ds =>
    have e : (bools? ds).map (fun bs => Res.d (.bool (bs.any id))) = some r := hr
    obtain ⟨bs, h1, h2⟩ := Option.map_eq_some_iff.mp e
    subst h2
    obtain ⟨a, xs, e, hl, ra⟩ := hx.list
    subst e
    have eb := ra.bools h1
    subst eb
    exact cr_any hc pins s σ H _ us Q I rs ⟨a, bs, rfl, hl.sq, q.now (.bl _)⟩
  | _ => cases hr
theorem ro_tupleOf : CallR X (.type "tuple") (r1 X.K .tupleOf) := by
  intro pins s σ H vs us Q I rs h
  obtain ⟨L, cs, r, hcs, hr, q⟩ := h
  obtain ⟨c, rfl⟩ := run1 (o := .tupleOf) (fun c d t => by cases c <;> rfl) rfl hr
  obtain ⟨v, rfl, hx⟩ := hcs.one
  cases c with
  | list ds =>
    have e : some (Res.d (.tuple ds)) = some r := hr
    cases e
    obtain ⟨a, xs, e, hl, ra⟩ := hx.list
    subst e
    exact call_tuple_of pins s σ H _ us Q I rs ⟨a, xs, rfl, .inl ⟨hl.sq, fun l h0 => q.tup h0 ra⟩⟩
  | tuple ds =>
    have e : some (Res.d (.tuple ds)) = some r := hr
    cases e
    obtain ⟨a, xs, e, hl, ra⟩ := hx.tuple
    subst e
    exact call_tuple_of pins s σ H _ us Q I rs ⟨a, xs, rfl, .inr ⟨hl, q.now (.tup hl ra)⟩⟩
  | _ => cases hr
theorem ro_listOf : CallR X (.type "list") (r1 X.K .listOf) := by
  intro pins s σ H vs us Q I rs h
  obtain ⟨L, cs, r, hcs, hr, q⟩ := h
  obtain ⟨c, rfl⟩ := run1 (o := .listOf) (fun c d t => by cases c <;> rfl) rfl hr
  obtain ⟨v, rfl, hx⟩ := hcs.one
  cases c with
  | list ds =>
    have e : some (Res.new ds) = some r := hr
    cases e
    obtain ⟨a, xs, e, hl, ra⟩ := hx.list
    subst e
    exact call_list_of pins s σ H _ us Q I rs ⟨a, xs, rfl, .inl hl.sq, fun l h0 => q.lst h0 ra⟩
  | tuple ds =>
    have e : some (Res.new ds) = some r := hr
    cases e
    obtain ⟨a, xs, e, hl, ra⟩ := hx.tuple
    subst e
    exact call_list_of pins s σ H _ us Q I rs ⟨a, xs, rfl, .inr hl, fun l h0 => q.lst h0 ra⟩
  | _ => cases hr
theorem ro_join : MtR X "str.join" (fun x vs H Q => rOp X.K .join (x :: vs) H Q) := by
  intro pins s σ H x xs v us Q I rx rs h
  obtain ⟨L, cs, r, hcs, hr, q⟩ := h
  have sh : ∃ a ds, cs = [.str a, .list ds] := by
    match cs, hr with
    | [.str a, .list ds], _ => exact ⟨a, ds, rfl⟩
  obtain ⟨a, ds, rfl⟩ := sh
  obtain ⟨v1, v2, e1, hx, hy⟩ := hcs.two
  injection e1 with e1 e2
  have ex := hx.str
  obtain ⟨p, ys, ey, hl, ra⟩ := hy.list
  have e : (strs? ds).bind (fun ys => if (ys.map (·.length)).sum + ys.length * a.length ≤ 16777216 then some (Res.d (.str (Txt.join a ys))) else none) = some r := hr
  obtain ⟨zs, h1, h2⟩ := Option.bind_eq_some_iff.mp e
  split at h2
  · rename_i hz
    cases h2
    have es := ra.strs h1
    subst es
    exact mt_join pins s σ H x xs v us Q I rx rs ⟨a, p, zs, e1.trans ex, by rw [e2, ey], .inl hl.sq, hz, q.now (.str _)⟩
  · cases h2
theorem ro_index : MtR X "str.index" (fun x vs H Q => rOp X.K .index (x :: vs) H Q) := by
  intro pins s σ H x xs v us Q I rx rs h
  obtain ⟨L, cs, r, hcs, hr, q⟩ := h
  have sh : ∃ a b, cs = [.str a, .str b] := by
    match cs, hr with
    | [.str a, .str b], _ => exact ⟨a, b, rfl⟩
  obtain ⟨a, b, rfl⟩ := sh
  obtain ⟨v1, v2, e1, hx, hy⟩ := hcs.two
  injection e1 with e1 e2
  have ex := hx.str
  have ey := hy.str
  have e : (match Builtin.Str.occurrences a b 0 a.length 1 with
    | [] => none
    | i :: _ => some (Res.d (.int ((i : Nat) : Int)))) = some r := hr
  cases ho : Builtin.Str.occurrences a b 0 a.length 1 with
  | nil => rw [ho] at e; cases e
  | cons i t =>
    rw [ho] at e
    have e' : some (Res.d (.int ((i : Nat) : Int))) = some r := e
    cases e'
    exact mt_sindex pins s σ H x xs v us Q I rx rs ⟨a, b, i, t, e1.trans ex, by rw [e2, ey], ho, q.now (.int _)⟩
/-- the name of a value's type -/
def tyN : PyData → String
  | .none => "NoneType" | .bool _ => "bool" | .int _ => "int" | .str _ => "str" | .list _ => "list" | .tuple _ => "tuple" | .dict _ => "dict"
theorem RC.ty {K : PySem.W.Frag} {L : List Addr} {H : Hp} {v : V} {c : PyData} (h : RC K L H v c) : TyX K H v (.type (tyN c)) := by
  cases c with
  | none => rw [h.none]; exact .base .non
  | bool b => rw [h.bool]; exact .base (.bl _)
  | int b => rw [h.int]; exact .base (.int _)
  | str b => rw [h.str]; exact .base (.str _)
  | list b =>
    obtain ⟨a, xs, e, hl, _⟩ := h.list
    subst e
    rcases hl with (hl | ⟨o, hl⟩) | ⟨o, n, hl, _⟩
    · exact .base (.lst hl)
    · exact .base (.frz hl)
    · exact .kList hl rfl
  | tuple b =>
    obtain ⟨a, xs, e, hl, _⟩ := h.tuple
    subst e
    rcases hl with (hl | ⟨o, hl⟩) | ⟨o, its, n, h1, h2, _⟩
    · exact .base (.tup hl)
    · exact .fTuple hl
    · exact .kTuple h1 h2
  | dict b => exact h.dict.elim
/-- isinstance(x, T): by values, T a name -/
theorem ro_isi {o : Op} {T : String} (ho : ∀ cs r, o.run cs = some r → ∃ c b, cs = [c] ∧ r = .d (.bool b) ∧ ∀ K : PySem.W.Frag, PySem.W.kitOne K (.type (tyN c)) (.type T) = some b) :
    CallR X (.builtin "isinstance") (fun vs H Q => ∃ x, vs = [x, .ty T] ∧ rOp X.K o [x] H Q) := by
  intro pins s σ H vs us Q I rs h
  obtain ⟨x, rfl, L, cs, r, hcs, hr, q⟩ := h
  obtain ⟨c, b, rfl, rfl, hk⟩ := ho cs r hr
  obtain ⟨v, e, hx⟩ := hcs.one
  injection e with e _
  subst e
  exact call_isi pins s σ H _ us Q I rs ⟨x, .ty T, _, .type T, b, rfl, .ty T, hx.ty, hk _, q.now (.bl _)⟩
theorem isi_int : ∀ cs r, Op.isInt.run cs = some r → ∃ c b, cs = [c] ∧ r = .d (.bool b) ∧ ∀ K : PySem.W.Frag, PySem.W.kitOne K (.type (tyN c)) (.type "int") = some b := fun cs r e => by
  obtain ⟨c, rfl⟩ := run1 (o := .isInt) (fun c d t => by cases c <;> rfl) rfl e
  refine ⟨c, _, rfl, (Option.some.inj e).symm, fun K => ?_⟩
  cases c <;> (refine kit_ty ?_; simp only [tyN]; decide +kernel)
theorem isi_bool : ∀ cs r, Op.isBool.run cs = some r → ∃ c b, cs = [c] ∧ r = .d (.bool b) ∧ ∀ K : PySem.W.Frag, PySem.W.kitOne K (.type (tyN c)) (.type "bool") = some b := fun cs r e => by
  obtain ⟨c, rfl⟩ := run1 (o := .isBool) (fun c d t => by cases c <;> rfl) rfl e
  refine ⟨c, _, rfl, (Option.some.inj e).symm, fun K => ?_⟩
  cases c <;> (refine kit_ty ?_; simp only [tyN]; decide +kernel)
theorem isi_tup : ∀ cs r, Op.isTup.run cs = some r → ∃ c b, cs = [c] ∧ r = .d (.bool b) ∧ ∀ K : PySem.W.Frag, PySem.W.kitOne K (.type (tyN c)) (.type "tuple") = some b := fun cs r e => by
  obtain ⟨c, rfl⟩ := run1 (o := .isTup) (fun c d t => by cases c <;> rfl) rfl e
  refine ⟨c, _, rfl, (Option.some.inj e).symm, fun K => ?_⟩
  cases c <;> (refine kit_ty ?_; simp only [tyN]; decide +kernel)
theorem isi_str : ∀ cs r, Op.isStr.run cs = some r → ∃ c b, cs = [c] ∧ r = .d (.bool b) ∧ ∀ K : PySem.W.Frag, PySem.W.kitOne K (.type (tyN c)) (.type "str") = some b := fun cs r e => by
  obtain ⟨c, rfl⟩ := run1 (o := .isStr) (fun c d t => by cases c <;> rfl) rfl e
  refine ⟨c, _, rfl, (Option.some.inj e).symm, fun K => ?_⟩
  cases c <;> (refine kit_ty ?_; simp only [tyN]; decide +kernel)
end
end Cz
set_option Elab.async false
set_option linter.all false
set_option maxRecDepth 100000
set_option maxHeartbeats 4000000
namespace CzL
open PySem PySem.Spec PyProof.Rows HT
section
variable {prog : Program} {w : World} {A : Around} {E : Value → Shared → Prop} {s : Shared}
theorem fm_congr {α β : Type} {f g : α → Option β} : ∀ {l : List α}, (∀ x ∈ l, f x = g x) → l.filterMap f = l.filterMap g
  | [], _ => rfl
  | x :: l, h => by
    rw [List.filterMap_cons, List.filterMap_cons, h x List.mem_cons_self, fm_congr fun y hy => h y (List.mem_cons_of_mem _ hy)]
theorem pick_back (xs : Array Value) : ((List.range xs.size).filterMap fun (m : Nat) => xs[(((xs.size : Int) - 1) + (m : Int) * (-1)).toNat]?).toArray = xs.toList.reverse.toArray := by
  congr 1
  have h1 := PySem.W.krv_all xs
  have h2 := PySem.W.krv_range xs.size
  have e : (List.range xs.size).filterMap (fun (m : Nat) => xs[(((xs.size : Int) - 1) + (m : Int) * (-1)).toNat]?) = ((List.range xs.size).map (fun k => xs.size - 1 - k)).filterMap (xs[·]?) := by
    rw [List.filterMap_map]
    refine fm_congr ?_
    intro m hm
    have hlt := List.mem_range.mp hm
    have e2 : (((xs.size : Int) - 1) + (m : Int) * (-1)).toNat = xs.size - 1 - m := by omega
    rw [e2]
    rfl
  rw [e, h2, List.filterMap_reverse, h1]
/-- t[::-1] of a tuple -/
theorem getItem_tuple_back {t sl : Addr} {items : Array Value} {vl vu vs : Value} {Q : Value → Shared → Prop} (ht : IsTup s.heap t items) (hs : s.heap.IsSliceOf sl vl vu vs) (pl : IsPart vl none) (pu : IsPart vu none) (ps : IsPart vs (some (-1)))
    (h : Q (.ref s.heap.objs.size) { s with heap := s.heap.push { cls := .type "tuple", data := .seq items.toList.reverse.toArray } })
    (hsz : items.size ≤ sizeLine) : wpAny (model prog w) A (getItem (.ref t) (.ref sl)) Q E s := by
  have htake : sizeOk (.seq items.toList.reverse.toArray) := by
    show items.toList.reverse.toArray.size ≤ sizeLine
    simpa using hsz
  obtain ⟨os, hos, hcs, hds⟩ := id hs
  have hTs : s.TypeIs (.ref sl) "slice" := ⟨os, hos, hcs⟩
  unfold getItem
  try with_reducible refine wpAny_holding ?_
  first | refine wpAny_bind (wpAny_pure ?_) | skip
  refine wpAny_bind (wpAny_sequenceKey ht.typeIs (by decide) ?_)
  refine wpAny_bind (wpAny_callSpecial?_slot (name := Str.ofString "__getitem__") ht.typeIs PyProof.Rows.slot_tuple_getitem
    (wpAny_call_entry PyProof.Rows.slot_tuple_getitem ht.typeIs entry_tuple_getitem ?_ (args_tuple_getitem _ _)))
  show wpAny _ _ (Builtin.Tuple.tupleItemsOf (.ref t) >>= _) _ _ s
  refine wpAny_bind (tupleItemsOf_ ht ?_)
  refine wpAny_bind (wpAny_typeOf hTs ?_)
  rw [if_pos (by decide)]
  refine wpAny_bind (m := Builtin.Slice.sliceApplied _ _) ?_
  unfold Builtin.Slice.sliceApplied Builtin.Slice.sliceFields
  refine wpAny_bind (wpAny_bind (wpAny_field hos hds (x := vl) rfl (wpAny_bind (wpAny_field hos hds (x := vu) rfl (wpAny_bind (wpAny_field hos hds (x := vs) rfl (wpAny_pure ?_)))))))
  refine wpAny_bind (slicePart_ ps ?_)
  show wpAny _ _ (if ((-1 : Int) == 0) = true then _ else _) _ _ s
  rw [if_neg (by decide)]
  refine wpAny_bind (slicePart_ pl (wpAny_bind (slicePart_ pu (wpAny_bind (wpAny_pure ?_)))))
  have e1 : Builtin.Slice.sliceAdjust none none (-1) (items.size : Int) = ((items.size : Int) - 1, -1) := by
    unfold Builtin.Slice.sliceAdjust
    simp
  have e2 : Builtin.Slice.slicePlaces ((items.size : Int) - 1) (-1) (-1) = items.size := by
    unfold Builtin.Slice.slicePlaces
    have a1 : ¬ ((-1 : Int) > 0) := by decide
    simp only [a1, if_false]
    by_cases hz : (items.size : Int) - 1 > -1
    · rw [if_pos hz, show (- -1 : Int) = 1 by decide, Int.ediv_one]
      omega
    · rw [if_neg hz]
      omega
  show wpAny _ _ (match Builtin.Slice.sliceAdjust none none (-1) (items.size : Int) with | (lo, hi) => pure (lo, (-1 : Int), Builtin.Slice.slicePlaces lo hi (-1))) _ _ s
  rw [e1]
  show wpAny _ _ (pure ((items.size : Int) - 1, (-1 : Int), Builtin.Slice.slicePlaces ((items.size : Int) - 1) (-1) (-1))) _ _ s
  rw [e2]
  refine wpAny_pure ?_
  have hno : ¬ (((((items.size : Int) - 1) == 0) && ((-1 : Int) == 1) && (items.size == items.size)) = true) := by simp
  show wpAny _ _ (if ((((items.size : Int) - 1) == 0) && ((-1 : Int) == 1) && (items.size == items.size)) = true then _ else _) _ _ s
  rw [if_neg hno, pick_back]
  first
    | exact wpAny_bind (m := Builtin.Tuple.tupleExact _) (wpAny_newObj_type (wpAny_pure ⟨_, rfl, wpAny_pure h⟩) htake)
    | exact wpAny_bind (m := Builtin.Tuple.tupleExact _) (wpAny_newObj_type (wpAny_bind (wpAny_pure (wpAny_pure ⟨_, rfl, wpAny_pure h⟩))) htake)
    | exact wpAny_bind (wpAny_bind (m := Builtin.Tuple.tupleExact _) (wpAny_newObj_type (wpAny_pure (wpAny_pure ⟨_, rfl, wpAny_pure h⟩)) htake))
    | exact wpAny_bind (wpAny_bind (m := Builtin.Tuple.tupleExact _) (wpAny_newObj_type (wpAny_pure ⟨_, rfl, wpAny_pure h⟩) htake))
/-- sum of a tuple of ints -/
theorem sum_tup {l : Addr} {its : List Value} {ns : List Int} {Q : Value → Shared → Prop} (hh : A.handled = none) (hl : IsTup s.heap l its.toArray) (hi : IntsAre its ns)
    (h : ∀ h' tk t', (∀ b o, s.heap.get? b = some o → h'.get? b = some o) → Q (.int ns.sum t') { s with heap := h', toks := tk }) : wpAny (model prog w) A (call (.builtin "sum") [.ref l]) Q E s := by
  obtain ⟨xs, e⟩ := hi.allInts.items
  have hn : numsOf (intItems xs).toList = ns := by rw [← e]; exact hi.numsOf
  rw [nums_intItems] at hn
  rw [e] at hl
  have hlt : l < s.heap.objs.size := hl.lt
  refine PySem.call_sum_walkG (wpAny_pyIter_tuple (show s.heap.IsTuple l (intItems xs) from hl) ?_)
  refine ⟨s.heap.objs.size, _, _, _, _, _, numAt xs, rfl, Walks.tuple (A := A.in1) hh _ l (Nat.ne_of_lt hlt) (intItems xs), ⟨⟨_, Heap.get?_push_size _ rfl, rfl, rfl⟩, ?_⟩, fun b hb => ?_, (fun _ _ => intItems_at), fun h' tk t' hk => ?_⟩
  · obtain ⟨o, ho, r⟩ := (show s.heap.IsTuple l (intItems xs) from hl)
    exact ⟨o, Heap.get?_push_of_some _ ho, r⟩
  · show b < (s.heap.push _).objs.size
    rw [Heap.size_push]
    rcases List.mem_cons.mp hb with rfl | hb
    · exact Nat.lt_succ_self _
    · rcases List.mem_cons.mp hb with rfl | hb
      · exact Nat.lt_succ_of_lt hlt
      · cases hb
  · have hk' : ∀ b o, s.heap.get? b = some o → h'.get? b = some o := fun b o e => hk b o (by
      intro m
      rcases List.mem_cons.mp m with rfl | m
      · exact absurd (Heap.lt_size e) (Nat.lt_irrefl _)
      · cases m) (Heap.get?_push_of_some _ e)
    have := h h' tk t' hk'
    have es : preSum (numAt xs) (intItems xs).size = ns.sum := by
      rw [preSum_eq, List.take_of_length_le (by simp [intItems]), hn]
    rw [es]
    exact this
theorem collect_tup {l : Addr} {vs : List Value} {Q : List Value → Shared → Prop} (hl : IsTup s.heap l vs.toArray)
    (h : Q vs { s with heap := (s.heap.push (seqObj "list" #[] 0)).update s.heap.objs.size (Obj.mapSeq (· ++ vs.toArray)) }) (hsz : vs.length ≤ sizeLine) :
    wpAny (model prog w) A (collect (.ref l)) Q E s := by
  obtain ⟨o, ho, hc, n, hd⟩ := id hl
  unfold collect
  refine wpAny_bind (wpAny_runValue (codeAny_builtin entry_proto_collect' ?_))
  show wpAny _ _ (do again (.builtin "list.__iadd__" ⟨[← newList [], .ref l], []⟩)) _ _ s
  refine wpAny_bind (wpAny_newList (wpAny_pure ⟨Code.quiet_builtin _ (by decide +kernel), codeAny_builtin entry_list_iadd' ?_⟩))
  show wpAny _ _ (Builtin.List.listExtendWith (.ref s.heap.objs.size) (.ref l) (.ref s.heap.objs.size)) _ _ { s with heap := s.heap.push (seqObj "list" #[] 0) }
  unfold Builtin.List.listExtendWith
  have ho' : (s.heap.push (seqObj "list" #[] 0)).get? l = some o := Heap.get?_push_of_some _ ho
  refine wpAny_bind (wpAny_typeOf (T := "tuple") ⟨o, ho', hc⟩ ?_)
  have ht : (Value.type "tuple" == Value.type "tuple") = true := by rfl
  rw [if_pos (by rw [ht]; simp)]
  refine wpAny_bind (listItems_at ho' hd ?_)
  refine wpAny_bind (listItems_at (xs := #[]) (n := 0) (Heap.get?_push_size _ rfl) rfl ?_)
  rw [if_neg (by simp)]
  refine wpAny_bind (listUpdate_at (xs := #[]) (n := 0) (Heap.get?_push_size _ rfl) rfl ?_ (Nat.zero_le _) (by show (#[] ++ vs.toArray).size ≤ sizeLine + 1; simp only [Array.size_append, List.size_toArray, List.length_nil]; omega))
  refine wpAny_pure ?_
  show wpAny (model prog w) A (do
      let o ← load s.heap.objs.size
      match o.data with
      | .seq xs _ => pure xs.toList
      | _ => unsupported "internal:collect") Q E { s with heap := (s.heap.push (seqObj "list" #[] 0)).update s.heap.objs.size (Obj.mapSeq (· ++ vs.toArray)) }
  refine wpAny_bind (wpAny_load (get?_update_seq (Heap.get?_push_size _ rfl) _) ?_)
  show wpAny _ _ (pure ((#[] : Array Value) ++ vs.toArray).toList) Q E _
  rw [show ((#[] : Array Value) ++ vs.toArray).toList = vs by simp]
  exact wpAny_pure h
theorem sorted_tup {l : Addr} {vs : List Value} {ns : List Int} {Q : Value → Shared → Prop} (hl : IsTup s.heap l vs.toArray) (hI : IntsAre vs ns) (h64 : vs.length < 64)
    (h : ∀ (out : Array Value) (ns' : List Int), IntsAre out.toList ns' → ns'.Perm ns → ns'.Pairwise (· ≤ ·) → Q (.ref (s.heap.objs.size + 1)) { s with heap := sortedAll s.heap vs out }) :
    wpAny (model prog w) A (call (.builtin "sorted") [.ref l]) Q E s := by
  have hz : vs.length ≤ sizeLine := Nat.le_trans (Nat.le_of_lt h64) (by decide)
  refine Calls.call_function_entry kind_sorted plain_sorted entry_sorted (args_sorted1 _) ?_
  unfold Builtin.«sorted»
  refine wpAny_bind (m := checkCount "sorted" 1 1 _) (wpAny_pure ?_)
  refine wpAny_bind (collect_tup hl ?_ hz)
  refine wpAny_bind (wpAny_newList ?_ hz)
  have hsz : ((s.heap.push (seqObj "list" #[] 0)).update s.heap.objs.size (Obj.mapSeq (· ++ vs.toArray))).objs.size = s.heap.objs.size + 1 := by
    rw [Heap.size_update, size_push']
  have hoL : (((s.heap.push (seqObj "list" #[] 0)).update s.heap.objs.size (Obj.mapSeq (· ++ vs.toArray))).push (seqObj "list" vs.toArray 0)).get? (s.heap.objs.size + 1) = some (seqObj "list" vs.toArray 0) := by
    rw [← hsz]; exact Heap.get?_push_size _ rfl
  show wpAny _ _ _ _ _ { s with heap := ((s.heap.push (seqObj "list" #[] 0)).update s.heap.objs.size (Obj.mapSeq (· ++ vs.toArray))).push (seqObj "list" vs.toArray 0) }
  rw [hsz]
  refine wpAny_bind (wpAny_holding (wpAny_call_entry slot_list_sort ⟨_, hoL, rfl⟩ entry_list_sort (list_sort_tree hoL hI h64 fun out ns' a1 a2 a3 => ⟨_, rfl, ?_⟩) (args_list_sort _)))
  exact wpAny_pure ⟨_, rfl, h out ns' a1 a2 a3⟩
end
end CzL

namespace Cz
open PySem PySem.Spec L2
section
variable {X : Cx}
theorem insI_perm (x : Int) : ∀ r : List Int, (insI x r).Perm (x :: r)
  | [] => List.Perm.refl _
  | y :: r => by
    unfold insI
    split
    · exact List.Perm.refl _
    · exact ((insI_perm x r).cons y).trans (List.Perm.swap x y r)
theorem sortI_perm : ∀ r : List Int, (sortI r).Perm r
  | [] => List.Perm.refl _
  | x :: r => (insI_perm x (sortI r)).trans ((sortI_perm r).cons x)
theorem insI_ord (x : Int) : ∀ r : List Int, r.Pairwise (· ≤ ·) → (insI x r).Pairwise (· ≤ ·)
  | [], _ => List.pairwise_singleton _ _
  | y :: r, h => by
    unfold insI
    have h' := List.pairwise_cons.mp h
    split
    · rename_i hxy
      refine List.pairwise_cons.mpr ⟨fun a ha => ?_, h⟩
      rcases List.mem_cons.mp ha with rfl | ha
      · exact hxy
      · exact Int.le_trans hxy (h'.1 a ha)
    · rename_i hxy
      refine List.pairwise_cons.mpr ⟨fun a ha => ?_, insI_ord x r h'.2⟩
      rcases List.mem_cons.mp ((insI_perm x r).mem_iff.mp ha) with rfl | ha
      · omega
      · exact h'.1 a ha
theorem sortI_ord : ∀ r : List Int, (sortI r).Pairwise (· ≤ ·)
  | [] => List.Pairwise.nil
  | x :: r => insI_ord x _ (sortI_ord r)
theorem sort_one : ∀ {a b : List Int}, a.Perm b → a.Pairwise (· ≤ ·) → b.Pairwise (· ≤ ·) → a = b
  | [], b, p, _, _ => (List.Perm.nil_eq p)
  | x :: a, [], p, _, _ => absurd p.length_eq (by simp)
  | x :: a, y :: b, p, h1, h2 => by
    have q1 := List.pairwise_cons.mp h1
    have q2 := List.pairwise_cons.mp h2
    have e : x = y := by
      have m1 : x ∈ y :: b := p.mem_iff.mp List.mem_cons_self
      have m2 : y ∈ x :: a := p.mem_iff.mpr List.mem_cons_self
      have l1 : y ≤ x := by
        rcases List.mem_cons.mp m1 with rfl | m
        · exact Int.le_refl _
        · exact q2.1 x m
      have l2 : x ≤ y := by
        rcases List.mem_cons.mp m2 with rfl | m
        · exact Int.le_refl _
        · exact q1.1 y m
      exact Int.le_antisymm l2 l1
    subst e
    rw [sort_one (List.Perm.cons_inv p) q1.2 q2.2]
theorem ro_sum (hc : X.calm = true) : CallR X (.builtin "sum") (r1 X.K .sum) := by
  intro pins s σ H vs us Q I rs h
  obtain ⟨L, cs, r, hcs, hr, q⟩ := h
  obtain ⟨c, rfl⟩ := run1 (o := .sum) (fun c d t => by cases c <;> rfl) rfl hr
  obtain ⟨v, rfl, hx⟩ := hcs.one
  cases c with
  | list ds =>
    have e : (ints? ds).map (fun ns => Res.d (.int ns.sum)) = some r := hr
    obtain ⟨ns, h1, h2⟩ := Option.map_eq_some_iff.mp e
    subst h2
    obtain ⟨a, xs, e, hl, ra⟩ := hx.list
    subst e
    obtain ⟨eb, _⟩ := ra.ints h1
    subst eb
    exact cr_sum hc pins s σ H _ us Q I rs ⟨a, ns, rfl, hl.sq, q.now (.int _)⟩
  | tuple ds =>
    have e : (ints? ds).map (fun ns => Res.d (.int ns.sum)) = some r := hr
    obtain ⟨ns, h1, h2⟩ := Option.map_eq_some_iff.mp e
    subst h2
    obtain ⟨a, xs, e, hl, ra⟩ := hx.tuple
    subst e
    obtain ⟨eb, _⟩ := ra.ints h1
    subst eb
    obtain ⟨its, rv, ht, _⟩ := I.tuple hl
    rw [Vals.ref1 rs]
    exact CzL.sum_tup (I.ok.hd hc) ht rv.ints fun h' tk t' hk => ⟨.int _, H, I.kept hk, ⟨_, rfl⟩, q.now (.int _)⟩
  | _ => cases hr
theorem ro_sorted : CallR X (.builtin "sorted") (r1 X.K .sorted) := by
  intro pins s σ H vs us Q I rs h
  obtain ⟨L, cs, r, hcs, hr, q⟩ := h
  obtain ⟨c, rfl⟩ := run1 (o := .sorted) (fun c d t => by cases c <;> rfl) rfl hr
  obtain ⟨v, rfl, hx⟩ := hcs.one
  cases c with
  | list ds =>
    have e : (if ds.length < 64 then (ints? ds).map (fun ns => Res.new ((sortI ns).map .int)) else none) = some r := hr
    split at e
    · rename_i hz
      obtain ⟨ns, h1, h2⟩ := Option.map_eq_some_iff.mp e
      subst h2
      obtain ⟨a, xs, e, hl, ra⟩ := hx.list
      subst e
      obtain ⟨eb, ed⟩ := ra.ints h1
      subst eb
      subst ed
      refine cr_sorted pins s σ H _ us Q I rs ⟨a, ns, rfl, hl.sq, by simpa using hz, fun ns' p h1 h2 h0 => ?_⟩
      rw [sort_one (h1.trans (sortI_perm ns).symm) h2 (sortI_ord ns)]
      exact q.lst h0 (RpAll.ofInts _)
    · cases e
  | tuple ds =>
    have e : (if ds.length < 64 then (ints? ds).map (fun ns => Res.new ((sortI ns).map .int)) else none) = some r := hr
    split at e
    · rename_i hz
      obtain ⟨ns, h1, h2⟩ := Option.map_eq_some_iff.mp e
      subst h2
      obtain ⟨a, xs, e, hl, ra⟩ := hx.tuple
      subst e
      obtain ⟨eb, ed⟩ := ra.ints h1
      subst eb
      subst ed
      obtain ⟨its, rv, ht, _⟩ := I.tuple hl
      rw [Vals.ref1 rs]
      have hi := rv.ints
      have hz' : ns.length < 64 := by simpa using hz
      refine CzL.sorted_tup ht hi (by rw [hi.length]; exact hz') fun out ns' h1 h2 h3 => ?_
      have en := sort_one (h2.trans (sortI_perm ns).symm) h3 (sortI_ord ns)
      obtain ⟨ep, he'⟩ := PyProof.Rows.sortedAll_at s.heap its out
      have hlen : (ns'.map V.int).length ≤ sizeLine := by
        rw [List.length_map, h2.length_eq]
        exact small64 hz'
      refine ⟨.ref _, upd H (s.heap.objs.size + 1) (.lst (ns'.map V.int)), I.laid (t' := s.toks) (fun _ _ => PyProof.Rows.sortedAll_old) (Nat.le_succ _) ⟨hlen, out.toList, ep, vals_of_ints h1, he'⟩, rfl, ?_⟩
      rw [en]
      exact q.lst (I.hok.fresh (Nat.le_succ _)) (RpAll.ofInts _)
    · cases e
  | _ => cases hr
/-- x[::-1] -/
theorem pe_back {e : Expr} {te : TE} {k : Nat} {p1 p2 p3 pos : Pos} (he : PE X e te) :
    PE X (.Subscript e (.Slice none none (some (.UnaryOp .USub (.Constant (.int 1) k p1) p2)) p3) pos) (fun σ H Q => te σ H fun x H1 => rOp X.K .rev [x] H1 Q) := by
  refine ⟨fun pins s σ H Q I h => ?_⟩
  refine PyProof.Rows.Subscript_ (thn (he.run pins s σ H _ I h) fun v s1 ⟨x, H1, I1, r1, L, cs, r, hcs, hr, q⟩ => ?_)
  obtain ⟨c, rfl⟩ := run1 (o := .rev) (fun c d t => by cases c <;> rfl) rfl hr
  obtain ⟨x', ex, hx⟩ := hcs.one
  injection ex with ex _
  subst ex
  have hst : PO X (some (.UnaryOp .USub (.Constant (.int 1) k p1) p2)) (tPart (tUn (rU fun i => .int (-i)) (tC (.int 1)))) := po_some (pe_un un_neg pe_int)
  refine wpAny_Slice (thn (po_none.run pins s1 σ H1 (fun o H2 => o = none ∧ H2 = H1) I1 ⟨rfl, rfl⟩) fun vl s2 ⟨l, H2, I2, pl, el, e2⟩ => ?_)
  subst el e2
  refine thn (po_none.run pins s2 σ H2 (fun o H3 => o = none ∧ H3 = H2) I2 ⟨rfl, rfl⟩) fun vu s3 ⟨u, H3, I3, pu, eu, e3⟩ => ?_
  subst eu e3
  refine thn (hst.run pins s3 σ H3 (fun o H4 => o = some (-1) ∧ H4 = H3) I3 ⟨1, rfl, -1, rfl, rfl, rfl⟩) fun vs s4 ⟨o, H4, I4, ps, eo, e4⟩ => ?_
  subst eo e4
  have I5 : Inv X pins σ H4 { s4 with heap := s4.heap.push { cls := .type "slice", data := .fields #[vl, vu, vs] } } := I4.kept (t' := s4.toks) fun b ob q => Heap.get?_push_of_some _ q
  cases c with
  | list ds =>
    have e : some (Res.new ds.reverse) = some r := hr
    cases e
    obtain ⟨a, xs, e, hl, ra⟩ := hx.list
    subst e
    cases r1
    obtain ⟨its, r, ht, hz⟩ := I5.list hl.sq
    have hlen := r.length
    show wpAny (model X.prog X.w) X.A (PyProof.Rows.subscriptTail e (.Slice none none (some (.UnaryOp .USub (.Constant (.int 1) k p1) p2)) p3) (.ref a) (.ref s4.heap.objs.size)) (EP X pins σ Q) X.xe { s4 with heap := s4.heap.push { cls := .type "slice", data := .fields #[vl, vu, vs] } }
    refine PyProof.Rows.tail_any (ops := [.ref a, .ref s4.heap.objs.size]) ht.isList.typeIs (PySem.slot_list_getitem.lookup) ?_ (by with_unfolding_all rfl)
    refine wpAny_getItem_list_slice ht.isList (Heap.IsSliceOf.new _ vl vu vs) pl pu ps (by decide) ?_ (by rw [List.size_toArray]; omega)
    rw [PySem.W.krv_pick]
    refine ⟨.ref _, _, I5.laid (t' := s4.toks) (o := .lst xs.reverse) (fun b ob q => Heap.get?_push_of_some _ q) (Nat.le_refl _) ?_, rfl, q.lst (I5.hok.fresh (Nat.le_refl _)) ra.rev⟩
    exact ⟨by rw [List.length_reverse]; exact hz, _, 0, r.reverse, Heap.get?_push_size _ rfl⟩
  | tuple ds =>
    have e : some (Res.d (.tuple ds.reverse)) = some r := hr
    cases e
    obtain ⟨a, xs, e, hl, ra⟩ := hx.tuple
    subst e
    cases r1
    obtain ⟨its, r, ht, hz⟩ := I5.tuple hl
    have hlen := r.length
    show wpAny (model X.prog X.w) X.A (PyProof.Rows.subscriptTail e (.Slice none none (some (.UnaryOp .USub (.Constant (.int 1) k p1) p2)) p3) (.ref a) (.ref s4.heap.objs.size)) (EP X pins σ Q) X.xe { s4 with heap := s4.heap.push { cls := .type "slice", data := .fields #[vl, vu, vs] } }
    refine PyProof.Rows.tail_any (ops := [.ref a, .ref s4.heap.objs.size]) ht.typeIs (PyProof.Rows.slot_tuple_getitem.lookup) ?_ (by with_unfolding_all rfl)
    refine CzL.getItem_tuple_back ht (Heap.IsSliceOf.new _ vl vu vs) pl pu ps ?_ (by rw [List.size_toArray]; omega)
    refine ⟨.ref _, _, I5.laid (t' := s4.toks) (o := .tup xs.reverse) (fun b ob q => Heap.get?_push_of_some _ q) (Nat.le_refl _) ?_, rfl, q.tup (I5.hok.fresh (Nat.le_refl _)) ra.rev⟩
    exact ⟨by rw [List.length_reverse]; exact hz, its.reverse, r.reverse, PyProof.Rows.IsTup.new _ _⟩
  | _ => cases hr
end
end Cz
set_option Elab.async false
set_option linter.all false
set_option maxRecDepth 100000
set_option maxHeartbeats 4000000
/-! Defs whose callers show no text of an object: FnOk with one fact more about what runs around; repr. -/
namespace Cz
open PySem PySem.Spec PyProof.Rows L2

abbrev SpG := List V → Hp → VK → Prop
structure FnG (P : Program) (w : World) (K : PySem.W.Frag) (mg : Str → Option Value) (base : Heap) (k : Nat) (f : Addr) (fd : FuncData) (ps : List Str) (sp : SpG) : Prop where
  len : ∀ vs H Q, sp vs H Q → vs.length = ps.length
  run : ∀ (A : Around) (outer : List PySem.Env) (s : Shared) (H : Hp) (args : Args) (us : List Value) (vs : List V) (Q : VK), Room k A → A.guards = some [] → Env0 P w K mg base A outer s H → BindsTo s fd args (ps.zip us) → Vals vs us → sp vs H Q →
    codeAny (model P w) A (.call (.ref f) args) (CR CX0 outer P w H s Q E0) s
section
variable {X : Cx} {k : Nat} {f : Addr} {fd : FuncData} {ps : List Str} {sp : SpG} {x : Str} {p pos : Pos} {e : Expr} {es : List Expr} {t : TA}
theorem run_fnG {pins : List (Addr × Obj)} {σ : L2.St} {H : Hp} {s : Shared} {Q : VK} {us : List Value} {vs : List V} (F : FnG X.prog X.w X.K X.mg X.base k f fd ps sp) (hr : Room k X.A) (hgu : X.A.guards = some []) (hb : Binds X.K fd ps [])
    (I : Inv X pins σ H s) (r : Vals vs us) (h : sp vs H Q) : wpAny (model X.prog X.w) X.A (call (.ref f) us) (EP X pins σ Q) X.xe s := by
  have hl : us.length = ps.length := by rw [← r.length]; exact F.len _ _ _ h
  have hbi := hb s us I.kIn (by rw [List.append_nil]; exact hl)
  rw [List.append_nil] at hbi
  refine wpAny_call (codeAny_mono (F.run X.A X.stack s H ⟨us, []⟩ us vs Q hr hgu I.env0 hbi r h) fun r s' hq => ?_)
  cases r with
  | error e => exact False.elim hq
  | ok fl =>
    cases fl with
    | ret u => exact I.after hq
    | next => exact False.elim hq
    | brk => exact False.elim hq
    | cont => exact False.elim hq
theorem pe_callG (F : FnG X.prog X.w X.K X.mg X.base k f fd ps sp) (hr : Room k X.A) (hgu : X.A.guards = some []) (hg : Gl X x) (hm : X.mg x = some (.ref f)) (hk : PySem.W.keepIn X.K (.ref f) = true) (hb : Binds X.K fd ps [])
    (ha : PA X (e :: es) t) (hdb : (x == ("__debug__" : Str)) = false) (he : starEach (e :: es) X.env = (false, eval e X.env) :: starEach es X.env) (hpl : (backTo pos (starEach es X.env)).any (·.1) = false) :
    PE X (.Call (.Name x p) (e :: es) [] pos) (tCB sp t) := by
  refine ⟨fun pins s σ H Q I h => ?_⟩
  refine wpAny_Call_Name_kw (ld_glob I hg hm ?_ hdb)
  exact PySem.W.callWith_K (h₀ := X.base) I.ok.mod.kin hk (thn (ha.run pos pins s σ H _ I h) fun us s1 ⟨vs, H1, I1, r, q⟩ => ⟨I1.kIn, run_fnG F hr hgu hb I1 r q⟩) he hpl
theorem pe_callG0 (F : FnG X.prog X.w X.K X.mg X.base k f fd ps sp) (hr : Room k X.A) (hgu : X.A.guards = some []) (hg : Gl X x) (hm : X.mg x = some (.ref f)) (hk : PySem.W.keepIn X.K (.ref f) = true) (hb : Binds X.K fd ps [])
    (hdb : (x == ("__debug__" : Str)) = false) : PE X (.Call (.Name x p) [] [] pos) (tCB sp tNil) := by
  refine ⟨fun pins s σ H Q I h => ?_⟩
  refine wpAny_Call_Name_kw (ld_glob I hg hm ?_ hdb)
  exact PySem.W.callWith_K0 I.kIn hk (run_fnG (us := []) F hr hgu hb I .nil h)
end
/-- the context of a def's body -/
def cxG (P : Program) (w : World) (K : PySem.W.Frag) (mg : Str → Option Value) (base : Heap) (N : List Str) (qual : Str) (scope : Scope) (f : Addr) (cd : Value) (A : Around) (outer : List PySem.Env) (s : Shared) (H : Hp) : Cx :=
  (cxOf CX0 P w K mg base N qual scope f cd A outer s H E0).nox
theorem fnG_of {P : Program} {w : World} {K : PySem.W.Frag} {mg : Str → Option Value} {base : Heap} {x qual : Str} {st : Stmt} {f : Addr} {fd : FuncData} {N ps : List Str} {k : Nat} {sp : SpG} (F : Fun K x qual st f fd) (S : FnScope N ps (defScope st))
    (len : ∀ vs H Q, sp vs H Q → vs.length = ps.length)
    (hbody : ∀ (cdv : Value) (A : Around) (outer : List PySem.Env) (s : Shared) (H : Hp) (vs : List V) (Q : VK), Room k (A.deeper (envOfC qual (defScope st) s.heap.objs.size f cdv)) → A.guards = some [] → sp vs H Q →
      ∃ t, PSs (cxG P w K mg base N qual (defScope st) f cdv A outer s H) (defBody st) t ∧ t { nx := fun _ H' => Q .non H', rt := Q } (start N vs) H) : FnG P w K mg base (k + 1) f fd ps sp := by
  obtain ⟨oc, od, kV, doc, pm, an, cdv, ct, osl, rfl, lk, hcd⟩ := F.ex
  refine ⟨len, fun A outer s H args us vs Q hr hgu e0 hb r hsp => ?_⟩
  have hl := len _ _ _ hsp
  have KX : K.In s.heap := e0.mod.kin.keeps fun b o e => (e0.bs b o e).1
  have lim : s.heap.NoLimit := e0.mod.nolimit.keeps fun b o e => (e0.bs b o e).1
  have hkind : ∀ y ∈ ps.zip us, (defScope st).names.lookup y.1 = some .local ∨ ((defScope st).names.lookup y.1 = some .cell ∧ ((cellsFrom (s.heap.objs.size + 1) (defScope st).names []).lookup y.1).isSome = true) := fun ⟨n, v⟩ hy => by
    rcases S.par n (List.of_mem_zip hy).1 with q | q
    · exact .inl q
    · exact .inr ⟨q, PySem.W.cellsFrom_some _ _ _ (.inl q)⟩
  refine codeAny_call_function hr.depth (KX _ _ lk) rfl S.co S.gen rfl (PySem.W.codeRec_of KX hcd) (hb _ _ _ _ ?_)
  refine wpAny_newFunctionEnv_cells S.kind hkind fun env he s1 xx => ?_
  subst he
  refine ⟨lim.keeps xx.toInCall.keep, codeAny_func ?_⟩
  obtain ⟨t, ht, hq⟩ := hbody cdv A outer s H vs Q (hr.deeper _) hgu hsp
  have I : Inv (cxOf CX0 P w K mg base N qual (defScope st) f cdv A outer s H E0) [] (start N vs) H s1 := inv_start S hr.hd e0 hl r xx
  refine wpAny_mono ((PSs.nox (X := cxOf CX0 P w K mg base N qual (defScope st) f cdv A outer s H E0) ht).run [] s1 (start N vs) H _ I hq) (fun fl s' hs => ?_) fun e s' hs => hs
  have fin : ∀ {σ' : L2.St} {H' : Hp} {v : V} {u : Value}, Inv (cxOf CX0 P w K mg base N qual (defScope st) f cdv A outer s H E0) [] σ' H' s' → RelV v u → Q v H' → CE outer P w H s Q u s' :=
    fun {σ' H' v u} J rv q => ⟨v, H', J.os, J.bare, J.base, J.hok, rv, q⟩
  cases fl with
  | ret u =>
    obtain ⟨v, σ', H', J, rv, q⟩ := hs
    exact fin J rv q
  | next =>
    obtain ⟨σ', H', J, q⟩ := hs
    exact fin (v := V.non) (u := Value.none) J rfl q
  | brk =>
    obtain ⟨_, _, _, q⟩ := hs
    exact False.elim q
  | cont =>
    obtain ⟨_, _, _, q⟩ := hs
    exact False.elim q

/-! ### the law's own call -/
theorem law_callG {P : Program} {w : World} {K : PySem.W.Frag} {mg mb : Str → Option Value} {k : Nat} {fa a : Addr} {fd : FuncData} {x : Str} {sp : SpG} {s₁ : Shared} {vs : List Value} {ns : List Int}
    (KX : K.In s₁.heap) (hns : s₁.heap.Ns mainGlobals mg) (hb : s₁.heap.Ns builtinsNs mb) (hbb : ∀ x : Str, x ≠ "__name__" → mb x = bootBuiltins x) (hlim : s₁.heap.NoLimit) (hg : s₁.gens = #[])
    (ha : s₁.heap.get? a = some { cls := .type "list", data := .seq vs.toArray }) (hi : IntsAre vs ns) (hl : ns.length ≤ sizeLine) (hr : Room k callerA)
    (F : ∀ base : Heap, K.In base → base.Ns mainGlobals mg → FnG P w K mg base k fa fd [x] sp) (hbind : ∀ (s : Shared) (u : Value), BindsTo s fd ⟨[u], []⟩ [(x, u)])
    (hsp : ∀ H : Hp, Only H → LsR K H a (ns.map V.int) → sp [.ref a] H (fun v _ => v = .bl true)) :
    codeAny (model P w) callerA (.call (.ref fa) ⟨[.ref a], []⟩) (fun r s' => r = .ok (.ret (.bool true)) ∧ OldK s₁.heap s'.heap ∧ s'.os = s₁.os ∧ AllBare s'.gens) s₁ := by
  have rv := vals_ints hi
  have lenV := hi.length
  -- from an abstract heap in which nothing but the script may be tracked
  have core : ∀ H : Hp, Only H → LsR K H a (ns.map V.int) → HOk P w H s₁.heap → (∀ b, H b ≠ none → b = a) → (H a ≠ none → K.lookup a = none) →
      codeAny (model P w) callerA (.call (.ref fa) ⟨[.ref a], []⟩) (fun r s' => r = .ok (.ret (.bool true)) ∧ OldK s₁.heap s'.heap ∧ s'.os = s₁.os ∧ AllBare s'.gens) s₁ := by
    intro H hO hS hok hA hK
    have base_of : ∀ {b : Addr} {o : Obj}, s₁.heap.get? b = some o → H b = none → (hidT s₁.heap H).get? b = some o := fun e n => hidT_get e n
    have noA : ∀ {b : Addr} {o : Obj} {es : Array DictEntry} {ep : Nat}, s₁.heap.get? b = some o → o.data = .dict es ep → H b = none := fun {b o es ep} e d => by
      cases q : H b with
      | none => rfl
      | some u =>
        have e' : b = a := hA b (by rw [q]; simp)
        subst e'
        rw [ha] at e; cases e
        have d' : Data.seq vs.toArray _ = Data.dict es ep := d
        cases d'
    have nsK : ∀ {b : Addr} {m : Str → Option Value}, s₁.heap.Ns b m → (hidT s₁.heap H).Ns b m := fun {b m} ⟨o, es, ep, e, d, r⟩ => ⟨o, es, ep, base_of e (noA e d), d, r⟩
    have hKb : K.In (hidT s₁.heap H) := fun b o e => base_of (KX b o e) (by
      cases q : H b with
      | none => rfl
      | some u =>
        have e' : b = a := hA b (by rw [q]; simp)
        subst e'
        rw [hK (by rw [q]; simp)] at e; cases e)
    have hM : Mod K mg (hidT s₁.heap H) := ⟨hKb, nsK hns, ⟨mb, nsK hb, hbb⟩, let ⟨mc, h1, h2⟩ := hlim; ⟨mc, nsK h1, h2⟩⟩
    have e0 : Env0 P w K mg (hidT s₁.heap H) callerA [] s₁ H := ⟨rfl, hM, fun b o e => of_hidT e, Nat.le_of_eq (hidT_size _ _), trivial, fun b hb => absurd (show b ∈ ([] : List Addr) from hb) (by simp), hok, .of_eq hg⟩
    refine codeAny_mono ((F _ hKb (nsK hns)).run callerA [] s₁ H ⟨[.ref a], []⟩ [.ref a] [.ref a] _ hr rfl e0 (hbind s₁ (.ref a)) (.cons rfl .nil) (hsp H hO hS)) fun r s' h => ?_
    cases r with
    | error e => exact False.elim h
    | ok fl =>
      cases fl with
      | next => exact False.elim h
      | brk => exact False.elim h
      | cont => exact False.elim h
      | ret u =>
        obtain ⟨v, H', os, bare, un, hok', r', q⟩ := h
        have q' : v = .bl true := q
        subst q'
        obtain rfl : u = Value.bool true := r'
        refine ⟨rfl, OldK.of_keep fun b o e => ?_, os, bare⟩
        cases q : H b with
        | none => exact un.keep b o e q (by intro z; exact absurd (show b ∈ ([] : List Addr) from z) (by simp)) (by simp)
        | some u =>
          rcases hO b with z | ⟨ob, xs, z⟩
          · rw [q] at z; cases z
          · have z2 := un.frzs b ob _ z
            obtain ⟨e1, _⟩ := hok b _ z
            obtain ⟨e2, _⟩ := hok' b _ z2
            rw [e] at e1; cases e1
            exact e2
  cases hk : K.lookup a with
  | some o =>
    -- the script is one of the module's own objects
    have e := KX a o hk
    rw [ha] at e
    cases e
    refine core (fun _ => none) (fun _ => .inl rfl) (.inr ⟨vs, _, hk, rv, by rw [List.length_map]; exact hl⟩) (fun b u z => by have z' : (none : Option HO) = some u := z; cases z') (fun b z => absurd rfl z) fun z => absurd rfl z
  | none =>
    refine core (fun b => if b = a then some (.frz { cls := .type "list", data := .seq vs.toArray } (.lst (ns.map V.int))) else none) (fun b => ?_) (.inl (.inr ⟨{ cls := .type "list", data := .seq vs.toArray }, if_pos rfl⟩)) (fun b u z => ?_) (fun b z => ?_) fun _ => hk
    · by_cases hb : b = a
      · exact .inr ⟨_, _, if_pos hb⟩
      · exact .inl (if_neg hb)
    · by_cases hb : b = a
      · have z' := (if_pos hb).symm.trans z
        cases z'
        subst hb
        exact ⟨ha, by rw [List.length_map]; exact hl, vs, _, rv, ha⟩
      · have z' := (if_neg hb).symm.trans z
        cases z'
    · by_cases hb : b = a
      · exact hb
      · exact absurd (if_neg hb) z

theorem walk_ofG {l : PySem.W.OpenLaw} {n k : Nat} {q : Program} {loose : List Str} {XP : (Str → Option Value) → Heap → Prop} {YP : World → Heap → Prop} {d : DefRec} {K : Params → PySem.W.Frag} {sp : World → SpG} {x : Str}
    (hn : l.most = some n) (hn2 : n ≤ sizeLine) (hdf : d.params.defaults = []) (hr : Room k callerA)
    (hY : ∀ (w : World) (h : Heap), YP w h → (K w.params).In h)
    (F : ∀ (w : World) (mg : Str → Option Value) (fa : Addr) (h : Heap), (K w.params).In h → h.Ns mainGlobals mg → mg d.name = some (.ref fa) →
      ∃ fd : FuncData, (∀ (s : Shared) (u : Value), BindsTo s fd ⟨[u], []⟩ [(x, u)]) ∧
        ∀ base : Heap, (K w.params).In base → base.Ns mainGlobals mg → FnG l.prog w (K w.params) mg base k fa fd [x] (sp w))
    (hsp : ∀ (w : World) (H : Hp) (a : Addr) (ns : List Int), ns.length ≤ n → Only H → LsR (K w.params) H a (ns.map V.int) → sp w [.ref a] H (fun v _ => v = .bl true)) :
    PySem.W.WalkO q loose XP YP l.row.toRowW d [] (fun f vs => PySem.call f vs) := by
  refine Att.attach_call hn hdf fun w s₀ s₁ mg mb fa o pm cd doc a vs ns G Y ho hd hcd hmg hobj hints hlen hg => ?_
  have KX := hY w _ Y
  obtain ⟨fd, hb, hF⟩ := F w mg fa _ KX G.T.g hmg
  exact law_callG KX G.T.g G.T.b G.T.builtins G.T.nolimit hg hobj hints (Nat.le_trans hlen hn2) hr hF hb (fun H hO hS => hsp w H a ns hlen hO hS)
end Cz
set_option Elab.async false
set_option linter.all false
set_option maxRecDepth 100000
set_option maxHeartbeats 4000000
namespace Cz
open PySem PySem.Spec L2
section
variable {X : Cx}
theorem repr_ref {pins : List (Addr × Obj)} {s : Shared} {σ : L2.St} {H : Hp} {a : Addr} {d : PyData} {Q : VK} (hg : X.A.guards = some []) (hu : X.A.units + 64 < cLine) (I : Inv X pins σ H s) (hd : Dp X.K H (.ref a) d) (hs : shownOk d = true)
    (q : Q (.str d.shown) H) : wpAny (model X.prog X.w) X.A (call (.builtin "repr") [.ref a]) (EP X pins σ Q) X.xe s := by
  unfold shownOk at hs
  simp only [Bool.and_eq_true, decide_eq_true_eq, Bool.not_eq_true'] at hs
  obtain ⟨⟨⟨h1, h2⟩, h3⟩, h4⟩ := hs
  obtain ⟨as, r⟩ := Dp.reads I d (.ref a) (.ref a) hd rfl
  exact repr_of_reads' r h1 (fun z => by rw [h2] at z; cases z) hg (by omega) (fun _ _ e => e) (fun h' u tk hk => ⟨.str d.shown, H, I.kept hk, ⟨_, rfl⟩, q⟩) (szm h4)
theorem ro_repr (hg : X.A.guards = some []) (hu : X.A.units + 64 < cLine) : CallR X (.builtin "repr") (r1 X.K .repr) := by
  intro pins s σ H vs us Q I rs h
  obtain ⟨L, cs, r, hcs, hr, q⟩ := h
  obtain ⟨c, rfl⟩ := run1 (o := .repr) (fun c d t => by cases c <;> rfl) rfl hr
  obtain ⟨v, rfl, hx⟩ := hcs.one
  cases c with
  | int i =>
    have e : (if i.natAbs.log2 < 1920 then some (Res.d (.str (toString i))) else none) = some r := hr
    split at e
    · rename_i hz
      cases e
      have e := hx.int
      subst e
      exact SkE.call_repr_int pins s σ H _ us Q I rs ⟨i, rfl, hz, q.now (.str _)⟩
    · cases e
  | tuple ds =>
    have e : (if shownOk (.tuple ds) = true then some (Res.d (.str (PyData.tuple ds).shown)) else none) = some r := hr
    split at e
    · rename_i hz
      cases e
      have hd := hx.dp
      obtain ⟨a, xs, e, hl, ra⟩ := hx.tuple
      subst e
      rw [Vals.ref1 rs]
      exact repr_ref hg hu I hd hz (q.now (.str _))
    · cases e
  | list ds =>
    have e : (if shownOk (.list ds) = true then some (Res.d (.str (PyData.list ds).shown)) else none) = some r := hr
    split at e
    · rename_i hz
      cases e
      have hd := hx.dp
      obtain ⟨a, xs, e, hl, ra⟩ := hx.list
      subst e
      rw [Vals.ref1 rs]
      exact repr_ref hg hu I hd hz (q.now (.str _))
    · cases e
  | _ => cases hr
end
end Cz
set_option Elab.async false
set_option linter.all false
set_option maxRecDepth 100000
set_option maxHeartbeats 4000000
/-! What loops walk: lists, tuples, texts, ranges; zip and enumerate over lists and tuples in any mixture. -/
namespace Cz
open PySem PySem.Spec PyProof.Rows L2

def ItAt (l : Bool) (h : Heap) (it a : Addr) (i : Nat) : Prop := match l with
  | true => h.IsListIter it a i
  | false => h.IsTupleIter it a i
def HasS (l : Bool) (h : Heap) (a : Addr) (items : Array Value) : Prop := match l with
  | true => h.IsList a items
  | false => h.IsTuple a items
def SqB (l : Bool) (K : PySem.W.Frag) (H : Hp) (a : Addr) (xs : List V) : Prop := match l with
  | true => SqL K H a xs
  | false => SqT K H a xs
theorem draws_s {prog : Program} {w : World} {A : Around} (l : Bool) (hh : A.handled = none) (it a : Addr) (hne : a ≠ it) (items : Array Value) :
    Draws prog w A it [it, a] items.size (fun i v => items[i]? = some v) (fun i h => ItAt l h it a i ∧ HasS l h a items) := by
  cases l
  · exact Draws.tuple hh it a hne items
  · exact Draws.list hh it a hne items
def beginO (l : Bool) (a : Addr) : Obj := match l with
  | true => { cls := .type "list_iterator", data := .fields #[.ref a, .int 0 0] }
  | false => { cls := .type "tuple_iterator", data := .fields #[.ref a, .int 0 0] }
theorem begins_s (l : Bool) (a : Addr) (items : Array Value) : Begins (.ref a) (beginO l a) fun h => HasS l h a items := by
  cases l
  · exact begins_tuple a items
  · exact begins_list a items
theorem itAt_begin (l : Bool) {h : Heap} {it a : Addr} (e : h.get? it = some (beginO l a)) : ItAt l h it a 0 := by
  cases l
  · exact ⟨_, e, rfl, rfl⟩
  · exact ⟨_, e, rfl, rfl⟩
theorem ItAt.obj {l : Bool} {h : Heap} {it a : Addr} {i : Nat} (x : ItAt l h it a i) : ∃ o, h.get? it = some o ∧ ∀ v, o.data ≠ .cell v := by
  cases l
  · obtain ⟨o, e, _, d⟩ := x
    exact ⟨o, e, fun v z => by rw [d] at z; cases z⟩
  · obtain ⟨o, e, _, d⟩ := x
    exact ⟨o, e, fun v z => by rw [d] at z; cases z⟩
theorem apart_it {l : Bool} {h : Heap} {a b it : Addr} {i : Nat} {items : Array Value} (x : ItAt l h it b i) (p : HasS l h a items) : a ≠ it := fun e => by
  subst e
  cases l
  · obtain ⟨o, e1, c1, _⟩ := x
    obtain ⟨o', e2, c2, _⟩ := p
    rw [e1] at e2
    cases e2
    rw [c1] at c2
    exact absurd c2 (by decide)
  · obtain ⟨o, e1, c1, _⟩ := x
    obtain ⟨o', e2, c2, _⟩ := p
    rw [e1] at e2
    cases e2
    rw [c1] at c2
    exact absurd c2 (by decide)
theorem ItAt.keep {l : Bool} {h h' : Heap} {it a : Addr} {i : Nat} (x : ItAt l h it a i) (k : ∀ o, h.get? it = some o → h'.get? it = some o) : ItAt l h' it a i := by
  cases l
  · exact Heap.IsTupleIter.at x k
  · exact Heap.IsListIter.at x k
section
variable {X : Cx} {pins : List (Addr × Obj)} {σ : L2.St} {H : Hp} {s : Shared} {a b : Addr} {xs ys : List V}
theorem seqB_its {l : Bool} (I : Inv X pins σ H s) (h : SqB l X.K H a xs) : ∃ its : List Value, Vals xs its ∧ HasS l s.heap a its.toArray ∧ xs.length ≤ sizeLine := by
  cases l
  · obtain ⟨its, r, p, z⟩ := I.tuple h
    exact ⟨its, r, p, z⟩
  · obtain ⟨its, r, p, z⟩ := I.list h
    exact ⟨its, r, p.isList, z⟩
theorem seqB_inj {l : Bool} (I : Inv X pins σ H s) (h : SqB l X.K H a xs) (h' : SqB l X.K H a ys) : xs = ys := by
  cases l
  · exact I.tuple_inj h h'
  · exact I.list_inj h h'
theorem seqB_lt {l : Bool} {h : Heap} {its : Array Value} (p : HasS l h a its) : a < h.objs.size := by
  cases l
  · obtain ⟨o, e, _⟩ := p
    exact Heap.lt_size e
  · obtain ⟨o, e, _⟩ := p
    exact Heap.lt_size e
end
/-- zip of two, by what stands at each turn -/
def Itz2 (p q : Bool) (K : PySem.W.Frag) (a b : Addr) : It :=
  ⟨fun i H => ∃ (xs ys : List V) (x y : V), SqB p K H a xs ∧ SqB q K H b ys ∧ xs[i]? = some x ∧ ys[i]? = some y,
    fun i H v H' => ∃ T x y, v = .ref T ∧ H T = none ∧ H' = upd H T (.tup [x, y]) ∧ (∀ xs, SqB p K H a xs → xs[i]? = some x) ∧ ∀ ys, SqB q K H b ys → ys[i]? = some y,
    fun i H => ∃ xs ys : List V, SqB p K H a xs ∧ SqB q K H b ys ∧ i = min xs.length ys.length⟩
theorem turn_zip2 {P : Program} {w : World} {K : PySem.W.Frag} {elts : List Expr} {kk : Nat} {tpos : Pos} {p q : Bool} {a b z TI TO i1 i2 : Addr} (D : ZipSep2 z TI TO i1 i2 [i1, a] [i2, b]) :
    Turn P w K (.Tuple elts kk tpos) (Itz2 p q K a b) [z, TI, TO, i1, i2] z (fun i h => IsZip h z TI TO .none ∧ IsTupOf2 h TI (.ref i1) (.ref i2) ∧ (∃ x y, IsTupOf2 h TO x y) ∧ ItAt p h i1 a i ∧ ItAt q h i2 b i) where
  mem := by simp
  obj := fun i h st c hc => by
    obtain ⟨hz, hTI, ⟨x, y, hTO⟩, h1, h2⟩ := st
    have e' : c = z ∨ c = TI ∨ c = TO ∨ c = i1 ∨ c = i2 := by simpa using hc
    rcases e' with e | e | e | e | e
    · rw [e]; exact ⟨_, hz, fun v q => nomatch q⟩
    · rw [e]; exact ⟨_, hTI, fun v q => nomatch q⟩
    · rw [e]; exact ⟨_, hTO, fun v q => nomatch q⟩
    · rw [e]; exact h1.obj
    · rw [e]; exact h2.obj
  keep := fun i h h' st k => by
    obtain ⟨hz, hTI, ⟨x, y, hTO⟩, h1, h2⟩ := st
    exact ⟨k z (by simp) _ hz, k TI (by simp) _ hTI, ⟨x, y, k TO (by simp) _ hTO⟩, h1.keep fun o e => k i1 (by simp) o e, h2.keep fun o e => k i2 (by simp) o e⟩
  item := by
    intro X hP hw hK hc i pins s σ H E I hf st hg
    subst hP hw hK
    obtain ⟨hz, hTI, hTO, h1, h2⟩ := st
    obtain ⟨xs, ys, x, y, hqx, hqy, hx, hy⟩ := hg
    obtain ⟨its, rv, pp, _⟩ := seqB_its I hqx
    obtain ⟨its2, rv2, pp2, _⟩ := seqB_its I hqy
    obtain ⟨u, hu, ru⟩ := rv.get hx
    obtain ⟨u2, hu2, ru2⟩ := rv2.get hy
    have n1 : i < its.toArray.size := by
      rw [List.size_toArray]
      exact (List.getElem?_eq_some_iff.mp hu).1
    have n2 : i < its2.toArray.size := by
      rw [List.size_toArray]
      exact (List.getElem?_eq_some_iff.mp hu2).1
    have na : a ≠ i1 := apart_it h1 pp
    have nb : b ≠ i2 := apart_it h2 pp2
    have W := GoesN.zip2 (prog := X.prog) (w := X.w) (elts := elts) (x1 := kk) (pos := tpos) D (draws_s (A := X.A.in1) p (I.ok.hd hc) i1 a na its.toArray) (draws_s (A := X.A.in1) q (I.ok.hd hc) i2 b nb its2.toArray)
    refine W.goes i s _ E (Nat.lt_min.mpr ⟨n1, n2⟩) ⟨hz, hTI, hTO, ⟨h1, pp⟩, h2, pp2⟩ fun v h' tk hY st' hk htk => ?_
    obtain ⟨T, v1, v2, rfl, hT0, e1, e2, hT⟩ := hY
    obtain ⟨z', TI', TO', ⟨h1', _⟩, h2', _⟩ := st'
    have e1' : v1 = u := Option.some.inj (e1.symm.trans (by simpa using hu))
    have e2' : v2 = u2 := Option.some.inj (e2.symm.trans (by simpa using hu2))
    subst e1' e2'
    have new : ObjOk X.prog X.w (upd H T (.tup [x, y])) h' T (.tup [x, y]) :=
      ⟨by show 2 ≤ sizeLine; decide, [v1, v2], .cons ru (.cons ru2 .nil), hT⟩
    have I1 : Inv X pins σ (upd H T (.tup [x, y])) { s with heap := h', toks := tk } :=
      I.turnedNew (ch := [z, TI, TO, i1, i2]) (fun c o hb q => hk c o (fun m => hb (by
        have m' : c = z ∨ c = TO ∨ c = i1 ∨ c = i2 := by simpa using m
        rcases m' with m | m | m | m <;> simp [m])) q) hf hT0 new
    refine ⟨.ref T, _, I1, rfl, ⟨_, x, y, rfl, I.hok.fresh hT0, rfl, fun l hl => by rw [seqB_inj I hl hqx]; exact hx, fun l hl => by rw [seqB_inj I hl hqy]; exact hy⟩, ⟨z', TI', TO', h1', h2'⟩, fun c hcm => ?_⟩
    have hlt : c < s.heap.objs.size := by
      have e' : c = z ∨ c = TI ∨ c = TO ∨ c = i1 ∨ c = i2 := by simpa using hcm
      rcases e' with e | e | e | e | e
      · rw [e]; exact Heap.lt_size hz
      · rw [e]; exact Heap.lt_size hTI
      · obtain ⟨_, _, hTO⟩ := hTO
        rw [e]; exact Heap.lt_size hTO
      · obtain ⟨o, q, _⟩ := h1.obj
        rw [e]; exact Heap.lt_size q
      · obtain ⟨o, q, _⟩ := h2.obj
        rw [e]; exact Heap.lt_size q
    rw [upd_ne (Nat.ne_of_lt (Nat.lt_of_lt_of_le hlt hT0))]
    exact (hf c hcm).1
  done := by
    intro X hP hw hK hc i pins s σ H E I hf st hg
    subst hP hw hK
    obtain ⟨hz, hTI, hTO, h1, h2⟩ := st
    obtain ⟨xs, ys, hqx, hqy, hi⟩ := hg
    obtain ⟨its, rv, pp, _⟩ := seqB_its I hqx
    obtain ⟨its2, rv2, pp2, _⟩ := seqB_its I hqy
    have na : a ≠ i1 := apart_it h1 pp
    have nb : b ≠ i2 := apart_it h2 pp2
    have W := GoesN.zip2 (prog := X.prog) (w := X.w) (elts := elts) (x1 := kk) (pos := tpos) D (draws_s (A := X.A.in1) p (I.ok.hd hc) i1 a na its.toArray) (draws_s (A := X.A.in1) q (I.ok.hd hc) i2 b nb its2.toArray)
    have en : min its.toArray.size its2.toArray.size = i := by
      rw [List.size_toArray, List.size_toArray, ← rv.length, ← rv2.length, hi]
    have st' := (⟨hz, hTI, hTO, ⟨h1, pp⟩, h2, pp2⟩ : IsZip s.heap z TI TO .none ∧ IsTupOf2 s.heap TI (.ref i1) (.ref i2) ∧ (∃ a1 a2, IsTupOf2 s.heap TO a1 a2) ∧ (ItAt p s.heap i1 a i ∧ HasS p s.heap a its.toArray) ∧ ItAt q s.heap i2 b i ∧ HasS q s.heap b its2.toArray)
    rw [← en] at st'
    exact W.stops s (fun s' => Inv X pins σ H s') E st' fun h' tk hk htk => I.turnedL (ch := [z, TI, TO, i1, i2]) (fun c o hb q => hk c o (fun m => hb (by
        have m' : c = z ∨ c = TO ∨ c = i1 ∨ c = i2 := by simpa using m
        rcases m' with m | m | m | m <;> simp [m])) q) hf
  self := fun A i s Q E st h => wpAny_pyIter_zip st.1 h
end Cz
set_option Elab.async false
set_option linter.all false
set_option maxRecDepth 100000
set_option maxHeartbeats 4000000
namespace CzL
open PySem PySem.Spec PyProof.Rows HT
open PySem.Sem (wp)
set_option maxHeartbeats 1000000 in
theorem meets_enum1 {v : Value} {o : Obj} {H : Heap → Prop} (B : Begins v o H) :
    Meets (Builtin.«enumerate.__new__» ⟨[.type "enumerate", v], []⟩) (fun _ R s => H s.heap ∧
      R (.ok (.ret (.ref (s.heap.push o).objs.size))) { s with heap := (s.heap.push o).push { cls := .type "enumerate", data := .fields #[.none, .bool false, .ref s.heap.objs.size, rawInt 0, .none, .none] } }) :=
  .of_wp fun prog w A R s h => by
    obtain ⟨hp, g, d, tk, os⟩ := s; obtain ⟨h1, h⟩ := h
    have hsub := sub_enumerate
    have q1 : ∀ {A' : Around} {E : Value → Shared → Prop} {Q : Value → Shared → Prop}, Q (.ref hp.objs.size) ⟨hp.push o, g, d, tk, os⟩ → wpAny (model prog w) A' (pyIter v) Q E ⟨hp, g, d, tk, os⟩ :=
      fun q => B.iter prog w _ _ ⟨hp, g, d, tk, os⟩ _ h1 q
    wp_walk using q1
    refine wpAny_stack_any fun st => wpAny_pure ?_
    split
    · rename_i c _ _ _ _ _
      cases (c == Value.type "enumerate")
      · wp_walk using q1
        exact ⟨_, rfl, h⟩
      · wp_walk using q1
        exact ⟨_, rfl, h⟩
    · wp_walk using q1
      exact ⟨_, rfl, h⟩
section
variable {prog : Program} {w : World} {A : Around} {E : Value → Shared → Prop} {s : Shared}
theorem enum_begins1 {v : Value} {o : Obj} {H : Heap → Prop} {Q : Value → Shared → Prop} (B : Begins v o H) (h1 : H s.heap)
    (h : ∀ h', IsEnum h' (s.heap.objs.size + 1) s.heap.objs.size 0 .none → h'.get? s.heap.objs.size = some o → h'.objs.size = s.heap.objs.size + 2 →
      (∀ b o, s.heap.get? b = some o → h'.get? b = some o) → Q (.ref (s.heap.objs.size + 1)) { s with heap := h' }) :
    wpAny (model prog w) A (call (.type "enumerate") [v]) Q E s := by
  refine callType_new F.called_enumerate (by decide) (F.typeCall_enumerate_1 _) (F.newCall_enumerate_1 _) (fun obj => F.args_object_init_2 obj _) F.entry_enumerate_new
    (meets_enum1 B) ⟨h1, ?_⟩
  have hz : (s.heap.push o).objs.size = s.heap.objs.size + 1 := Heap.size_push ..
  show _ ∧ _
  rw [hz]
  have he : IsEnum ((s.heap.push o).push { cls := .type "enumerate", data := .fields #[.none, .bool false, .ref s.heap.objs.size, rawInt 0, .none, .none] }) (s.heap.objs.size + 1) s.heap.objs.size 0 .none := by
    have := Heap.get?_push_size (s.heap.push o) (o := { cls := .type "enumerate", data := .fields #[.none, .bool false, .ref s.heap.objs.size, rawInt 0, .none, .none] }) rfl
    rw [hz] at this; exact this
  refine ⟨⟨_, he, rfl⟩, h _ he (Heap.get?_push_of_some _ (Heap.get?_push_size _ B.free)) (by rw [Heap.size_push, hz]) fun b o x => Heap.get?_push_of_some _ (Heap.get?_push_of_some _ x)⟩
end
end CzL
namespace Cz
open PySem PySem.Spec PyProof.Rows L2
/-- enumerate, by what stands at each turn -/
def Ite2 (p : Bool) (K : PySem.W.Frag) (a : Addr) : It :=
  ⟨fun i H => ∃ (xs : List V) (x : V), SqB p K H a xs ∧ xs[i]? = some x,
    fun i H v H' => ∃ T x, v = .ref T ∧ H T = none ∧ H' = upd H T (.tup [.int (i : Int), x]) ∧ ∀ xs, SqB p K H a xs → xs[i]? = some x,
    fun i H => ∃ xs : List V, SqB p K H a xs ∧ i = xs.length⟩
theorem turn_enum2 {P : Program} {w : World} {K : PySem.W.Frag} {elts : List Expr} {kk : Nat} {tpos : Pos} {p : Bool} {a e it : Addr} (hei : e ≠ it) (hea : e ≠ a) :
    Turn P w K (.Tuple elts kk tpos) (Ite2 p K a) [e, it] e (fun i h => (∃ old, IsEnum h e it ((0 : Int) + (i : Int)) old) ∧ ItAt p h it a i) where
  mem := by simp
  obj := fun i h st c hc => by
    obtain ⟨⟨old, he⟩, h1⟩ := st
    have e' : c = e ∨ c = it := by simpa using hc
    rcases e' with z | z
    · rw [z]; exact ⟨_, he, fun v q => nomatch q⟩
    · rw [z]; exact h1.obj
  keep := fun i h h' st k => by
    obtain ⟨⟨old, he⟩, h1⟩ := st
    exact ⟨⟨old, k e (by simp) _ he⟩, h1.keep fun o z => k it (by simp) o z⟩
  item := by
    intro X hP hw hK hc i pins s σ H E I hf st hg
    subst hP hw hK
    obtain ⟨⟨old, he⟩, h1⟩ := st
    obtain ⟨xs, x, hqx, hx⟩ := hg
    obtain ⟨its, rv, pp, _⟩ := seqB_its I hqx
    obtain ⟨u, hu, ru⟩ := rv.get hx
    have n1 : i < its.toArray.size := by
      rw [List.size_toArray]
      exact (List.getElem?_eq_some_iff.mp hu).1
    have na : a ≠ it := apart_it h1 pp
    have W := GoesN.enumFrom (prog := X.prog) (w := X.w) (elts := elts) (x1 := kk) (pos := tpos) 0 (draws_s (A := X.A.in1) p (I.ok.hd hc) it a na its.toArray) e hei (by simp [hei, hea]) (by simp)
    refine W.goes i s _ E n1 ⟨⟨old, he⟩, h1, pp⟩ fun v h' tk hY st' hk htk => ?_
    obtain ⟨T, t, v1, rfl, hT0, e1, hT⟩ := hY
    obtain ⟨old', h1', _⟩ := st'
    have e1' : v1 = u := Option.some.inj (e1.symm.trans (by simpa using hu))
    subst e1'
    have ei : (0 : Int) + (i : Int) = (i : Int) := Int.zero_add _
    rw [ei] at hT
    have new : ObjOk X.prog X.w (upd H T (.tup [.int (i : Int), x])) h' T (.tup [.int (i : Int), x]) :=
      ⟨by show 2 ≤ sizeLine; decide, [.int (i : Int) t, v1], .cons ⟨t, rfl⟩ (.cons ru .nil), hT⟩
    have I1 : Inv X pins σ (upd H T (.tup [.int (i : Int), x])) { s with heap := h', toks := tk } :=
      I.turnedNew (ch := [e, it]) (fun c o hb q => hk c o hb q) hf hT0 new
    refine ⟨.ref T, _, I1, rfl, ⟨_, x, rfl, I.hok.fresh hT0, rfl, fun l hl => by rw [seqB_inj I hl hqx]; exact hx⟩, ⟨old', h1'⟩, fun c hcm => ?_⟩
    have hlt : c < s.heap.objs.size := by
      have e' : c = e ∨ c = it := by simpa using hcm
      rcases e' with z | z
      · rw [z]; exact Heap.lt_size he
      · obtain ⟨o, q, _⟩ := h1.obj
        rw [z]; exact Heap.lt_size q
    rw [upd_ne (Nat.ne_of_lt (Nat.lt_of_lt_of_le hlt hT0))]
    exact (hf c hcm).1
  done := by
    intro X hP hw hK hc i pins s σ H E I hf st hg
    subst hP hw hK
    obtain ⟨⟨old, he⟩, h1⟩ := st
    obtain ⟨xs, hqx, hi⟩ := hg
    obtain ⟨its, rv, pp, _⟩ := seqB_its I hqx
    have na : a ≠ it := apart_it h1 pp
    have W := GoesN.enumFrom (prog := X.prog) (w := X.w) (elts := elts) (x1 := kk) (pos := tpos) 0 (draws_s (A := X.A.in1) p (I.ok.hd hc) it a na its.toArray) e hei (by simp [hei, hea]) (by simp)
    have en : its.toArray.size = i := by rw [List.size_toArray, ← rv.length, hi]
    have st' := (⟨⟨old, he⟩, h1, pp⟩ : (∃ old, IsEnum s.heap e it ((0 : Int) + (i : Int)) old) ∧ ItAt p s.heap it a i ∧ HasS p s.heap a its.toArray)
    rw [← en] at st'
    exact W.stops s (fun s' => Inv X pins σ H s') E st' fun h' tk hk htk => I.turnedL (ch := [e, it]) (fun c o hb q => hk c o hb q) hf
  self := fun A i s Q E st h => by
    obtain ⟨⟨_, he⟩, _⟩ := st
    exact wpAny_pyIter_enum he h

/-! ### the rule for all of them -/
/-- the iterator J walks the items its, as long as the walked things hold cs -/
structure JOk (K : PySem.W.Frag) (vs : List V) (cs its : List PyData) (J : It) : Prop where
  go : ∀ L i H, i < its.length → RCs K L H vs cs → J.go i H
  stop : ∀ L H, RCs K L H vs cs → J.stop its.length H
  yld : ∀ L i H x H' d, RCs K L H vs cs → its[i]? = some d → J.yld i H x H' → (∀ b o, H b = some o → H' b = some o) ∧ Rp K L H' x d
def rIk (K : PySem.W.Frag) (k : Ik) (t : TA) : TI := fun σ H R => t σ H fun vs H1 => ∃ L cs its, RCs K L H1 vs cs ∧ k.items cs = some its ∧ ∀ J, JOk K vs cs its J → R J H1
theorem RC.seqB {K : PySem.W.Frag} {L : List Addr} {H : Hp} {v : V} {c : PyData} {ds : List PyData} (h : RC K L H v c) (e : seqOf c = some ds) : ∃ (l : Bool) (a : Addr), v = .ref a ∧ (∀ L H, RC K L H v c → ∃ xs, SqB l K H a xs ∧ RpAll K L H xs ds) := by
  cases c with
  | list es =>
    have e' : some es = some ds := e
    cases e'
    obtain ⟨a, xs, e, hl, ra⟩ := h.list
    refine ⟨true, a, e, fun L H h => ?_⟩
    obtain ⟨a', xs, e2, hl, ra⟩ := h.list
    rw [e] at e2; cases e2
    exact ⟨xs, hl.sq, ra⟩
  | tuple es =>
    have e' : some es = some ds := e
    cases e'
    obtain ⟨a, xs, e, hl, ra⟩ := h.tuple
    refine ⟨false, a, e, fun L H h => ?_⟩
    obtain ⟨a', xs, e2, hl, ra⟩ := h.tuple
    rw [e] at e2; cases e2
    exact ⟨xs, hl, ra⟩
  | _ => cases e
theorem Evo.rp0 {K : PySem.W.Frag} {L : List Addr} {H H' : Hp} {v : V} {d : PyData} (h : ∀ b o, H b = some o → H' b = some o) (r : Rp K L H v d) : Rp K L H' v d :=
  Rp.mono (fun a xs hn hr => ⟨hn, hr.imp (h _ _) fun ⟨o, q⟩ => ⟨o, h _ _ q⟩⟩) (fun a xs hs => hs.imp (fun q => q.imp (h _ _) fun ⟨o, q⟩ => ⟨o, h _ _ q⟩) id) d v r
theorem rps_get {K : PySem.W.Frag} {L : List Addr} {H : Hp} {ds : List PyData} {vs : List V} {i : Nat} (h : RpAll K L H vs ds) (hi : i < ds.length) : ∃ v, vs[i]? = some v ∧ Rp K L H v ds[i] :=
  h.get (List.getElem?_eq_getElem hi)
theorem chars_len (z : Str) : (chars z).length = z.cps.size := by simp [chars]
theorem enumFrom_get : ∀ (ds : List PyData) (k i : Nat), (enumFrom k ds)[i]? = (ds[i]?).map fun d => .tuple [.int ((k + i : Nat) : Int), d]
  | [], _, _ => by simp [enumFrom]
  | d :: ds, k, 0 => by simp [enumFrom]
  | d :: ds, k, i + 1 => by
    show (enumFrom (k + 1) ds)[i]? = _
    rw [enumFrom_get ds (k + 1) i, show k + 1 + i = k + (i + 1) from by omega]
    rfl
theorem enumFrom_len : ∀ (ds : List PyData) (k : Nat), (enumFrom k ds).length = ds.length
  | [], _ => rfl
  | _ :: ds, k => by simp [enumFrom, enumFrom_len ds]
theorem rangeD_get : ∀ (n : Nat) (lo : Int) (i : Nat), i < n → (rangeD lo n)[i]? = some (.int (lo + (i : Int)))
  | n + 1, lo, 0, _ => by simp [rangeD]
  | n + 1, lo, i + 1, h => by
    simp only [rangeD, List.getElem?_cons_succ]
    rw [rangeD_get n (lo + 1) i (by omega)]
    congr 2
    omega
theorem rangeD_len : ∀ (n : Nat) (lo : Int), (rangeD lo n).length = n
  | 0, _ => rfl
  | n + 1, lo => by simp [rangeD, rangeD_len n]
theorem zipD_get : ∀ (xs ys : List PyData) (i : Nat) (d : PyData), (zipD xs ys)[i]? = some d → ∃ x y, xs[i]? = some x ∧ ys[i]? = some y ∧ d = .tuple [x, y]
  | [], _, _, _, h => by simp [zipD] at h
  | _ :: _, [], _, _, h => by simp [zipD] at h
  | x :: xs, y :: ys, 0, d, h => by
    simp [zipD] at h
    exact ⟨x, y, rfl, rfl, h.symm⟩
  | x :: xs, y :: ys, i + 1, d, h => by
    obtain ⟨a, b, h1, h2, h3⟩ := zipD_get xs ys i d (by simpa [zipD] using h)
    exact ⟨a, b, by simpa using h1, by simpa using h2, h3⟩
theorem zipD_len : ∀ (xs ys : List PyData), (zipD xs ys).length = min xs.length ys.length
  | [], _ => by simp [zipD]
  | _ :: _, [] => by simp [zipD]
  | x :: xs, y :: ys => by simp [zipD, zipD_len xs ys]
section
variable {X : Cx} {tg : Expr}
/-- a list, a tuple or a text -/
theorem pi_seqD {e : Expr} {te : TE} (he : PE X e te) : PI X tg e (rIk X.K .seq (tCons te tNil)) := by
  refine ⟨fun pins s σ H R I h => ?_⟩
  refine thn (he.run pins s σ H _ I h) fun v s1 ⟨x, H1, I1, r1, L, cs, its, hcs, hit, q⟩ => ?_
  have sh : ∃ c, cs = [c] := by
    match cs, hit with
    | [c], _ => exact ⟨c, rfl⟩
  obtain ⟨c, rfl⟩ := sh
  obtain ⟨x', ex, hx⟩ := hcs.one
  injection ex with ex _
  subst ex
  cases c with
  | list ds =>
    have e : some ds = some its := hit
    cases e
    obtain ⟨a, xs, e, hl, ra⟩ := hx.list
    subst e
    cases r1
    obtain ⟨vs, rv, p, hz⟩ := I1.list hl.sq
    refine wpAny_pyIter_list p.isList (pi_one (tk := s1.toks) I1 _ (turn_list a _) ⟨_, Heap.get?_push_size _ rfl, rfl, rfl⟩ (q _ ⟨fun L i H hi hr => ?_, fun L H hr => ?_, fun L i H y H' d hr hd hy => ?_⟩))
    · obtain ⟨_, e, hr⟩ := hr.one
      cases e
      obtain ⟨a', zs, e, hl, ra⟩ := hr.list
      cases e
      obtain ⟨z, h1, _⟩ := rps_get ra hi
      exact ⟨zs, z, hl.sq, h1⟩
    · obtain ⟨_, e, hr⟩ := hr.one
      cases e
      obtain ⟨a', zs, e, hl, ra⟩ := hr.list
      cases e
      exact ⟨zs, hl.sq, by rw [ra.length]; exact Nat.le_refl _⟩
    · obtain ⟨_, e, hr⟩ := hr.one
      cases e
      obtain ⟨a', zs, e, hl, ra⟩ := hr.list
      cases e
      obtain ⟨e1, e2⟩ := hy
      subst e1
      obtain ⟨z, h1, h2⟩ := ra.get hd
      have e3 := e2 zs hl.sq
      rw [h1] at e3
      cases e3
      exact ⟨fun _ _ e => e, h2⟩
  | tuple ds =>
    have e : some ds = some its := hit
    cases e
    obtain ⟨a, xs, e, hl, ra⟩ := hx.tuple
    subst e
    cases r1
    obtain ⟨vs, rv, p, hz⟩ := I1.tuple hl
    refine wpAny_pyIter_tuple (show s1.heap.IsTuple a vs.toArray from p) (pi_one (tk := s1.toks) I1 _ (turn_tuple a _) ⟨_, Heap.get?_push_size _ rfl, rfl, rfl⟩ (q _ ⟨fun L i H hi hr => ?_, fun L H hr => ?_, fun L i H y H' d hr hd hy => ?_⟩))
    · obtain ⟨_, e, hr⟩ := hr.one
      cases e
      obtain ⟨a', zs, e, hl, ra⟩ := hr.tuple
      cases e
      obtain ⟨z, h1, _⟩ := rps_get ra hi
      exact ⟨zs, z, hl, h1⟩
    · obtain ⟨_, e, hr⟩ := hr.one
      cases e
      obtain ⟨a', zs, e, hl, ra⟩ := hr.tuple
      cases e
      exact ⟨zs, hl, by rw [ra.length]; exact Nat.le_refl _⟩
    · obtain ⟨_, e, hr⟩ := hr.one
      cases e
      obtain ⟨a', zs, e, hl, ra⟩ := hr.tuple
      cases e
      obtain ⟨e1, e2⟩ := hy
      subst e1
      obtain ⟨z, h1, h2⟩ := ra.get hd
      have e3 := e2 zs hl
      rw [h1] at e3
      cases e3
      exact ⟨fun _ _ e => e, h2⟩
  | str z =>
    have e : (if z.length ≤ sizeMax then some (chars z) else none) = some its := hit
    split at e
    · cases e
      have e := hx.str
      subst e
      obtain ⟨t, rfl⟩ := r1
      have jok : JOk X.K [.str z] [.str z] (chars z) (Its z) := by
        refine ⟨fun L i H hi _ => ?_, fun L H _ => ?_, fun L i H y H' d _ hd hy => ?_⟩
        · rw [chars_len] at hi
          exact hi
        · show z.cps.size ≤ _
          rw [chars_len]
          exact Nat.le_refl _
        · obtain ⟨e1, c, e2, e3⟩ := hy
          subst e1
          subst e3
          have ed : d = .str ⟨#[c]⟩ := by
            have q2 : (chars z)[i]? = some (.str ⟨#[c]⟩) := by
              unfold chars
              rw [List.getElem?_map]
              have : z.cps.toList[i]? = some c := by simpa using e2
              rw [this]
              rfl
            rw [q2] at hd
            exact (Option.some.inj hd).symm
          subst ed
          exact ⟨fun _ _ e => e, .str _⟩
      cases ha : z.cps.all (· < 128)
      · exact wpAny_pyIter_wide ha (pi_one (tk := s1.toks) I1 _ (turn_str _ z t "str_iterator" (.inr rfl)) ⟨_, Heap.get?_push_size _ rfl, rfl, rfl⟩ (q _ jok))
      · exact wpAny_pyIter_ascii ha (pi_one (tk := s1.toks) I1 _ (turn_str _ z t "str_ascii_iterator" (.inl rfl)) ⟨_, Heap.get?_push_size _ rfl, rfl, rfl⟩ (q _ jok))
    · cases e
  | _ => cases hit
theorem jok_range {K : PySem.W.Frag} {vs : List V} {cs : List PyData} {lo : Int} {n : Nat} : JOk K vs cs (rangeD lo n) (Itr lo n) := by
  refine ⟨fun L i H hi _ => by rw [rangeD_len] at hi; exact hi, fun L H _ => by show n ≤ _; rw [rangeD_len]; exact Nat.le_refl _, fun L i H y H' d _ hd hy => ?_⟩
  obtain ⟨e1, e2⟩ := hy
  subst e1
  subst e2
  have hi : i < n := by
    have := (List.getElem?_eq_some_iff.mp hd).1
    rw [rangeD_len] at this
    exact this
  rw [rangeD_get n lo i hi] at hd
  cases hd
  exact ⟨fun _ _ e => e, .int _⟩
theorem b62 {i : Int} (h : bound62 i = true) : -(2 ^ 62) ≤ i ∧ i < 2 ^ 62 := by
  unfold bound62 at h
  exact of_decide_eq_true h
theorem pi_range1D {a : Expr} {ta : TA} {p pos : Pos} (hg : Gl X "range") (hm : X.mg "range" = none) (ha : PA X [a] ta) (hs : starEach [a] X.env = [(false, eval a X.env)]) : PI X tg (.Call (.Name "range" p) [a] [] pos) (rIk X.K .range1 ta) := by
  refine ⟨fun pins s σ H R I h => ?_⟩
  refine Call_ (ld_blt I hg hm boot_range (PyProof.Rows.callWith_type1 (thn (ha.run pos pins s σ H _ I h) fun us s1 ⟨vs, H1, I1, r1, L, cs, its, hcs, hit, q⟩ => ?_) hs rfl))
  have sh : ∃ j, cs = [.int j] := by
    match cs, hit with
    | [.int j], _ => exact ⟨j, rfl⟩
  obtain ⟨j, rfl⟩ := sh
  obtain ⟨x, ex, hx⟩ := hcs.one
  subst ex
  have e := hx.int
  subst e
  have e : (if bound62 j then some (rangeD 0 j.toNat) else none) = some its := hit
  split at e
  · rename_i hb
    cases e
    have ⟨q1, q2⟩ := b62 hb
    cases r1 with
    | cons r rr =>
      cases rr
      obtain ⟨t, rfl⟩ := r
      exact call_range_1 (range_it I1 (by omega) (by omega) q1 q2 (by simpa using q _ jok_range))
  · cases e
theorem pi_range2D {a b : Expr} {ta : TA} {p pos : Pos} (hg : Gl X "range") (hm : X.mg "range" = none) (ha : PA X [a, b] ta) (hs : starEach [a, b] X.env = [(false, eval a X.env), (false, eval b X.env)]) (hs2 : starEach [b] X.env = [(false, eval b X.env)]) :
    PI X tg (.Call (.Name "range" p) [a, b] [] pos) (rIk X.K .range2 ta) := by
  refine ⟨fun pins s σ H R I h => ?_⟩
  refine Call_ (ld_blt I hg hm boot_range (PyProof.Rows.callWith_type1 (thn (ha.run pos pins s σ H _ I h) fun us s1 ⟨vs, H1, I1, r1, L, cs, its, hcs, hit, q⟩ => ?_) (by rw [hs, hs2]) (by rw [hs2]; rfl)))
  have sh : ∃ i j, cs = [.int i, .int j] := by
    match cs, hit with
    | [.int i, .int j], _ => exact ⟨i, j, rfl⟩
  obtain ⟨i, j, rfl⟩ := sh
  obtain ⟨x, y, ex, hx, hy⟩ := hcs.two
  subst ex
  have e := hx.int
  subst e
  have e := hy.int
  subst e
  have e : (if (bound62 i && bound62 j) then some (rangeD i (j - i).toNat) else none) = some its := hit
  split at e
  · rename_i hb
    cases e
    rw [Bool.and_eq_true] at hb
    have ⟨q1, q2⟩ := b62 hb.1
    have ⟨q3, q4⟩ := b62 hb.2
    cases r1 with
    | cons r rr =>
      cases rr with
      | cons r' rr =>
        cases rr
        obtain ⟨t, rfl⟩ := r
        obtain ⟨t', rfl⟩ := r'
        exact call_range_2 (range_it I1 q1 q2 q3 q4 (q _ jok_range))
  · cases e
theorem pi_zip2D {e e2 : Expr} {ta : TA} {p pos tpos : Pos} {elts : List Expr} {kk : Nat} (hg : Gl X "zip") (hm : X.mg "zip" = none) (ha : PA X [e, e2] ta)
    (hs : starEach [e, e2] X.env = (false, eval e X.env) :: starEach [e2] X.env) (hpl : (backTo pos (starEach [e2] X.env)).any (·.1) = false) :
    PI X (.Tuple elts kk tpos) (.Call (.Name "zip" p) [e, e2] [] pos) (rIk X.K .zip2 ta) := by
  refine ⟨fun pins s σ H R I h => ?_⟩
  refine Call_ (ld_blt I hg hm PyProof.Rows.boot_zip (PyProof.Rows.callWith_type1 (thn (ha.run pos pins s σ H _ I h) fun us s1 ⟨vs, H1, I1, r1, L, cs, its, hcs, hit, q⟩ => ?_) hs hpl))
  have sh : ∃ c1 c2 ds1 ds2, cs = [c1, c2] ∧ seqOf c1 = some ds1 ∧ seqOf c2 = some ds2 ∧ its = zipD ds1 ds2 := by
    match cs, hit with
    | [c1, c2], hit =>
      have hit : ((seqOf c1).bind fun xs => (seqOf c2).map fun ys => zipD xs ys) = some its := hit
      cases h1 : seqOf c1 with
      | none => rw [h1] at hit; cases hit
      | some ds1 =>
        cases h2 : seqOf c2 with
        | none => rw [h1, h2] at hit; cases hit
        | some ds2 =>
          rw [h1, h2] at hit
          cases hit
          exact ⟨c1, c2, ds1, ds2, rfl, h1, h2, rfl⟩
  obtain ⟨c1, c2, ds1, ds2, rfl, hd1, hd2, rfl⟩ := sh
  obtain ⟨x, y, ex, hx, hy⟩ := hcs.two
  subst ex
  obtain ⟨l1, a, ea, A1⟩ := hx.seqB hd1
  obtain ⟨l2, b, eb, A2⟩ := hy.seqB hd2
  subst ea
  subst eb
  cases r1 with
  | cons r rr =>
    cases rr with
    | cons r' rr =>
      cases rr
      cases r
      cases r'
      obtain ⟨xs, hqx, _⟩ := A1 L H1 hx
      obtain ⟨ys, hqy, _⟩ := A2 L H1 hy
      obtain ⟨its1, rv, p1, _⟩ := seqB_its I1 hqx
      obtain ⟨its2, rv2, p2, _⟩ := seqB_its I1 hqy
      have la : a < s1.heap.objs.size := seqB_lt p1
      have lb : b < s1.heap.objs.size := seqB_lt p2
      refine zip_begins2 (begins_s l1 a _) (begins_s l2 b _) p1 p2 fun h' hz hTI hTO h1 h2 hsz hk => wpAny_pyIter_zip hz ?_
      have I2 : Inv X pins σ H1 { s1 with heap := h' } := I1.kept (t' := s1.toks) hk
      refine ⟨s1.heap.objs.size + 4, [s1.heap.objs.size + 4, s1.heap.objs.size + 2, s1.heap.objs.size + 3, s1.heap.objs.size, s1.heap.objs.size + 1], _, _, H1, rfl, I2, turn_zip2 (p := l1) (q := l2) (a := a) (b := b) (zip_sep2 (by simpa using la) (by simpa using lb)), ⟨hz, hTI, ⟨_, _, hTO⟩, itAt_begin l1 h1, itAt_begin l2 h2⟩, fun c hcm => ?_, q _ ⟨fun L i H hi hr => ?_, fun L H hr => ?_, fun L i H y H' d hr hd hy => ?_⟩⟩
      · have e' : c = s1.heap.objs.size + 4 ∨ c = s1.heap.objs.size + 2 ∨ c = s1.heap.objs.size + 3 ∨ c = s1.heap.objs.size ∨ c = s1.heap.objs.size + 1 := by simpa using hcm
        have hle : s1.heap.objs.size ≤ c := by
          rcases e' with z | z | z | z | z
          · rw [z]; exact Nat.le_add_right _ _
          · rw [z]; exact Nat.le_add_right _ _
          · rw [z]; exact Nat.le_add_right _ _
          · rw [z]; exact Nat.le_refl _
          · rw [z]; exact Nat.le_add_right _ _
        exact I1.fpOk hle (I1.hok.fresh hle)
      · obtain ⟨_, _, e, hx, hy⟩ := hr.two
        cases e
        obtain ⟨xs, hqx, ra⟩ := A1 L H hx
        obtain ⟨ys, hqy, rb⟩ := A2 L H hy
        rw [zipD_len] at hi
        obtain ⟨u, hu, _⟩ := rps_get ra (i := i) (by omega)
        obtain ⟨v, hv, _⟩ := rps_get rb (i := i) (by omega)
        exact ⟨xs, ys, u, v, hqx, hqy, hu, hv⟩
      · obtain ⟨_, _, e, hx, hy⟩ := hr.two
        cases e
        obtain ⟨xs, hqx, ra⟩ := A1 L H hx
        obtain ⟨ys, hqy, rb⟩ := A2 L H hy
        exact ⟨xs, ys, hqx, hqy, by rw [zipD_len, ra.length, rb.length]⟩
      · obtain ⟨_, _, e, hx, hyy⟩ := hr.two
        cases e
        obtain ⟨xs, hqx, ra⟩ := A1 L H hx
        obtain ⟨ys, hqy, rb⟩ := A2 L H hyy
        obtain ⟨T, x', y', e1, e2, e3, e4, e5⟩ := hy
        subst e1
        subst e3
        obtain ⟨d1, d2, hd1, hd2, ed⟩ := zipD_get _ _ _ _ hd
        subst ed
        obtain ⟨u, hu, ru⟩ := ra.get hd1
        obtain ⟨v, hv, rv⟩ := rb.get hd2
        have z1 := e4 _ hqx
        rw [hu] at z1
        cases z1
        have z2 := e5 _ hqy
        rw [hv] at z2
        cases z2
        have old : ∀ c o, H c = some o → upd H T (.tup [x', y']) c = some o := fun c o q => by
          rw [upd_ne (fun z => by rw [z, e2] at q; cases q)]
          exact q
        exact ⟨old, .tup (.inl (.inl (upd_same ..))) (.cons (Evo.rp0 old ru) (.cons (Evo.rp0 old rv) .nil))⟩
theorem pi_enumD {e : Expr} {ta : TA} {p pos tpos : Pos} {elts : List Expr} {kk : Nat} (hg : Gl X "enumerate") (hm : X.mg "enumerate" = none) (ha : PA X [e] ta) (hs : starEach [e] X.env = [(false, eval e X.env)]) :
    PI X (.Tuple elts kk tpos) (.Call (.Name "enumerate" p) [e] [] pos) (rIk X.K .enum ta) := by
  refine ⟨fun pins s σ H R I h => ?_⟩
  refine Call_ (ld_blt I hg hm boot_enumerate (PyProof.Rows.callWith_type1 (thn (ha.run pos pins s σ H _ I h) fun us s1 ⟨vs, H1, I1, r1, L, cs, its, hcs, hit, q⟩ => ?_) hs rfl))
  have sh : ∃ c1 ds1, cs = [c1] ∧ seqOf c1 = some ds1 ∧ its = enumFrom 0 ds1 := by
    match cs, hit with
    | [c1], hit =>
      have hit : ((seqOf c1).map fun xs => enumFrom 0 xs) = some its := hit
      cases h1 : seqOf c1 with
      | none => rw [h1] at hit; cases hit
      | some ds1 =>
        rw [h1] at hit
        cases hit
        exact ⟨c1, ds1, rfl, h1, rfl⟩
  obtain ⟨c1, ds1, rfl, hd1, rfl⟩ := sh
  obtain ⟨x, ex, hx⟩ := hcs.one
  subst ex
  obtain ⟨l1, a, ea, A1⟩ := hx.seqB hd1
  subst ea
  cases r1 with
  | cons r rr =>
    cases rr
    cases r
    obtain ⟨xs, hqx, _⟩ := A1 L H1 hx
    obtain ⟨its1, rv, p1, _⟩ := seqB_its I1 hqx
    have la : a < s1.heap.objs.size := seqB_lt p1
    refine CzL.enum_begins1 (begins_s l1 a _) p1 fun h' he h1 hsz hk => wpAny_pyIter_enum he ?_
    have I2 : Inv X pins σ H1 { s1 with heap := h' } := I1.kept (t' := s1.toks) hk
    refine ⟨s1.heap.objs.size + 1, [s1.heap.objs.size + 1, s1.heap.objs.size], _, _, H1, rfl, I2, turn_enum2 (p := l1) (a := a) (Nat.succ_ne_self _) (fun z => absurd (z ▸ la) (Nat.not_lt.mpr (Nat.le_succ _))), ⟨⟨.none, he⟩, itAt_begin l1 h1⟩, fun c hcm => ?_, q _ ⟨fun L i H hi hr => ?_, fun L H hr => ?_, fun L i H y H' d hr hd hy => ?_⟩⟩
    · have e' : c = s1.heap.objs.size + 1 ∨ c = s1.heap.objs.size := by simpa using hcm
      have hle : s1.heap.objs.size ≤ c := by
        rcases e' with z | z
        · rw [z]; exact Nat.le_add_right _ _
        · rw [z]; exact Nat.le_refl _
      exact I1.fpOk hle (I1.hok.fresh hle)
    · obtain ⟨_, e, hx⟩ := hr.one
      cases e
      obtain ⟨xs, hqx, ra⟩ := A1 L H hx
      rw [enumFrom_len] at hi
      obtain ⟨u, hu, _⟩ := rps_get ra (i := i) hi
      exact ⟨xs, u, hqx, hu⟩
    · obtain ⟨_, e, hx⟩ := hr.one
      cases e
      obtain ⟨xs, hqx, ra⟩ := A1 L H hx
      exact ⟨xs, hqx, by rw [enumFrom_len, ra.length]⟩
    · obtain ⟨_, e, hx⟩ := hr.one
      cases e
      obtain ⟨xs, hqx, ra⟩ := A1 L H hx
      obtain ⟨T, x', e1, e2, e3, e4⟩ := hy
      subst e1
      subst e3
      rw [enumFrom_get] at hd
      cases hds : ds1[i]? with
      | none => rw [hds] at hd; cases hd
      | some d1 =>
        rw [hds] at hd
        cases hd
        obtain ⟨u, hu, ru⟩ := ra.get hds
        have z1 := e4 _ hqx
        rw [hu] at z1
        cases z1
        have old : ∀ c o, H c = some o → upd H T (.tup [.int (i : Int), x']) c = some o := fun c o q => by
          rw [upd_ne (fun z => by rw [z, e2] at q; cases q)]
          exact q
        refine ⟨old, .tup (.inl (.inl (upd_same ..))) (.cons ?_ (.cons (Evo.rp0 old ru) .nil))⟩
        rw [Nat.zero_add]
        exact .int _
end
end Cz
set_option Elab.async false
set_option linter.all false
set_option maxRecDepth 100000
set_option maxHeartbeats 4000000
/-! What the evaluator says is a reading. -/
namespace Cz
open PySem PySem.Spec PyProof.Rows L2
section
variable (F : CallF) (C : List PyData) (K : PySem.W.Frag)
def spA (ir : E) : TA := fun σ H Q => ∃ hid as μ ρ ws μ', St3 K hid as H μ ∧ EnvOk K hid as H σ ρ ∧ evE F C ir ρ μ = some (ws, μ') ∧
  ∀ vs H' as', as <+: as' → Evo as H as' H' → St3 K hid as' H' μ' → RpVs K hid as' H' vs ws → Q vs H'
def sp1 (ir : E) : TE := fun σ H Q => ∃ hid as μ ρ w μ', St3 K hid as H μ ∧ EnvOk K hid as H σ ρ ∧ evE F C ir ρ μ = some ([w], μ') ∧
  ∀ v H' as', as <+: as' → Evo as H as' H' → St3 K hid as' H' μ' → RpV K hid as' H' v w → Q v H'
def spT (ir : E) : TT := fun σ H Q => ∃ hid as μ ρ c μ', St3 K hid as H μ ∧ EnvOk K hid as H σ ρ ∧ evE F C ir ρ μ = some ([.d (.bool c)], μ') ∧
  ∀ H' as', as <+: as' → Evo as H as' H' → St3 K hid as' H' μ' → Q c H'
def spF (F : CallF) (f : Nat) : SpG := fun vs H Q => ∃ hid as μ ws w μ', St3 K hid as H μ ∧ RpVs K hid as H vs ws ∧ F f ws μ = some (w, μ') ∧
  ∀ v H' as', as <+: as' → Evo as H as' H' → St3 K hid as' H' μ' → RpV K hid as' H' v w → Q v H'
end
def one : E → Bool
  | .nil => false
  | .cons _ _ => false
  | .ite _ a b => one a && one b
  | .and _ b => one b
  | .or _ b => one b
  | _ => true
section
variable {F : CallF} {C : List PyData} {K : PySem.W.Frag}
theorem bool1_some {p : List Val × Store} {q : Bool × Store} (h : bool1 p = some q) : p = ([.d (.bool q.1)], q.2) := by
  obtain ⟨ws, μ⟩ := p
  unfold bool1 at h
  split at h
  · rename_i e
    cases h
    cases e
    rfl
  · cases h
theorem val1_some {p : List Val × Store} {q : Val × Store} (h : val1 p = some q) : p = ([q.1], q.2) := by
  obtain ⟨ws, μ⟩ := p
  unfold val1 at h
  split at h
  · rename_i e
    cases h
    cases e
    rfl
  · cases h
theorem fin_one {n : Nat} {μ : Store} {r : Res} {ws : List Val} {μ' : Store} (h : fin n μ r = (ws, μ')) : ∃ w, ws = [w] := by
  cases r with
  | d x => cases h; exact ⟨_, rfl⟩
  | new ds => cases h; exact ⟨_, rfl⟩
theorem evE_one : ∀ {ir : E} {ρ : Slots} {μ : Store} {ws : List Val} {μ' : Store}, one ir = true → evE F C ir ρ μ = some (ws, μ') → ∃ w, ws = [w]
  | .nil, _, _, _, _, h, _ => by cases h
  | .cons _ _, _, _, _, _, h, _ => by cases h
  | .var i, ρ, μ, ws, μ', _, e => by
    have e : ((ρ[i]?).bind id).map (fun v => ([v], μ)) = some (ws, μ') := e
    obtain ⟨v, _, h⟩ := Option.map_eq_some_iff.mp e
    cases h
    exact ⟨_, rfl⟩
  | .k x, _, μ, ws, μ', _, e => by
    have e : some ([Val.d x], μ) = some (ws, μ') := e
    cases e
    exact ⟨_, rfl⟩
  | .glob i, _, μ, ws, μ', _, e => by
    have e : (C[i]?).map (fun x => ([Val.d x], μ)) = some (ws, μ') := e
    obtain ⟨v, _, h⟩ := Option.map_eq_some_iff.mp e
    cases h
    exact ⟨_, rfl⟩
  | .op o es, ρ, μ, ws, μ', _, e => by
    have e : (evE F C es ρ μ).bind (fun p => (conts p.2 p.1).bind fun cs => (o.run cs).map fun r => fin μ.length p.2 r) = some (ws, μ') := e
    obtain ⟨p, _, h⟩ := Option.bind_eq_some_iff.mp e
    obtain ⟨cs, _, h⟩ := Option.bind_eq_some_iff.mp h
    obtain ⟨r, _, h⟩ := Option.map_eq_some_iff.mp h
    exact fin_one h
  | .tup es, ρ, μ, ws, μ', _, e => by
    have e : (evE F C es ρ μ).bind (fun p => (frzs μ.length p.2 p.1).bind fun cs => if cs.length ≤ sizeMax then some (fin μ.length p.2 (.d (.tuple cs))) else none) = some (ws, μ') := e
    obtain ⟨p, _, h⟩ := Option.bind_eq_some_iff.mp e
    obtain ⟨cs, _, h⟩ := Option.bind_eq_some_iff.mp h
    split at h
    · exact fin_one (Option.some.inj h)
    · cases h
  | .lst es, ρ, μ, ws, μ', _, e => by
    have e : (evE F C es ρ μ).bind (fun p => (frzs μ.length p.2 p.1).bind fun cs => if cs.length ≤ sizeMax then some (fin μ.length p.2 (.new cs)) else none) = some (ws, μ') := e
    obtain ⟨p, _, h⟩ := Option.bind_eq_some_iff.mp e
    obtain ⟨cs, _, h⟩ := Option.bind_eq_some_iff.mp h
    split at h
    · exact fin_one (Option.some.inj h)
    · cases h
  | .call f es, ρ, μ, ws, μ', _, e => by
    have e : (evE F C es ρ μ).bind (fun p => (F f p.1 p.2).bind fun q => (finV μ.length q.2 q.1).map fun r => ([r.1], r.2)) = some (ws, μ') := e
    obtain ⟨p, _, h⟩ := Option.bind_eq_some_iff.mp e
    obtain ⟨cs, _, h⟩ := Option.bind_eq_some_iff.mp h
    obtain ⟨r, _, h⟩ := Option.map_eq_some_iff.mp h
    cases h
    exact ⟨_, rfl⟩
  | .ite c a b, ρ, μ, ws, μ', h, e => by
    have e : (evE F C c ρ μ).bind (fun p => (bool1 p).bind fun q => if q.1 then evE F C a ρ q.2 else evE F C b ρ q.2) = some (ws, μ') := e
    have h : (one a && one b) = true := h
    rw [Bool.and_eq_true] at h
    obtain ⟨p, _, e⟩ := Option.bind_eq_some_iff.mp e
    obtain ⟨q, _, e⟩ := Option.bind_eq_some_iff.mp e
    split at e
    · exact evE_one h.1 e
    · exact evE_one h.2 e
  | .and a b, ρ, μ, ws, μ', h, e => by
    have e : (evE F C a ρ μ).bind (fun p => (bool1 p).bind fun q => if q.1 then evE F C b ρ q.2 else some ([.d (.bool false)], q.2)) = some (ws, μ') := e
    have h : one b = true := h
    obtain ⟨p, _, e⟩ := Option.bind_eq_some_iff.mp e
    obtain ⟨q, _, e⟩ := Option.bind_eq_some_iff.mp e
    split at e
    · exact evE_one h e
    · cases e; exact ⟨_, rfl⟩
  | .or a b, ρ, μ, ws, μ', h, e => by
    have e : (evE F C a ρ μ).bind (fun p => (bool1 p).bind fun q => if q.1 then some ([.d (.bool true)], q.2) else evE F C b ρ q.2) = some (ws, μ') := e
    have h : one b = true := h
    obtain ⟨p, _, e⟩ := Option.bind_eq_some_iff.mp e
    obtain ⟨q, _, e⟩ := Option.bind_eq_some_iff.mp e
    split at e
    · cases e; exact ⟨_, rfl⟩
    · exact evE_one h e
  | .not a, ρ, μ, ws, μ', _, e => by
    have e : (evE F C a ρ μ).bind (fun p => (bool1 p).map fun q => ([.d (.bool (!q.1))], q.2)) = some (ws, μ') := e
    obtain ⟨p, _, h⟩ := Option.bind_eq_some_iff.mp e
    obtain ⟨r, _, h⟩ := Option.map_eq_some_iff.mp h
    cases h
    exact ⟨_, rfl⟩
  | .chain o1 o2 a b c, ρ, μ, ws, μ', _, e => by
    unfold evE at e
    obtain ⟨p, _, e⟩ := Option.bind_eq_some_iff.mp e
    obtain ⟨q, _, e⟩ := Option.bind_eq_some_iff.mp e
    obtain ⟨cs, _, e⟩ := Option.bind_eq_some_iff.mp e
    obtain ⟨r, _, e⟩ := Option.bind_eq_some_iff.mp e
    split at e
    · obtain ⟨s, _, e⟩ := Option.bind_eq_some_iff.mp e
      obtain ⟨cs, _, e⟩ := Option.bind_eq_some_iff.mp e
      obtain ⟨r, _, e⟩ := Option.map_eq_some_iff.mp e
      exact fin_one e
    · cases e; exact ⟨_, rfl⟩
    · cases e
  | .comp elt t ik its conds, ρ, μ, ws, μ', _, e => by
    unfold evE at e
    obtain ⟨p, _, e⟩ := Option.bind_eq_some_iff.mp e
    obtain ⟨q, _, e⟩ := Option.bind_eq_some_iff.mp e
    obtain ⟨cs, _, e⟩ := Option.bind_eq_some_iff.mp e
    obtain ⟨r, _, e⟩ := Option.bind_eq_some_iff.mp e
    obtain ⟨r, _, e⟩ := Option.map_eq_some_iff.mp e
    exact fin_one e

section
variable {hid as as1 : List Addr} {H H1 : Hp} {μ μ1 : Store}
theorem Live.of (S : St3 K hid as H μ) {p : Addr} (hp : H p = none) : p ∉ hid ++ as := fun m => by
  rcases List.mem_append.mp m with m | m
  · obtain ⟨xs, q⟩ := S.hidc p m
    rw [hp] at q; cases q
  · obtain ⟨xs, q⟩ := S.asl m
    rw [hp] at q; cases q
theorem Evo.none (ev : Evo as H as1 H1) {p : Addr} (hp : H1 p = none) (hn : p ∉ as) : H p = none := by
  cases q : H p with
  | none => rfl
  | some o => rw [ev.keep p o q hn] at hp; cases hp
/-- what was made on the way is dropped, a new list kept -/
theorem new_ok (S : St3 K hid as H μ) (px : as <+: as1) (ev : Evo as H as1 H1) (S1 : St3 K hid as1 H1 μ1) {p : Addr} {H2 : Hp} {xs : List V} {ds : List PyData} (hp : H1 p = none) (same : ∀ b o, H1 b = some o → H2 b = some o)
    (e : H2 p = some (.lst xs)) (rp : RpAll K (hid ++ as) H1 xs ds) : Evo as H (as ++ [p]) H2 ∧ St3 K hid (as ++ [p]) H2 (μ1.take μ.length ++ [ds]) ∧ (as ++ [p])[μ.length]? = some p := by
  have np : p ∉ hid ++ as1 := Live.of S1 hp
  have np0 : p ∉ hid ++ as := fun m => np (by
    rcases List.mem_append.mp m with m | m
    · exact List.mem_append_left _ m
    · exact List.mem_append_right _ (px.subset m))
  have up : ∀ {zs : List V} {es : List PyData}, RpAll K (hid ++ as) H1 zs es → RpAll K (hid ++ (as ++ [p])) H2 zs es := fun {zs es} r => by
    refine RpAll.mono (fun a ys hn hr => ?_) (fun a ys hs => ?_) es zs r
    · have ne : a ≠ p := fun z => by
        subst z
        rcases hr with q | ⟨o, q⟩
        · rw [hp] at q; cases q
        · rw [hp] at q; cases q
      refine ⟨fun m => ?_, hr.imp (same _ _) fun ⟨o, q⟩ => ⟨o, same _ _ q⟩⟩
      rw [← List.append_assoc] at m
      rcases List.mem_append.mp m with m | m
      · exact hn m
      · exact ne (by simpa using m)
    · exact hs.imp (fun q => q.imp (same _ _) fun ⟨o, q⟩ => ⟨o, same _ _ q⟩) id
  refine ⟨⟨fun b o h n => same _ _ (ev.keep b o h fun m => n m), fun b m => ?_⟩, ?_, ?_⟩
  · rcases List.mem_append.mp m with m | m
    · exact .inl m
    · have : b = p := by simpa using m
      subst this
      exact .inr (ev.none hp fun m => np0 (List.mem_append_right _ m))
  · have S2 := (S1.same same).cut px
    rw [S.len] at S2
    refine S2.more np0 e (up rp) fun i a q zs es h1 h2 h3 => ?_
    obtain ⟨zs', es', g1, g2, g3⟩ := (S1.cut px).cell i a q
    rw [S.len, h1] at g1
    cases g1
    rw [same _ _ g2] at h2
    cases h2
    exact up g3
  · rw [← S.len, List.getElem?_append_right (Nat.le_refl _)]
    simp
theorem cut_ok (S : St3 K hid as H μ) (px : as <+: as1) (ev : Evo as H as1 H1) (S1 : St3 K hid as1 H1 μ1) {H2 : Hp} (same : ∀ b o, H1 b = some o → H2 b = some o) : Evo as H as H2 ∧ St3 K hid as H2 (μ1.take μ.length) := by
  refine ⟨(ev.trans (Evo.same same)).cut, ?_⟩
  have := (S1.same same).cut px
  rw [S.len] at this
  exact this
theorem post_fin {Q : VK} {w : Val} {μ' : Store} {r : Res} (S : St3 K hid as H μ) (px : as <+: as1) (ev : Evo as H as1 H1) (S1 : St3 K hid as1 H1 μ1) (hf : fin μ.length μ1 r = ([w], μ'))
    (k : ∀ v H' as', as <+: as' → Evo as H as' H' → St3 K hid as' H' μ' → RpV K hid as' H' v w → Q v H') : Post K (hid ++ as1) H1 Q r := by
  cases r with
  | d x =>
    cases hf
    intro v H2 same rp
    obtain ⟨a, b⟩ := cut_ok S px ev S1 same
    exact k v H2 as List.prefix_rfl a b (rp_cut px rp)
  | new ds =>
    cases hf
    intro p H2 xs hp same e rp
    obtain ⟨a, b, c⟩ := new_ok S px ev S1 hp same e (rps_cut px rp)
    exact k (.ref p) H2 (as ++ [p]) (List.prefix_append ..) a b ⟨p, rfl, c⟩
/-- a list made since, put away -/
theorem rp_frz (S : St3 K hid as H μ) (px : as <+: as1) (S1 : St3 K hid as1 H1 μ1) : ∀ {w : Val} {v : V} {c : PyData}, RpV K hid as1 H1 v w → frz μ.length μ1 w = some c → Rp K (hid ++ as) H1 v c
  | .d x, v, c, r, e => by
    have e : some x = some c := e
    cases e
    exact rp_cut px r
  | .l i, v, c, ⟨a, h1, h2⟩, e => by
    have e : (if μ.length ≤ i then (μ1[i]?).map PyData.list else none) = some c := e
    split at e
    · rename_i hi
      obtain ⟨ds, g1, g2⟩ := Option.map_eq_some_iff.mp e
      subst g2
      subst h1
      obtain ⟨xs, es, g3, g4, g5⟩ := S1.cell i a h2
      rw [g1] at g3
      cases g3
      refine .lst (fun m => ?_) (.inl g4) (rps_cut px g5)
      have nd := S1.nd
      obtain ⟨t, rfl⟩ := px
      rw [← S.len] at hi
      rw [List.getElem?_append_right hi] at h2
      have mt : a ∈ t := List.mem_of_getElem? h2
      rw [← List.append_assoc] at nd
      exact (List.nodup_append.mp nd).2.2 a m a mt rfl
    · cases e
theorem rps_frz (S : St3 K hid as H μ) (px : as <+: as1) (S1 : St3 K hid as1 H1 μ1) : ∀ {ws : List Val} {vs : List V} {cs : List PyData}, RpVs K hid as1 H1 vs ws → frzs μ.length μ1 ws = some cs → RpAll K (hid ++ as) H1 vs cs
  | [], _, cs, .nil, e => by
    have e : some [] = some cs := e
    cases e
    exact .nil
  | w :: ws, _, cs, .cons a b, e => by
    have e : (frz μ.length μ1 w).bind (fun x => (frzs μ.length μ1 ws).map (x :: ·)) = some cs := e
    obtain ⟨x, h1, h2⟩ := Option.bind_eq_some_iff.mp e
    obtain ⟨r, h3, h4⟩ := Option.map_eq_some_iff.mp h2
    subst h4
    exact .cons (rp_frz S px S1 a h1) (rps_frz S px S1 b h3)
/-- a value that is handed on, what was made besides dropped -/
theorem finV_ok {w w' : Val} {v : V} {μ' : Store} (S : St3 K hid as H μ) (px : as <+: as1) (ev : Evo as H as1 H1) (S1 : St3 K hid as1 H1 μ1) (r : RpV K hid as1 H1 v w) (hf : finV μ.length μ1 w = some (w', μ')) :
    ∃ as', as <+: as' ∧ Evo as H as' H1 ∧ St3 K hid as' H1 μ' ∧ RpV K hid as' H1 v w' := by
  obtain ⟨c1, c2⟩ := cut_ok S px ev S1 (fun _ _ h => h)
  cases w with
  | d x =>
    have e : some (Val.d x, μ1.take μ.length) = some (w', μ') := hf
    cases e
    exact ⟨as, List.prefix_rfl, c1, c2, rp_cut px r⟩
  | l i =>
    obtain ⟨a, h1, h2⟩ := r
    have e : (if i < μ.length then some (Val.l i, μ1.take μ.length) else (μ1[i]?).map fun ds => (Val.l μ.length, μ1.take μ.length ++ [ds])) = some (w', μ') := hf
    split at e
    · rename_i hi
      cases e
      refine ⟨as, List.prefix_rfl, c1, c2, a, h1, ?_⟩
      obtain ⟨t, rfl⟩ := px
      rw [List.getElem?_append_left (by rw [S.len]; exact hi)] at h2
      exact h2
    · rename_i hi
      obtain ⟨ds, g1, g2⟩ := Option.map_eq_some_iff.mp e
      cases g2
      obtain ⟨xs, es, g3, g4, g5⟩ := S1.cell i a h2
      rw [g1] at g3
      cases g3
      have ma : a ∈ as1 := List.mem_of_getElem? h2
      have na : a ∉ hid ++ as := fun m => by
        have nd := S1.nd
        obtain ⟨t, rfl⟩ := px
        rw [List.getElem?_append_right (by rw [S.len]; omega)] at h2
        rw [← List.append_assoc] at nd
        exact (List.nodup_append.mp nd).2.2 a m a (List.mem_of_getElem? h2) rfl
      have sub : ∀ b, b ∈ hid ++ (as ++ [a]) → b ∈ hid ++ as1 := fun b m => by
        rcases List.mem_append.mp m with m | m
        · exact List.mem_append_left _ m
        · rcases List.mem_append.mp m with m | m
          · exact List.mem_append_right _ (px.subset m)
          · have : b = a := by simpa using m
            subst this
            exact List.mem_append_right _ ma
      have dn : ∀ {zs : List V} {es : List PyData}, RpAll K (hid ++ as1) H1 zs es → RpAll K (hid ++ (as ++ [a])) H1 zs es := fun {zs es} r =>
        RpAll.mono (fun b ys hn hr => ⟨fun m => hn (sub b m), hr⟩) (fun _ _ h => h) es zs r
      refine ⟨as ++ [a], List.prefix_append .., ⟨fun b o h n => ev.keep b o h n, fun b m => ?_⟩, c2.more na g4 (dn g5) fun j b q zs es h3 h4 h5 => ?_, a, h1, ?_⟩
      · rcases List.mem_append.mp m with m | m
        · exact .inl m
        · have : b = a := by simpa using m
          subst this
          exact ev.new b ma
      · obtain ⟨zs', es', f1, f2, f3⟩ := S1.cell j b (getp px q)
        rw [f2] at h4
        cases h4
        have hj : j < μ.length := by
          rw [← S.len]
          exact (List.getElem?_eq_some_iff.mp q).1
        rw [List.getElem?_take_of_lt hj, f1] at h3
        cases h3
        exact dn f3
      · rw [← S.len, List.getElem?_append_right (Nat.le_refl _)]
        simp
end

/-! ### the forms -/
variable {σ : L2.St} {H : Hp}
theorem spA_nil {Q : List V → Hp → Prop} (h : spA F C K .nil σ H Q) : Q [] H := by
  obtain ⟨hid, as, μ, ρ, ws, μ', S, R, e, k⟩ := h
  have e : some ([], μ) = some (ws, μ') := e
  cases e
  exact k [] H as List.prefix_rfl Evo.refl S .nil
theorem spA_cons {h t : E} {Q : List V → Hp → Prop} (h1 : one h = true) (x : spA F C K (.cons h t) σ H Q) : sp1 F C K h σ H fun x H1 => spA F C K t σ H1 fun xs H2 => Q (x :: xs) H2 := by
  obtain ⟨hid, as, μ, ρ, ws, μ', S, R, e, k⟩ := x
  have e : (evE F C h ρ μ).bind (fun p => (evE F C t ρ p.2).map fun q => (p.1 ++ q.1, q.2)) = some (ws, μ') := e
  obtain ⟨⟨p1, p2⟩, e1, ez⟩ := Option.bind_eq_some_iff.mp e; clear e; have e := ez; clear ez
  obtain ⟨⟨q1, q2⟩, e2, ez⟩ := Option.map_eq_some_iff.mp e; clear e; have e := ez; clear ez
  obtain ⟨w, rfl⟩ := evE_one h1 e1
  cases e
  exact ⟨hid, as, μ, ρ, w, p2, S, R, e1, fun v H1 as1 px ev S1 rv => ⟨hid, as1, p2, ρ, q1, q2, S1, R.evo S px ev, e2, fun vs H2 as2 px2 ev2 S2 rvs => k (v :: vs) H2 as2 (px.trans px2) (ev.trans ev2) S2 (.cons (ev2.rpv S1 px2 rv) rvs)⟩⟩
theorem spA_one {h : E} {Q : List V → Hp → Prop} (h1 : one h = true) (x : spA F C K (.cons h .nil) σ H Q) : sp1 F C K h σ H fun x H1 => Q [x] H1 := by
  obtain ⟨hid, as, μ, ρ, w, μ', S, R, e, k⟩ := spA_cons h1 x
  exact ⟨hid, as, μ, ρ, w, μ', S, R, e, fun v H1 as1 px ev S1 rv => spA_nil (k v H1 as1 px ev S1 rv)⟩
theorem sp1_mono {ir : E} {Q Q' : VK} (x : sp1 F C K ir σ H Q) (h : ∀ v H, Q v H → Q' v H) : sp1 F C K ir σ H Q' := by
  obtain ⟨hid, as, μ, ρ, w, μ', S, R, e, k⟩ := x
  exact ⟨hid, as, μ, ρ, w, μ', S, R, e, fun v H1 as1 px ev S1 rv => h _ _ (k v H1 as1 px ev S1 rv)⟩
theorem spA_two {a b : E} {Q : List V → Hp → Prop} (h1 : one a = true) (h2 : one b = true) (x : spA F C K (.cons a (.cons b .nil)) σ H Q) : sp1 F C K a σ H fun x H1 => sp1 F C K b σ H1 fun y H2 => Q [x, y] H2 :=
  sp1_mono (spA_cons h1 x) fun v H1 q => spA_one h2 q
theorem spA_three {a b c : E} {Q : List V → Hp → Prop} (h1 : one a = true) (h2 : one b = true) (h3 : one c = true) (x : spA F C K (.cons a (.cons b (.cons c .nil))) σ H Q) :
    sp1 F C K a σ H fun x H1 => sp1 F C K b σ H1 fun y H2 => sp1 F C K c σ H2 fun z H3 => Q [x, y, z] H3 :=
  sp1_mono (spA_cons h1 x) fun v H1 q => spA_two h2 h3 q
theorem sp_op {o : Op} {es : E} {Q : VK} (x : sp1 F C K (.op o es) σ H Q) : spA F C K es σ H fun vs H' => rOp K o vs H' Q := by
  obtain ⟨hid, as, μ, ρ, w, μ', S, R, e, k⟩ := x
  have e : (evE F C es ρ μ).bind (fun p => (conts p.2 p.1).bind fun cs => (o.run cs).map fun r => fin μ.length p.2 r) = some ([w], μ') := e
  obtain ⟨⟨p1, p2⟩, e1, ez⟩ := Option.bind_eq_some_iff.mp e; clear e; have e := ez; clear ez
  obtain ⟨cs, e2, ez⟩ := Option.bind_eq_some_iff.mp e; clear e; have e := ez; clear ez
  obtain ⟨r, e3, e4⟩ := Option.map_eq_some_iff.mp e
  exact ⟨hid, as, μ, ρ, p1, p2, S, R, e1, fun vs H1 as1 px ev S1 rv => ⟨hid ++ as1, cs, r, S1.rcs rv e2, e3, post_fin S px ev S1 e4 k⟩⟩
theorem sp_tup {es : E} {Q : VK} (x : sp1 F C K (.tup es) σ H Q) : tTup (spA F C K es) σ H Q := by
  obtain ⟨hid, as, μ, ρ, w, μ', S, R, e, k⟩ := x
  have e : (evE F C es ρ μ).bind (fun p => (frzs μ.length p.2 p.1).bind fun cs => if cs.length ≤ sizeMax then some (fin μ.length p.2 (.d (.tuple cs))) else none) = some ([w], μ') := e
  obtain ⟨⟨p1, p2⟩, e1, ez⟩ := Option.bind_eq_some_iff.mp e; clear e; have e := ez; clear ez
  obtain ⟨cs, e2, ez⟩ := Option.bind_eq_some_iff.mp e; clear e; have e := ez; clear ez
  split at e
  · rename_i hz
    cases e
    refine ⟨hid, as, μ, ρ, p1, p2, S, R, e1, fun vs H1 as1 px ev S1 rv => ?_⟩
    have rp := rps_frz S px S1 rv e2
    refine ⟨by rw [rp.length]; exact szm hz, fun p hp => ?_⟩
    obtain ⟨a, b⟩ := cut_ok S px ev S1 (same_new (o := .tup vs) hp)
    exact k _ _ as List.prefix_rfl a b (.tup (.inl (.inl upd_same)) (rps_new hp rp))
  · cases e
theorem sp_lst {es : E} {Q : VK} (x : sp1 F C K (.lst es) σ H Q) : tLst (spA F C K es) σ H Q := by
  obtain ⟨hid, as, μ, ρ, w, μ', S, R, e, k⟩ := x
  have e : (evE F C es ρ μ).bind (fun p => (frzs μ.length p.2 p.1).bind fun cs => if cs.length ≤ sizeMax then some (fin μ.length p.2 (.new cs)) else none) = some ([w], μ') := e
  obtain ⟨⟨p1, p2⟩, e1, ez⟩ := Option.bind_eq_some_iff.mp e; clear e; have e := ez; clear ez
  obtain ⟨cs, e2, ez⟩ := Option.bind_eq_some_iff.mp e; clear e; have e := ez; clear ez
  split at e
  · rename_i hz
    cases e
    refine ⟨hid, as, μ, ρ, p1, p2, S, R, e1, fun vs H1 as1 px ev S1 rv => ?_⟩
    have rp := rps_frz S px S1 rv e2
    refine ⟨by rw [rp.length]; exact szm hz, fun p hp => ?_⟩
    obtain ⟨a, b, c⟩ := new_ok S px ev S1 hp (same_new (o := .lst vs) hp) upd_same rp
    exact k _ _ (as ++ [p]) (List.prefix_append ..) a b ⟨p, rfl, c⟩
  · cases e
theorem sp_call {f : Nat} {es : E} {Q : VK} (x : sp1 F C K (.call f es) σ H Q) : tCB (spF K F f) (spA F C K es) σ H Q := by
  obtain ⟨hid, as, μ, ρ, w, μ', S, R, e, k⟩ := x
  have e : (evE F C es ρ μ).bind (fun p => (F f p.1 p.2).bind fun q => (finV μ.length q.2 q.1).map fun r => ([r.1], r.2)) = some ([w], μ') := e
  obtain ⟨⟨p1, p2⟩, e1, ez⟩ := Option.bind_eq_some_iff.mp e; clear e; have e := ez; clear ez
  obtain ⟨⟨q1, q2⟩, e2, ez⟩ := Option.bind_eq_some_iff.mp e; clear e; have e := ez; clear ez
  obtain ⟨⟨r1, r2⟩, e3, e4⟩ := Option.map_eq_some_iff.mp e
  cases e4
  refine ⟨hid, as, μ, ρ, p1, p2, S, R, e1, fun vs H1 as1 px ev S1 rv => ⟨hid, as1, p2, p1, q1, q2, S1, rv, e2, fun v H2 as2 px2 ev2 S2 rv2 => ?_⟩⟩
  obtain ⟨as', a, b, c, d⟩ := finV_ok S (px.trans px2) (ev.trans ev2) S2 rv2 e3
  exact k v H2 as' a b c d
theorem spT_sp1 {ir : E} {Q : Bool → Hp → Prop} (x : spT F C K ir σ H Q) : sp1 F C K ir σ H fun x H1 => ∃ c, x = .bl c ∧ Q c H1 := by
  obtain ⟨hid, as, μ, ρ, c, μ', S, R, e, k⟩ := x
  refine ⟨hid, as, μ, ρ, _, μ', S, R, e, fun v H1 as1 px ev S1 rv => ?_⟩
  have rv : Rp K (hid ++ as1) H1 v (.bool c) := rv
  cases rv
  exact ⟨c, rfl, k H1 as1 px ev S1⟩
theorem sp_var {i : Nat} {Q : VK} (x : sp1 F C K (.var i) σ H Q) : tVar i σ H Q := by
  obtain ⟨hid, as, μ, ρ, w, μ', S, R, e, k⟩ := x
  have e : ((ρ[i]?).bind id).map (fun v => ([v], μ)) = some ([w], μ') := e
  obtain ⟨v, e1, e2⟩ := Option.map_eq_some_iff.mp e
  cases e2
  obtain ⟨o, e3, e4⟩ := Option.bind_eq_some_iff.mp e1
  have e4 : o = some w := e4
  subst e4
  obtain ⟨v, h1, h2⟩ := R.at_ i w e3
  exact ⟨v, h1, k v H as List.prefix_rfl Evo.refl S h2⟩
theorem sp_k {x : PyData} {v : V} {Q : VK} (hv : ∀ L H, Rp K L H v x) (y : sp1 F C K (.k x) σ H Q) : tC v σ H Q := by
  obtain ⟨hid, as, μ, ρ, w, μ', S, R, e, k⟩ := y
  have e : some ([Val.d x], μ) = some ([w], μ') := e
  cases e
  exact k v H as List.prefix_rfl Evo.refl S (hv _ _)
theorem sp_glob {i : Nat} {x : PyData} {v : V} {Q : VK} (hc : C[i]? = some x) (hv : ∀ L H, Rp K L H v x) (y : sp1 F C K (.glob i) σ H Q) : tC v σ H Q := by
  obtain ⟨hid, as, μ, ρ, w, μ', S, R, e, k⟩ := y
  have e : (C[i]?).map (fun x => ([Val.d x], μ)) = some ([w], μ') := e
  rw [hc] at e
  cases e
  exact k v H as List.prefix_rfl Evo.refl S (hv _ _)
theorem sp_ite {c a b : E} {Q : VK} (x : sp1 F C K (.ite c a b) σ H Q) : tIf (spT F C K c) (sp1 F C K a) (sp1 F C K b) σ H Q := by
  obtain ⟨hid, as, μ, ρ, w, μ', S, R, e, k⟩ := x
  have e : (evE F C c ρ μ).bind (fun p => (bool1 p).bind fun q => if q.1 then evE F C a ρ q.2 else evE F C b ρ q.2) = some ([w], μ') := e
  obtain ⟨p, e1, ez⟩ := Option.bind_eq_some_iff.mp e; clear e; have e := ez; clear ez
  obtain ⟨⟨q1, q2⟩, e2, ez⟩ := Option.bind_eq_some_iff.mp e; clear e; have e := ez; clear ez
  have e2 := bool1_some e2
  subst e2
  refine ⟨hid, as, μ, ρ, q1, q2, S, R, e1, fun H1 as1 px ev S1 => ?_⟩
  have go : ∀ {d : E}, evE F C d ρ q2 = some ([w], μ') → sp1 F C K d σ H1 Q := fun {d} e => ⟨hid, as1, q2, ρ, w, μ', S1, R.evo S px ev, e, fun v H2 as2 px2 ev2 S2 rv => k v H2 as2 (px.trans px2) (ev.trans ev2) S2 rv⟩
  show if q1 = true then _ else _
  cases q1
  · rw [if_neg (by simp)] at e ⊢
    exact go e
  · rw [if_pos rfl] at e ⊢
    exact go e
theorem sp_and {a b : E} {Q : VK} (x : sp1 F C K (.and a b) σ H Q) : tAndV (sp1 F C K a) (sp1 F C K b) σ H Q := by
  obtain ⟨hid, as, μ, ρ, w, μ', S, R, e, k⟩ := x
  have e : (evE F C a ρ μ).bind (fun p => (bool1 p).bind fun q => if q.1 then evE F C b ρ q.2 else some ([.d (.bool false)], q.2)) = some ([w], μ') := e
  obtain ⟨p, e1, ez⟩ := Option.bind_eq_some_iff.mp e; clear e; have e := ez; clear ez
  obtain ⟨⟨q1, q2⟩, e2, ez⟩ := Option.bind_eq_some_iff.mp e; clear e; have e := ez; clear ez
  have e2 := bool1_some e2
  subst e2
  refine ⟨hid, as, μ, ρ, _, q2, S, R, e1, fun v H1 as1 px ev S1 rv => ?_⟩
  have rv : Rp K (hid ++ as1) H1 v (.bool q1) := rv
  cases rv
  refine ⟨q1, rfl, ?_⟩
  cases q1
  · rw [if_neg (by simp)] at e ⊢
    cases e
    exact k _ H1 as1 px ev S1 (.bl _)
  · rw [if_pos rfl] at e ⊢
    exact ⟨hid, as1, q2, ρ, w, μ', S1, R.evo S px ev, e, fun v H2 as2 px2 ev2 S2 rv => k v H2 as2 (px.trans px2) (ev.trans ev2) S2 rv⟩
theorem sp_or {a b : E} {Q : VK} (x : sp1 F C K (.or a b) σ H Q) : tOrV (sp1 F C K a) (sp1 F C K b) σ H Q := by
  obtain ⟨hid, as, μ, ρ, w, μ', S, R, e, k⟩ := x
  have e : (evE F C a ρ μ).bind (fun p => (bool1 p).bind fun q => if q.1 then some ([.d (.bool true)], q.2) else evE F C b ρ q.2) = some ([w], μ') := e
  obtain ⟨p, e1, ez⟩ := Option.bind_eq_some_iff.mp e; clear e; have e := ez; clear ez
  obtain ⟨⟨q1, q2⟩, e2, ez⟩ := Option.bind_eq_some_iff.mp e; clear e; have e := ez; clear ez
  have e2 := bool1_some e2
  subst e2
  refine ⟨hid, as, μ, ρ, _, q2, S, R, e1, fun v H1 as1 px ev S1 rv => ?_⟩
  have rv : Rp K (hid ++ as1) H1 v (.bool q1) := rv
  cases rv
  refine ⟨q1, rfl, ?_⟩
  cases q1
  · rw [if_neg (by simp)] at e ⊢
    exact ⟨hid, as1, q2, ρ, w, μ', S1, R.evo S px ev, e, fun v H2 as2 px2 ev2 S2 rv => k v H2 as2 (px.trans px2) (ev.trans ev2) S2 rv⟩
  · rw [if_pos rfl] at e ⊢
    cases e
    exact k _ H1 as1 px ev S1 (.bl _)
theorem sp_not {a : E} {Q : VK} (x : sp1 F C K (.not a) σ H Q) : tNotV (sp1 F C K a) σ H Q := by
  obtain ⟨hid, as, μ, ρ, w, μ', S, R, e, k⟩ := x
  have e : (evE F C a ρ μ).bind (fun p => (bool1 p).map fun q => ([.d (.bool (!q.1))], q.2)) = some ([w], μ') := e
  obtain ⟨p, e1, ez⟩ := Option.bind_eq_some_iff.mp e; clear e; have e := ez; clear ez
  obtain ⟨⟨q1, q2⟩, e2, ez⟩ := Option.map_eq_some_iff.mp e; clear e; have e := ez; clear ez
  have e2 := bool1_some e2
  subst e2
  cases e
  refine ⟨hid, as, μ, ρ, _, q2, S, R, e1, fun v H1 as1 px ev S1 rv => ?_⟩
  have rv : Rp K (hid ++ as1) H1 v (.bool q1) := rv
  cases rv
  exact ⟨q1, rfl, k _ H1 as1 px ev S1 (.bl _)⟩
theorem spT_and {a b : E} {Q : Bool → Hp → Prop} (x : spT F C K (.and a b) σ H Q) : tAnd (spT F C K a) (spT F C K b) σ H Q := by
  obtain ⟨hid, as, μ, ρ, w, μ', S, R, e, k⟩ := x
  have e : (evE F C a ρ μ).bind (fun p => (bool1 p).bind fun q => if q.1 then evE F C b ρ q.2 else some ([.d (.bool false)], q.2)) = some ([.d (.bool w)], μ') := e
  obtain ⟨p, e1, ez⟩ := Option.bind_eq_some_iff.mp e; clear e; have e := ez; clear ez
  obtain ⟨⟨q1, q2⟩, e2, ez⟩ := Option.bind_eq_some_iff.mp e; clear e; have e := ez; clear ez
  have e2 := bool1_some e2
  subst e2
  refine ⟨hid, as, μ, ρ, _, q2, S, R, e1, fun H1 as1 px ev S1 => ?_⟩
  cases q1
  · rw [if_neg (by simp)] at e ⊢
    cases e
    exact k H1 as1 px ev S1
  · rw [if_pos rfl] at e ⊢
    exact ⟨hid, as1, q2, ρ, w, μ', S1, R.evo S px ev, e, fun H2 as2 px2 ev2 S2 => k H2 as2 (px.trans px2) (ev.trans ev2) S2⟩
theorem spT_or {a b : E} {Q : Bool → Hp → Prop} (x : spT F C K (.or a b) σ H Q) : tOr (spT F C K a) (spT F C K b) σ H Q := by
  obtain ⟨hid, as, μ, ρ, w, μ', S, R, e, k⟩ := x
  have e : (evE F C a ρ μ).bind (fun p => (bool1 p).bind fun q => if q.1 then some ([.d (.bool true)], q.2) else evE F C b ρ q.2) = some ([.d (.bool w)], μ') := e
  obtain ⟨p, e1, ez⟩ := Option.bind_eq_some_iff.mp e; clear e; have e := ez; clear ez
  obtain ⟨⟨q1, q2⟩, e2, ez⟩ := Option.bind_eq_some_iff.mp e; clear e; have e := ez; clear ez
  have e2 := bool1_some e2
  subst e2
  refine ⟨hid, as, μ, ρ, _, q2, S, R, e1, fun H1 as1 px ev S1 => ?_⟩
  cases q1
  · rw [if_neg (by simp)] at e ⊢
    exact ⟨hid, as1, q2, ρ, w, μ', S1, R.evo S px ev, e, fun H2 as2 px2 ev2 S2 => k H2 as2 (px.trans px2) (ev.trans ev2) S2⟩
  · rw [if_pos rfl] at e ⊢
    cases e
    exact k H1 as1 px ev S1
theorem spT_not {a : E} {Q : Bool → Hp → Prop} (x : spT F C K (.not a) σ H Q) : tNot (spT F C K a) σ H Q := by
  obtain ⟨hid, as, μ, ρ, w, μ', S, R, e, k⟩ := x
  have e : (evE F C a ρ μ).bind (fun p => (bool1 p).map fun q => ([Val.d (.bool (!q.1))], q.2)) = some ([Val.d (.bool w)], μ') := e
  obtain ⟨p, e1, ez⟩ := Option.bind_eq_some_iff.mp e; clear e; have e := ez; clear ez
  obtain ⟨⟨q1, q2⟩, e2, ez⟩ := Option.map_eq_some_iff.mp e; clear e; have e := ez; clear ez
  have e2 := bool1_some e2
  subst e2
  cases e
  exact ⟨hid, as, μ, ρ, _, q2, S, R, e1, fun H1 as1 px ev S1 => k H1 as1 px ev S1⟩
theorem sp_chain {o1 o2 : Op} {a b c : E} {Q : VK} (h1 : one a = true) (h2 : one b = true) (h3 : one c = true) (x : sp1 F C K (.chain o1 o2 a b c) σ H Q) : tChain (r2 K o1) (r2 K o2) (sp1 F C K a) (sp1 F C K b) (sp1 F C K c) σ H Q := by
  obtain ⟨hid, as, μ, ρ, w, μ', S, R, e, k⟩ := x
  unfold evE at e
  replace ⟨⟨p1, p2⟩, e1, e⟩ := Option.bind_eq_some_iff.mp e
  replace ⟨⟨q1, q2⟩, e2, e⟩ := Option.bind_eq_some_iff.mp e
  replace ⟨cs, e3, e⟩ := Option.bind_eq_some_iff.mp e
  replace ⟨r, e4, ez⟩ := Option.bind_eq_some_iff.mp e
  clear e
  obtain ⟨w1, rfl⟩ := evE_one h1 e1
  obtain ⟨w2, rfl⟩ := evE_one h2 e2
  refine ⟨hid, as, μ, ρ, w1, p2, S, R, e1, fun v H1 as1 px1 ev1 S1 rv1 => ⟨hid, as1, p2, ρ, w2, q2, S1, R.evo S px1 ev1, e2, fun u H2 as2 px2 ev2 S2 rv2 => ?_⟩⟩
  refine ⟨hid ++ as2, cs, r, S2.rcs (.cons (ev2.rpv S1 px2 rv1) (.cons rv2 .nil)) e3, e4, ?_⟩
  split at ez
  · obtain ⟨⟨s1, s2⟩, e5, ez2⟩ := Option.bind_eq_some_iff.mp ez
    obtain ⟨cs2, e6, ez3⟩ := Option.bind_eq_some_iff.mp ez2
    obtain ⟨r', e7, e8⟩ := Option.map_eq_some_iff.mp ez3
    obtain ⟨w3, rfl⟩ := evE_one h3 e5
    intro z H3 same rz
    cases rz
    refine ⟨true, rfl, ?_⟩
    rw [if_pos rfl]
    have ev3 : Evo as H as2 H3 := (ev1.trans ev2).trans (Evo.same same)
    refine ⟨hid, as2, q2, ρ, w3, s2, S2.same same, R.evo S (px1.trans px2) ev3, e5, fun x H4 as4 px4 ev4 S4 rv4 => ?_⟩
    have rv2' : RpV K hid as4 H4 u w2 := ev4.rpv (S2.same same) px4 ((Evo.same same).rpv S2 List.prefix_rfl rv2)
    exact ⟨hid ++ as4, cs2, r', S4.rcs (.cons rv2' (.cons rv4 .nil)) e6, e7, post_fin S ((px1.trans px2).trans px4) (ev3.trans ev4) S4 e8 k⟩
  · cases ez
    intro z H3 same rz
    cases rz
    refine ⟨false, rfl, ?_⟩
    rw [if_neg (by simp)]
    obtain ⟨c1, c2⟩ := cut_ok S (px1.trans px2) (ev1.trans ev2) S2 same
    exact k _ H3 as List.prefix_rfl c1 c2 (.bl _)
  · cases ez
end
end Cz
set_option Elab.async false
set_option linter.all false
set_option maxRecDepth 100000
set_option maxHeartbeats 4000000
/-! Loops: list comprehensions, for, while; statements. -/
namespace Cz
open PySem PySem.Spec PyProof.Rows L2
mutual
theorem eqD_eq : ∀ (x y : PyData), eqD x y = true → x = y
  | .none, y, h => by
    cases y with
    | none => rfl
    | _ => simp [eqD] at h
  | .bool a, y, h => by
    cases y with
    | bool b => simp [eqD] at h; rw [h]
    | _ => simp [eqD] at h
  | .int a, y, h => by
    cases y with
    | int b => simp [eqD] at h; rw [h]
    | _ => simp [eqD] at h
  | .str a, y, h => by
    cases y with
    | str b => simp [eqD] at h; rw [h]
    | _ => simp [eqD] at h
  | .list a, y, h => by
    cases y with
    | list b => simp only [eqD] at h; rw [eqDs_eq a b h]
    | _ => simp [eqD] at h
  | .tuple a, y, h => by
    cases y with
    | tuple b => simp only [eqD] at h; rw [eqDs_eq a b h]
    | _ => simp [eqD] at h
  | .dict a, y, h => by
    cases y <;> simp [eqD] at h
theorem eqDs_eq : ∀ (x y : List PyData), eqDs x y = true → x = y
  | [], y, h => by
    cases y with
    | nil => rfl
    | cons _ _ => simp [eqDs] at h
  | a :: r, y, h => by
    cases y with
    | nil => simp [eqDs] at h
    | cons b s =>
      simp only [eqDs, Bool.and_eq_true] at h
      rw [eqD_eq a b h.1, eqDs_eq r s h.2]
end
section
variable {K : PySem.W.Frag} {hid as as1 : List Addr} {H H1 : Hp} {μ μ1 : Store} {σ : L2.St} {ρ : Slots} {D : Addr}
/-! ### a list hidden -/
theorem rp_hide (hD : H D = none) {o : HO} {v : V} {d : PyData} (r : Rp K (hid ++ as) H v d) : Rp K ((D :: hid) ++ as) (upd H D o) v d := by
  refine Rp.mono (fun a ys hn hr => ⟨fun m => ?_, hr.imp (same_new hD _ _) fun ⟨o, q⟩ => ⟨o, same_new hD _ _ q⟩⟩) (fun a ys hs => hs.imp (fun q => q.imp (same_new hD _ _) fun ⟨o, q⟩ => ⟨o, same_new hD _ _ q⟩) id) d v r
  rcases List.mem_cons.mp m with m | m
  · subst m
    rcases hr with q | ⟨o, q⟩ <;> exact absurd (q.symm.trans hD) (by simp)
  · exact hn m
theorem rps_hide (hD : H D = none) {o : HO} : ∀ {ds : List PyData} {vs : List V}, RpAll K (hid ++ as) H vs ds → RpAll K ((D :: hid) ++ as) (upd H D o) vs ds
  | [], _, h => by cases h; exact .nil
  | _ :: _, _, h => by
    cases h with
    | cons a b => exact .cons (rp_hide hD a) (rps_hide hD b)
theorem rpv_hide (hD : H D = none) {o : HO} {v : V} : ∀ {w : Val}, RpV K hid as H v w → RpV K (D :: hid) as (upd H D o) v w
  | .d x, r => rp_hide hD r
  | .l i, r => r
theorem rpvs_hide (hD : H D = none) {o : HO} : ∀ {vs : List V} {ws : List Val}, RpVs K hid as H vs ws → RpVs K (D :: hid) as (upd H D o) vs ws
  | _, _, .nil => .nil
  | _, _, .cons a b => .cons (rpv_hide hD a) (rpvs_hide hD b)
theorem EnvOk.hide (hD : H D = none) {o : HO} (R : EnvOk K hid as H σ ρ) : EnvOk K (D :: hid) as (upd H D o) σ ρ :=
  ⟨R.len, fun i w q => let ⟨v, h1, h2⟩ := R.at_ i w q; ⟨v, h1, rpv_hide hD h2⟩⟩
theorem St3.hide (S : St3 K hid as H μ) (hD : H D = none) (xs : List V) : St3 K (D :: hid) as (upd H D (.lst xs)) μ where
  nd := List.nodup_cons.mpr ⟨Live.of S hD, S.nd⟩
  len := S.len
  cell := fun i a q => let ⟨ys, ds, h1, h2, h3⟩ := S.cell i a q; ⟨ys, ds, h1, same_new hD _ _ h2, rps_hide hD h3⟩
  hidc := fun a m => by
    rcases List.mem_cons.mp m with m | m
    · subst m
      exact ⟨xs, upd_same⟩
    · obtain ⟨ys, q⟩ := S.hidc a m
      exact ⟨ys, same_new hD _ _ q⟩
theorem rps_sub {L L' : List Addr} (h : ∀ a ∈ L', a ∈ L) {ds : List PyData} {vs : List V} (r : RpAll K L H vs ds) : RpAll K L' H vs ds :=
  RpAll.mono (fun a ys hn hr => ⟨fun m => hn (h a m), hr⟩) (fun _ _ h => h) ds vs r
theorem rp_sub {L L' : List Addr} (h : ∀ a ∈ L', a ∈ L) {d : PyData} {v : V} (r : Rp K L H v d) : Rp K L' H v d :=
  Rp.mono (fun a ys hn hr => ⟨fun m => hn (h a m), hr⟩) (fun _ _ h => h) d v r
/-- .. and shown: the store's last list -/
theorem St3.reveal (S : St3 K (D :: hid) as H μ) {xs : List V} {ds : List PyData} (e : H D = some (.lst xs)) (r : RpAll K ((D :: hid) ++ as) H xs ds) : St3 K hid (as ++ [D]) H (μ ++ [ds]) := by
  have sub : ∀ a ∈ hid ++ (as ++ [D]), a ∈ (D :: hid) ++ as := fun a m => by
    simp only [List.mem_append, List.mem_cons, List.cons_append, List.not_mem_nil, or_false] at m ⊢
    rcases m with m | m | m
    · exact .inr (.inl m)
    · exact .inr (.inr m)
    · exact .inl m
  have nd := List.nodup_cons.mp S.nd
  refine ⟨?_, by simp [S.len], fun i a q => ?_, fun a m => S.hidc a (List.mem_cons_of_mem _ m)⟩
  · rw [← List.append_assoc]
    refine List.nodup_append.mpr ⟨nd.2, by simp, fun a ha b hb => ?_⟩
    have : b = D := by simpa using hb
    subst this
    rintro rfl
    exact nd.1 ha
  · by_cases hi : i < as.length
    · rw [List.getElem?_append_left hi] at q
      obtain ⟨ys, es, h1, h2, h3⟩ := S.cell i a q
      exact ⟨ys, es, by rw [List.getElem?_append_left (by rw [← S.len]; exact hi)]; exact h1, h2, rps_sub sub h3⟩
    · have hi' : i = as.length := by
        have := (List.getElem?_eq_some_iff.mp q).1
        rw [List.length_append] at this
        simp at this
        omega
      subst hi'
      rw [List.getElem?_append_right (Nat.le_refl _)] at q
      simp at q
      subst q
      exact ⟨xs, ds, by rw [S.len, List.getElem?_append_right (Nat.le_refl _)]; simp, e, rps_sub sub r⟩
/-- a list that data cannot name, written -/
theorem rp_write {L : List Addr} (m : D ∈ L) {xs ys : List V} (e : H D = some (.lst xs)) {v : V} {d : PyData} (r : Rp K L H v d) : Rp K L (upd H D (.lst ys)) v d := by
  refine Rp.mono (fun a zs hn hr => ⟨hn, ?_⟩) (fun a zs hs => ?_) d v r
  · have ne : a ≠ D := fun z => hn (z ▸ m)
    exact hr.imp (fun q => by rw [upd_ne ne]; exact q) fun ⟨o, q⟩ => ⟨o, by rw [upd_ne ne]; exact q⟩
  · refine hs.imp (fun q => q.imp (fun q => ?_) fun ⟨o, q⟩ => ⟨o, ?_⟩) id
    · rw [upd_ne (fun z => by rw [z, e] at q; cases q)]; exact q
    · rw [upd_ne (fun z => by rw [z, e] at q; cases q)]; exact q
theorem rps_write {L : List Addr} (m : D ∈ L) {xs ys : List V} (e : H D = some (.lst xs)) : ∀ {ds : List PyData} {vs : List V}, RpAll K L H vs ds → RpAll K L (upd H D (.lst ys)) vs ds
  | [], _, h => by cases h; exact .nil
  | _ :: _, _, h => by
    cases h with
    | cons a b => exact .cons (rp_write m e a) (rps_write m e b)
theorem St3.writeHid (S : St3 K (D :: hid) as H μ) {xs ys : List V} (e : H D = some (.lst xs)) : St3 K (D :: hid) as (upd H D (.lst ys)) μ where
  nd := S.nd
  len := S.len
  cell := fun i a q => by
    obtain ⟨zs, ds, h1, h2, h3⟩ := S.cell i a q
    have ne : a ≠ D := fun z => by
      have := (List.nodup_cons.mp S.nd).1
      exact this (List.mem_append_right _ (z ▸ List.mem_of_getElem? q))
    exact ⟨zs, ds, h1, by rw [upd_ne ne]; exact h2, rps_write (by simp) e h3⟩
  hidc := fun a m => by
    by_cases z : a = D
    · subst z
      exact ⟨ys, upd_same⟩
    · obtain ⟨zs, q⟩ := S.hidc a m
      exact ⟨zs, by rw [upd_ne z]; exact q⟩
theorem rpv_write (m : D ∈ hid ++ as) {xs ys : List V} (e : H D = some (.lst xs)) {v : V} : ∀ {w : Val}, RpV K hid as H v w → RpV K hid as (upd H D (.lst ys)) v w
  | .d x, r => rp_write m e r
  | .l i, r => r
theorem rpvs_write (m : D ∈ hid ++ as) {xs ys : List V} (e : H D = some (.lst xs)) : ∀ {vs : List V} {ws : List Val}, RpVs K hid as H vs ws → RpVs K hid as (upd H D (.lst ys)) vs ws
  | _, _, .nil => .nil
  | _, _, .cons a b => .cons (rpv_write m e a) (rpvs_write m e b)
theorem EnvOk.write (m : D ∈ hid ++ as) {xs ys : List V} (e : H D = some (.lst xs)) (R : EnvOk K hid as H σ ρ) : EnvOk K hid as (upd H D (.lst ys)) σ ρ :=
  ⟨R.len, fun i w q => let ⟨v, h1, h2⟩ := R.at_ i w q; ⟨v, h1, rpv_write m e h2⟩⟩

/-! ### slots -/
theorem EnvOk.set (R : EnvOk K hid as H σ ρ) {v : V} {w : Val} (r : RpV K hid as H v w) (i : Nat) : EnvOk K hid as H (σ.set i (some v)) (ρ.set i (some w)) := by
  refine ⟨by simp [R.len], fun j u q => ?_⟩
  by_cases hj : i = j
  · subst hj
    have hi : i < ρ.length := by
      have := (List.getElem?_eq_some_iff.mp q).1
      simpa using this
    rw [List.getElem?_set_self hi] at q
    cases q
    exact ⟨v, by rw [List.getElem?_set_self (by rw [← R.len]; exact hi)], r⟩
  · rw [List.getElem?_set_ne hj] at q
    obtain ⟨v', h1, h2⟩ := R.at_ j u q
    exact ⟨v', by rw [List.getElem?_set_ne hj]; exact h1, h2⟩
theorem EnvOk.unset (R : EnvOk K hid as H σ ρ) (i : Nat) : EnvOk K hid as H (σ.set i none) (ρ.set i none) := by
  refine ⟨by simp [R.len], fun j u q => ?_⟩
  by_cases hj : i = j
  · subst hj
    by_cases hi : i < ρ.length
    · rw [List.getElem?_set_self hi] at q
      cases q
    · rw [List.getElem?_eq_none (by simpa using hi)] at q
      cases q
  · rw [List.getElem?_set_ne hj] at q
    obtain ⟨v', h1, h2⟩ := R.at_ j u q
    exact ⟨v', by rw [List.getElem?_set_ne hj]; exact h1, h2⟩
theorem EnvOk.wipe (R : EnvOk K hid as H σ ρ) : ∀ is : List Nat, EnvOk K hid as H (wipe σ is) (wipeS ρ is)
  | [] => R
  | i :: is => by
    show EnvOk K hid as H ((L2.wipe σ is).set i none) ((wipeS ρ is).set i none)
    exact (EnvOk.wipe R is).unset i
def gNames : List Nat → TGs
  | [] => gNil
  | i :: is => gCons (gName i) (gNames is)
def gT (K : PySem.W.Frag) : Tg → TG
  | .nm i => gName i
  | .tp is => gTup K is.length (gNames is)
theorem gNames_ok {H : Hp} : ∀ {is : List Nat} {vs : List V} {ws : List Val} {σ : L2.St} {ρ : Slots} {Q : L2.St → Hp → Prop}, RpVs K hid as H vs ws → ws.length = is.length → EnvOk K hid as H σ ρ →
    (∀ σ', EnvOk K hid as H σ' (setSlots ρ is ws) → (∃ us : List (Nat × Option V), (∀ p ∈ us, p.1 ∈ is) ∧ σ' = us.foldl (fun s p => s.set p.1 p.2) σ) → Q σ' H) → gNames is vs σ H Q
  | [], _, _, σ, ρ, Q, .nil, _, R, k => ⟨rfl, k σ R ⟨[], by simp, rfl⟩⟩
  | [], _, _, _, _, _, .cons _ _, h, _, _ => by simp at h
  | _ :: _, _, _, _, _, _, .nil, h, _, _ => by simp at h
  | i :: is, _, _, σ, ρ, Q, .cons (v := v) (vs := vs) (w := w) (ws := ws) a b, h, R, k =>
    ⟨v, vs, rfl, gNames_ok b (by simpa using h) (R.set a i) fun σ' R' ⟨us, h1, h2⟩ => k σ' R' ⟨(i, some v) :: us, fun p hp => by
      rcases List.mem_cons.mp hp with hp | hp
      · subst hp; exact List.mem_cons_self
      · exact List.mem_cons_of_mem _ (h1 p hp), h2⟩⟩
theorem rpvs_d {L : List Addr} : ∀ {ds : List PyData} {vs : List V}, RpAll K (hid ++ as) H vs ds → RpVs K hid as H vs (ds.map .d)
  | [], _, h => by cases h; exact .nil
  | _ :: _, _, h => by
    cases h with
    | cons a b => exact .cons a (rpvs_d (L := L) b)
theorem wipe_set {σ : L2.St} {i : Nat} {x : Option V} : ∀ {vs : List Nat}, i ∈ vs → wipe (σ.set i x) vs = wipe σ vs
  | [], h => by cases h
  | v :: vs, h => by
    show (wipe (σ.set i x) vs).set v none = (wipe σ vs).set v none
    by_cases hm : i ∈ vs
    · rw [wipe_set hm]
    · have e : i = v := by
        rcases List.mem_cons.mp h with h | h
        · exact h
        · exact absurd h hm
      subst e
      have go : ∀ (vs : List Nat), i ∉ vs → wipe (σ.set i x) vs = (wipe σ vs).set i x := fun vs => by
        induction vs with
        | nil => intro _; rfl
        | cons u us ih =>
          intro hn
          have h1 : u ≠ i := fun e => hn (by rw [e]; exact List.mem_cons_self)
          show (wipe (σ.set i x) us).set u none = ((wipe σ us).set u none).set i x
          rw [ih fun m => hn (List.mem_cons_of_mem _ m), List.set_comm _ _ h1]
      rw [go vs hm, List.set_set]
theorem wipe_sets {is vs : List Nat} : ∀ {us : List (Nat × Option V)} {σ : L2.St}, (∀ p ∈ us, p.1 ∈ vs) → wipe (us.foldl (fun s p => s.set p.1 p.2) σ) vs = wipe σ vs
  | [], _, _ => rfl
  | p :: us, σ, h => by
    show wipe (us.foldl (fun s p => s.set p.1 p.2) (σ.set p.1 p.2)) vs = wipe σ vs
    rw [wipe_sets (is := is) fun q hq => h q (List.mem_cons_of_mem _ hq), wipe_set (h p List.mem_cons_self)]
theorem gT_ok {t : Tg} {x : V} {d : PyData} {ρ' : Slots} {Q : L2.St → Hp → Prop} (r : Rp K (hid ++ as) H x d) (hp : t.put d ρ = some ρ') (R : EnvOk K hid as H σ ρ)
    (k : ∀ σ', EnvOk K hid as H σ' ρ' → wipe σ' t.slots = wipe σ t.slots → Q σ' H) : gT K t x σ H Q := by
  cases t with
  | nm i =>
    have e : some (ρ.set i (some (.d d))) = some ρ' := hp
    cases e
    exact k _ (R.set (w := .d d) r i) (wipe_set (by simp [Tg.slots]))
  | tp is =>
    cases d with
    | tuple ds =>
      have e : (if ds.length = is.length then some (setSlots ρ is (ds.map .d)) else none) = some ρ' := hp
      split at e
      · rename_i hl
        cases e
        cases r with
        | tup hs ra =>
          rename_i a xs
          refine ⟨a, xs, rfl, hs, by rw [ra.length, hl], gNames_ok (rpvs_d (L := []) ra) (by simpa using hl) R fun σ' R' ⟨us, h1, h2⟩ => k σ' R' ?_⟩
          rw [h2]
          exact wipe_sets (is := is) h1
      · cases e
    | _ => cases hp

/-! ### what is walked -/
inductive WC : List Val → List PyData → Prop
  | nil : WC [] []
  | cons {w : Val} {c : PyData} {ws : List Val} {cs : List PyData} : (∀ x, w = .d x → c = x) → WC ws cs → WC (w :: ws) (c :: cs)
theorem thaws_wc {n : Nat} : ∀ {ps ws : List Val} {cs : List PyData}, thaws n μ ps = some ws → conts μ ps = some cs → WC ws cs
  | [], ws, cs, h1, h2 => by
    have h1 : some [] = some ws := h1
    have h2 : some [] = some cs := h2
    cases h1; cases h2
    exact .nil
  | p :: ps, ws, cs, h1, h2 => by
    have h1 : (thaw n μ p).bind (fun x => (thaws n μ ps).map (x :: ·)) = some ws := h1
    have h2 : (cont μ p).bind (fun x => (conts μ ps).map (x :: ·)) = some cs := h2
    obtain ⟨w, a1, b1⟩ := Option.bind_eq_some_iff.mp h1
    obtain ⟨wr, c1, d1⟩ := Option.map_eq_some_iff.mp b1
    obtain ⟨c, a2, b2⟩ := Option.bind_eq_some_iff.mp h2
    obtain ⟨cr, c2, d2⟩ := Option.map_eq_some_iff.mp b2
    subst d1
    subst d2
    refine .cons (fun x e => ?_) (thaws_wc c1 c2)
    subst e
    cases p with
    | d y =>
      have a1 : some (Val.d y) = some (Val.d x) := a1
      have a2 : some y = some c := a2
      cases a1; cases a2
      rfl
    | l i =>
      have a1 : (if i < n then some (Val.l i) else (μ[i]?).map fun ds => Val.d (.list ds)) = some (Val.d x) := a1
      have a2 : (μ[i]?).map PyData.list = some c := a2
      split at a1
      · cases a1
      · obtain ⟨ds, e1, e2⟩ := Option.map_eq_some_iff.mp a1
        rw [e1] at a2
        cases a2
        cases e2
        rfl
theorem thaws_rp (S : St3 K hid as H μ) (px : as <+: as1) (S1 : St3 K hid as1 H1 μ1) : ∀ {ps ws : List Val} {vs : List V}, RpVs K hid as1 H1 vs ps → thaws μ.length μ1 ps = some ws → RpVs K hid as H1 vs ws
  | [], ws, _, .nil, h => by
    have h : some [] = some ws := h
    cases h
    exact .nil
  | p :: ps, ws, _, .cons a b, h => by
    have h : (thaw μ.length μ1 p).bind (fun x => (thaws μ.length μ1 ps).map (x :: ·)) = some ws := h
    obtain ⟨w, a1, b1⟩ := Option.bind_eq_some_iff.mp h
    obtain ⟨wr, c1, d1⟩ := Option.map_eq_some_iff.mp b1
    subst d1
    refine .cons ?_ (thaws_rp S px S1 b c1)
    cases p with
    | d y =>
      have a1 : some (Val.d y) = some w := a1
      cases a1
      exact rp_cut px a
    | l i =>
      have a1 : (if i < μ.length then some (Val.l i) else (μ1[i]?).map fun ds => Val.d (.list ds)) = some w := a1
      split at a1
      · rename_i hi
        cases a1
        obtain ⟨ad, h1, h2⟩ := a
        refine ⟨ad, h1, ?_⟩
        obtain ⟨t, rfl⟩ := px
        rw [List.getElem?_append_left (by rw [S.len]; exact hi)] at h2
        exact h2
      · rename_i hi
        obtain ⟨ds, e1, e2⟩ := Option.map_eq_some_iff.mp a1
        cases e2
        refine rp_frz S px S1 a ?_
        show (if μ.length ≤ i then (μ1[i]?).map PyData.list else none) = _
        rw [if_pos (by omega), e1]
        rfl
theorem rcs_same (S : St3 K hid as H μ) : ∀ {ws : List Val} {cs : List PyData} {vs : List V}, WC ws cs → RpVs K hid as H vs ws → sames μ ws cs = true → RCs K (hid ++ as) H vs cs
  | _, _, _, .nil, .nil, _ => .nil
  | w :: ws, c :: cs, _, .cons a b, .cons r rr, h => by
    have h : (same μ w c && sames μ ws cs) = true := h
    rw [Bool.and_eq_true] at h
    refine .cons ?_ (rcs_same S b rr h.2)
    cases w with
    | d x =>
      have := a x rfl
      subst this
      exact .inl r
    | l i =>
      obtain ⟨ad, h1, h2⟩ := r
      obtain ⟨xs, ds, g1, g2, g3⟩ := S.cell i ad h2
      cases c with
      | list es =>
        have h3 : (match μ[i]? with | some es' => eqDs es' es | none => false) = true := h.1
        rw [g1] at h3
        have := eqDs_eq _ _ h3
        subst this
        exact .inr ⟨ad, xs, _, h1, rfl, g2, g3⟩
      | _ => exact absurd h.1 (by simp [same])
end
end Cz
set_option Elab.async false
set_option linter.all false
set_option maxRecDepth 100000
set_option maxHeartbeats 4000000
namespace Cz
open PySem PySem.Spec PyProof.Rows L2
section
variable {F : CallF} {C : List PyData} {K : PySem.W.Frag} {hid as as1 : List Addr} {H H1 : Hp} {μ μ1 : Store} {σ : L2.St} {ρ : Slots}
theorem wipe_wipe (vs : List Nat) : ∀ (us : List Nat), (∀ i ∈ us, i ∈ vs) → wipe (wipe σ us) vs = wipe σ vs
  | [], _ => rfl
  | u :: us, h => by
    show wipe ((wipe σ us).set u none) vs = _
    rw [wipe_set (h u List.mem_cons_self), wipe_wipe vs us fun i m => h i (List.mem_cons_of_mem _ m)]
theorem Evo.write {as' : List Addr} {H' : Hp} {D : Addr} {o : HO} (ev : Evo as H as' H') (hD : H D = Option.none) : Evo as H as' (upd H' D o) where
  keep := fun b u h n => by
    rw [upd_ne (fun z => by rw [z, hD] at h; cases h)]
    exact ev.keep b u h n
  new := ev.new
/-- the tests of a clause -/
def tts (F : CallF) (C : List PyData) (K : PySem.W.Frag) : E → TT
  | .cons c _ => spT F C K c
  | _ => tYes
def condsOk : E → Bool
  | .nil => true
  | .cons c .nil => one c
  | _ => false
def eltR (q : Option (List Val × Store)) (n : Nat) : Option (Option PyData × Store) := q.bind fun q => (frzs n q.2 q.1).bind fun ys => match ys with
  | [y] => some (some y, q.2.take n)
  | _ => none
def turnF (F : CallF) (C : List PyData) (elt : E) (t : Tg) (conds : E) (ρ : Slots) : PyData → Store → Option (Option PyData × Store) := fun x μ' => (t.put x (wipeS ρ t.slots)).bind fun ρ' => (evE F C conds ρ' μ').bind fun c => match c.1 with
  | [.d (.bool false)] => some (none, c.2)
  | [.d (.bool true)] => eltR (evE F C elt ρ' c.2) c.2.length
  | [] => eltR (evE F C elt ρ' c.2) c.2.length
  | _ => none
theorem elt_ok {elt : E} {r : Option PyData} {μ' : Store} {P : VK} (he : one elt = true) (S : St3 K hid as H μ) (R : EnvOk K hid as H σ ρ) (e : eltR (evE F C elt ρ μ) μ.length = some (r, μ'))
    (k : ∀ yd, r = some yd → ∀ y H4 as4, as <+: as4 → Evo as H as4 H4 → St3 K hid as4 H4 μ' → Rp K (hid ++ as4) H4 y yd → P y H4) : sp1 F C K elt σ H P := by
  unfold eltR at e
  obtain ⟨⟨q1, q2⟩, e1, e2⟩ := Option.bind_eq_some_iff.mp e
  obtain ⟨ys, e3, e4⟩ := Option.bind_eq_some_iff.mp e2
  obtain ⟨w, e5⟩ := evE_one he e1
  subst e5
  split at e4
  · rename_i y
    cases e4
    refine ⟨hid, as, μ, ρ, w, q2, S, R, e1, fun v H4 as4 px ev S4 rv => ?_⟩
    have rp := rps_frz S px S4 (.cons rv .nil) e3
    cases rp with
    | cons rp _ =>
      obtain ⟨c1, c2⟩ := cut_ok S px ev S4 (fun _ _ h => h)
      exact k y rfl v H4 as List.prefix_rfl c1 c2 rp
  · cases e4
theorem turn_ok {elt conds : E} {r : Option PyData} {μ' : Store} {P : VK} {N : Hp → Prop} (hc : condsOk conds = true) (he : one elt = true) (S : St3 K hid as H μ) (R : EnvOk K hid as H σ ρ)
    (e : ((evE F C conds ρ μ).bind fun c => match c.1 with
      | [.d (.bool false)] => some (none, c.2)
      | [.d (.bool true)] => eltR (evE F C elt ρ c.2) c.2.length
      | [] => eltR (evE F C elt ρ c.2) c.2.length
      | _ => none) = some (r, μ'))
    (kn : r = none → ∀ H3 as3, as <+: as3 → Evo as H as3 H3 → St3 K hid as3 H3 μ' → N H3)
    (ks : ∀ yd, r = some yd → ∀ y H4 as4, as <+: as4 → Evo as H as4 H4 → St3 K hid as4 H4 μ' → Rp K (hid ++ as4) H4 y yd → P y H4) :
    tts F C K conds σ H fun b H3 => if b = true then sp1 F C K elt σ H3 P else N H3 := by
  obtain ⟨⟨c1, c2⟩, e1, e2⟩ := Option.bind_eq_some_iff.mp e
  cases conds with
  | nil =>
    have e1 : some ([], μ) = some (c1, c2) := e1
    cases e1
    have e3 : eltR (evE F C elt ρ μ) μ.length = some (r, μ') := e2
    show (if true = true then sp1 F C K elt σ H P else N H)
    rw [if_pos rfl]
    exact elt_ok he S R e3 ks
  | cons c t =>
    cases t with
    | nil =>
      have hc : one c = true := hc
      have e1 : (evE F C c ρ μ).bind (fun p => (some (([] : List Val), p.2)).map fun q => (p.1 ++ q.1, q.2)) = some (c1, c2) := e1
      obtain ⟨⟨p1, p2⟩, e3, e4⟩ := Option.bind_eq_some_iff.mp e1
      obtain ⟨w, e5⟩ := evE_one hc e3
      subst e5
      have e4 : some ([w], p2) = some (c1, c2) := e4
      cases e4
      have go : ∃ b, w = .d (.bool b) := by
        cases w with
        | d x =>
          cases x with
          | bool b => exact ⟨b, rfl⟩
          | _ => cases e2
        | l i => cases e2
      obtain ⟨b, e6⟩ := go
      subst e6
      refine ⟨hid, as, μ, ρ, b, c2, S, R, e3, fun H3 as3 px ev S3 => ?_⟩
      cases b with
      | false =>
        have e2 : some (none, c2) = some (r, μ') := e2
        cases e2
        show (if false = true then sp1 F C K elt σ H3 P else N H3)
        rw [if_neg (by simp)]
        exact kn rfl H3 as3 px ev S3
      | true =>
        show (if true = true then sp1 F C K elt σ H3 P else N H3)
        rw [if_pos rfl]
        have e5 : eltR (evE F C elt ρ c2) c2.length = some (r, μ') := e2
        exact elt_ok he S3 (R.evo S px ev) e5 fun yd hy y H4 as4 px4 ev4 S4 rp => ks yd hy y H4 as4 (px.trans px4) (ev.trans ev4) S4 rp
    | _ => cases hc
  | _ => cases hc
theorem sp_comp {elt its conds : E} {t : Tg} {ik : Ik} {Q : VK} (hc : condsOk conds = true) (he : one elt = true) (x : sp1 F C K (.comp elt t ik its conds) σ H Q) : tLc (rIk K ik (spA F C K its)) (gT K t) (tts F C K conds) (sp1 F C K elt) t.slots σ H Q := by
  obtain ⟨hid, as, μ, ρ, w, μ', S, R, e, k⟩ := x
  have e : ((evE F C its ρ μ).bind fun p => (thaws μ.length p.2 p.1).bind fun ws => (conts p.2 p.1).bind fun cs => (ik.items cs).bind fun xs =>
    (loopC (turnF F C elt t conds ρ) (fun μ' => sames μ' ws cs) xs [] (p.2.take μ.length)).map fun q => fin μ.length q.2 (.new q.1)) = some ([w], μ') := e
  obtain ⟨⟨p1, p2⟩, e1, f1⟩ := Option.bind_eq_some_iff.mp e
  obtain ⟨ws, e2, f2⟩ := Option.bind_eq_some_iff.mp f1
  obtain ⟨cs, e3, f3⟩ := Option.bind_eq_some_iff.mp f2
  obtain ⟨xs, e4, f4⟩ := Option.bind_eq_some_iff.mp f3
  obtain ⟨⟨ys, μ3⟩, e5, e6⟩ := Option.map_eq_some_iff.mp f4
  clear e f1 f2 f3 f4
  refine ⟨hid, as, μ, ρ, p1, p2, S, R, e1, fun vs H1 as1 px1 ev1 S1 rv1 => ⟨hid ++ as1, cs, xs, S1.rcs rv1 e3, e4, fun J hJ => ?_⟩⟩
  intro D hD
  have wc := thaws_wc e2 e3
  have rw1 := thaws_rp S px1 S1 rv1 e2
  obtain ⟨ev0, S2⟩ := cut_ok S px1 ev1 S1 (fun _ _ h => h)
  have nD : D ∉ hid ++ as := Live.of S2 hD
  have hD0 : H D = none := ev0.none hD fun m => nD (List.mem_append_right _ m)
  have R1 : EnvOk K hid as H1 σ ρ := R.evo S List.prefix_rfl ev0
  refine ⟨fun i m Hc => m = xs.length - i ∧ i ≤ xs.length ∧ ∃ as' accv accd μc, as <+: as' ∧ Evo as H as' Hc ∧ St3 K (D :: hid) as' Hc μc ∧ Hc D = some (.lst accv) ∧ RpAll K ((D :: hid) ++ as') Hc accv accd ∧
    RpVs K (D :: hid) as' Hc vs ws ∧ EnvOk K (D :: hid) as' Hc σ ρ ∧ loopC (turnF F C elt t conds ρ) (fun μ' => sames μ' ws cs) (xs.drop i) accd μc = some (ys, μ3),
    ⟨xs.length, rfl, Nat.zero_le _, as, [], [], _, List.prefix_rfl, ev0.write hD0, S2.hide hD [], upd_same, .nil, rpvs_hide hD rw1, R1.hide hD, e5⟩, ?_⟩
  rintro i m Hc ⟨rfl, hi, as', accv, accd, μc, pc, evc, Sc, hDc, ra, rvs, Rc, hl⟩
  have nDas : D ∉ as' := fun m => (List.nodup_cons.mp Sc.nd).1 (List.mem_append_right _ m)
  by_cases hlt : i < xs.length
  · rw [List.drop_eq_getElem_cons hlt] at hl
    unfold loopC at hl
    split at hl
    · rename_i hok
      rw [Bool.and_eq_true, decide_eq_true_eq] at hok
      obtain ⟨hok, hsz⟩ := hok
      obtain ⟨⟨r, μd⟩, g1, g2⟩ := Option.bind_eq_some_iff.mp hl
      have hrc := rcs_same Sc wc rvs hok
      refine .inr ⟨hJ.go _ i Hc hlt hrc, fun Hn => (i + 1 ≤ xs.length ∧ ∃ as' accv accd μc, as <+: as' ∧ Evo as H as' Hn ∧ St3 K (D :: hid) as' Hn μc ∧ Hn D = some (.lst accv) ∧ RpAll K ((D :: hid) ++ as') Hn accv accd ∧
        RpVs K (D :: hid) as' Hn vs ws ∧ EnvOk K (D :: hid) as' Hn σ ρ ∧ loopC (turnF F C elt t conds ρ) (fun μ' => sames μ' ws cs) (xs.drop (i + 1)) accd μc = some (ys, μ3)), fun Hn hn => ⟨xs.length - (i + 1), by omega, rfl, hn⟩, fun y Hy hy => ?_⟩
      obtain ⟨same, rp⟩ := hJ.yld _ i Hc y Hy xs[i] hrc (List.getElem?_eq_getElem hlt) hy
      have Sy := Sc.same same
      have Ry : EnvOk K (D :: hid) as' Hy σ ρ := Rc.evo Sc List.prefix_rfl (Evo.same same)
      have evy : Evo as H as' Hy := evc.trans (Evo.same same)
      have ray := (Evo.same same).rps Sc ra
      have rvy := (Evo.same same).rpvs Sc List.prefix_rfl rvs
      have hDy := same _ _ hDc
      obtain ⟨ρ', h1, h2⟩ := Option.bind_eq_some_iff.mp g1
      refine gT_ok rp h1 (Ry.wipe t.slots) fun σ' R' hw => ⟨?_, ?_⟩
      · rw [hw]
        exact wipe_wipe _ _ fun _ h => h
      · refine turn_ok hc he Sy R' h2 (fun hr H3 as3 px3 ev3 S3 => ?_) fun yd hr z H4 as4 px4 ev4 S4 rz => ?_
        · subst hr
          exact ⟨hlt, as3, accv, accd, μd, pc.trans px3, evy.trans ev3, S3, ev3.keep _ _ hDy nDas, ev3.rps Sy ray, ev3.rpvs Sy px3 rvy, Ry.evo Sy px3 ev3, g2⟩
        · subst hr
          have hD4 := ev4.keep _ _ hDy nDas
          have mD : D ∈ (D :: hid) ++ as4 := by simp
          refine ⟨accv, hD4, ?_, hlt, as4, _, accd ++ [yd], μd, pc.trans px4, (evy.trans ev4).write hD0, S4.writeHid hD4, upd_same, ?_, rpvs_write mD hD4 (ev4.rpvs Sy px4 rvy), (Ry.evo Sy px4 ev4).write mD hD4, g2⟩
          · rw [ra.length]
            exact Nat.lt_of_lt_of_le hsz (by decide)
          · exact rps_write mD hD4 ((ev4.rps Sy ray).append (.cons rz .nil))
    · cases hl
  · have ei : i = xs.length := by omega
    subst ei
    rw [List.drop_length] at hl
    unfold loopC at hl
    split at hl
    · rename_i hok
      cases hl
      refine .inl ⟨hJ.stop _ _ (rcs_same Sc wc rvs hok), ?_⟩
      cases e6
      have Sk := Sc.cut pc
      rw [S.len] at Sk
      refine k (.ref D) Hc (as ++ [D]) (List.prefix_append ..) ⟨evc.keep, fun b m => ?_⟩ (Sk.reveal hDc (rps_cut pc ra)) ⟨D, rfl, ?_⟩
      · rcases List.mem_append.mp m with m | m
        · exact .inl m
        · have : b = D := by simpa using m
          subst this
          exact .inr hD0
      · rw [← S.len, List.getElem?_append_right (Nat.le_refl _)]
        simp
    · cases hl

/-! ### statements -/
def EndP (K : PySem.W.Frag) (Dn : Ends) (hid as : List Addr) (σ : L2.St) (H : Hp) : Fl → Prop
  | .nx => Dn.nx σ H
  | .bk => Dn.bk σ H
  | .ct => Dn.ct σ H
  | .rt v => ∀ x, RpV K hid as H x v → Dn.rt x H
def spS (F : CallF) (C : List PyData) (K : PySem.W.Frag) (w : Nat) (s : S) : TS := fun Dn σ H => ∃ hid as μ ρ fl ρ' μ', St3 K hid as H μ ∧ EnvOk K hid as H σ ρ ∧ evS F C w s ρ μ = some (fl, ρ', μ') ∧
  ∀ σ' H' as', as <+: as' → Evo as H as' H' → St3 K hid as' H' μ' → EnvOk K hid as' H' σ' ρ' → EndP K Dn hid as' σ' H' fl
variable {w : Nat} {Dn : Ends}
theorem ss_nil (x : spS F C K w .nil Dn σ H) : tNext Dn σ H := by
  obtain ⟨hid, as, μ, ρ, fl, ρ', μ', S, R, e, k⟩ := x
  have e : some (Fl.nx, ρ, μ) = some (fl, ρ', μ') := e
  cases e
  exact k σ H as List.prefix_rfl Evo.refl S R
theorem ss_cons {s t : S} (x : spS F C K w (.cons s t) Dn σ H) : tSeq (spS F C K w s) (spS F C K w t) Dn σ H := by
  obtain ⟨hid, as, μ, ρ, fl, ρ', μ', S, R, e, k⟩ := x
  have e : (evS F C w s ρ μ).bind (fun q => match q.1 with
      | .nx => evS F C w t q.2.1 q.2.2
      | .rt v => some (.rt v, q.2.1, q.2.2)
      | .bk => some (.bk, q.2.1, q.2.2)
      | .ct => some (.ct, q.2.1, q.2.2)) = some (fl, ρ', μ') := e
  obtain ⟨⟨f1, ρ1, μ1⟩, e1, e2⟩ := Option.bind_eq_some_iff.mp e
  refine ⟨hid, as, μ, ρ, f1, ρ1, μ1, S, R, e1, fun σ1 H1 as1 px ev S1 R1 => ?_⟩
  cases f1 with
  | nx => exact ⟨hid, as1, μ1, ρ1, fl, ρ', μ', S1, R1, e2, fun σ2 H2 as2 px2 ev2 S2 R2 => k σ2 H2 as2 (px.trans px2) (ev.trans ev2) S2 R2⟩
  | rt v =>
    cases e2
    exact k σ1 H1 as1 px ev S1 R1
  | bk =>
    cases e2
    exact k σ1 H1 as1 px ev S1 R1
  | ct =>
    cases e2
    exact k σ1 H1 as1 px ev S1 R1
theorem ss_asg {t : Tg} {ir : E} (x : spS F C K w (.asg t ir) Dn σ H) : tAsg (sp1 F C K ir) (gT K t) Dn σ H := by
  obtain ⟨hid, as, μ, ρ, fl, ρ', μ', S, R, e, k⟩ := x
  cases t with
  | nm i =>
    have e : (evE F C ir ρ μ).bind (fun p => (val1 p).map fun q => (Fl.nx, ρ.set i (some q.1), q.2)) = some (fl, ρ', μ') := e
    obtain ⟨p, e1, e2⟩ := Option.bind_eq_some_iff.mp e
    obtain ⟨⟨q1, q2⟩, e3, e4⟩ := Option.map_eq_some_iff.mp e2
    have e3 := val1_some e3
    subst e3
    cases e4
    exact ⟨hid, as, μ, ρ, q1, q2, S, R, e1, fun v H1 as1 px ev S1 rv => k _ H1 as1 px ev S1 ((R.evo S px ev).set rv i)⟩
  | tp is =>
    have e : (evE F C ir ρ μ).bind (fun p => (val1 p).bind fun q => match q.1 with
      | .d x => ((Tg.tp is).put x ρ).map fun ρ' => (Fl.nx, ρ', q.2)
      | .l _ => none) = some (fl, ρ', μ') := e
    obtain ⟨p, e1, e2⟩ := Option.bind_eq_some_iff.mp e
    obtain ⟨⟨q1, q2⟩, e3, e4⟩ := Option.bind_eq_some_iff.mp e2
    have e3 := val1_some e3
    subst e3
    cases q1 with
    | l i => cases e4
    | d y =>
      obtain ⟨ρ2, e5, e6⟩ := Option.map_eq_some_iff.mp e4
      cases e6
      exact ⟨hid, as, μ, ρ, _, q2, S, R, e1, fun v H1 as1 px ev S1 rv => gT_ok rv e5 (R.evo S px ev) fun σ' R' _ => k σ' H1 as1 px ev S1 R'⟩
theorem ss_ret {ir : E} (x : spS F C K w (.ret ir) Dn σ H) : tRet (sp1 F C K ir) Dn σ H := by
  obtain ⟨hid, as, μ, ρ, fl, ρ', μ', S, R, e, k⟩ := x
  have e : (evE F C ir ρ μ).bind (fun p => (val1 p).map fun q => (Fl.rt q.1, ρ, q.2)) = some (fl, ρ', μ') := e
  obtain ⟨p, e1, e2⟩ := Option.bind_eq_some_iff.mp e
  obtain ⟨⟨q1, q2⟩, e3, e4⟩ := Option.map_eq_some_iff.mp e2
  have e3 := val1_some e3
  subst e3
  cases e4
  exact ⟨hid, as, μ, ρ, q1, q2, S, R, e1, fun v H1 as1 px ev S1 rv => k σ H1 as1 px ev S1 (R.evo S px ev) v rv⟩
theorem ss_expr {ir : E} (h1 : one ir = true) (x : spS F C K w (.expr ir) Dn σ H) : tDrop (sp1 F C K ir) Dn σ H := by
  obtain ⟨hid, as, μ, ρ, fl, ρ', μ', S, R, e, k⟩ := x
  have e : (evE F C ir ρ μ).map (fun p => (Fl.nx, ρ, p.2.take μ.length)) = some (fl, ρ', μ') := e
  obtain ⟨⟨p1, p2⟩, e1, e2⟩ := Option.map_eq_some_iff.mp e
  obtain ⟨v, e3⟩ := evE_one h1 e1
  subst e3
  cases e2
  refine ⟨hid, as, μ, ρ, v, p2, S, R, e1, fun v H1 as1 px ev S1 rv => ?_⟩
  obtain ⟨c1, c2⟩ := cut_ok S px ev S1 (fun _ _ h => h)
  exact k σ H1 as List.prefix_rfl c1 c2 (R.evo S List.prefix_rfl c1)
theorem ss_brk (x : spS F C K w .brk Dn σ H) : tBreak Dn σ H := by
  obtain ⟨hid, as, μ, ρ, fl, ρ', μ', S, R, e, k⟩ := x
  have e : some (Fl.bk, ρ, μ) = some (fl, ρ', μ') := e
  cases e
  exact k σ H as List.prefix_rfl Evo.refl S R
theorem ss_cnt (x : spS F C K w .cnt Dn σ H) : tCont Dn σ H := by
  obtain ⟨hid, as, μ, ρ, fl, ρ', μ', S, R, e, k⟩ := x
  have e : some (Fl.ct, ρ, μ) = some (fl, ρ', μ') := e
  cases e
  exact k σ H as List.prefix_rfl Evo.refl S R
theorem ss_pas (x : spS F C K w .pas Dn σ H) : tNext Dn σ H := by
  obtain ⟨hid, as, μ, ρ, fl, ρ', μ', S, R, e, k⟩ := x
  have e : some (Fl.nx, ρ, μ) = some (fl, ρ', μ') := e
  cases e
  exact k σ H as List.prefix_rfl Evo.refl S R
theorem ss_nev (x : spS F C K w .nev Dn σ H) : tNever Dn σ H := by
  obtain ⟨hid, as, μ, ρ, fl, ρ', μ', S, R, e, k⟩ := x
  have e : (none : Outc) = some (fl, ρ', μ') := e
  cases e
theorem ss_ifs {c : E} {a b : S} (x : spS F C K w (.ifs c a b) Dn σ H) : tIfS (spT F C K c) (spS F C K w a) (spS F C K w b) Dn σ H := by
  obtain ⟨hid, as, μ, ρ, fl, ρ', μ', S, R, e, k⟩ := x
  have e : (evE F C c ρ μ).bind (fun p => (bool1 p).bind fun q => if q.1 then evS F C w a ρ q.2 else evS F C w b ρ q.2) = some (fl, ρ', μ') := e
  obtain ⟨p, e1, e2⟩ := Option.bind_eq_some_iff.mp e
  obtain ⟨⟨q1, q2⟩, e3, e4⟩ := Option.bind_eq_some_iff.mp e2
  have e3 := bool1_some e3
  subst e3
  refine ⟨hid, as, μ, ρ, q1, q2, S, R, e1, fun H1 as1 px ev S1 => ?_⟩
  show if q1 = true then _ else _
  cases q1
  · rw [if_neg (by simp)] at e4 ⊢
    exact ⟨hid, as1, q2, ρ, fl, ρ', μ', S1, R.evo S px ev, e4, fun σ2 H2 as2 px2 ev2 S2 R2 => k σ2 H2 as2 (px.trans px2) (ev.trans ev2) S2 R2⟩
  · rw [if_pos rfl] at e4 ⊢
    exact ⟨hid, as1, q2, ρ, fl, ρ', μ', S1, R.evo S px ev, e4, fun σ2 H2 as2 px2 ev2 S2 R2 => k σ2 H2 as2 (px.trans px2) (ev.trans ev2) S2 R2⟩
theorem ss_whl {c : E} {b : S} (x : spS F C K w (.whl c b) Dn σ H) : tWhile (spT F C K c) (spS F C K w b) Dn σ H := by
  obtain ⟨hid, as, μ, ρ, fl, ρ', μ', S, R, e, k⟩ := x
  have e : whileN (fun ρ μ => (evE F C c ρ μ).bind bool1) (evS F C w b) w ρ μ = some (fl, ρ', μ') := e
  refine ⟨fun m σc Hc => ∃ as' ρc μc, as <+: as' ∧ Evo as H as' Hc ∧ St3 K hid as' Hc μc ∧ EnvOk K hid as' Hc σc ρc ∧ whileN (fun ρ μ => (evE F C c ρ μ).bind bool1) (evS F C w b) m ρc μc = some (fl, ρ', μ'),
    ⟨w, as, ρ, μ, List.prefix_rfl, Evo.refl, S, R, e⟩, ?_⟩
  rintro m σc Hc ⟨as', ρc, μc, pc, evc, Sc, Rc, hl⟩
  cases m with
  | zero => cases hl
  | succ m =>
    unfold whileN at hl
    obtain ⟨⟨q1, q2⟩, g1, g2⟩ := Option.bind_eq_some_iff.mp hl
    obtain ⟨p, g3, g4⟩ := Option.bind_eq_some_iff.mp g1
    have g4 := bool1_some g4
    subst g4
    refine ⟨hid, as', μc, ρc, q1, q2, Sc, Rc, g3, fun H1 as1 px ev S1 => ?_⟩
    show if q1 = true then _ else _
    cases q1
    · rw [if_neg (by simp)] at g2 ⊢
      cases g2
      exact k σc H1 as1 (pc.trans px) (evc.trans ev) S1 (Rc.evo Sc px ev)
    · rw [if_pos rfl] at g2 ⊢
      obtain ⟨⟨f1, ρ1, μ1⟩, g5, g6⟩ := Option.bind_eq_some_iff.mp g2
      refine ⟨fun σ2 H2 => ∃ as' ρc μc, as <+: as' ∧ Evo as H as' H2 ∧ St3 K hid as' H2 μc ∧ EnvOk K hid as' H2 σ2 ρc ∧ whileN (fun ρ μ => (evE F C c ρ μ).bind bool1) (evS F C w b) m ρc μc = some (fl, ρ', μ'),
        fun σ2 H2 h => ⟨m, Nat.lt_succ_self _, h⟩, hid, as1, q2, ρc, f1, ρ1, μ1, S1, Rc.evo Sc px ev, g5, fun σ2 H2 as2 px2 ev2 S2 R2 => ?_⟩
      cases f1 with
      | nx => exact ⟨as2, ρ1, μ1, (pc.trans px).trans px2, (evc.trans ev).trans ev2, S2, R2, g6⟩
      | ct => exact ⟨as2, ρ1, μ1, (pc.trans px).trans px2, (evc.trans ev).trans ev2, S2, R2, g6⟩
      | bk =>
        cases g6
        exact k σ2 H2 as2 ((pc.trans px).trans px2) ((evc.trans ev).trans ev2) S2 R2
      | rt v =>
        cases g6
        exact k σ2 H2 as2 ((pc.trans px).trans px2) ((evc.trans ev).trans ev2) S2 R2
theorem ss_for {t : Tg} {ik : Ik} {its : E} {b : S} (x : spS F C K w (.for_ t ik its b) Dn σ H) : tFor (rIk K ik (spA F C K its)) (gT K t) (spS F C K w b) Dn σ H := by
  obtain ⟨hid, as, μ, ρ, fl, ρ', μ', S, R, e, k⟩ := x
  have e : ((evE F C its ρ μ).bind fun p => (thaws μ.length p.2 p.1).bind fun ws => (conts p.2 p.1).bind fun cs => (ik.items cs).bind fun xs =>
      forL t (evS F C w b) (fun μ' => sames μ' ws cs) xs ρ (p.2.take μ.length)) = some (fl, ρ', μ') := e
  obtain ⟨⟨p1, p2⟩, e1, f1⟩ := Option.bind_eq_some_iff.mp e
  obtain ⟨ws, e2, f2⟩ := Option.bind_eq_some_iff.mp f1
  obtain ⟨cs, e3, f3⟩ := Option.bind_eq_some_iff.mp f2
  obtain ⟨xs, e4, e5⟩ := Option.bind_eq_some_iff.mp f3
  clear e f1 f2 f3
  refine ⟨hid, as, μ, ρ, p1, p2, S, R, e1, fun vs H1 as1 px1 ev1 S1 rv1 => ⟨hid ++ as1, cs, xs, S1.rcs rv1 e3, e4, fun J hJ => ?_⟩⟩
  have wc := thaws_wc e2 e3
  have rw1 := thaws_rp S px1 S1 rv1 e2
  obtain ⟨ev0, S2⟩ := cut_ok S px1 ev1 S1 (fun _ _ h => h)
  have R1 : EnvOk K hid as H1 σ ρ := R.evo S List.prefix_rfl ev0
  refine ⟨fun i m σc Hc => m = xs.length - i ∧ i ≤ xs.length ∧ ∃ as' ρc μc, as <+: as' ∧ Evo as H as' Hc ∧ St3 K hid as' Hc μc ∧ RpVs K hid as' Hc vs ws ∧ EnvOk K hid as' Hc σc ρc ∧
    forL t (evS F C w b) (fun μ' => sames μ' ws cs) (xs.drop i) ρc μc = some (fl, ρ', μ'), ⟨xs.length, rfl, Nat.zero_le _, as, ρ, _, List.prefix_rfl, ev0, S2, rw1, R1, e5⟩, ?_⟩
  rintro i m σc Hc ⟨rfl, hi, as', ρc, μc, pc, evc, Sc, rvs, Rc, hl⟩
  by_cases hlt : i < xs.length
  · rw [List.drop_eq_getElem_cons hlt] at hl
    unfold forL at hl
    split at hl
    · rename_i hok
      have hrc := rcs_same Sc wc rvs hok
      obtain ⟨ρ2, h1, h2⟩ := Option.bind_eq_some_iff.mp hl
      obtain ⟨⟨f1, ρ3, μ3⟩, h3, h4⟩ := Option.bind_eq_some_iff.mp h2
      refine .inr ⟨hJ.go _ i Hc hlt hrc, fun σn Hn => (i + 1 ≤ xs.length ∧ ∃ as' ρc μc, as <+: as' ∧ Evo as H as' Hn ∧ St3 K hid as' Hn μc ∧ RpVs K hid as' Hn vs ws ∧ EnvOk K hid as' Hn σn ρc ∧
        forL t (evS F C w b) (fun μ' => sames μ' ws cs) (xs.drop (i + 1)) ρc μc = some (fl, ρ', μ')), fun σn Hn hn => ⟨xs.length - (i + 1), by omega, rfl, hn⟩, fun y Hy hy => ?_⟩
      obtain ⟨same, rp⟩ := hJ.yld _ i Hc y Hy xs[i] hrc (List.getElem?_eq_getElem hlt) hy
      have Sy := Sc.same same
      have Ry : EnvOk K hid as' Hy σc ρc := Rc.evo Sc List.prefix_rfl (Evo.same same)
      have evy : Evo as H as' Hy := evc.trans (Evo.same same)
      have rvy := (Evo.same same).rpvs Sc List.prefix_rfl rvs
      refine gT_ok rp h1 Ry fun σ' R' _ => ⟨hid, as', μc, ρ2, f1, ρ3, μ3, Sy, R', h3, fun σ2 H2 as2 px2 ev2 S2 R2 => ?_⟩
      cases f1 with
      | nx => exact ⟨hlt, as2, ρ3, μ3, pc.trans px2, evy.trans ev2, S2, ev2.rpvs Sy px2 rvy, R2, h4⟩
      | ct => exact ⟨hlt, as2, ρ3, μ3, pc.trans px2, evy.trans ev2, S2, ev2.rpvs Sy px2 rvy, R2, h4⟩
      | bk =>
        cases h4
        exact k σ2 H2 as2 (pc.trans px2) (evy.trans ev2) S2 R2
      | rt v =>
        cases h4
        exact k σ2 H2 as2 (pc.trans px2) (evy.trans ev2) S2 R2
    · cases hl
  · have ei : i = xs.length := by omega
    subst ei
    rw [List.drop_length] at hl
    unfold forL at hl
    split at hl
    · rename_i hok
      cases hl
      exact .inl ⟨hJ.stop _ _ (rcs_same Sc wc rvs hok), k σc Hc as' pc evc Sc Rc⟩
    · cases hl
end
end Cz
set_option Elab.async false
set_option linter.all false
set_option maxRecDepth 100000
set_option maxHeartbeats 4000000
namespace Cz
open PySem PySem.Spec PyProof.Rows L2
section
variable {F : CallF} {C : List PyData} {K : PySem.W.Frag} {hid as as1 : List Addr} {H H1 : Hp} {μ μ1 : Store} {σ : L2.St} {ρ : Slots} {w : Nat} {Dn : Ends}
theorem nodup_at {α : Type} {N : List α} (hN : N.Nodup) {i j : Nat} {x : α} (a : N[i]? = some x) (b : N[j]? = some x) : i = j := by
  obtain ⟨h1, e1⟩ := List.getElem?_eq_some_iff.mp a
  obtain ⟨h2, e2⟩ := List.getElem?_eq_some_iff.mp b
  exact (List.getElem_inj hN).mp (e1.trans e2.symm)
theorem St3.writeAs (S : St3 K hid as H μ) {n : Nat} {a : Addr} {xs ys : List V} {ds : List PyData} (hn : as[n]? = some a) (e : H a = some (.lst xs)) (r : RpAll K (hid ++ as) H ys ds) : St3 K hid as (upd H a (.lst ys)) (μ.set n ds) := by
  have ma : a ∈ hid ++ as := List.mem_append_right _ (List.mem_of_getElem? hn)
  refine ⟨S.nd, by rw [List.length_set]; exact S.len, fun i b q => ?_, fun b m => ?_⟩
  · by_cases hi : i = n
    · subst hi
      rw [hn] at q
      cases q
      have hl : i < μ.length := by
        rw [← S.len]
        exact (List.getElem?_eq_some_iff.mp hn).1
      exact ⟨ys, ds, by rw [List.getElem?_set_self hl], upd_same, rps_write ma e r⟩
    · obtain ⟨zs, es, h1, h2, h3⟩ := S.cell i b q
      have ne : b ≠ a := fun z => by
        subst z
        exact hi (nodup_at (List.nodup_append.mp S.nd).2.1 q hn)
      exact ⟨zs, es, by rw [List.getElem?_set_ne (fun z => hi z.symm)]; exact h1, by rw [upd_ne ne]; exact h2, rps_write ma e h3⟩
  · by_cases z : b = a
    · subst z
      exact ⟨ys, upd_same⟩
    · obtain ⟨zs, q⟩ := S.hidc b m
      exact ⟨zs, by rw [upd_ne z]; exact q⟩
theorem Evo.writeAs {a : Addr} {o : HO} (ev : Evo as H as1 H1) (m : a ∈ as1) : Evo as H as1 (upd H1 a o) where
  keep := fun b u h n => by
    rw [upd_ne (fun z => by
      subst z
      rcases ev.new b m with q | q
      · exact n q
      · rw [h] at q; cases q)]
    exact ev.keep b u h n
  new := ev.new
theorem take_set {α : Type} (l : List α) (k n : Nat) (x : α) : (l.set n x).take k = (l.take k).set n x := by
  rw [List.take_set]
theorem ss_setix {o i v : E} (ho : one o = true) (hi : one i = true) (hv : one v = true) (x : spS F C K w (.setix o i v) Dn σ H) : tAsg (sp1 F C K v) (gSub (sp1 F C K o) (sp1 F C K i) rSetL) Dn σ H := by
  obtain ⟨hid, as, μ, ρ, fl, ρ', μ', S, R, e, k⟩ := x
  have e : ((evE F C v ρ μ).bind fun p => (frzs μ.length p.2 p.1).bind fun ys => (evE F C o ρ (p.2.take μ.length)).bind fun q => (evE F C i ρ q.2).bind fun r =>
      match ys, q.1, r.1 with
      | [y], [.l n], [.d (.int k)] => (r.2[n]?).bind fun xs => (L2.ixN xs.length k).map fun j => (Fl.nx, ρ, (r.2.take μ.length).set n (xs.set j y))
      | _, _, _ => none) = some (fl, ρ', μ') := e
  obtain ⟨⟨p1, p2⟩, e1, f1⟩ := Option.bind_eq_some_iff.mp e
  obtain ⟨ys, e2, f2⟩ := Option.bind_eq_some_iff.mp f1
  obtain ⟨⟨q1, q2⟩, e3, f3⟩ := Option.bind_eq_some_iff.mp f2
  obtain ⟨⟨r1, r2⟩, e4, f4⟩ := Option.bind_eq_some_iff.mp f3
  clear e f1 f2 f3
  obtain ⟨wv, z1⟩ := evE_one hv e1
  obtain ⟨wo, z2⟩ := evE_one ho e3
  obtain ⟨wi, z3⟩ := evE_one hi e4
  subst z1 z2 z3
  refine ⟨hid, as, μ, ρ, wv, p2, S, R, e1, fun v H1 as1 px1 ev1 S1 rv => ?_⟩
  have rp := rps_frz S px1 S1 (.cons rv .nil) e2
  obtain ⟨ev0, S2⟩ := cut_ok S px1 ev1 S1 (fun _ _ h => h)
  have R1 : EnvOk K hid as H1 σ ρ := R.evo S List.prefix_rfl ev0
  refine ⟨hid, as, _, ρ, wo, q2, S2, R1, e3, fun ov H2 as2 px2 ev2 S3 ro => ?_⟩
  refine ⟨hid, as2, q2, ρ, wi, r2, S3, R1.evo S2 px2 ev2, e4, fun iv H3 as3 px3 ev3 S4 ri => ?_⟩
  split at f4
  · rename_i y n kk h1 h2
    cases h1
    cases h2
    obtain ⟨ds, g1, g2⟩ := Option.bind_eq_some_iff.mp f4
    obtain ⟨j, g3, g4⟩ := Option.map_eq_some_iff.mp g2
    cases g4
    obtain ⟨a, rfl, ha⟩ := ro
    have ri : Rp K (hid ++ as3) H3 iv (.int kk) := ri
    cases ri
    have ha3 := getp px3 ha
    obtain ⟨xs, ds', h1, h2, h3⟩ := S4.cell n a ha3
    rw [g1] at h1
    cases h1
    have ev03 := (ev0.trans ev2).trans ev3
    have px := px2.trans px3
    cases rp with
    | cons rp _ =>
      have rp3 : Rp K (hid ++ as3) H3 v y := (ev2.trans ev3).rp S2 rp
      refine ⟨a, xs, kk, j, rfl, rfl, h2, by rw [h3.length]; exact g3, ?_⟩
      have S5 := (S4.writeAs ha3 h2 (h3.set j rp3)).cut px
      rw [take_set, S.len] at S5
      have ev5 := (ev03.writeAs (o := .lst (xs.set j v)) (List.mem_of_getElem? ha3)).cut
      exact k σ _ as List.prefix_rfl ev5 S5 (R.evo S List.prefix_rfl ev5)
  · cases f4
theorem ss_app {o v : E} (ho : one o = true) (hv : one v = true) (x : spS F C K w (.app o v) Dn σ H) : tDrop (tBM K "list" rAppend (sp1 F C K o) (spA F C K (.cons v .nil))) Dn σ H := by
  obtain ⟨hid, as, μ, ρ, fl, ρ', μ', S, R, e, k⟩ := x
  have e : ((evE F C o ρ μ).bind fun q => (evE F C v ρ q.2).bind fun p => (frzs q.2.length p.2 p.1).bind fun ys =>
      match ys, q.1 with
      | [y], [.l n] => (p.2[n]?).bind fun xs => if xs.length < sizeMax then some (Fl.nx, ρ, (p.2.take μ.length).set n (xs ++ [y])) else none
      | _, _ => none) = some (fl, ρ', μ') := e
  obtain ⟨⟨q1, q2⟩, e1, f1⟩ := Option.bind_eq_some_iff.mp e
  obtain ⟨⟨p1, p2⟩, e2, f2⟩ := Option.bind_eq_some_iff.mp f1
  obtain ⟨ys, e3, f3⟩ := Option.bind_eq_some_iff.mp f2
  clear e f1 f2
  obtain ⟨wo, z1⟩ := evE_one ho e1
  obtain ⟨wv, z2⟩ := evE_one hv e2
  subst z1 z2
  split at f3
  · rename_i y n h1
    cases h1
    obtain ⟨ds, g1, g2⟩ := Option.bind_eq_some_iff.mp f3
    split at g2
    · rename_i hz
      cases g2
      refine ⟨hid, as, μ, ρ, _, q2, S, R, e1, fun ov H1 as1 px1 ev1 S1 ro => ?_⟩
      obtain ⟨a, rfl, ha⟩ := ro
      obtain ⟨xs0, ds0, a1, a2, a3⟩ := S1.cell n a ha
      refine ⟨.inl ⟨rfl, xs0, .inl (.inl a2)⟩, hid, as1, q2, ρ, [wv], p2, S1, R.evo S px1 ev1, ?_, fun vs H2 as2 px2 ev2 S2 rvs => ?_⟩
      · show (evE F C v ρ q2).bind (fun p => (some (([] : List Val), p.2)).map fun q => (p.1 ++ q.1, q.2)) = _
        rw [show evE F C v ρ q2 = some ([wv], p2) from e2]
        rfl
      · have rp := rps_frz S1 px2 S2 rvs e3
        cases rp with
        | cons rp rn =>
          cases rn
          obtain ⟨ev3, S3⟩ := cut_ok S1 px2 ev2 S2 (fun _ _ h => h)
          obtain ⟨xs, ds', b1, b2, b3⟩ := S3.cell n a ha
          have hn : n < q2.length := by
            rw [← S1.len]
            exact (List.getElem?_eq_some_iff.mp ha).1
          rw [List.getElem?_take_of_lt hn] at b1
          have g1 : p2[n]? = some ds := g1
          rw [g1] at b1
          cases b1
          refine ⟨a, xs, _, rfl, rfl, b2, ?_, ?_⟩
          · rw [b3.length]
            exact Nat.lt_of_lt_of_le hz (by decide)
          · have S4 := (S3.writeAs ha b2 (b3.append (.cons rp .nil))).cut px1
            have hle : as.length ≤ q2.length := by
              rw [← S1.len]
              exact px1.length_le
            rw [take_set, List.take_take, Nat.min_eq_left hle, S.len] at S4
            have ev4 : ∀ o : HO, Evo as H as (upd H2 a o) := fun o => ((ev1.trans ev3).writeAs (o := o) (List.mem_of_getElem? ha)).cut
            exact k σ _ as List.prefix_rfl (ev4 _) S4 (R.evo S List.prefix_rfl (ev4 _))
    · cases g2
  · cases f3
theorem ss_par2 {i j : Nat} {es : E} (x : spS F C K w (.par [i, j] es) Dn σ H) : tPar i j (spA F C K es) Dn σ H := by
  obtain ⟨hid, as, μ, ρ, fl, ρ', μ', S, R, e, k⟩ := x
  have e : (evE F C es ρ μ).bind (fun p => if p.1.length = [i, j].length then some (Fl.nx, setSlots ρ [i, j] p.1, p.2) else none) = some (fl, ρ', μ') := e
  obtain ⟨⟨p1, p2⟩, e1, e2⟩ := Option.bind_eq_some_iff.mp e
  split at e2
  · rename_i hl
    cases e2
    refine ⟨hid, as, μ, ρ, p1, p2, S, R, e1, fun vs H1 as1 px ev S1 rv => ?_⟩
    have R1 := R.evo S px ev
    cases rv with
    | nil => simp at hl
    | cons r1 rv =>
      cases rv with
      | nil => simp at hl
      | cons r2 rv =>
        cases rv with
        | nil => exact ⟨_, _, rfl, k _ H1 as1 px ev S1 ((R1.set r1 i).set r2 j)⟩
        | cons _ _ => simp at hl
  · cases e2
theorem ss_par3 {i j l : Nat} {es : E} (x : spS F C K w (.par [i, j, l] es) Dn σ H) : tPar3 i j l (spA F C K es) Dn σ H := by
  obtain ⟨hid, as, μ, ρ, fl, ρ', μ', S, R, e, k⟩ := x
  have e : (evE F C es ρ μ).bind (fun p => if p.1.length = [i, j, l].length then some (Fl.nx, setSlots ρ [i, j, l] p.1, p.2) else none) = some (fl, ρ', μ') := e
  obtain ⟨⟨p1, p2⟩, e1, e2⟩ := Option.bind_eq_some_iff.mp e
  split at e2
  · rename_i hl
    cases e2
    refine ⟨hid, as, μ, ρ, p1, p2, S, R, e1, fun vs H1 as1 px ev S1 rv => ?_⟩
    have R1 := R.evo S px ev
    cases rv with
    | nil => simp at hl
    | cons r1 rv =>
      cases rv with
      | nil => simp at hl
      | cons r2 rv =>
        cases rv with
        | nil => simp at hl
        | cons r3 rv =>
          cases rv with
          | nil => exact ⟨_, _, _, rfl, k _ H1 as1 px ev S1 (((R1.set r1 i).set r2 j).set r3 l)⟩
          | cons _ _ => simp at hl
  · cases e2
theorem ss_parT {is : List Nat} {es : E} (hn : is.length ≤ 100) (x : spS F C K w (.par is es) Dn σ H) : tAsg (tTup (spA F C K es)) (gT K (.tp is)) Dn σ H := by
  obtain ⟨hid, as, μ, ρ, fl, ρ', μ', S, R, e, k⟩ := x
  have e : (evE F C es ρ μ).bind (fun p => if p.1.length = is.length then some (Fl.nx, setSlots ρ is p.1, p.2) else none) = some (fl, ρ', μ') := e
  obtain ⟨⟨p1, p2⟩, e1, e2⟩ := Option.bind_eq_some_iff.mp e
  split at e2
  · rename_i hl
    cases e2
    refine ⟨hid, as, μ, ρ, p1, p2, S, R, e1, fun vs H1 as1 px ev S1 rv => ?_⟩
    have hl2 : vs.length = is.length := rv.length.trans hl
    refine ⟨by rw [hl2]; exact szm (Nat.le_trans hn (by decide)), fun p hp => ⟨p, vs, rfl, .inl (.inl upd_same), hl2, ?_⟩⟩
    have same : ∀ b o, H1 b = some o → (upd H1 p (.tup vs)) b = some o := same_new hp
    have S2 := S1.same same
    have ev2 : Evo as H as1 (upd H1 p (.tup vs)) := ev.trans (Evo.same same)
    exact gNames_ok ((Evo.same same).rpvs S1 List.prefix_rfl rv) hl (R.evo S px ev2) fun σ' R' _ => k σ' _ as1 px ev2 S2 R'
  · cases e2
end
end Cz
set_option Elab.async false
set_option linter.all false
set_option maxRecDepth 100000
set_option maxHeartbeats 4000000
/-! The check that an expression is what the evaluator's text says; its soundness. -/
namespace L2
open PySem
section
variable {X : Cx}
theorem PE.w {e : Expr} {t t' : TE} (h : PE X e t) (q : ∀ σ H Q, t' σ H Q → t σ H Q) : PE X e t' := ⟨fun pins s σ H Q I hw => h.run pins s σ H Q I (q _ _ _ hw)⟩
theorem PT.w {e : Expr} {t t' : TT} (h : PT X e t) (q : ∀ σ H Q, t' σ H Q → t σ H Q) : PT X e t' := ⟨fun pins s σ H Q I hw => h.run pins s σ H Q I (q _ _ _ hw)⟩
theorem PW.w {e : Expr} {t t' : TT} (h : PW X e t) (q : ∀ σ H Q, t' σ H Q → t σ H Q) : PW X e t' := ⟨fun wh pins s σ H Q I hw => h.run wh pins s σ H Q I (q _ _ _ hw)⟩
theorem PA.w {e : List Expr} {t t' : TA} (h : PA X e t) (q : ∀ σ H Q, t' σ H Q → t σ H Q) : PA X e t' := ⟨fun pos pins s σ H Q I hw => h.run pos pins s σ H Q I (q _ _ _ hw)⟩
theorem PI.w {tg e : Expr} {t t' : TI} (h : PI X tg e t) (q : ∀ σ H R, t' σ H R → t σ H R) : PI X tg e t' := ⟨fun pins s σ H Q I hw => h.run pins s σ H Q I (q _ _ _ hw)⟩
theorem PS.w {e : Stmt} {t t' : TS} (h : PS X e t) (q : ∀ D σ H, t' D σ H → t D σ H) : PS X e t' := ⟨fun pins s σ H D I hw => h.run pins s σ H D I (q _ _ _ hw)⟩
theorem PSs.w {e : List Stmt} {t t' : TS} (h : PSs X e t) (q : ∀ D σ H, t' D σ H → t D σ H) : PSs X e t' := ⟨fun pins s σ H D I hw => h.run pins s σ H D I (q _ _ _ hw)⟩
end
end L2
namespace Cz
open PySem PySem.Spec PyProof.Rows L2
structure Gx where
  N : List Str
  fs : List Str
  cs : List Str
  sc : Scope
  wn : Str → Bool
  gc : Bool
def visB (G : Gx) (x : Str) : Bool := match G.sc.names.lookup x with
  | some .local => true
  | some .cell => true
  | some .free => true
  | _ => false
def glB (G : Gx) (x : Str) : Bool := match G.sc.names.lookup x with
  | some .globalImplicit => true
  | _ => false
def locB (G : Gx) (x : Str) : Bool := match G.sc.names.lookup x with
  | some .local => true
  | some .cell => G.wn x
  | _ => false
def nmOk (x : Str) : Bool := !(x == ("__debug__" : Str)) && !(x == ("__classdict__" : Str))
def noStar : Expr → Bool
  | .Starred _ _ => false
  | _ => true
def noSlice : Expr → Bool
  | .Slice _ _ _ _ => false
  | _ => true
def noSet : Expr → Bool
  | .Set _ _ _ => false
  | _ => true
def plainBase : Expr → Bool
  | .Call _ _ _ _ => false
  | _ => true
def kOk : PyData → Const → Bool
  | .int i, .int j => decide (i = j)
  | .bool i, .bool j => decide (i = j)
  | .str i, .str j => decide (i = j)
  | .none, .none => true
  | _, _ => false
def opC : Op → Option CmpOp
  | .eq => some .Eq
  | .ne => some .NotEq
  | .lt => some .Lt
  | .le => some .LtE
  | .gt => some .Gt
  | .ge => some .GtE
  | .is_ => some .Is
  | .isnot => some .IsNot
  | _ => none
def opN : Op → Option Str
  | .len => some "len"
  | .abs => some "abs"
  | .min2 => some "min"
  | .max2 => some "max"
  | .int1 => some "int"
  | .sum => some "sum"
  | .all => some "all"
  | .any => some "any"
  | .tupleOf => some "tuple"
  | .listOf => some "list"
  | .sorted => some "sorted"
  | .repr => some "repr"
  | _ => none
def opT : Op → Option Str
  | .isInt => some "int"
  | .isBool => some "bool"
  | .isTup => some "tuple"
  | .isStr => some "str"
  | _ => none
def bltNames : List Str := ["len", "abs", "min", "max", "int", "sum", "all", "any", "tuple", "list", "sorted", "repr", "isinstance", "bool", "str", "range", "zip", "enumerate"]
def opArgs (G : Gx) (o : Op) : Expr → Option (List Expr)
  | .BinOp a p b _ => if opB o = some p then some [a, b] else none
  | .Compare a [p] [b] _ => if opC o = some p && !behindInMarks p b then some [a, b] else none
  | .UnaryOp .USub a _ => if o = .neg then some [a] else none
  | .Subscript a (.Slice none none none _) _ => if o = .sl00 then some [a] else none
  | .Subscript a (.Slice (some l) none none _) _ => if o = .sl10 then some [a, l] else none
  | .Subscript a (.Slice none (some h) none _) _ => if o = .sl01 then some [a, h] else none
  | .Subscript a (.Slice (some l) (some h) none _) _ => if o = .sl11 then some [a, l, h] else none
  | .Subscript a (.Slice none none (some (.UnaryOp .USub (.Constant (.int j) _ _) _)) _) _ => if o = .rev && decide (j = 1) then some [a] else none
  | .Subscript a s _ => if o = .ix && noSlice s then some [a, s] else none
  | .Call (.Name x _) args [] _ =>
    if !glB G x then none else
    match opN o with
    | some y => if x = y && !args.isEmpty then some args else none
    | none => if o = .gcd then (if G.gc && x = "gcd" && !args.isEmpty then some args else none) else
      match opT o, args with
      | some t, [a, .Name y _] => if x = "isinstance" && y = t && glB G y then some [a] else none
      | _, _ => none
  | .Call (.Attribute r nm ap) [a] [] cp => if plainBase r && ap.endLine == cp.line && ((o = .join && nm = "join") || (o = .index && nm = "index")) then some [r, a] else none
  | _ => none

section
variable (F : CallF) (C : List PyData)
structure CxOk (G : Gx) (X : Cx) : Prop where
  scope : X.env.scope = G.sc
  N : X.N = G.N
  nd : X.N.Nodup
  calm : X.calm = true
  units : X.A.units + 64 < cLine
  guards : X.A.guards = some []
  xe : X.xe = fun _ _ => False
  fn : ∀ x, G.wn x = true → X.fn x = true
  blt : ∀ x ∈ bltNames, X.mg x = none
  gcd : G.gc = true → X.mg "gcd" = some (.builtin "math.gcd")
  con : ∀ (i : Nat) (x : Str) (y : PyData), G.cs[i]? = some x → C[i]? = some y → ∃ v u, X.mg x = some u ∧ RelV v u ∧ ∀ L H, Rp X.K L H v y
  call : ∀ (f : Nat) (x : Str), G.fs[f]? = some x → ∃ fa fd ps k, FnG X.prog X.w X.K X.mg X.base k fa fd ps (spF X.K F f) ∧ Room k X.A ∧ X.mg x = some (.ref fa) ∧ PySem.W.keepIn X.K (.ref fa) = true ∧ Binds X.K fd ps []
/-- each expression of a list with its text -/
def RL (X : Cx) : E → List Expr → Prop
  | .nil, es => es = []
  | .cons h t, es => ∃ e r, es = e :: r ∧ PE X e (sp1 F C X.K h) ∧ one h = true ∧ noStar e = true ∧ RL X t r
  | _, _ => False
end
section
variable {F : CallF} {C : List PyData} {G : Gx} {X : Cx}
theorem rk_w {K : PySem.W.Frag} {k : Ik} {t t' : TA} (q : ∀ σ H Q, t' σ H Q → t σ H Q) : ∀ σ H R, rIk K k t' σ H R → rIk K k t σ H R := fun σ H R h => q _ _ _ h

theorem star_of {e : Expr} (h : noStar e = true) (es : List Expr) (env : Env) : starEach (e :: es) env = (false, eval e env) :: starEach es env := by
  cases e <;> first | rfl | cases h
theorem rl_plain : ∀ {ir : E} {es : List Expr}, RL F C X ir es → ∀ env pos, (backTo pos (starEach es env)).any (·.1) = false
  | .nil, es, h, env, pos => by
    have h : es = [] := h
    subst h
    rfl
  | .cons a t, es, h, env, pos => by
    obtain ⟨e, r, rfl, _, _, hs, hr⟩ := h
    rw [star_of hs]
    have := rl_plain hr env pos
    show (false || (backTo pos (starEach r env)).any (·.1)) = false
    rw [this]
    rfl
  | .var _, _, h, _, _ => h.elim
  | .k _, _, h, _, _ => h.elim
  | .glob _, _, h, _, _ => h.elim
  | .op _ _, _, h, _, _ => h.elim
  | .tup _, _, h, _, _ => h.elim
  | .lst _, _, h, _, _ => h.elim
  | .call _ _, _, h, _, _ => h.elim
  | .ite _ _ _, _, h, _, _ => h.elim
  | .and _ _, _, h, _, _ => h.elim
  | .or _ _, _, h, _, _ => h.elim
  | .not _, _, h, _, _ => h.elim
  | .chain _ _ _ _ _, _, h, _, _ => h.elim
  | .comp _ _ _ _ _, _, h, _, _ => h.elim
theorem rl_pa : ∀ {ir : E} {es : List Expr}, RL F C X ir es → PA X es (spA F C X.K ir)
  | .nil, es, h => by
    have h : es = [] := h
    subst h
    exact pa_nil.w fun σ H Q x => spA_nil x
  | .cons a t, es, h => by
    obtain ⟨e, r, rfl, pe, ho, hs, hr⟩ := h
    exact (pa_cons pe (rl_pa hr) (star_of hs _ _)).w fun σ H Q x => spA_cons ho x
  | .var _, _, h => h.elim
  | .k _, _, h => h.elim
  | .glob _, _, h => h.elim
  | .op _ _, _, h => h.elim
  | .tup _, _, h => h.elim
  | .lst _, _, h => h.elim
  | .call _ _, _, h => h.elim
  | .ite _ _ _, _, h => h.elim
  | .and _ _, _, h => h.elim
  | .or _ _, _, h => h.elim
  | .not _, _, h => h.elim
  | .chain _ _ _ _ _, _, h => h.elim
  | .comp _ _ _ _ _, _, h => h.elim
theorem rl_cons {ir : E} {e : Expr} {r : List Expr} (h : RL F C X ir (e :: r)) : ∃ a t, ir = .cons a t ∧ PE X e (sp1 F C X.K a) ∧ one a = true ∧ noStar e = true ∧ RL F C X t r := by
  cases ir with
  | nil => cases (show e :: r = [] from h)
  | cons a t =>
    obtain ⟨e', r', eq, h⟩ := h
    cases eq
    exact ⟨a, t, rfl, h⟩
  | _ => exact h.elim
theorem rl_nil {ir : E} (h : RL F C X ir []) : ir = .nil := by
  cases ir with
  | nil => rfl
  | cons a t =>
    obtain ⟨e', r', eq, h⟩ := h
    cases eq
  | _ => exact h.elim
theorem rl1 {ir : E} {e : Expr} (h : RL F C X ir [e]) : ∃ a, ir = .cons a .nil ∧ PE X e (sp1 F C X.K a) ∧ one a = true ∧ noStar e = true := by
  obtain ⟨a, t, rfl, pe, ho, hs, hr⟩ := rl_cons h
  cases rl_nil hr
  exact ⟨a, rfl, pe, ho, hs⟩
theorem rl2 {ir : E} {e e' : Expr} (h : RL F C X ir [e, e']) : ∃ a b, ir = .cons a (.cons b .nil) ∧ (PE X e (sp1 F C X.K a) ∧ one a = true ∧ noStar e = true) ∧ PE X e' (sp1 F C X.K b) ∧ one b = true ∧ noStar e' = true := by
  obtain ⟨a, t, rfl, pe, ho, hs, hr⟩ := rl_cons h
  obtain ⟨b, rfl, h1⟩ := rl1 hr
  exact ⟨a, b, rfl, ⟨pe, ho, hs⟩, h1⟩
theorem rl3 {ir : E} {e e' e'' : Expr} (h : RL F C X ir [e, e', e'']) : ∃ a b c, ir = .cons a (.cons b (.cons c .nil)) ∧ (PE X e (sp1 F C X.K a) ∧ one a = true ∧ noStar e = true) ∧ (PE X e' (sp1 F C X.K b) ∧ one b = true ∧ noStar e' = true) ∧ PE X e'' (sp1 F C X.K c) ∧ one c = true ∧ noStar e'' = true := by
  obtain ⟨a, t, rfl, pe, ho, hs, hr⟩ := rl_cons h
  obtain ⟨b, c, rfl, h1, h2⟩ := rl2 hr
  exact ⟨a, b, c, rfl, ⟨pe, ho, hs⟩, h1, h2⟩

/-! ### operations -/
theorem binR {o : Op} {p : Operator} (h : opB o = some p) : OpR X (binaryOp p) (r2 X.K o) := by
  cases o <;> first | (cases h; done) | skip
  · cases h; exact ro_add
  · cases h; exact ro_sub
  · cases h; exact ro_mul
  · cases h; exact ro_fdiv
  · cases h; exact ro_md
  · cases h; exact ro_pow
theorem cmpR (hu : X.A.units + 64 < cLine) {o : Op} {p : CmpOp} (h : opC o = some p) : OpR X (compareOp p) (r2 X.K o) := by
  cases o <;> first | (cases h; done) | skip
  · cases h; exact ro_eq hu
  · cases h; exact ro_ne hu
  · cases h; exact ro_lt
  · cases h; exact ro_le
  · cases h; exact ro_gt
  · cases h; exact ro_ge
  · cases h; exact ro_is
  · cases h; exact ro_isnot
theorem gl_of (cx : CxOk F C G X) {x : Str} (h : glB G x = true) : Gl X x := by
  unfold glB at h
  show X.env.scope.names.lookup x = _
  rw [cx.scope]
  split at h
  · assumption
  · cases h
theorem vis_of (cx : CxOk F C G X) {x : Str} (h : visB G x = true) : Vis X.env.scope x := by
  unfold visB at h
  rw [cx.scope]
  split at h
  · exact .inl (by assumption)
  · exact .inr (.inl (by assumption))
  · exact .inr (.inr (by assumption))
  · cases h
theorem loc_of (cx : CxOk F C G X) {x : Str} (h : locB G x = true) : Loc X.env.scope x ∧ (X.fn x = true ∨ X.env.scope.names.lookup x = some .local) := by
  unfold locB at h
  rw [cx.scope]
  split at h
  · exact ⟨.inl (by assumption), .inr (by assumption)⟩
  · exact ⟨.inr (by assumption), .inl (cx.fn x h)⟩
  · cases h
/-- the names of the operations that are built-in functions -/
theorem pe_opN (cx : CxOk F C G X) {o : Op} {x : Str} {p pos : Pos} {e : Expr} {r : List Expr} {ir : E} (h : opN o = some x) (hg : Gl X x) (hr : RL F C X ir (e :: r)) : PE X (.Call (.Name x p) (e :: r) [] pos) (sp1 F C X.K (.op o ir)) := by
  have pa := rl_pa hr
  obtain ⟨a, t, rfl, pe, ho, hs, hr'⟩ := rl_cons hr
  have he := star_of hs r X.env
  have hpl := rl_plain hr' X.env pos
  have w : ∀ σ H Q, sp1 F C X.K (.op o (.cons a t)) σ H Q → tCB (r1 X.K o) (spA F C X.K (.cons a t)) σ H Q := fun σ H Q x => sp_op x
  have hb := cx.blt x
  cases o <;> first | (cases h; done) | skip
  · cases h
    exact (pe_callB ro_len hg (hb (by decide)) (by decide +kernel) pa (by decide) (by decide) he hpl).w w
  · cases h
    exact (pe_callB ro_abs hg (hb (by decide)) (by decide +kernel) pa (by decide) (by decide) he hpl).w w
  · cases h
    exact (pe_callB (ro_min2 cx.calm) hg (hb (by decide)) boot_min pa (by decide) (by decide) he hpl).w w
  · cases h
    exact (pe_callB (ro_max2 cx.calm) hg (hb (by decide)) boot_max pa (by decide) (by decide) he hpl).w w
  · cases h
    exact (pe_callTy ro_int1 hg (hb (by decide)) boot_int pa (by decide) (by decide) he hpl).w w
  · cases h
    exact (pe_callB (ro_sum cx.calm) hg (hb (by decide)) boot_sum pa (by decide) (by decide) he hpl).w w
  · cases h
    exact (pe_callB (ro_all cx.calm) hg (hb (by decide)) boot_all pa (by decide) (by decide) he hpl).w w
  · cases h
    exact (pe_callB (ro_any cx.calm) hg (hb (by decide)) boot_any pa (by decide) (by decide) he hpl).w w
  · cases h
    exact (pe_callTy ro_tupleOf hg (hb (by decide)) boot_tuple pa (by decide) (by decide) he hpl).w w
  · cases h
    exact (pe_callTy ro_listOf hg (hb (by decide)) boot_list pa (by decide) (by decide) he hpl).w w
  · cases h
    exact (pe_callB ro_sorted hg (hb (by decide)) boot_sorted pa (by decide) (by decide) he hpl).w w
  · cases h
    exact (pe_callB (ro_repr cx.guards cx.units) hg (hb (by decide)) boot_repr pa (by decide) (by decide) he hpl).w w
theorem pe_opT (cx : CxOk F C G X) {o : Op} {t : Str} {p p2 pos : Pos} {e : Expr} {ir : E} (h : opT o = some t) (hg : Gl X "isinstance") (hgt : Gl X t) (hr : RL F C X ir [e]) : PE X (.Call (.Name "isinstance" p) [e, .Name t p2] [] pos) (sp1 F C X.K (.op o ir)) := by
  obtain ⟨a, rfl, pe, ho, hs⟩ := rl1 hr
  have he := star_of hs [.Name t p2] X.env
  have hb := cx.blt t
  have hbi := cx.blt "isinstance" (by decide)
  have w : ∀ (T : String) (σ H Q), sp1 F C X.K (.op o (.cons a .nil)) σ H Q → tCB (fun vs H Q => ∃ x, vs = [x, .ty T] ∧ rOp X.K o [x] H Q) (tCons (sp1 F C X.K a) (tCons (tC (.ty T)) tNil)) σ H Q := fun T σ H Q x =>
    sp1_mono (spA_one ho (sp_op x)) fun v H1 q => ⟨v, rfl, q⟩
  cases o <;> first | (cases h; done) | skip
  · cases h
    exact (pe_callB (ro_isi isi_int) hg hbi boot_isinstance (pa_cons pe (pa_cons (pe_bltn (v := .ty "int") (u := .type "int") hgt (hb (by decide)) boot_int rfl) pa_nil (star_of rfl _ _)) he) (by decide) (by decide) he rfl).w (w "int")
  · cases h
    exact (pe_callB (ro_isi isi_bool) hg hbi boot_isinstance (pa_cons pe (pa_cons (pe_bltn (v := .ty "bool") (u := .type "bool") hgt (hb (by decide)) boot_bool rfl) pa_nil (star_of rfl _ _)) he) (by decide) (by decide) he rfl).w (w "bool")
  · cases h
    exact (pe_callB (ro_isi isi_tup) hg hbi boot_isinstance (pa_cons pe (pa_cons (pe_bltn (v := .ty "tuple") (u := .type "tuple") hgt (hb (by decide)) boot_tuple rfl) pa_nil (star_of rfl _ _)) he) (by decide) (by decide) he rfl).w (w "tuple")
  · cases h
    exact (pe_callB (ro_isi isi_str) hg hbi boot_isinstance (pa_cons pe (pa_cons (pe_bltn (v := .ty "str") (u := .type "str") hgt (hb (by decide)) boot_str rfl) pa_nil (star_of rfl _ _)) he) (by decide) (by decide) he rfl).w (w "str")
end
end Cz
set_option Elab.async false
set_option linter.all false
set_option maxRecDepth 100000
set_option maxHeartbeats 4000000
namespace Cz
open PySem PySem.Spec PyProof.Rows L2
section
variable {F : CallF} {C : List PyData} {G : Gx} {X : Cx}
theorem base_of {r : Expr} (h : plainBase r = true) (nm : Str) (env : PySem.Env) : attributeBase r nm env (eval r env) = eval r env := by
  cases r <;> first | rfl | cases h
theorem ix_of {s : Expr} (h : noSlice s = true) : PlainIx s := fun o i => by
  cases s <;> first | rfl | cases h
theorem cont_int {μ : Store} {w : Val} {i : Int} (h : cont μ w = some (.int i)) : w = .d (.int i) := by
  cases w with
  | d x =>
    have e : some x = some (.int i) := h
    cases e
    rfl
  | l n =>
    have e : (μ[n]?).map PyData.list = some (.int i) := h
    obtain ⟨ds, _, e⟩ := Option.map_eq_some_iff.mp e
    cases e
theorem sp_sl11 {a b c : E} {σ : L2.St} {H : Hp} {K : PySem.W.Frag} {Q : VK} (ha : one a = true) (hb : one b = true) (hc : one c = true) (x : sp1 F C K (.op .sl11 (.cons a (.cons b (.cons c .nil)))) σ H Q) :
    sp1 F C K a σ H fun x H1 => sp1 F C K b σ H1 fun y H2 => ∃ i, y = .int i ∧ sp1 F C K c σ H2 fun z H3 => ∃ j, z = .int j ∧ ∃ L d r, RC K L H3 x d ∧ slice d (some i) (some j) = some r ∧ Post K L H3 Q r := by
  obtain ⟨hid, as, μ, ρ, w, μ', S, R, e, k⟩ := x
  have e : (((evE F C a ρ μ).bind fun p => ((evE F C b ρ p.2).bind fun p => ((evE F C c ρ p.2).bind fun p => (some (([] : List Val), p.2)).map fun q => (p.1 ++ q.1, q.2)).map fun q => (p.1 ++ q.1, q.2)).map fun q => (p.1 ++ q.1, q.2)).bind fun p => (conts p.2 p.1).bind fun cs => (Op.sl11.run cs).map fun r => fin μ.length p.2 r) = some ([w], μ') := e
  obtain ⟨p, e1, e2⟩ := Option.bind_eq_some_iff.mp e
  obtain ⟨⟨a1, a2⟩, f1, f2⟩ := Option.bind_eq_some_iff.mp e1
  obtain ⟨q, f3, f4⟩ := Option.map_eq_some_iff.mp f2
  obtain ⟨⟨b1, b2⟩, f5, f6⟩ := Option.bind_eq_some_iff.mp f3
  obtain ⟨q', f7, f8⟩ := Option.map_eq_some_iff.mp f6
  obtain ⟨⟨c1, c2⟩, f9, f10⟩ := Option.bind_eq_some_iff.mp f7
  have f10 : some (c1 ++ [], c2) = some q' := f10
  cases f10
  subst f8
  subst f4
  obtain ⟨wa, g1⟩ := evE_one ha f1
  obtain ⟨wb, g2⟩ := evE_one hb f5
  obtain ⟨wc, g3⟩ := evE_one hc f9
  subst g1 g2 g3
  obtain ⟨cs, e3, e4⟩ := Option.bind_eq_some_iff.mp e2
  obtain ⟨r, e5, e6⟩ := Option.map_eq_some_iff.mp e4
  have e3 : conts c2 [wa, wb, wc] = some cs := e3
  have e6 : fin μ.length c2 r = ([w], μ') := e6
  have e7 : (cont c2 wa).bind (fun x => ((cont c2 wb).bind fun y => ((cont c2 wc).bind fun z => (some ([] : List PyData)).map (z :: ·)).map (y :: ·)).map (x :: ·)) = some cs := e3
  obtain ⟨ca, h1, h2⟩ := Option.bind_eq_some_iff.mp e7
  obtain ⟨r1, h3, h4⟩ := Option.map_eq_some_iff.mp h2
  obtain ⟨cb, h5, h6⟩ := Option.bind_eq_some_iff.mp h3
  obtain ⟨r2, h7, h8⟩ := Option.map_eq_some_iff.mp h6
  obtain ⟨cc, h9, h10⟩ := Option.bind_eq_some_iff.mp h7
  have h10 : some [cc] = some r2 := h10
  cases h10
  subst h8
  subst h4
  have sh : ∃ i j, cb = .int i ∧ cc = .int j := by
    match cb, cc, e5 with
    | .int i, .int j, _ => exact ⟨i, j, rfl, rfl⟩
  obtain ⟨i, j, rfl, rfl⟩ := sh
  have gb := cont_int h5
  have gc := cont_int h9
  subst gb gc
  refine ⟨hid, as, μ, ρ, wa, a2, S, R, f1, fun v H1 as1 px1 ev1 S1 rv1 => ⟨hid, as1, a2, ρ, _, b2, S1, R.evo S px1 ev1, f5, fun u H2 as2 px2 ev2 S2 rv2 => ?_⟩⟩
  have rv2 : Rp K (hid ++ as2) H2 u (.int i) := rv2
  cases rv2
  refine ⟨i, rfl, hid, as2, b2, ρ, _, c2, S2, (R.evo S px1 ev1).evo S1 px2 ev2, f9, fun z H3 as3 px3 ev3 S3 rv3 => ?_⟩
  have rv3 : Rp K (hid ++ as3) H3 z (.int j) := rv3
  cases rv3
  exact ⟨j, rfl, hid ++ as3, ca, r, S3.rc (ev3.rpv S2 px3 (ev2.rpv S1 px2 rv1)) h1, e5, post_fin S ((px1.trans px2).trans px3) ((ev1.trans ev2).trans ev3) S3 e6 k⟩
theorem cont_str {μ : Store} {w : Val} {i : Str} (h : cont μ w = some (.str i)) : w = .d (.str i) := by
  cases w with
  | d x =>
    have e : some x = some (.str i) := h
    cases e
    rfl
  | l n =>
    have e : (μ[n]?).map PyData.list = some (.str i) := h
    obtain ⟨ds, _, e⟩ := Option.map_eq_some_iff.mp e
    cases e
/-- a method of a text -/
theorem sp_bm {o : Op} {a b : E} {σ : L2.St} {H : Hp} {K : PySem.W.Frag} {Q : VK} (hs : ∀ cs r, o.run cs = some r → ∃ z t, cs = .str z :: t) (ha : one a = true) (hb : one b = true) (x : sp1 F C K (.op o (.cons a (.cons b .nil))) σ H Q) :
    tBM K "str" (fun x vs H Q => rOp K o (x :: vs) H Q) (sp1 F C K a) (spA F C K (.cons b .nil)) σ H Q := by
  obtain ⟨hid, as, μ, ρ, w, μ', S, R, e, k⟩ := x
  have e : (((evE F C a ρ μ).bind fun p => (evE F C (.cons b .nil) ρ p.2).map fun q => (p.1 ++ q.1, q.2)).bind fun p => (conts p.2 p.1).bind fun cs => (o.run cs).map fun r => fin μ.length p.2 r) = some ([w], μ') := e
  obtain ⟨p, e1, e2⟩ := Option.bind_eq_some_iff.mp e
  obtain ⟨⟨a1, a2⟩, f1, f2⟩ := Option.bind_eq_some_iff.mp e1
  obtain ⟨⟨q1, q2⟩, f3, f4⟩ := Option.map_eq_some_iff.mp f2
  subst f4
  obtain ⟨wa, g1⟩ := evE_one ha f1
  subst g1
  obtain ⟨cs, e3, e4⟩ := Option.bind_eq_some_iff.mp e2
  obtain ⟨r, e5, e6⟩ := Option.map_eq_some_iff.mp e4
  have e6 : fin μ.length q2 r = ([w], μ') := e6
  have e7 : (cont q2 wa).bind (fun x => (conts q2 q1).map (x :: ·)) = some cs := e3
  obtain ⟨ca, h1, h2⟩ := Option.bind_eq_some_iff.mp e7
  obtain ⟨r1, h3, h4⟩ := Option.map_eq_some_iff.mp h2
  obtain ⟨z, t, h5⟩ := hs cs r e5
  rw [h5] at h4
  cases h4
  have gb := cont_str h1
  subst gb
  refine ⟨hid, as, μ, ρ, _, a2, S, R, f1, fun v H1 as1 px1 ev1 S1 rv1 => ?_⟩
  have rv1' : Rp K (hid ++ as1) H1 v (.str z) := rv1
  cases rv1'
  refine ⟨rfl, hid, as1, a2, ρ, q1, q2, S1, R.evo S px1 ev1, f3, fun us H2 as2 px2 ev2 S2 rv2 => ⟨hid ++ as2, cs, r, ?_, e5, post_fin S (px1.trans px2) (ev1.trans ev2) S2 e6 k⟩⟩
  rw [h5]
  exact .cons (.inl (.str z)) (S2.rcs rv2 h3)
theorem snd_op (cx : CxOk F C G X) {o : Op} {ir : E} {e : Expr} {args : List Expr} (h : opArgs G o e = some args) (hr : RL F C X ir args) : PE X e (sp1 F C X.K (.op o ir)) := by
  unfold opArgs at h
  split at h
  · -- BinOp
    split at h
    · rename_i hb
      cases h
      obtain ⟨a, b, rfl, ⟨pa, ha, _⟩, pb, hb', _⟩ := rl2 hr
      exact (pe_op (binR hb) pa pb).w fun σ H Q x => spA_two ha hb' (sp_op x)
    · cases h
  · -- Compare
    split at h
    · rename_i hb
      cases h
      rw [Bool.and_eq_true, decide_eq_true_eq] at hb
      obtain ⟨a, b, rfl, ⟨pa, ha, _⟩, pb, hb', _⟩ := rl2 hr
      exact (pe_cmpR (cmpR cx.units hb.1) pa pb (by simpa using hb.2)).w fun σ H Q x => spA_two ha hb' (sp_op x)
    · cases h
  · -- -x
    split at h
    · rename_i hb
      cases h
      subst hb
      obtain ⟨a, rfl, pa, ha, _⟩ := rl1 hr
      refine (pe_un un_neg pa).w fun σ H Q x => sp1_mono (spA_one ha (sp_op x)) fun v H1 q => ?_
      obtain ⟨L, cs, r, hcs, hrun, q⟩ := q
      obtain ⟨c, rfl⟩ := run1 (o := .neg) (fun c d t => by cases c <;> rfl) rfl hrun
      obtain ⟨v', ev, hx⟩ := hcs.one
      injection ev with ev _
      subst ev
      cases c with
      | int i =>
        have e : some (Res.d (.int (-i))) = some r := hrun
        cases e
        exact ⟨i, hx.int, q.now (.int _)⟩
      | _ => cases hrun
    · cases h
  · -- x[:]
    split at h
    · rename_i hb
      cases h
      subst hb
      obtain ⟨a, rfl, pa, ha, _⟩ := rl1 hr
      refine (pe_slice so_slice pa po_none po_none).w fun σ H Q x => sp1_mono (spA_one ha (sp_op x)) fun v H1 q => ?_
      obtain ⟨L, cs, r, hcs, hrun, q⟩ := q
      obtain ⟨c, rfl⟩ := run1 (o := .sl00) (fun c d t => by cases c <;> rfl) rfl hrun
      obtain ⟨v', ev, hx⟩ := hcs.one
      injection ev with ev _
      subst ev
      exact ⟨L, c, r, hx, hrun, q⟩
    · cases h
  · -- x[l:]
    split at h
    · rename_i hb
      cases h
      subst hb
      obtain ⟨a, b, rfl, ⟨pa, ha, _⟩, pb, hb', _⟩ := rl2 hr
      refine (pe_slice so_slice pa (po_some pb) po_none).w fun σ H Q x => sp1_mono (spA_two ha hb' (sp_op x)) fun v H1 q => sp1_mono q fun u H2 q => ?_
      obtain ⟨L, cs, r, hcs, hrun, q⟩ := q
      have sh : ∃ c i, cs = [c, .int i] := by
        match cs, hrun with
        | [c, .int i], _ => exact ⟨c, i, rfl⟩
      obtain ⟨c, i, rfl⟩ := sh
      obtain ⟨v', u', ev, hx, hy⟩ := hcs.two
      injection ev with ev ev2
      injection ev2 with ev2 _
      subst ev
      subst ev2
      exact ⟨i, hy.int, L, c, r, hx, hrun, q⟩
    · cases h
  · -- x[:h]
    split at h
    · rename_i hb
      cases h
      subst hb
      obtain ⟨a, b, rfl, ⟨pa, ha, _⟩, pb, hb', _⟩ := rl2 hr
      refine (pe_slice so_slice pa po_none (po_some pb)).w fun σ H Q x => sp1_mono (spA_two ha hb' (sp_op x)) fun v H1 q => sp1_mono q fun u H2 q => ?_
      obtain ⟨L, cs, r, hcs, hrun, q⟩ := q
      have sh : ∃ c i, cs = [c, .int i] := by
        match cs, hrun with
        | [c, .int i], _ => exact ⟨c, i, rfl⟩
      obtain ⟨c, i, rfl⟩ := sh
      obtain ⟨v', u', ev, hx, hy⟩ := hcs.two
      injection ev with ev ev2
      injection ev2 with ev2 _
      subst ev
      subst ev2
      exact ⟨i, hy.int, L, c, r, hx, hrun, q⟩
    · cases h
  · -- x[l:h]
    split at h
    · rename_i hb
      cases h
      subst hb
      obtain ⟨a, b, c, rfl, ⟨pa, ha, _⟩, ⟨pb, hb', _⟩, pc, hc', _⟩ := rl3 hr
      exact (pe_slice so_slice pa (po_some pb) (po_some pc)).w fun σ H Q x => sp_sl11 ha hb' hc' x
    · cases h
  · -- x[::-1]
    split at h
    · rename_i hb
      cases h
      rw [Bool.and_eq_true, decide_eq_true_eq, decide_eq_true_eq] at hb
      obtain ⟨hb, hj⟩ := hb
      subst hb
      subst hj
      obtain ⟨a, rfl, pa, ha, _⟩ := rl1 hr
      exact (pe_back pa).w fun σ H Q x => sp1_mono (spA_one ha (sp_op x)) fun v H1 q => q
    · cases h
  · -- x[i]
    split at h
    · rename_i hb
      cases h
      rw [Bool.and_eq_true, decide_eq_true_eq] at hb
      obtain ⟨hb, hj⟩ := hb
      subst hb
      obtain ⟨a, b, rfl, ⟨pa, ha, _⟩, pb, hb', _⟩ := rl2 hr
      exact (pe_ix ro_ix pa pb (ix_of hj)).w fun σ H Q x => spA_two ha hb' (sp_op x)
    · cases h
  · -- f(..)
    split at h
    · cases h
    · rename_i hg
      simp only [Bool.not_eq_true', Bool.not_eq_false] at hg
      split at h
      · rename_i y hy
        split at h
        · rename_i hb
          cases h
          rw [Bool.and_eq_true, decide_eq_true_eq] at hb
          obtain ⟨hb, hj⟩ := hb
          subst hb
          cases args with
          | nil => cases hj
          | cons e r => exact pe_opN cx hy (gl_of cx hg) hr
        · cases h
      · split at h
        · rename_i hb
          subst hb
          split at h
          · rename_i hb
            cases h
            simp only [Bool.and_eq_true, decide_eq_true_eq] at hb
            obtain ⟨⟨hgc, hb⟩, hj⟩ := hb
            subst hb
            cases args with
            | nil => cases hj
            | cons e r =>
              have pa := rl_pa hr
              obtain ⟨a, t, rfl, pe, ho, hs, hr'⟩ := rl_cons hr
              exact (pe_callBfun ro_gcd (gl_of cx hg) (cx.gcd hgc) pa (by decide) (star_of hs _ _) (rl_plain hr' _ _)).w fun σ H Q x => sp_op x
          · cases h
        · rename_i hng
          split at h
          · rename_i t a y p2 ht
            split at h
            · rename_i hb
              cases h
              simp only [Bool.and_eq_true, decide_eq_true_eq] at hb
              obtain ⟨⟨hb1, hb2⟩, hb3⟩ := hb
              subst hb1
              subst hb2
              exact pe_opT cx ht (gl_of cx hg) (gl_of cx hb3) hr
            · cases h
          · cases h
  · -- r.m(a)
    split at h
    · rename_i hb
      cases h
      simp only [Bool.and_eq_true, Bool.or_eq_true, decide_eq_true_eq] at hb
      obtain ⟨⟨hb1, hb2⟩, hb3⟩ := hb
      obtain ⟨a, b, rfl, ⟨pa, ha, _⟩, pb, hb', hs⟩ := rl2 hr
      have pl : PA X [_] (spA F C X.K (.cons b .nil)) := (pa_cons pb pa_nil (star_of hs _ _)).w fun σ H Q x => spA_one hb' x
      rcases hb3 with ⟨rfl, rfl⟩ | ⟨rfl, rfl⟩
      · refine (pe_bm PySem.F.plainAttrs_str PySem.F.slot_str_join PySem.F.type_str_join ro_join pa pl (base_of hb1 _ _) ?_ hb2 (star_of hs _ _) rfl).w fun σ H Q x => sp_bm (fun cs r e => ?_) ha hb' x
        · rw [star_of hs]
          rfl
        · match cs, e with
          | .str z :: t, _ => exact ⟨z, t, rfl⟩
      · refine (pe_bm PySem.F.plainAttrs_str PySem.F.slot_str_index PySem.F.type_str_index ro_index pa pl (base_of hb1 _ _) ?_ hb2 (star_of hs _ _) rfl).w fun σ H Q x => sp_bm (fun cs r e => ?_) ha hb' x
        · rw [star_of hs]
          rfl
        · match cs, e with
          | .str z :: t, _ => exact ⟨z, t, rfl⟩
    · cases h
  · cases h
end
end Cz
set_option Elab.async false
set_option linter.all false
set_option maxRecDepth 100000
set_option maxHeartbeats 4000000
namespace Cz
open PySem PySem.Spec PyProof.Rows L2
/-- names as targets -/
def okNames (G : Gx) : List Nat → List Expr → Bool
  | [], [] => true
  | i :: is, .Name x _ :: r => decide (G.N[i]? = some x) && locB G x && okNames G is r
  | _, _ => false
def okTg (G : Gx) : Tg → Expr → Bool
  | .nm i, .Name x _ => decide (G.N[i]? = some x) && locB G x
  | .tp is, .Tuple es _ _ => okNames G is es
  | _, _ => false
def isTup : Expr → Bool
  | .Tuple _ _ _ => true
  | _ => false
def ikArgs (G : Gx) : Ik → Expr → Expr → Option (List Expr)
  | .seq, _, e => if noSet e then some [e] else none
  | .range1, _, .Call (.Name x _) [a] [] _ => if x = "range" && glB G x then some [a] else none
  | .range2, _, .Call (.Name x _) [a, b] [] _ => if x = "range" && glB G x then some [a, b] else none
  | .zip2, tg, .Call (.Name x _) [a, b] [] _ => if x = "zip" && glB G x && isTup tg then some [a, b] else none
  | .enum, tg, .Call (.Name x _) [a] [] _ => if x = "enumerate" && glB G x && isTup tg then some [a] else none
  | _, _, _ => none
def blkG (G : Gx) (scope : Scope) : Gx := { G with sc := relS scope G.sc, wn := fun x => scope.names.lookup x == some .cell }
def ownOf (N : List Str) (is : List Nat) : List (Str × Nat) := is.map fun i => (N.getD i "", i)
def tst : E → Bool
  | .ite _ _ _ => false
  | .and a b => tst a && tst b
  | .or a b => tst a && tst b
  | .not a => tst a
  | _ => true
def isL : E → Bool
  | .nil => true
  | .cons _ _ => true
  | _ => false
def tst1 : E → Bool
  | .cons c _ => tst c
  | _ => true
/-- e is what ir says; a list of expressions for a list -/
def ok (G : Gx) : E → List Expr → Bool
  | .nil, es => es.isEmpty
  | .cons h t, e :: r => ok G h [e] && one h && noStar e && isL t && ok G t r
  | .var i, [.Name x _] => decide (G.N[i]? = some x) && visB G x && nmOk x
  | .k c, [.Constant c' _ _] => kOk c c'
  | .glob i, [.Name x _] => decide (G.cs[i]? = some x) && glB G x && nmOk x
  | .op o es, [e] => match opArgs G o e with
    | some as => isL es && ok G es as
    | none => false
  | .tup es, [.Tuple r _ _] => isL es && ok G es r
  | .lst es, [.List r _] => isL es && ok G es r
  | .call f es, [.Call (.Name x _) args [] _] => decide (G.fs[f]? = some x) && glB G x && nmOk x && isL es && ok G es args
  | .ite c a b, [.IfExp c' a' b' _] => ok G c [c'] && tst c && one c && ok G a [a'] && one a && ok G b [b'] && one b
  | .and a b, [.BoolOp .And (x :: y :: r) p] => ok G a [x] && one a && one b && (match r with
    | [] => ok G b [y]
    | _ => ok G b [.BoolOp .And (y :: r) p])
  | .or a b, [.BoolOp .Or (x :: y :: r) p] => ok G a [x] && one a && one b && (match r with
    | [] => ok G b [y]
    | _ => ok G b [.BoolOp .Or (y :: r) p])
  | .not a, [.UnaryOp .Not x _] => ok G a [x] && one a
  | .chain o1 o2 a b c, [.Compare x [p, q] [y, z] _] => decide (opC o1 = some p) && decide (opC o2 = some q) && !lastMarks [p, q] [y, z] && ok G a [x] && one a && ok G b [y] && one b && ok G c [z] && one c
  | .comp elt t ik its conds, [.ListComp e [⟨tg, iter, ifs, 0⟩] scope _] => match ikArgs G ik tg iter with
    | some as => noSet iter && isL its && ok G its as && blkC G.N G.sc scope (ownOf G.N t.slots) && okTg (blkG G scope) t tg && condsOk conds && tst1 conds && ok (blkG G scope) conds ifs && one elt && ok (blkG G scope) elt [e]
    | none => false
  | _, _ => false

section
variable (F : CallF) (C : List PyData)
structure Sg (X : Cx) (ir : E) (es : List Expr) : Prop where
  ex : ∃ e, es = [e]
  pe : ∀ e, es = [e] → PE X e (sp1 F C X.K ir)
  pt : ∀ e, es = [e] → tst ir = true → PT X e (spT F C X.K ir)
  pw : ∀ op vs pos, es = [.BoolOp op vs pos] → tst ir = true → PW X (.BoolOp op vs pos) (spT F C X.K ir)
end
section
variable {F : CallF} {C : List PyData} {G : Gx} {X : Cx}
theorem set_of {e : Expr} (h : noSet e = true) (env : PySem.Env) (x : Value) : foldedSetIterable e env x = pure x := by
  cases e <;> first | rfl | cases h
theorem names_of (cx : CxOk F C G X) : ∀ {is : List Nat} {es : List Expr}, okNames G is es = true → PGs X es (gNames is) ∧ (assignEach es X.env).length = is.length ∧ (assignEach es X.env).findIdx? (·.1) = none
  | [], [], _ => ⟨pgs_nil, rfl, rfl⟩
  | [], _ :: _, h => by cases h
  | _ :: _, [], h => by cases h
  | i :: is, e :: es, h => by
    cases e with
    | Name x p =>
      have h : (decide (G.N[i]? = some x) && locB G x && okNames G is es) = true := h
      simp only [Bool.and_eq_true, decide_eq_true_eq] at h
      obtain ⟨⟨h1, h2⟩, h3⟩ := h
      obtain ⟨a, b, c⟩ := names_of cx h3
      obtain ⟨l1, l2⟩ := loc_of cx h2
      refine ⟨pgs_cons (pg_name cx.nd (by rw [cx.N]; exact h1) l1 l2) a rfl, ?_, ?_⟩
      · show (assignEach es X.env).length + 1 = is.length + 1
        rw [b]
      · show ((false, assign (.Name x p) X.env) :: assignEach es X.env).findIdx? (·.1) = none
        rw [List.findIdx?_cons, c]
        rfl
    | _ => cases h
theorem tg_of (cx : CxOk F C G X) {t : Tg} {tg : Expr} (h : okTg G t tg = true) : PG X tg (gT X.K t) := by
  cases t with
  | nm i =>
    cases tg with
    | Name x p =>
      have h : (decide (G.N[i]? = some x) && locB G x) = true := h
      simp only [Bool.and_eq_true, decide_eq_true_eq] at h
      obtain ⟨l1, l2⟩ := loc_of cx h.2
      exact pg_name cx.nd (by rw [cx.N]; exact h.1) l1 l2
    | _ => cases h
  | tp is =>
    cases tg with
    | Tuple es k p =>
      obtain ⟨a, b, c⟩ := names_of cx (show okNames G is es = true from h)
      exact pg_tup cx.calm a b c
    | _ => cases h
theorem ik_of (cx : CxOk F C G X) {ik : Ik} {tg iter : Expr} {as : List Expr} {its : E} (h : ikArgs G ik tg iter = some as) (hr : RL F C X its as) : PI X tg iter (rIk X.K ik (spA F C X.K its)) := by
  unfold ikArgs at h
  split at h
  · split at h
    · cases h
      obtain ⟨a, rfl, pa, ha, _⟩ := rl1 hr
      exact (pi_seqD pa).w fun σ H R x => rk_w (fun σ H Q x => spA_one ha x) σ H R x
    · cases h
  · split at h
    · rename_i hb
      cases h
      simp only [Bool.and_eq_true, decide_eq_true_eq] at hb
      obtain ⟨hb1, hb2⟩ := hb
      subst hb1
      have pa := rl_pa hr
      obtain ⟨a, rfl, _, ha, hs⟩ := rl1 hr
      exact pi_range1D (gl_of cx hb2) (cx.blt _ (by decide)) pa (star_of hs _ _)
    · cases h
  · split at h
    · rename_i hb
      cases h
      simp only [Bool.and_eq_true, decide_eq_true_eq] at hb
      obtain ⟨hb1, hb2⟩ := hb
      subst hb1
      have pa := rl_pa hr
      obtain ⟨a, b, rfl, ⟨_, ha, hs⟩, _, hb', hs'⟩ := rl2 hr
      refine pi_range2D (gl_of cx hb2) (cx.blt _ (by decide)) pa ?_ (star_of hs' _ _)
      rw [star_of hs, star_of hs']
      rfl
    · cases h
  · split at h
    · rename_i hb
      cases h
      simp only [Bool.and_eq_true, decide_eq_true_eq] at hb
      obtain ⟨⟨hb1, hb2⟩, hb3⟩ := hb
      subst hb1
      have pa := rl_pa hr
      obtain ⟨a, b, rfl, ⟨_, ha, hs⟩, _, hb', hs'⟩ := rl2 hr
      cases tg with
      | Tuple es k p =>
        refine pi_zip2D (gl_of cx hb2) (cx.blt _ (by decide)) pa (star_of hs _ _) ?_
        rw [star_of hs']
        rfl
      | _ => cases hb3
    · cases h
  · split at h
    · rename_i hb
      cases h
      simp only [Bool.and_eq_true, decide_eq_true_eq] at hb
      obtain ⟨⟨hb1, hb2⟩, hb3⟩ := hb
      subst hb1
      have pa := rl_pa hr
      obtain ⟨a, rfl, _, ha, hs⟩ := rl1 hr
      cases tg with
      | Tuple es k p => exact pi_enumD (gl_of cx hb2) (cx.blt _ (by decide)) pa (star_of hs _ _)
      | _ => cases hb3
    · cases h
  · cases h
theorem blk_cx (cx : CxOk F C G X) (s : Shared) (H : Hp) (scope : Scope) (Ca : Addr) (cl : List (Str × Addr)) (fp : List Addr) : CxOk F C (blkG G scope) (X.blk s H scope (compEnvC scope cl Ca X.env) fp) where
  scope := by
    show relS scope X.env.scope = relS scope G.sc
    rw [cx.scope]
  N := cx.N
  nd := cx.nd
  calm := cx.calm
  units := cx.units
  guards := cx.guards
  xe := rfl
  fn := fun x h => h
  blt := cx.blt
  gcd := cx.gcd
  con := cx.con
  call := cx.call
theorem sg_l {ir : E} {es : List Expr} (h : isL ir = false) (hl : RL F C X ir es) : False := by
  cases ir <;> first | exact hl.elim | cases h
def plainTest : Expr → Bool
  | .UnaryOp .Not _ _ => false
  | .BoolOp _ _ _ => false
  | .IfExp _ _ _ _ => false
  | .Compare _ _ _ _ => false
  | _ => true
theorem plainT {e : Expr} (h : plainTest e = true) (env : PySem.Env) (whole : Sem Value) : isTrue e env whole = (do let v ← whole; standAt e.pos; holding [v] (truthy v)) := by
  cases e with
  | UnaryOp op a p => cases op <;> first | rfl | cases h
  | BoolOp _ _ _ => cases h
  | IfExp _ _ _ _ => cases h
  | Compare _ _ _ _ => cases h
  | _ => rfl
/-- a form that is no test of its own -/
theorem sg_val {ir : E} {e : Expr} (h : PE X e (sp1 F C X.K ir)) (hp : plainTest e = true) : Sg F C X ir [e] where
  ex := ⟨e, rfl⟩
  pe := fun e' q => by cases q; exact h
  pt := fun e' q _ => by
    cases q
    exact (pt_val h (plainT hp X.env)).w fun σ H Q x => spT_sp1 x
  pw := fun op vs pos q _ => by
    cases q
    cases hp
theorem own_slots (N : List Str) (is : List Nat) : (ownOf N is).map (·.2) = is := by
  unfold ownOf
  rw [List.map_map]
  exact List.map_id is
theorem sg_comp {elt its conds : E} {t : Tg} {ik : Ik} {e tg iter : Expr} {ifs as : List Expr} {scope : Scope} {pos : Pos} (cx : CxOk F C G X) (hik : ikArgs G ik tg iter = some as) (hns : noSet iter = true) (hits : RL F C X its as)
    (hblk : blkC G.N G.sc scope (ownOf G.N t.slots) = true) (htg : okTg (blkG G scope) t tg = true) (hco : condsOk conds = true) (he : one elt = true)
    (hc : ∀ (s : Shared) (H : Hp) (Ca : Addr) (cl : List (Str × Addr)) (fp : List Addr), PTs (X.blk s H scope (compEnvC scope cl Ca X.env) fp) ifs (tts F C X.K conds))
    (hel : ∀ (s : Shared) (H : Hp) (Ca : Addr) (cl : List (Str × Addr)) (fp : List Addr), PE (X.blk s H scope (compEnvC scope cl Ca X.env) fp) e (sp1 F C X.K elt)) : Sg F C X (.comp elt t ik its conds) [.ListComp e [⟨tg, iter, ifs, 0⟩] scope pos] := by
  refine sg_val ?_ rfl
  have h := pe_lc (pos := pos) cx.calm cx.nd (ik_of cx hik hits) (own := ownOf G.N t.slots) (scope := scope) (blkOk_by (by rw [cx.N, cx.scope]; exact hblk)) (g := gT X.K t) (fun s H Ca cl fp => tg_of (blk_cx cx s H scope Ca cl fp) htg) hc hel (set_of hns X.env)
  rw [own_slots] at h
  exact h.w fun σ H Q x => sp_comp hco he x
theorem ok_and {a b : E} {x y : Expr} {r : List Expr} {p : Pos} (ha : Sg F C X a [x]) (oa : one a = true) (hb : (r = [] ∧ Sg F C X b [y]) ∨ (r ≠ [] ∧ Sg F C X b [.BoolOp .And (y :: r) p])) : Sg F C X (.and a b) [.BoolOp .And (x :: y :: r) p] := by
  have pb : PE X (.BoolOp .And (y :: r) p) (sp1 F C X.K b) := by
    rcases hb with ⟨rfl, hb⟩ | ⟨_, hb⟩
    · exact pe_one (hb.pe _ rfl)
    · exact hb.pe _ rfl
  have wb : tst b = true → PW X (.BoolOp .And (y :: r) p) (spT F C X.K b) := fun ht => by
    rcases hb with ⟨rfl, hb⟩ | ⟨_, hb⟩
    · exact pw_and1 (hb.pt _ rfl ht)
    · exact hb.pw _ _ _ rfl ht
  have w : tst (.and a b) = true → PW X (.BoolOp .And (x :: y :: r) p) (spT F C X.K (.and a b)) := fun ht => by
    have ht : (tst a && tst b) = true := ht
    rw [Bool.and_eq_true] at ht
    exact (pw_and (ha.pt _ rfl ht.1) (wb ht.2)).w fun σ H Q x => spT_and x
  exact ⟨⟨_, rfl⟩, fun e q => by cases q; exact (pe_and (ha.pe _ rfl) pb).w fun σ H Q x => sp_and x, fun e q ht => by cases q; exact (w ht).pt, fun op vs pos q ht => by cases q; exact w ht⟩
theorem ok_or {a b : E} {x y : Expr} {r : List Expr} {p : Pos} (ha : Sg F C X a [x]) (oa : one a = true) (hb : (r = [] ∧ Sg F C X b [y]) ∨ (r ≠ [] ∧ Sg F C X b [.BoolOp .Or (y :: r) p])) : Sg F C X (.or a b) [.BoolOp .Or (x :: y :: r) p] := by
  have pb : PE X (.BoolOp .Or (y :: r) p) (sp1 F C X.K b) := by
    rcases hb with ⟨rfl, hb⟩ | ⟨_, hb⟩
    · exact pe_one (hb.pe _ rfl)
    · exact hb.pe _ rfl
  have wb : tst b = true → PW X (.BoolOp .Or (y :: r) p) (spT F C X.K b) := fun ht => by
    rcases hb with ⟨rfl, hb⟩ | ⟨_, hb⟩
    · exact pw_or1 (hb.pt _ rfl ht)
    · exact hb.pw _ _ _ rfl ht
  have w : tst (.or a b) = true → PW X (.BoolOp .Or (x :: y :: r) p) (spT F C X.K (.or a b)) := fun ht => by
    have ht : (tst a && tst b) = true := ht
    rw [Bool.and_eq_true] at ht
    exact (pw_or (ha.pt _ rfl ht.1) (wb ht.2)).w fun σ H Q x => spT_or x
  exact ⟨⟨_, rfl⟩, fun e q => by cases q; exact (pe_or (ha.pe _ rfl) pb).w fun σ H Q x => sp_or x, fun e q ht => by cases q; exact (w ht).pt, fun op vs pos q ht => by cases q; exact w ht⟩
theorem ok_cmp {o : Op} {ir : E} {a : Expr} {ops : List CmpOp} {bs as : List Expr} {p : Pos} (cx : CxOk F C G X) (h : opArgs G o (.Compare a ops bs p) = some as) (hr : RL F C X ir as) : Sg F C X (.op o ir) [.Compare a ops bs p] := by
  have pe := snd_op cx h hr
  refine ⟨⟨_, rfl⟩, fun e q => by cases q; exact pe, fun e q _ => ?_, fun op vs pos q _ => by cases q⟩
  cases q
  match ops, bs, h with
  | [q], [b], h =>
    have h : (if (decide (opC o = some q) && !behindInMarks q b) = true then some [a, b] else none) = some as := by
      have h2 := h
      simp only [opArgs] at h2
      simpa using h2
    split at h
    · rename_i hb
      cases h
      rw [Bool.and_eq_true, decide_eq_true_eq] at hb
      obtain ⟨ia, ib, rfl, ⟨pa, ha, _⟩, pb, hb', _⟩ := rl2 hr
      exact (pt_cmpR (cmpR cx.units hb.1) pa pb (by simpa using hb.2)).w fun σ H Q x => spA_two ha hb' (sp_op (spT_sp1 x))
    · cases h
end
end Cz
set_option Elab.async false
set_option linter.all false
set_option maxRecDepth 100000
set_option maxHeartbeats 4000000
namespace Cz
open PySem PySem.Spec PyProof.Rows L2
section
variable {F : CallF} {C : List PyData}
structure RR (F : CallF) (C : List PyData) (X : Cx) (ir : E) (es : List Expr) : Prop where
  l : isL ir = true → RL F C X ir es
  s : isL ir = false → Sg F C X ir es
  t : ∀ c, ir = .cons c .nil → ∀ e, es = [e] → tst c = true → PT X e (spT F C X.K c)
theorem one_isL {ir : E} (h : one ir = true) : isL ir = false := by
  cases ir <;> first | rfl | cases h
theorem RR.sg {X : Cx} {ir : E} {es : List Expr} (r : RR F C X ir es) (h : one ir = true) : Sg F C X ir es := r.s (one_isL h)
theorem RR.of {X : Cx} {ir : E} {es : List Expr} (h : isL ir = false) (s : Sg F C X ir es) : RR F C X ir es := ⟨fun z => (by rw [h] at z; cases z), fun _ => s, fun c z => (by rw [z] at h; cases h)⟩
theorem nm_of {x : Str} (h : nmOk x = true) : (x == ("__debug__" : Str)) = false ∧ (x == ("__classdict__" : Str)) = false := by
  unfold nmOk at h
  simpa using h
theorem pe_k {X : Cx} {c : PyData} {c' : Const} {k : Nat} {p : Pos} (h : kOk c c' = true) : PE X (.Constant c' k p) (sp1 F C X.K (.k c)) := by
  unfold kOk at h
  split at h
  · have h := of_decide_eq_true h
    subst h
    exact pe_int.w fun σ H Q x => sp_k (fun L H => .int _) x
  · have h := of_decide_eq_true h
    subst h
    exact pe_bl.w fun σ H Q x => sp_k (fun L H => .bl _) x
  · have h := of_decide_eq_true h
    subst h
    exact pe_str.w fun σ H Q x => sp_k (fun L H => .str _) x
  · exact pe_non.w fun σ H Q x => sp_k (fun L H => .non) x
  · cases h
theorem pts_of {X : Cx} {conds : E} {ifs : List Expr} (hc : condsOk conds = true) (hl : RL F C X conds ifs) (ht : ∀ c, conds = .cons c .nil → ∀ e, ifs = [e] → PT X e (spT F C X.K c)) : PTs X ifs (tts F C X.K conds) := by
  cases conds with
  | nil =>
    have hl : ifs = [] := hl
    subst hl
    exact pts_nil
  | cons c t =>
    cases t with
    | nil =>
      obtain ⟨e, r, rfl, _, _, _, hr⟩ := hl
      have hr : r = [] := hr
      subst hr
      exact pts_one (ht c rfl e rfl)
    | _ => cases hc
  | _ => cases hc
theorem sndE : ∀ (ir : E) (G : Gx) (X : Cx) (es : List Expr), CxOk F C G X → ok G ir es = true → RR F C X ir es := by
  intro ir
  induction ir with
  | nil =>
    intro G X es cx h
    refine ⟨fun _ => ?_, fun z => (by cases z), fun c z => (by cases z)⟩
    cases es with
    | nil => rfl
    | cons _ _ => cases h
  | cons a t iha iht =>
    intro G X es cx h
    cases es with
    | nil => cases h
    | cons e r =>
      have h : (ok G a [e] && one a && noStar e && isL t && ok G t r) = true := h
      simp only [Bool.and_eq_true] at h
      obtain ⟨⟨⟨⟨h1, h2⟩, h3⟩, h4⟩, h5⟩ := h
      have sa := (iha G X _ cx h1).sg h2
      exact ⟨fun _ => ⟨e, r, rfl, sa.pe e rfl, h2, h3, (iht G X _ cx h5).l h4⟩, fun z => (by cases z), fun c z e' z' ht => (by cases z; cases z'; exact sa.pt e rfl ht)⟩
  | var i =>
    intro G X es cx h
    refine .of rfl ?_
    match es, h with
    | [.Name x p], h =>
      have h : (decide (G.N[i]? = some x) && visB G x && nmOk x) = true := h
      simp only [Bool.and_eq_true, decide_eq_true_eq] at h
      obtain ⟨⟨h1, h2⟩, h3⟩ := h
      obtain ⟨n1, n2⟩ := nm_of h3
      exact sg_val ((pe_var (by rw [cx.N]; exact h1) (vis_of cx h2) n1 n2).w fun σ H Q x => sp_var x) rfl
  | k c =>
    intro G X es cx h
    refine .of rfl ?_
    match es, h with
    | [.Constant c' k p], h => exact sg_val (pe_k h) rfl
  | glob i =>
    intro G X es cx h
    refine .of rfl ?_
    match es, h with
    | [.Name x p], h =>
      have h : (decide (G.cs[i]? = some x) && glB G x && nmOk x) = true := h
      simp only [Bool.and_eq_true, decide_eq_true_eq] at h
      obtain ⟨⟨h1, h2⟩, h3⟩ := h
      obtain ⟨n1, n2⟩ := nm_of h3
      cases hc : C[i]? with
      | none =>
        refine sg_val ⟨fun pins s σ H Q I hw => ?_⟩ rfl
        obtain ⟨hid, as, μ, ρ, w, μ', S, R, e, k⟩ := hw
        have e : (C[i]?).map (fun x => ([Val.d x], μ)) = some ([w], μ') := e
        rw [hc] at e
        cases e
      | some y =>
        obtain ⟨v, u, hm, hr, hp⟩ := cx.con i x y h1 hc
        exact sg_val ((pe_glob (gl_of cx h2) hm hr n1).w fun σ H Q x => sp_glob hc (fun L H => hp L H) x) rfl
  | op o es' ih =>
    intro G X es cx h
    refine .of rfl ?_
    match es, h with
    | [e], h =>
      have h : (match opArgs G o e with
        | some as => isL es' && ok G es' as
        | none => false) = true := h
      split at h
      · rename_i as ha
        rw [Bool.and_eq_true] at h
        have hr := (ih G X as cx h.2).l h.1
        cases e with
        | Compare a ops bs p => exact ok_cmp cx ha hr
        | BoolOp _ _ _ => cases ha
        | IfExp _ _ _ _ => cases ha
        | UnaryOp op a p =>
          cases op with
          | Not => cases ha
          | _ => exact sg_val (snd_op cx ha hr) rfl
        | _ => exact sg_val (snd_op cx ha hr) rfl
      · cases h
  | tup es' ih =>
    intro G X es cx h
    refine .of rfl ?_
    match es, h with
    | [.Tuple r k p], h =>
      have h : (isL es' && ok G es' r) = true := h
      rw [Bool.and_eq_true] at h
      exact sg_val ((pe_tup (rl_pa ((ih G X r cx h.2).l h.1))).w fun σ H Q x => sp_tup x) rfl
  | lst es' ih =>
    intro G X es cx h
    refine .of rfl ?_
    match es, h with
    | [.List r p], h =>
      have h : (isL es' && ok G es' r) = true := h
      rw [Bool.and_eq_true] at h
      exact sg_val ((pe_lst (rl_pa ((ih G X r cx h.2).l h.1))).w fun σ H Q x => sp_lst x) rfl
  | call f es' ih =>
    intro G X es cx h
    refine .of rfl ?_
    match es, h with
    | [.Call (.Name x p) args [] pos], h =>
      have h : (decide (G.fs[f]? = some x) && glB G x && nmOk x && isL es' && ok G es' args) = true := h
      simp only [Bool.and_eq_true, decide_eq_true_eq] at h
      obtain ⟨⟨⟨⟨h1, h2⟩, h3⟩, h4⟩, h5⟩ := h
      obtain ⟨n1, n2⟩ := nm_of h3
      have hr := (ih G X args cx h5).l h4
      obtain ⟨fa, fd, ps, k, FN, hro, hm, hk, hb⟩ := cx.call f x h1
      refine sg_val ?_ rfl
      cases args with
      | nil =>
        cases rl_nil hr
        exact (pe_callG0 FN hro cx.guards (gl_of cx h2) hm hk hb n1).w fun σ H Q x => by
          have := sp_call x
          exact spA_nil this
      | cons e r =>
        have pa := rl_pa hr
        obtain ⟨a, t, rfl, pe, ho, hs, hr'⟩ := rl_cons hr
        exact (pe_callG FN hro cx.guards (gl_of cx h2) hm hk hb pa n1 (star_of hs _ _) (rl_plain hr' _ _)).w fun σ H Q x => sp_call x
  | ite c a b ihc iha ihb =>
    intro G X es cx h
    refine .of rfl ?_
    match es, h with
    | [.IfExp c' a' b' p], h =>
      have h : (ok G c [c'] && tst c && one c && ok G a [a'] && one a && ok G b [b'] && one b) = true := h
      simp only [Bool.and_eq_true] at h
      obtain ⟨⟨⟨⟨⟨⟨h1, h2⟩, h3⟩, h4⟩, h5⟩, h6⟩, h7⟩ := h
      have pc := ((ihc G X _ cx h1).sg h3).pt _ rfl h2
      have pa := ((iha G X _ cx h4).sg h5).pe _ rfl
      have pb := ((ihb G X _ cx h6).sg h7).pe _ rfl
      exact ⟨⟨_, rfl⟩, fun e q => by cases q; exact (pe_ifExp pc pa pb).w fun σ H Q x => sp_ite x, fun e q z => (by cases z), fun op vs pos q _ => by cases q⟩
  | and a b iha ihb =>
    intro G X es cx h
    refine .of rfl ?_
    match es, h with
    | [.BoolOp .And (x :: y :: []) p], h =>
      have h : (ok G a [x] && one a && one b && ok G b [y]) = true := h
      simp only [Bool.and_eq_true] at h
      obtain ⟨⟨⟨h1, h2⟩, h3⟩, h4⟩ := h
      exact ok_and ((iha G X _ cx h1).sg h2) h2 (.inl ⟨rfl, (ihb G X _ cx h4).sg h3⟩)
    | [.BoolOp .And (x :: y :: z :: r) p], h =>
      have h : (ok G a [x] && one a && one b && ok G b [.BoolOp .And (y :: z :: r) p]) = true := h
      simp only [Bool.and_eq_true] at h
      obtain ⟨⟨⟨h1, h2⟩, h3⟩, h4⟩ := h
      exact ok_and ((iha G X _ cx h1).sg h2) h2 (.inr ⟨by simp, (ihb G X _ cx h4).sg h3⟩)
  | or a b iha ihb =>
    intro G X es cx h
    refine .of rfl ?_
    match es, h with
    | [.BoolOp .Or (x :: y :: []) p], h =>
      have h : (ok G a [x] && one a && one b && ok G b [y]) = true := h
      simp only [Bool.and_eq_true] at h
      obtain ⟨⟨⟨h1, h2⟩, h3⟩, h4⟩ := h
      exact ok_or ((iha G X _ cx h1).sg h2) h2 (.inl ⟨rfl, (ihb G X _ cx h4).sg h3⟩)
    | [.BoolOp .Or (x :: y :: z :: r) p], h =>
      have h : (ok G a [x] && one a && one b && ok G b [.BoolOp .Or (y :: z :: r) p]) = true := h
      simp only [Bool.and_eq_true] at h
      obtain ⟨⟨⟨h1, h2⟩, h3⟩, h4⟩ := h
      exact ok_or ((iha G X _ cx h1).sg h2) h2 (.inr ⟨by simp, (ihb G X _ cx h4).sg h3⟩)
  | not a ih =>
    intro G X es cx h
    refine .of rfl ?_
    match es, h with
    | [.UnaryOp .Not x p], h =>
      have h : (ok G a [x] && one a) = true := h
      simp only [Bool.and_eq_true] at h
      have sa := (ih G X _ cx h.1).sg h.2
      exact ⟨⟨_, rfl⟩, fun e q => by cases q; exact (pe_not (sa.pe _ rfl)).w fun σ H Q x => sp_not x, fun e q ht => by cases q; exact (pt_not (sa.pt _ rfl ht)).w fun σ H Q x => spT_not x, fun op vs pos q _ => by cases q⟩
  | chain o1 o2 a b c iha ihb ihc =>
    intro G X es cx h
    refine .of rfl ?_
    match es, h with
    | [.Compare x [p, q] [y, z] pos], h =>
      have h : (decide (opC o1 = some p) && decide (opC o2 = some q) && !lastMarks [p, q] [y, z] && ok G a [x] && one a && ok G b [y] && one b && ok G c [z] && one c) = true := h
      simp only [Bool.and_eq_true, decide_eq_true_eq] at h
      obtain ⟨⟨⟨⟨⟨⟨⟨⟨h1, h2⟩, h3⟩, h4⟩, h5⟩, h6⟩, h7⟩, h8⟩, h9⟩ := h
      have pa := ((iha G X _ cx h4).sg h5).pe _ rfl
      have pb := ((ihb G X _ cx h6).sg h7).pe _ rfl
      have pc := ((ihc G X _ cx h8).sg h9).pe _ rfl
      have hm : lastMarks [p, q] [y, z] = false := by simpa using h3
      refine ⟨⟨_, rfl⟩, fun e q => ?_, fun e q ht => ?_, fun op vs pos q _ => by cases q⟩
      · cases q
        exact (pe_chain (cmpR cx.units h1) (cmpR cx.units h2) pa pb pc hm).w fun σ H Q x => sp_chain h5 h7 h9 x
      · cases q
        exact (pt_chain (cmpR cx.units h1) (cmpR cx.units h2) pa pb pc hm).w fun σ H Q x => sp_chain h5 h7 h9 (spT_sp1 x)
  | comp elt t ik its conds ihe ihi ihc =>
    intro G X es cx h
    refine .of rfl ?_
    match es, h with
    | [.ListComp e [⟨tg, iter, ifs, 0⟩] scope pos], h =>
      have h : (match ikArgs G ik tg iter with
        | some as => noSet iter && isL its && ok G its as && blkC G.N G.sc scope (ownOf G.N t.slots) && okTg (blkG G scope) t tg && condsOk conds && tst1 conds && ok (blkG G scope) conds ifs && one elt && ok (blkG G scope) elt [e]
        | none => false) = true := h
      split at h
      · rename_i as ha
        simp only [Bool.and_eq_true] at h
        obtain ⟨⟨⟨⟨⟨⟨⟨⟨⟨h1, h2⟩, h3⟩, h4⟩, h5⟩, h6⟩, h7⟩, h8⟩, h9⟩, h10⟩ := h
        refine sg_comp cx ha h1 ((ihi G X _ cx h3).l h2) h4 h5 h6 h9 (fun s H Ca cl fp => ?_) (fun s H Ca cl fp => ?_)
        · have bx := blk_cx cx s H scope Ca cl fp
          have hl : isL conds = true := by
            cases conds <;> first | rfl | cases h6
          have rc := ihc (blkG G scope) _ ifs bx h8
          refine pts_of h6 (rc.l hl) fun c hc e' he' => rc.t c hc e' he' ?_
          rw [hc] at h7
          exact h7
        · exact ((ihe (blkG G scope) _ _ (blk_cx cx s H scope Ca cl fp) h10).sg h9).pe _ rfl
      · cases h
end
end Cz
set_option Elab.async false
set_option linter.all false
set_option maxRecDepth 100000
set_option maxHeartbeats 4000000
namespace Cz
open PySem PySem.Spec PyProof.Rows L2
def isLocal (G : Gx) (x : Str) : Bool := match G.sc.names.lookup x with
  | some .local => true
  | _ => false
def noComp : Expr → Bool
  | .ListComp _ _ _ _ => false
  | .SetComp _ _ _ _ => false
  | .DictComp _ _ _ _ _ => false
  | _ => true
def asgOk (G : Gx) (tg : Expr) : Expr → Bool
  | .ListComp _ _ scope cpos => match tg with
    | .Name y py => (py.line == cpos.line && isLocal G y && !(scope.names.any fun (n, k) => n == y && (k == .local || k == .cell))) || !(py.line == cpos.line)
    | _ => true
  | .SetComp _ _ _ _ => false
  | .DictComp _ _ _ _ _ => false
  | .Tuple _ _ _ => !isTup tg
  | _ => true
def allLocal (G : Gx) : List Expr → Bool
  | [] => true
  | .Name x _ :: r => isLocal G x && allLocal G r
  | _ :: _ => false
def par2 (G : Gx) : List Expr → List Expr → Bool
  | [.Name x px, .Name y py], [a, b] => isLocal G x && isLocal G y && px.line == py.line && !(x == y) && noStar a && noStar b && !([a, b].all (foldedForSure 8)) && !([a, b].all (constantsAlone 8))
  | _, _ => false
def par3 (G : Gx) : List Expr → List Expr → Bool
  | [.Name x px, .Name y py, .Name z pz], [a, b, c] => isLocal G x && isLocal G y && isLocal G z && px.line == py.line && px.line == pz.line && !(x == y) && !(x == z) && !(y == z) && noStar a && noStar b && noStar c && !([a, b, c].all (foldedForSure 8)) && !([a, b, c].all (constantsAlone 8))
  | _, _ => false
def celled (G : Gx) : Expr → Bool
  | .Name x _ => !isLocal G x
  | _ => false
def parNone (G : Gx) (ts vs : List Expr) : Bool := decide (ts.length ≤ 100) && (vs.all (foldedForSure 8) || !(ts.length == 2 || ts.length == 3) || ts.any (celled G))
section
variable {F : CallF} {C : List PyData} {G : Gx} {X : Cx}
theorem swaps_of {e : Expr} (h : noComp e = true) (t : Option Expr) (l : Nat) (env : PySem.Env) : swapsWith e t l env = pure false := by
  cases e <;> first | rfl | cases h
theorem local_of (cx : CxOk F C G X) {x : Str} (h : isLocal G x = true) : X.env.scope.names.lookup x = some .local := by
  unfold isLocal at h
  rw [cx.scope]
  split at h
  · assumption
  · cases h
theorem swapped_none {env : PySem.Env} {ts vs : List Expr} {k k2 : Nat} {p p2 : Pos} (h : vs.all (foldedForSure 8) = true ∨ (ts.length == 2 || ts.length == 3) = false) : swappedStores [.Tuple ts k p] (.Tuple vs k2 p2) env = pure none := by
  unfold swappedStores
  rcases h with h | h
  · simp only [h]
    split
    · rfl
    · split
      · rfl
      · split
        · rfl
        · rfl
  · simp only [h]
    rfl
def isStar : Expr → Bool
  | .Starred _ _ => true
  | _ => false
theorem isStar_of {e : Expr} (h : noStar e = true) : isStar e = false := by
  cases e <;> first | rfl | cases h
def nmF (env : PySem.Env) (line : Nat) : Expr → Option Str
  | .Name id pos => if env.kindOf id == some .local && pos.line == line then some id else none
  | _ => none
theorem nmF_of {env : PySem.Env} {line : Nat} {x : Str} {p : Pos} (hx : env.kindOf x = some .local) (hl : p.line = line) : nmF env line (.Name x p) = some x := by
  show (if (env.kindOf x == some .local && p.line == line) = true then some x else none) = some x
  rw [hx, hl, beq_self_eq_true, beq_self_eq_true]
  rfl
theorem sw_eq (env : PySem.Env) (ts vs : List Expr) (k k2 : Nat) (p p2 : Pos) : swappedStores [.Tuple ts k p] (.Tuple vs k2 p2) env = (if (!(ts.length == 2 || ts.length == 3) || vs.length != ts.length || env.blockKind != .function) = true then pure none else
    if vs.any isStar = true then pure none else
    if ((ts.filterMap (nmF env ((ts.head?.map (·.pos.line)).getD 0))).length != ts.length || (ts.filterMap (nmF env ((ts.head?.map (·.pos.line)).getD 0))).eraseDups.length != (ts.filterMap (nmF env ((ts.head?.map (·.pos.line)).getD 0))).length) = true then pure none else
    if vs.all (foldedForSure 8) = true then pure none else
    if vs.all (constantsAlone 8) = true then (do let _ ← (unsupported "assign.tuple-of-constant-expressions:order-of-the-stores" : Sem PUnit); pure (some (ts.filterMap (nmF env ((ts.head?.map (·.pos.line)).getD 0))))) else
    pure (some (ts.filterMap (nmF env ((ts.head?.map (·.pos.line)).getD 0))))) := by
  with_unfolding_all rfl
theorem sw_arms {env : PySem.Env} {ts vs : List Expr} {k k2 : Nat} {p p2 : Pos} {ns : List Str} (h1 : (ts.length == 2 || ts.length == 3) = true) (h2 : vs.length = ts.length) (h3 : env.blockKind = .function) (h4 : vs.any isStar = false)
    (h5 : ts.filterMap (nmF env ((ts.head?.map (·.pos.line)).getD 0)) = ns) (h6 : ns.length = ts.length) (h7 : ns.eraseDups = ns) (hf : vs.all (foldedForSure 8) = false) (hc : vs.all (constantsAlone 8) = false) :
    swappedStores [.Tuple ts k p] (.Tuple vs k2 p2) env = pure (some ns) := by
  rw [sw_eq, h5, h1, h2, h3, h4, h6, h7, hf, hc, h6]
  have b1 : (ts.length != ts.length) = false := by
    show (!(ts.length == ts.length)) = false
    rw [beq_self_eq_true]
    rfl
  rw [b1]
  rfl
theorem fm_short {f : Expr → Option Str} : ∀ {ts : List Expr}, (∃ t ∈ ts, f t = none) → (ts.filterMap f).length < ts.length
  | [], ⟨_, h, _⟩ => by cases h
  | t :: ts, ⟨u, h, hu⟩ => by
    cases hf : f t with
    | none =>
      rw [List.filterMap_cons_none hf]
      exact Nat.lt_succ_of_le (List.length_filterMap_le f ts)
    | some y =>
      rw [List.filterMap_cons_some hf]
      rcases List.mem_cons.mp h with e | h
      · subst e
        rw [hu] at hf
        cases hf
      · exact Nat.succ_lt_succ (fm_short ⟨u, h, hu⟩)
theorem swapped_cell {env : PySem.Env} {ts vs : List Expr} {k k2 : Nat} {p p2 : Pos} (h : ∃ x q, .Name x q ∈ ts ∧ env.kindOf x ≠ some .local) : swappedStores [.Tuple ts k p] (.Tuple vs k2 p2) env = pure none := by
  obtain ⟨x, q, hm, hk⟩ := h
  have hs : ∀ line, (ts.filterMap (nmF env line)).length < ts.length := fun line => fm_short ⟨_, hm, by
    show (if (env.kindOf x == some .local && q.line == line) = true then some x else none) = none
    have : (env.kindOf x == some .local) = false := by simpa using hk
    rw [this]
    rfl⟩
  have hl := hs ((ts.head?.map (·.pos.line)).getD 0)
  have hb : ((ts.filterMap (nmF env ((ts.head?.map (·.pos.line)).getD 0))).length != ts.length) = true := by
    rw [bne_iff_ne]
    omega
  rw [sw_eq, hb]
  split
  · rfl
  · split
    · rfl
    · rfl
theorem swapped2 {env : PySem.Env} {x y : Str} {px py p p2 : Pos} {a b : Expr} {k k2 : Nat} (hk : env.scope.kind = .function) (hx : env.scope.names.lookup x = some .local) (hy : env.scope.names.lookup y = some .local) (hl : px.line = py.line) (hne : (x == y) = false)
    (ha : noStar a = true) (hb : noStar b = true) (hf : [a, b].all (foldedForSure 8) = false) (hc : [a, b].all (constantsAlone 8) = false) :
    swappedStores [.Tuple [.Name x px, .Name y py] k p] (.Tuple [a, b] k2 p2) env = pure (some [x, y]) := by
  have kb : env.blockKind = .function := by unfold Env.blockKind; rw [hk]; rfl
  refine sw_arms rfl rfl kb ?_ ?_ rfl ?_ hf hc
  · show (isStar a || (isStar b || false)) = false
    rw [isStar_of ha, isStar_of hb]
    rfl
  · show List.filterMap (nmF env px.line) [.Name x px, .Name y py] = [x, y]
    rw [List.filterMap_cons_some (nmF_of hx rfl), List.filterMap_cons_some (nmF_of hy hl.symm), List.filterMap_nil]
  · have h2 : (y == x) = false := by
      rw [beq_eq_false_iff_ne] at hne ⊢
      exact fun e => hne e.symm
    rw [List.eraseDups_cons, List.filter_cons_of_pos (by rw [h2]; rfl), List.filter_nil, List.eraseDups_cons, List.filter_nil, List.eraseDups_nil]
theorem swapped3 {env : PySem.Env} {x y z : Str} {px py pz p p2 : Pos} {a b c : Expr} {k k2 : Nat} (hk : env.scope.kind = .function) (hx : env.scope.names.lookup x = some .local) (hy : env.scope.names.lookup y = some .local) (hz : env.scope.names.lookup z = some .local)
    (hl : px.line = py.line) (hl2 : px.line = pz.line) (h1 : (x == y) = false) (h2 : (x == z) = false) (h3 : (y == z) = false)
    (ha : noStar a = true) (hb : noStar b = true) (hcc : noStar c = true) (hf : [a, b, c].all (foldedForSure 8) = false) (hc : [a, b, c].all (constantsAlone 8) = false) :
    swappedStores [.Tuple [.Name x px, .Name y py, .Name z pz] k p] (.Tuple [a, b, c] k2 p2) env = pure (some [x, y, z]) := by
  have kb : env.blockKind = .function := by unfold Env.blockKind; rw [hk]; rfl
  refine sw_arms rfl rfl kb ?_ ?_ rfl ?_ hf hc
  · show (isStar a || (isStar b || (isStar c || false))) = false
    rw [isStar_of ha, isStar_of hb, isStar_of hcc]
    rfl
  · show List.filterMap (nmF env px.line) [.Name x px, .Name y py, .Name z pz] = [x, y, z]
    rw [List.filterMap_cons_some (nmF_of hx rfl), List.filterMap_cons_some (nmF_of hy hl.symm), List.filterMap_cons_some (nmF_of hz hl2.symm), List.filterMap_nil]
  · have g1 : (y == x) = false := by
      rw [beq_eq_false_iff_ne] at h1 ⊢
      exact fun e => h1 e.symm
    have g2 : (z == x) = false := by
      rw [beq_eq_false_iff_ne] at h2 ⊢
      exact fun e => h2 e.symm
    have g3 : (z == y) = false := by
      rw [beq_eq_false_iff_ne] at h3 ⊢
      exact fun e => h3 e.symm
    rw [List.eraseDups_cons, List.filter_cons_of_pos (by rw [g1]; rfl), List.filter_cons_of_pos (by rw [g2]; rfl), List.filter_nil, List.eraseDups_cons, List.filter_cons_of_pos (by rw [g3]; rfl), List.filter_nil, List.eraseDups_cons, List.filter_nil, List.eraseDups_nil]
end
end Cz
set_option Elab.async false
set_option linter.all false
set_option maxRecDepth 100000
set_option maxHeartbeats 4000000
namespace Cz
open PySem PySem.Spec PyProof.Rows L2
def isLS : S → Bool
  | .nil => true
  | .cons _ _ => true
  | _ => false
/-! views of one statement -/
def vIf : List Stmt → Option (Expr × List Stmt × List Stmt)
  | [.If c a b _] => some (c, a, b)
  | _ => none
def vFor : List Stmt → Option (Expr × Expr × List Stmt)
  | [.For tg iter body [] _] => some (tg, iter, body)
  | _ => none
def vWhile : List Stmt → Option (Expr × List Stmt)
  | [.While c body [] _] => some (c, body)
  | _ => none
def vRet : List Stmt → Option (Option Expr)
  | [.Return r _] => some r
  | _ => none
def vExpr : List Stmt → Option Expr
  | [.Expr e _] => some e
  | _ => none
def vAsg : List Stmt → Option (Expr × Expr)
  | [.Assign [tg] e _] => some (tg, e)
  | _ => none
def vTup : Expr → Option (List Expr)
  | .Tuple ts _ _ => some ts
  | _ => none
def vSub : Expr → Option (Expr × Expr)
  | .Subscript o i _ => some (o, i)
  | _ => none
def vMeth : Expr → Option (Expr × Str × Pos × Expr × Pos)
  | .Call (.Attribute o nm ap) [v] [] cp => some (o, nm, ap, v, cp)
  | _ => none
def vBrk : List Stmt → Bool
  | [.Break _] => true
  | _ => false
def vCnt : List Stmt → Bool
  | [.Continue _] => true
  | _ => false
def vPass : List Stmt → Bool
  | [.Pass _] => true
  | _ => false
def isDoc : Expr → Bool
  | .Constant (.str _) _ _ => true
  | _ => false
def isNonK : E → Bool
  | .k .none => true
  | _ => false
theorem vIf_eq {es : List Stmt} {c : Expr} {a b : List Stmt} (h : vIf es = some (c, a, b)) : ∃ p, es = [.If c a b p] := by
  unfold vIf at h
  split at h
  · cases h; exact ⟨_, rfl⟩
  · cases h
theorem vFor_eq {es : List Stmt} {c d : Expr} {a : List Stmt} (h : vFor es = some (c, d, a)) : ∃ p, es = [.For c d a [] p] := by
  unfold vFor at h
  split at h
  · cases h; exact ⟨_, rfl⟩
  · cases h
theorem vWhile_eq {es : List Stmt} {c : Expr} {a : List Stmt} (h : vWhile es = some (c, a)) : ∃ p, es = [.While c a [] p] := by
  unfold vWhile at h
  split at h
  · cases h; exact ⟨_, rfl⟩
  · cases h
theorem vRet_eq {es : List Stmt} {c : Option Expr} (h : vRet es = some c) : ∃ p, es = [.Return c p] := by
  unfold vRet at h
  split at h
  · cases h; exact ⟨_, rfl⟩
  · cases h
theorem vExpr_eq {es : List Stmt} {c : Expr} (h : vExpr es = some c) : ∃ p, es = [.Expr c p] := by
  unfold vExpr at h
  split at h
  · cases h; exact ⟨_, rfl⟩
  · cases h
theorem vAsg_eq {es : List Stmt} {c d : Expr} (h : vAsg es = some (c, d)) : ∃ p, es = [.Assign [c] d p] := by
  unfold vAsg at h
  split at h
  · cases h; exact ⟨_, rfl⟩
  · cases h
theorem vTup_eq {e : Expr} {ts : List Expr} (h : vTup e = some ts) : ∃ k p, e = .Tuple ts k p := by
  unfold vTup at h
  split at h
  · cases h; exact ⟨_, _, rfl⟩
  · cases h
theorem vSub_eq {e : Expr} {o i : Expr} (h : vSub e = some (o, i)) : ∃ p, e = .Subscript o i p := by
  unfold vSub at h
  split at h
  · cases h; exact ⟨_, rfl⟩
  · cases h
theorem vMeth_eq {e o v : Expr} {nm : Str} {ap cp : Pos} (h : vMeth e = some (o, nm, ap, v, cp)) : e = .Call (.Attribute o nm ap) [v] [] cp := by
  unfold vMeth at h
  split at h
  · cases h; rfl
  · cases h
theorem vBrk_eq {es : List Stmt} (h : vBrk es = true) : ∃ p, es = [.Break p] := by
  unfold vBrk at h
  split at h
  · exact ⟨_, rfl⟩
  · cases h
theorem vCnt_eq {es : List Stmt} (h : vCnt es = true) : ∃ p, es = [.Continue p] := by
  unfold vCnt at h
  split at h
  · exact ⟨_, rfl⟩
  · cases h
theorem vPass_eq {es : List Stmt} (h : vPass es = true) : ∃ p, es = [.Pass p] := by
  unfold vPass at h
  split at h
  · exact ⟨_, rfl⟩
  · cases h
theorem isDoc_eq {e : Expr} (h : isDoc e = true) : ∃ x k p, e = .Constant (.str x) k p := by
  unfold isDoc at h
  split at h
  · exact ⟨_, _, _, rfl⟩
  · cases h
theorem isNonK_eq {e : E} (h : isNonK e = true) : e = .k .none := by
  unfold isNonK at h
  split at h
  · rfl
  · cases h
/-- statements are what the text says -/
def okS (G : Gx) : S → List Stmt → Bool
  | .nil, es => es.isEmpty
  | .cons s t, es => match es with
    | st :: r => okS G s [st] && !isLS s && isLS t && okS G t r
    | [] => false
  | .asg t e, es => match vAsg es with
    | some (tg, e') => okTg G t tg && ok G e [e'] && one e && asgOk G tg e'
    | none => false
  | .par is es', es => match vAsg es with
    | some (tg, e') => match vTup tg, vTup e' with
      | some ts, some vs => okNames G is ts && isL es' && ok G es' vs && (par2 G ts vs || par3 G ts vs || parNone G ts vs)
      | _, _ => false
    | none => false
  | .setix o i v, es => match vAsg es with
    | some (tg, v') => match vSub tg with
      | some (o', i') => noSlice i' && noComp v' && ok G o [o'] && one o && ok G i [i'] && one i && ok G v [v'] && one v
      | none => false
    | none => false
  | .app o v, es => match vExpr es with
    | some e => match vMeth e with
      | some (o', nm, ap, v', cp) => decide (nm = "append") && plainBase o' && ap.endLine == cp.line && ok G o [o'] && one o && ok G v [v'] && one v && noStar v'
      | none => false
    | none => false
  | .ifs c a b, es => match vIf es with
    | some (c', a', b') => ok G c [c'] && tst c && one c && isLS a && okS G a a' && isLS b && okS G b b'
    | none => false
  | .for_ t ik its b, es => match vFor es with
    | some (tg, iter, body) => match ikArgs G ik tg iter with
      | some as => noSet iter && isL its && ok G its as && okTg G t tg && isLS b && okS G b body
      | none => false
    | none => false
  | .whl c b, es => match vWhile es with
    | some (c', body) => ok G c [c'] && tst c && one c && isLS b && okS G b body
    | none => false
  | .ret e, es => match vRet es with
    | some (some e') => ok G e [e'] && one e
    | some none => isNonK e
    | none => false
  | .expr e, es => match vExpr es with
    | some e' => ok G e [e'] && one e && noComp e'
    | none => false
  | .brk, es => vBrk es
  | .cnt, es => vCnt es
  | .pas, es => vPass es || (match vExpr es with
    | some e => isDoc e
    | none => false)
  | .nev, es => es.length == 1
section
variable {F : CallF} {C : List PyData}
structure RS (F : CallF) (C : List PyData) (w : Nat) (X : Cx) (s : S) (es : List Stmt) : Prop where
  l : isLS s = true → PSs X es (spS F C X.K w s)
  s : isLS s = false → ∀ st, es = [st] → PS X st (spS F C X.K w s)
theorem RS.of {w : Nat} {X : Cx} {s : S} {st : Stmt} (h : isLS s = false) (p : PS X st (spS F C X.K w s)) : RS F C w X s [st] := ⟨fun z => (by rw [h] at z; cases z), fun _ st' e => (by cases e; exact p)⟩
theorem px_of {G : Gx} {X : Cx} (cx : CxOk F C G X) : PassesOwn (model X.prog X.w) X.A X.env X.xe := by
  rw [cx.xe]
  exact PassesOwn.never
theorem pe_of {G : Gx} {X : Cx} (cx : CxOk F C G X) {ir : E} {e : Expr} (h : ok G ir [e] = true) (o : one ir = true) : PE X e (sp1 F C X.K ir) := ((sndE ir G X [e] cx h).sg o).pe e rfl
theorem pt_of {G : Gx} {X : Cx} (cx : CxOk F C G X) {ir : E} {e : Expr} (h : ok G ir [e] = true) (o : one ir = true) (t : tst ir = true) : PT X e (spT F C X.K ir) := ((sndE ir G X [e] cx h).sg o).pt e rfl t
/-- name = [..] whose value takes the name's place -/
theorem ps_lc {G : Gx} {X : Cx} {w : Nat} (cx : CxOk F C G X) (hk : X.env.scope.kind = .function) {i : Nat} {y : Str} {py spos cpos : Pos} {e : E} {elt : Expr} {gs : List Comprehension} {scope : Scope} (hn : G.N[i]? = some y) (hyl : X.env.scope.names.lookup y = some .local)
    (hl : (py.line == cpos.line) = true) (ha : (scope.names.any fun (n, k) => n == y && (k == .local || k == .cell)) = false) (h : ok G e [.ListComp elt gs scope cpos] = true) (he1 : one e = true) :
    PS X (.Assign [.Name y py] (.ListComp elt gs scope cpos) spos) (spS F C X.K w (.asg (.nm i) e)) := by
  cases e with
  | comp ir t ik its conds =>
    match gs, h with
    | [⟨tg, iter, ifs, 0⟩], h =>
      have h : (match ikArgs G ik tg iter with
        | some as => noSet iter && isL its && ok G its as && blkC G.N G.sc scope (ownOf G.N t.slots) && okTg (blkG G scope) t tg && condsOk conds && tst1 conds && ok (blkG G scope) conds ifs && one ir && ok (blkG G scope) ir [elt]
        | none => false) = true := h
      split at h
      · rename_i as hik
        simp only [Bool.and_eq_true] at h
        obtain ⟨⟨⟨⟨⟨⟨⟨⟨⟨h1, h2⟩, h3⟩, h4⟩, h5⟩, h6⟩, h7⟩, h8⟩, h9⟩, h10⟩ := h
        have hits := (sndE its G X as cx h3).l h2
        have h := ps_setLc (py := py) (pos := cpos) (spos := spos) cx.calm cx.nd (i := i) (y := y) (by rw [cx.N]; exact hn) hyl (sw_true hk hyl hl ha) (ik_of cx hik hits) (own := ownOf G.N t.slots) (scope := scope) (elt := elt) (te := sp1 F C X.K ir) (tt := tts F C X.K conds) (ifs := ifs) (blkOk_by (by rw [cx.N, cx.scope]; exact h4)) (g := gT X.K t)
          (fun s H Ca cl fp => tg_of (blk_cx cx s H scope Ca cl fp) h5) (fun s H Ca cl fp => by
            have bx := blk_cx cx s H scope Ca cl fp
            have hl : isL conds = true := by
              cases conds <;> first | rfl | cases h6
            have rc := sndE conds (blkG G scope) _ ifs bx h8
            refine pts_of h6 (rc.l hl) fun c hc e' he' => rc.t c hc e' he' ?_
            rw [hc] at h7
            exact h7) (fun s H Ca cl fp => ((sndE ir (blkG G scope) _ _ (blk_cx cx s H scope Ca cl fp) h10).sg h9).pe _ rfl) (set_of h1 X.env)
        rw [own_slots] at h
        exact h.w fun D σ H x => sp_comp h6 h9 (ss_asg x)
      · cases h
    | [], h => cases h
    | ⟨_, _, _, .ofNat (_ + 1)⟩ :: _, h => cases h
    | ⟨_, _, _, .negSucc _⟩ :: _, h => cases h
    | ⟨_, _, _, .ofNat 0⟩ :: _ :: _, h => cases h
  | nil => cases he1
  | cons _ _ => cases he1
  | op o es =>
    have h : (match opArgs G o (.ListComp elt gs scope cpos) with
        | some as => isL es && ok G es as
        | none => false) = true := h
    cases h
  | _ => cases h

theorem par_none {G : Gx} {X : Cx} {w : Nat} (cx : CxOk F C G X) {is : List Nat} {es : E} {ts vs : List Expr} {k k2 : Nat} {p p2 pos : Pos} (h1 : okNames G is ts = true) (hr : RL F C X es vs) (h : parNone G ts vs = true) : PS X (.Assign [.Tuple ts k p] (.Tuple vs k2 p2) pos) (spS F C X.K w (.par is es)) := by
  obtain ⟨a, b, c⟩ := names_of cx h1
  unfold parNone at h
  rw [Bool.and_eq_true, decide_eq_true_eq] at h
  have hlen : is.length ≤ 100 := by
    have : ∀ {is : List Nat} {ts : List Expr}, okNames G is ts = true → is.length = ts.length := fun {is} => by
      induction is with
      | nil =>
        intro ts h
        cases ts with
        | nil => rfl
        | cons _ _ => cases h
      | cons i is ih =>
        intro ts h
        cases ts with
        | nil => cases h
        | cons e r =>
          cases e with
          | Name x p =>
            have h : (decide (G.N[i]? = some x) && locB G x && okNames G is r) = true := h
            rw [Bool.and_eq_true] at h
            rw [List.length_cons, List.length_cons, ih h.2]
          | _ => cases h
    rw [this h1]
    exact h.1
  have hw : swappedStores [.Tuple ts k p] (.Tuple vs k2 p2) X.env = pure none := by
    have h2 := h.2
    rw [Bool.or_eq_true, Bool.or_eq_true] at h2
    rcases h2 with (h2 | h2) | h2
    · exact swapped_none (.inl h2)
    · exact swapped_none (.inr (by simpa using h2))
    · obtain ⟨t, hm, ht⟩ := List.any_eq_true.mp h2
      cases t with
      | Name x q =>
        refine swapped_cell ⟨x, q, hm, fun z => ?_⟩
        have z : X.env.scope.names.lookup x = some .local := z
        have ht : (!isLocal G x) = true := ht
        unfold isLocal at ht
        rw [cx.scope] at z
        rw [z] at ht
        cases ht
      | _ => cases ht
  exact (ps_asg (tg := .Tuple ts k p) (e := .Tuple vs k2 p2) (g := gT X.K (.tp is)) (pe_tup (rl_pa hr)) (pg_tup cx.calm a b c) rfl hw rfl).w fun D σ H x => ss_parT hlen x
end
end Cz
set_option Elab.async false
set_option linter.all false
set_option maxRecDepth 100000
set_option maxHeartbeats 400000
namespace Cz
open PySem PySem.Spec PyProof.Rows L2
section
variable {F : CallF} {C : List PyData} {w : Nat} {G : Gx} {X : Cx}
theorem nf {b : Bool} (h : (!b) = true) : b = false := by
  cases b <;> first | rfl | cases h
theorem s_asg {t : Tg} {e : E} {tg e' : Expr} {pos : Pos} (cx : CxOk F C G X) (hk : X.env.scope.kind = .function) (h : (okTg G t tg && ok G e [e'] && one e && asgOk G tg e') = true) : RS F C w X (.asg t e) [.Assign [tg] e' pos] := by
  simp only [Bool.and_eq_true] at h
  obtain ⟨⟨⟨h1, h2⟩, h3⟩, h4⟩ := h
  have pe := pe_of cx h2 h3
  have pg := tg_of cx h1
  refine .of rfl ?_
  have plain : swapsWithSole [tg] e' pos.line X.env = pure false → swappedStores [tg] e' X.env = pure none → PS X (.Assign [tg] e' pos) (spS F C X.K w (.asg t e)) := fun z1 z2 =>
    (ps_asg pe pg z1 z2 (by cases tg <;> first | rfl | (cases t <;> cases h1))).w fun D σ H x => ss_asg x
  have noT : isTup tg = false → swappedStores [tg] e' X.env = pure none := fun z => by
    cases tg <;> first | rfl | (cases t <;> cases h1) | cases z
  have noV : isTup e' = false → swappedStores [tg] e' X.env = pure none := fun z => by
    cases e' <;> first | (cases tg <;> first | rfl | (cases t <;> cases h1)) | cases z
  have nc : noComp e' = true → swapsWithSole [tg] e' pos.line X.env = pure false := fun z => swaps_of z _ _ _
  cases e' with
  | ListComp elt gs scope cpos =>
    cases tg with
    | Name y py =>
      have h4 : ((py.line == cpos.line && isLocal G y && !(scope.names.any fun (n, k) => n == y && (k == .local || k == .cell))) || !(py.line == cpos.line)) = true := h4
      cases t with
      | tp is => cases h1
      | nm i =>
        have h1' : (decide (G.N[i]? = some y) && locB G y) = true := h1
        simp only [Bool.and_eq_true, decide_eq_true_eq] at h1'
        rw [Bool.or_eq_true] at h4
        rcases h4 with h4 | h4
        · simp only [Bool.and_eq_true] at h4
          exact ps_lc cx hk h1'.1 (local_of cx h4.1.2) h4.1.1 (by simpa using h4.2) h2 h3
        · refine plain ?_ (noT rfl)
          have h4 : (py.line == cpos.line) = false := by simpa using h4
          show (pure (X.env.blockKind == .function && X.env.kindOf y == some .local && py.line == cpos.line && !(scope.names.any fun (n, k) => n == y && (k == .local || k == .cell))) : Sem Bool) = pure false
          rw [h4]
          simp
    | Tuple ts k p => exact plain rfl (noV rfl)
    | _ => (cases t <;> cases h1)
  | SetComp _ _ _ _ => cases h4
  | DictComp _ _ _ _ _ => cases h4
  | Tuple vs k p => exact plain (nc rfl) (noT (nf (show (!isTup tg) = true from h4)))
  | _ => exact plain (nc rfl) (noV rfl)
theorem s_par {is : List Nat} {e : E} {ts vs : List Expr} {k k2 : Nat} {p p2 pos : Pos} (cx : CxOk F C G X) (hk : X.env.scope.kind = .function) (h : (okNames G is ts && isL e && ok G e vs && (par2 G ts vs || par3 G ts vs || parNone G ts vs)) = true) : RS F C w X (.par is e) [.Assign [.Tuple ts k p] (.Tuple vs k2 p2) pos] := by
  simp only [Bool.and_eq_true, Bool.or_eq_true] at h
  obtain ⟨⟨⟨h1, h2⟩, h3⟩, h4⟩ := h
  have hr := (sndE e G X vs cx h3).l h2
  refine .of rfl ?_
  rcases h4 with (h4 | h4) | h4
  · match ts, vs, h4 with
    | [.Name x px, .Name y py], [a, b], h4 =>
      have h4 : (isLocal G x && isLocal G y && px.line == py.line && !(x == y) && noStar a && noStar b && !([a, b].all (foldedForSure 8)) && !([a, b].all (constantsAlone 8))) = true := h4
      simp only [Bool.and_eq_true] at h4
      obtain ⟨⟨⟨⟨⟨⟨⟨g1, g2⟩, g3⟩, g4⟩, g5⟩, g6⟩, g7⟩, g8⟩ := h4
      match is, h1 with
      | [i, j], h1 =>
        have h1 : (decide (G.N[i]? = some x) && locB G x && (decide (G.N[j]? = some y) && locB G y && true)) = true := h1
        simp only [Bool.and_eq_true, decide_eq_true_eq] at h1
        have ne : (x == y) = false := by simpa using g4
        have hij : i ≠ j := fun z => by
          subst z
          have := h1.1.1.symm.trans h1.2.1.1
          cases this
          rw [beq_self_eq_true] at ne
          cases ne
        exact (ps_par cx.calm cx.nd (by rw [cx.N]; exact h1.1.1) (by rw [cx.N]; exact h1.2.1.1) hij (local_of cx g1) (local_of cx g2) (rl_pa hr) (swapped2 hk (local_of cx g1) (local_of cx g2) (eq_of_beq g3) ne g5 g6 (nf g7) (nf g8)) rfl).w fun D σ H x => ss_par2 x
      | [], h1 => cases h1
      | [_], h1 =>
        have h1 : (decide _ && locB G x && false) = true := h1
        simp at h1
      | _ :: _ :: _ :: _, h1 =>
        have h1 : (decide _ && locB G x && (decide _ && locB G y && false)) = true := h1
        simp at h1
  · match ts, vs, h4 with
    | [.Name x px, .Name y py, .Name z pz], [a, b, c], h4 =>
      have h4 : (isLocal G x && isLocal G y && isLocal G z && px.line == py.line && px.line == pz.line && !(x == y) && !(x == z) && !(y == z) && noStar a && noStar b && noStar c && !([a, b, c].all (foldedForSure 8)) && !([a, b, c].all (constantsAlone 8))) = true := h4
      simp only [Bool.and_eq_true] at h4
      obtain ⟨⟨⟨⟨⟨⟨⟨⟨⟨⟨⟨⟨g1, g2⟩, g3⟩, g4⟩, g5⟩, g6⟩, g7⟩, g8⟩, g9⟩, g10⟩, g11⟩, g12⟩, g13⟩ := h4
      match is, h1 with
      | [i, j, l], h1 =>
        have h1 : (decide (G.N[i]? = some x) && locB G x && (decide (G.N[j]? = some y) && locB G y && (decide (G.N[l]? = some z) && locB G z && true))) = true := h1
        simp only [Bool.and_eq_true, decide_eq_true_eq] at h1
        obtain ⟨⟨a1, _⟩, ⟨a2, _⟩, ⟨a3, _⟩, _⟩ := h1
        have n1 : (x == y) = false := by simpa using g6
        have n2 : (x == z) = false := by simpa using g7
        have n3 : (y == z) = false := by simpa using g8
        have ne : ∀ {u v : Nat} {s t : Str}, G.N[u]? = some s → G.N[v]? = some t → (s == t) = false → u ≠ v := fun {u v s t} e1 e2 n z => by
          subst z
          have := e1.symm.trans e2
          cases this
          rw [beq_self_eq_true] at n
          cases n
        exact (ps_par3 cx.calm cx.nd (by rw [cx.N]; exact a1) (by rw [cx.N]; exact a2) (by rw [cx.N]; exact a3) (ne a1 a2 n1) (ne a1 a3 n2) (ne a2 a3 n3) (local_of cx g1) (local_of cx g2) (local_of cx g3) (rl_pa hr)
          (swapped3 hk (local_of cx g1) (local_of cx g2) (local_of cx g3) (eq_of_beq g4) (eq_of_beq g5) n1 n2 n3 g9 g10 g11 (nf g12) (nf g13)) rfl).w fun D σ H x => ss_par3 x
      | [], h1 => cases h1
      | [_], h1 =>
        have h1 : (decide _ && locB G x && false) = true := h1
        simp at h1
      | [_, _], h1 =>
        have h1 : (decide _ && locB G x && (decide _ && locB G y && false)) = true := h1
        simp at h1
      | _ :: _ :: _ :: _ :: _, h1 =>
        have h1 : (decide _ && locB G x && (decide _ && locB G y && (decide _ && locB G z && false))) = true := h1
        simp at h1
  · exact par_none cx h1 hr h4
theorem s_setix {o i v : E} {o' i' v' : Expr} {sp pos : Pos} (cx : CxOk F C G X) (h : (noSlice i' && noComp v' && ok G o [o'] && one o && ok G i [i'] && one i && ok G v [v'] && one v) = true) : RS F C w X (.setix o i v) [.Assign [.Subscript o' i' sp] v' pos] := by
  simp only [Bool.and_eq_true] at h
  obtain ⟨⟨⟨⟨⟨⟨⟨h1, h2⟩, h3⟩, h4⟩, h5⟩, h6⟩, h7⟩, h8⟩ := h
  refine .of rfl ?_
  refine (ps_asg (pe_of cx h7 h8) (pg_sub (pe_of cx h3 h4) (pe_of cx h5 h6) set_list (fun u => ?_)) (by exact swaps_of h2 (some (.Subscript o' i' sp)) pos.line X.env) ?_ rfl).w fun D σ H x => ss_setix h4 h6 h8 x
  · cases i' <;> first | rfl | cases h1
  · cases v' <;> rfl
theorem s_app {o v : E} {o' v' : Expr} {nm : Str} {ap cp pos : Pos} (cx : CxOk F C G X) (h : (decide (nm = "append") && plainBase o' && ap.endLine == cp.line && ok G o [o'] && one o && ok G v [v'] && one v && noStar v') = true) : RS F C w X (.app o v) [.Expr (.Call (.Attribute o' nm ap) [v'] [] cp) pos] := by
  simp only [Bool.and_eq_true, decide_eq_true_eq] at h
  obtain ⟨⟨⟨⟨⟨⟨⟨h1, h2⟩, h3⟩, h4⟩, h5⟩, h6⟩, h7⟩, h8⟩ := h
  subst h1
  have pl : PA X [v'] (spA F C X.K (.cons v .nil)) := (pa_cons (pe_of cx h6 h7) pa_nil (star_of h8 _ _)).w fun σ H Q x => spA_one h7 x
  refine .of rfl ?_
  refine (ps_expr (pe_bm PySem.F.plainAttrs_list PySem.F.slot_list_append PySem.F.type_list_append mt_append (pe_of cx h4 h5) pl (base_of h2 _ _) ?_ h3 (star_of h8 _ _) rfl) rfl).w fun D σ H x => ss_app h5 h7 x
  rw [star_of h8]
  rfl

theorem sndS : ∀ (s : S) (G : Gx) (X : Cx) (es : List Stmt), CxOk F C G X → X.env.scope.kind = .function → okS G s es = true → RS F C w X s es := by
  intro s
  induction s with
  | nil =>
    intro G X es cx hk h
    refine ⟨fun _ => ?_, fun z => (by cases z)⟩
    cases es with
    | nil => exact pss_nil.w fun D σ H x => ss_nil x
    | cons _ _ => cases h
  | cons a t iha iht =>
    intro G X es cx hk h
    cases es with
    | nil => cases h
    | cons e r =>
      have h : (okS G a [e] && !isLS a && isLS t && okS G t r) = true := h
      simp only [Bool.and_eq_true] at h
      obtain ⟨⟨⟨h1, h2⟩, h3⟩, h4⟩ := h
      refine ⟨fun _ => ?_, fun z => (by cases z)⟩
      exact (pss_cons ((iha G X _ cx hk h1).s (nf h2) e rfl) ((iht G X _ cx hk h4).l h3)).w fun D σ H x => ss_cons x
  | asg t e =>
    intro G X es cx hk h
    replace h : (match vAsg es with
      | some (tg, e') => okTg G t tg && ok G e [e'] && one e && asgOk G tg e'
      | none => false) = true := h
    split at h
    · rename_i hv
      obtain ⟨p, rfl⟩ := vAsg_eq hv
      exact s_asg cx hk h
    · cases h
  | par is es' =>
    intro G X es cx hk h
    replace h : (match vAsg es with
      | some (tg, e') => match vTup tg, vTup e' with
        | some ts, some vs => okNames G is ts && isL es' && ok G es' vs && (par2 G ts vs || par3 G ts vs || parNone G ts vs)
        | _, _ => false
      | none => false) = true := h
    split at h
    · rename_i hv
      obtain ⟨p, rfl⟩ := vAsg_eq hv
      split at h
      · rename_i h1 h2
        obtain ⟨k, p1, rfl⟩ := vTup_eq h1
        obtain ⟨k2, p2, rfl⟩ := vTup_eq h2
        exact s_par cx hk h
      · cases h
    · cases h
  | setix o i v =>
    intro G X es cx hk h
    replace h : (match vAsg es with
      | some (tg, v') => match vSub tg with
        | some (o', i') => noSlice i' && noComp v' && ok G o [o'] && one o && ok G i [i'] && one i && ok G v [v'] && one v
        | none => false
      | none => false) = true := h
    split at h
    · rename_i hv
      obtain ⟨p, rfl⟩ := vAsg_eq hv
      split at h
      · rename_i h1
        obtain ⟨p1, rfl⟩ := vSub_eq h1
        exact s_setix cx h
      · cases h
    · cases h
  | app o v =>
    intro G X es cx hk h
    replace h : (match vExpr es with
      | some e => match vMeth e with
        | some (o', nm, ap, v', cp) => decide (nm = "append") && plainBase o' && ap.endLine == cp.line && ok G o [o'] && one o && ok G v [v'] && one v && noStar v'
        | none => false
      | none => false) = true := h
    split at h
    · rename_i hv
      obtain ⟨p, rfl⟩ := vExpr_eq hv
      split at h
      · rename_i h1
        have h1 := vMeth_eq h1
        subst h1
        exact s_app cx h
      · cases h
    · cases h
  | ifs c a b iha ihb =>
    intro G X es cx hk h
    replace h : (match vIf es with
      | some (c', a', b') => ok G c [c'] && tst c && one c && isLS a && okS G a a' && isLS b && okS G b b'
      | none => false) = true := h
    split at h
    · rename_i hv
      obtain ⟨p, rfl⟩ := vIf_eq hv
      simp only [Bool.and_eq_true] at h
      obtain ⟨⟨⟨⟨⟨⟨h1, h2⟩, h3⟩, h4⟩, h5⟩, h6⟩, h7⟩ := h
      exact .of rfl ((ps_if (pt_of cx h1 h3 h2) ((iha G X _ cx hk h5).l h4) ((ihb G X _ cx hk h7).l h6)).w fun D σ H x => ss_ifs x)
    · cases h
  | for_ t ik its b ihb =>
    intro G X es cx hk h
    replace h : (match vFor es with
      | some (tg, iter, body) => match ikArgs G ik tg iter with
        | some as => noSet iter && isL its && ok G its as && okTg G t tg && isLS b && okS G b body
        | none => false
      | none => false) = true := h
    split at h
    · rename_i hv
      obtain ⟨p, rfl⟩ := vFor_eq hv
      split at h
      · rename_i as hik
        simp only [Bool.and_eq_true] at h
        obtain ⟨⟨⟨⟨⟨h1, h2⟩, h3⟩, h4⟩, h5⟩, h6⟩ := h
        exact .of rfl ((ps_for (px_of cx) cx.calm (ik_of cx hik ((sndE its G X as cx h3).l h2)) (tg_of cx h4) ((ihb G X _ cx hk h6).l h5) (set_of h1 X.env)).w fun D σ H x => ss_for x)
      · cases h
    · cases h
  | whl c b ihb =>
    intro G X es cx hk h
    replace h : (match vWhile es with
      | some (c', body) => ok G c [c'] && tst c && one c && isLS b && okS G b body
      | none => false) = true := h
    split at h
    · rename_i hv
      obtain ⟨p, rfl⟩ := vWhile_eq hv
      simp only [Bool.and_eq_true] at h
      obtain ⟨⟨⟨⟨h1, h2⟩, h3⟩, h4⟩, h5⟩ := h
      exact .of rfl ((ps_while (px_of cx) (pt_of cx h1 h3 h2) ((ihb G X _ cx hk h5).l h4)).w fun D σ H x => ss_whl x)
    · cases h
  | ret e =>
    intro G X es cx hk h
    replace h : (match vRet es with
      | some (some e') => ok G e [e'] && one e
      | some none => isNonK e
      | none => false) = true := h
    split at h
    · rename_i hv
      obtain ⟨p, rfl⟩ := vRet_eq hv
      simp only [Bool.and_eq_true] at h
      exact .of rfl ((ps_ret (pe_of cx h.1 h.2)).w fun D σ H x => ss_ret x)
    · rename_i hv
      obtain ⟨p, rfl⟩ := vRet_eq hv
      have h := isNonK_eq h
      subst h
      exact .of rfl (ps_retN.w fun D σ H x => sp_k (v := .non) (fun L H => .non) (ss_ret x))
    · cases h
  | expr e =>
    intro G X es cx hk h
    replace h : (match vExpr es with
      | some e' => ok G e [e'] && one e && noComp e'
      | none => false) = true := h
    split at h
    · rename_i hv
      obtain ⟨p, rfl⟩ := vExpr_eq hv
      simp only [Bool.and_eq_true] at h
      obtain ⟨⟨h1, h2⟩, h3⟩ := h
      exact .of rfl ((ps_expr (pe_of cx h1 h2) (swaps_of h3 _ _ _)).w fun D σ H x => ss_expr h2 x)
    · cases h
  | brk =>
    intro G X es cx hk h
    obtain ⟨p, rfl⟩ := vBrk_eq h
    exact .of rfl (ps_break.w fun D σ H x => ss_brk x)
  | cnt =>
    intro G X es cx hk h
    obtain ⟨p, rfl⟩ := vCnt_eq h
    exact .of rfl (ps_continue.w fun D σ H x => ss_cnt x)
  | pas =>
    intro G X es cx hk h
    have h : (vPass es || (match vExpr es with
      | some e => isDoc e
      | none => false)) = true := h
    rw [Bool.or_eq_true] at h
    rcases h with h | h
    · obtain ⟨p, rfl⟩ := vPass_eq h
      exact .of rfl (ps_pass.w fun D σ H x => ss_pas x)
    · split at h
      · rename_i hv
        obtain ⟨p, rfl⟩ := vExpr_eq hv
        obtain ⟨x, k, p1, rfl⟩ := isDoc_eq h
        exact .of rfl (ps_doc.w fun D σ H x => ss_pas x)
      · cases h
  | nev =>
    intro G X es cx hk h
    cases es with
    | nil => cases h
    | cons st r =>
      cases r with
      | nil => exact .of rfl (ps_never.w fun D σ H x => ss_nev x)
      | cons _ _ => cases h
end
end Cz
set_option Elab.async false
set_option linter.all false
set_option maxRecDepth 100000
set_option maxHeartbeats 4000000
/-! All defs at once, by the depth of calls. -/
namespace Cz
open PySem PySem.Spec PyProof.Rows L2
theorem fnG_ofD {P : Program} {w : World} {K : PySem.W.Frag} {mg : Str → Option Value} {base : Heap} {x qual : Str} {params : Arguments} {body : List Stmt} {scope : Scope} {f : Addr} {fd : FuncData} {N ps : List Str} {k : Nat} {sp : SpG} (F : FunD K x qual params body scope [] [] f fd) (S : FnScope N ps scope)
    (len : ∀ vs H Q, sp vs H Q → vs.length = ps.length)
    (hbody : ∀ (cdv : Value) (A : Around) (outer : List PySem.Env) (s : Shared) (H : Hp) (vs : List V) (Q : VK), Room k (A.deeper (envOfC qual scope s.heap.objs.size f cdv)) → A.guards = some [] → sp vs H Q →
      ∃ t, PSs (cxG P w K mg base N qual scope f cdv A outer s H) body t ∧ t { nx := fun _ H' => Q .non H', rt := Q } (start N vs) H) : FnG P w K mg base (k + 1) f fd ps sp := by
  obtain ⟨oc, od, dV, kV, doc, pm, an, cdv, ct, osl, rfl, lk, hcd, _, _⟩ := F.ex
  refine ⟨len, fun A outer s H args us vs Q hr hgu e0 hb r hsp => ?_⟩
  have hl := len _ _ _ hsp
  have KX : K.In s.heap := e0.mod.kin.keeps fun b o e => (e0.bs b o e).1
  have lim : s.heap.NoLimit := e0.mod.nolimit.keeps fun b o e => (e0.bs b o e).1
  have hkind : ∀ y ∈ ps.zip us, scope.names.lookup y.1 = some .local ∨ (scope.names.lookup y.1 = some .cell ∧ ((cellsFrom (s.heap.objs.size + 1) scope.names []).lookup y.1).isSome = true) := fun ⟨n, v⟩ hy => by
    rcases S.par n (List.of_mem_zip hy).1 with q | q
    · exact .inl q
    · exact .inr ⟨q, PySem.W.cellsFrom_some _ _ _ (.inl q)⟩
  refine codeAny_call_function hr.depth (KX _ _ lk) rfl S.co S.gen rfl (PySem.W.codeRec_of KX hcd) (hb _ _ _ _ ?_)
  refine wpAny_newFunctionEnv_cells S.kind hkind fun env he s1 xx => ?_
  subst he
  refine ⟨lim.keeps xx.toInCall.keep, codeAny_func ?_⟩
  obtain ⟨t, ht, hq⟩ := hbody cdv A outer s H vs Q (hr.deeper _) hgu hsp
  have I : Inv (cxOf CX0 P w K mg base N qual scope f cdv A outer s H E0) [] (start N vs) H s1 := inv_start S hr.hd e0 hl r xx
  refine wpAny_mono ((PSs.nox (X := cxOf CX0 P w K mg base N qual scope f cdv A outer s H E0) ht).run [] s1 (start N vs) H _ I hq) (fun fl s' hs => ?_) fun e s' hs => hs
  have fin : ∀ {σ' : L2.St} {H' : Hp} {v : V} {u : Value}, Inv (cxOf CX0 P w K mg base N qual scope f cdv A outer s H E0) [] σ' H' s' → RelV v u → Q v H' → CE outer P w H s Q u s' :=
    fun {σ' H' v u} J rv q => ⟨v, H', J.os, J.bare, J.base, J.hok, rv, q⟩
  cases fl with
  | ret u =>
    obtain ⟨v, σ', H', J, rv, q⟩ := hs
    exact fin J rv q
  | next =>
    obtain ⟨σ', H', J, q⟩ := hs
    exact fin (v := V.non) (u := Value.none) J rfl q
  | brk =>
    obtain ⟨_, _, _, q⟩ := hs
    exact False.elim q
  | cont =>
    obtain ⟨_, _, _, q⟩ := hs
    exact False.elim q
/-- what must be known of one def -/
structure DefOk (K : PySem.W.Frag) (mg : Str → Option Value) (fs cs : List Str) (gc : Bool) (ds : List Df) (f : Nat) (x : Str) (ps : List Str) : Prop where
  ex : ∃ (d : Df) (st : Stmt) (N : List Str) (qual : Str) (fa : Addr) (fd : FuncData), ds[f]? = some d ∧ mg x = some (.ref fa) ∧ FunD K x qual (defArgs st) (defBody st) (defScope st) [] [] fa fd ∧ (∀ (s : Shared) (us : List Value), us.length = ps.length → BindsTo s fd ⟨us, []⟩ (ps.zip us)) ∧ Binds K fd ps [] ∧ FnScope N ps (defScope st) ∧
    d.np = ps.length ∧ d.nn = N.length ∧ isLS d.body = true ∧ okS ⟨N, fs, cs, defScope st, fun _ => true, gc⟩ d.body (defBody st) = true
theorem fun_at {K : PySem.W.Frag} {x qual : Str} {params : Arguments} {body : List Stmt} {scope : Scope} {f : Addr} {fd : FuncData} (F : FunD K x qual params body scope [] [] f fd) : ∃ oc od osl, K.lookup f = some ⟨oc, od, .func fd, osl⟩ := by
  obtain ⟨oc, od, dV, kV, doc, pm, an, cdv, ct, osl, _, lk, _⟩ := F.ex
  exact ⟨oc, od, osl, lk⟩
theorem env_start {K : PySem.W.Frag} {hid as : List Addr} {H : Hp} {vs : List V} {ws : List Val} (r : RpVs K hid as H vs ws) (N : List Str) (d : Df) (hn : d.nn = N.length) : EnvOk K hid as H (start N vs) (startS d ws) := by
  refine ⟨?_, fun i w q => ?_⟩
  · unfold startS L2.start
    rw [List.length_append, List.length_append, List.length_map, List.length_map, List.length_replicate, List.length_replicate, r.length, hn]
  · unfold startS at q
    have go : ∀ {vs : List V} {ws : List Val} (i : Nat), RpVs K hid as H vs ws → (ws.map some)[i]? = some (some w) → ∃ v, (vs.map some)[i]? = some (some v) ∧ RpV K hid as H v w := by
      intro vs ws i r
      induction r generalizing i with
      | nil => intro h; simp at h
      | cons a b ih =>
        intro h
        cases i with
        | zero =>
          simp at h
          subst h
          exact ⟨_, rfl, a⟩
        | succ i => exact ih i (by simpa using h)
    by_cases hi : i < ws.length
    · rw [List.getElem?_append_left (by simpa using hi)] at q
      obtain ⟨v, h1, h2⟩ := go i r q
      refine ⟨v, ?_, h2⟩
      unfold L2.start
      rw [List.getElem?_append_left (by rw [List.length_map, r.length]; exact hi)]
      exact h1
    · rw [List.getElem?_append_right (by simpa using hi)] at q
      have := List.mem_of_getElem? q
      simp at this
section
variable {P : Program} {w : World} {K : PySem.W.Frag} {mg : Str → Option Value} {base : Heap} {fs cs : List Str} {C : List PyData} {gc : Bool} {ds : List Df} {wh : Nat} {pn : Nat → List Str}
theorem fn_all (hb : ∀ x ∈ bltNames, mg x = none) (hg : gc = true → mg "gcd" = some (.builtin "math.gcd"))
    (hc : ∀ (i : Nat) (x : Str) (y : PyData), cs[i]? = some x → C[i]? = some y → ∃ v u, mg x = some u ∧ RelV v u ∧ ∀ L H, Rp K L H v y)
    (hd : ∀ (f : Nat) (x : Str), fs[f]? = some x → DefOk K mg fs cs gc ds f x (pn f)) :
    ∀ (k f : Nat) (x : Str), fs[f]? = some x → ∃ fa fd, FnG P w K mg base k fa fd (pn f) (spF K (run ds C wh k) f) ∧ (∀ (s : Shared) (us : List Value), us.length = (pn f).length → BindsTo s fd ⟨us, []⟩ ((pn f).zip us)) ∧ mg x = some (.ref fa) ∧ PySem.W.keepIn K (.ref fa) = true ∧ Binds K fd (pn f) [] ∧ ∃ oc od osl, K.lookup fa = some ⟨oc, od, .func fd, osl⟩ := by
  intro k
  induction k with
  | zero =>
    intro f x hx
    obtain ⟨d, st, N, qual, fa, fd, h1, h2, F, hba, hbi, S, h3, h4, h5, h6⟩ := (hd f x hx).ex
    have no : ∀ vs H Q, ¬ spF K (run ds C wh 0) f vs H Q := fun vs H Q ⟨hid, as, μ, ws, w', μ', S3, rv, e, k⟩ => by
      have e : (none : Option (Val × Store)) = some (w', μ') := e
      cases e
    exact ⟨fa, fd, ⟨fun vs H Q h => absurd h (no vs H Q), fun A outer s H args us vs Q _ _ _ _ _ h => absurd h (no vs H Q)⟩, hba, h2, F.kp, hbi, fun_at F⟩
  | succ k ih =>
    intro f x hx
    obtain ⟨d, st, N, qual, fa, fd, h1, h2, F, hba, hbi, S, h3, h4, h5, h6⟩ := (hd f x hx).ex
    have un : ∀ {vs H Q}, spF K (run ds C wh (k + 1)) f vs H Q → ∃ hid as μ ws w' μ' q, St3 K hid as H μ ∧ RpVs K hid as H vs ws ∧ ws.length = d.np ∧ evS (run ds C wh k) C wh d.body (startS d ws) μ = some q ∧
        (match q.1 with
          | .rt v => finV μ.length q.2.2 v
          | .nx => some (.d .none, q.2.2.take μ.length)
          | _ => none) = some (w', μ') ∧ ∀ v H' as', as <+: as' → Evo as H as' H' → St3 K hid as' H' μ' → RpV K hid as' H' v w' → Q v H' := by
      rintro vs H Q ⟨hid, as, μ, ws, w', μ', S3, rv, e, kk⟩
      have e : ((ds[f]?).bind fun d => if ws.length = d.np then (evS (run ds C wh k) C wh d.body (startS d ws) μ).bind fun q => match q.1 with
        | .rt v => finV μ.length q.2.2 v
        | .nx => some (.d .none, q.2.2.take μ.length)
        | _ => none
        else none) = some (w', μ') := e
      rw [h1] at e
      have e : (if ws.length = d.np then (evS (run ds C wh k) C wh d.body (startS d ws) μ).bind fun q => match q.1 with
        | .rt v => finV μ.length q.2.2 v
        | .nx => some (.d .none, q.2.2.take μ.length)
        | _ => none
        else none) = some (w', μ') := e
      split at e
      · rename_i hl
        obtain ⟨q, e1, e2⟩ := Option.bind_eq_some_iff.mp e
        exact ⟨hid, as, μ, ws, w', μ', q, S3, rv, hl, e1, e2, kk⟩
      · cases e
    refine ⟨fa, fd, fnG_ofD F S (fun vs H Q h => ?_) (fun cdv A outer s H vs Q hr hgu h => ?_), hba, h2, F.kp, hbi, fun_at F⟩
    · obtain ⟨hid, as, μ, ws, w', μ', q, S3, rv, hl, _⟩ := un h
      rw [rv.length, hl, h3]
    · obtain ⟨hid, as, μ, ws, w', μ', ⟨q1, q2, q3⟩, S3, rv, hl, e1, e2, kk⟩ := un h
      have cx : CxOk (run ds C wh k) C ⟨N, fs, cs, defScope st, fun _ => true, gc⟩ (cxG P w K mg base N qual (defScope st) fa cdv A outer s H) :=
        { scope := rfl, N := rfl, nd := S.nd, calm := rfl, units := hr.units, guards := hgu, xe := rfl, fn := fun _ _ => rfl, blt := hb, gcd := hg, con := hc,
          call := fun g y hy => by
            obtain ⟨fa', fd', FN, _, a, b, c, _⟩ := ih g y hy
            exact ⟨fa', fd', pn g, k, FN, hr, a, b, c⟩ }
      refine ⟨spS (run ds C wh k) C K wh d.body, (sndS (w := wh) d.body _ _ _ cx S.kind h6).l h5, hid, as, μ, startS d ws, q1, q2, q3, S3, env_start rv N d h4, e1, fun σ' H' as' px ev S' R' => ?_⟩
      cases q1 with
      | nx =>
        have e2 : some (Val.d .none, q3.take μ.length) = some (w', μ') := e2
        cases e2
        obtain ⟨c1, c2⟩ := cut_ok S3 px ev S' (fun _ _ h => h)
        exact kk .non H' as List.prefix_rfl c1 c2 .non
      | rt v =>
        intro y ry
        obtain ⟨as2, a, b, c, d⟩ := finV_ok S3 px ev S' ry e2
        exact kk y H' as2 a b c d
      | bk => cases e2
      | ct => cases e2
end
end Cz
set_option Elab.async false
set_option linter.all false
set_option maxRecDepth 100000
/-! The evaluator step by step: one rule a form. -/
namespace Cz
open PySem
theorem take_app (μ t : Store) : (μ ++ t).take μ.length = μ := by simp
theorem take_self (μ : Store) : μ.take μ.length = μ := List.take_length
theorem fin_d (μ t : Store) (x : PyData) : fin μ.length (μ ++ t) (.d x) = ([.d x], μ) := by
  unfold fin
  rw [take_app]
theorem fin_n (μ t : Store) (ds : List PyData) : fin μ.length (μ ++ t) (.new ds) = ([.l μ.length], μ ++ [ds]) := by
  unfold fin
  rw [take_app]
section
variable {F : CallF} {C : List PyData} {ρ ρ' : Slots} {μ μ1 μ2 t t' : Store} {w v : Val} {ws : List Val} {x y : PyData} {o : Op} {es a b c : E} {cs ds : List PyData} {i : Nat} {fu : Nat}
theorem e_nil : evE F C .nil ρ μ = some ([], μ) := rfl
theorem e_cons (h : evE F C a ρ μ = some ([w], μ1)) (h2 : evE F C b ρ μ1 = some (ws, μ2)) : evE F C (.cons a b) ρ μ = some (w :: ws, μ2) := by
  show (evE F C a ρ μ).bind _ = _
  rw [h]
  show (evE F C b ρ μ1).map _ = _
  rw [h2]
  rfl
theorem e_var (h : ρ[i]? = some (some w)) : evE F C (.var i) ρ μ = some ([w], μ) := by
  show ((ρ[i]?).bind id).map _ = _
  rw [h]
  rfl
theorem e_k : evE F C (.k x) ρ μ = some ([.d x], μ) := rfl
theorem e_glob (h : C[i]? = some x) : evE F C (.glob i) ρ μ = some ([.d x], μ) := by
  show (C[i]?).map _ = _
  rw [h]
  rfl
/-- an operation, nothing new in the store (t: what was made on the way) -/
theorem e_op (t : Store) (h : evE F C es ρ μ = some (ws, μ ++ t)) (hc : conts (μ ++ t) ws = some cs) (hr : o.run cs = some (.d x)) : evE F C (.op o es) ρ μ = some ([.d x], μ) := by
  show (evE F C es ρ μ).bind _ = _
  rw [h]
  show (conts (μ ++ t) ws).bind _ = _
  rw [hc]
  show (o.run cs).map _ = _
  rw [hr]
  show some (fin μ.length (μ ++ t) (.d x)) = _
  rw [fin_d]
theorem e_op0 (h : evE F C es ρ μ = some (ws, μ)) (hc : conts μ ws = some cs) (hr : o.run cs = some (.d x)) : evE F C (.op o es) ρ μ = some ([.d x], μ) :=
  e_op [] (by rw [List.append_nil]; exact h) (by rw [List.append_nil]; exact hc) hr
theorem e_opn (t : Store) (h : evE F C es ρ μ = some (ws, μ ++ t)) (hc : conts (μ ++ t) ws = some cs) (hr : o.run cs = some (.new ds)) : evE F C (.op o es) ρ μ = some ([.l μ.length], μ ++ [ds]) := by
  show (evE F C es ρ μ).bind _ = _
  rw [h]
  show (conts (μ ++ t) ws).bind _ = _
  rw [hc]
  show (o.run cs).map _ = _
  rw [hr]
  show some (fin μ.length (μ ++ t) (.new ds)) = _
  rw [fin_n]
theorem e_opn0 (h : evE F C es ρ μ = some (ws, μ)) (hc : conts μ ws = some cs) (hr : o.run cs = some (.new ds)) : evE F C (.op o es) ρ μ = some ([.l μ.length], μ ++ [ds]) :=
  e_opn [] (by rw [List.append_nil]; exact h) (by rw [List.append_nil]; exact hc) hr
theorem e_tup (t : Store) (h : evE F C es ρ μ = some (ws, μ ++ t)) (hc : frzs μ.length (μ ++ t) ws = some cs) (hl : cs.length ≤ sizeMax) : evE F C (.tup es) ρ μ = some ([.d (.tuple cs)], μ) := by
  show (evE F C es ρ μ).bind _ = _
  rw [h]
  show (frzs μ.length (μ ++ t) ws).bind _ = _
  rw [hc]
  show (if cs.length ≤ sizeMax then _ else none) = _
  rw [if_pos hl, fin_d]
theorem e_tup0 (h : evE F C es ρ μ = some (ws, μ)) (hc : frzs μ.length μ ws = some cs) (hl : cs.length ≤ sizeMax) : evE F C (.tup es) ρ μ = some ([.d (.tuple cs)], μ) :=
  e_tup [] (by rw [List.append_nil]; exact h) (by rw [List.append_nil]; exact hc) hl
theorem e_lst (t : Store) (h : evE F C es ρ μ = some (ws, μ ++ t)) (hc : frzs μ.length (μ ++ t) ws = some cs) (hl : cs.length ≤ sizeMax) : evE F C (.lst es) ρ μ = some ([.l μ.length], μ ++ [cs]) := by
  show (evE F C es ρ μ).bind _ = _
  rw [h]
  show (frzs μ.length (μ ++ t) ws).bind _ = _
  rw [hc]
  show (if cs.length ≤ sizeMax then _ else none) = _
  rw [if_pos hl, fin_n]
theorem e_lst0 (h : evE F C es ρ μ = some (ws, μ)) (hc : frzs μ.length μ ws = some cs) (hl : cs.length ≤ sizeMax) : evE F C (.lst es) ρ μ = some ([.l μ.length], μ ++ [cs]) :=
  e_lst [] (by rw [List.append_nil]; exact h) (by rw [List.append_nil]; exact hc) hl
/-- a call that gives data; the store it leaves begins with μ' (as long as μ) -/
theorem e_call {f : Nat} {μ3 : Store} (h : evE F C es ρ μ = some (ws, μ1)) (hf : F f ws μ1 = some (.d x, μ2)) (h3 : μ2.take μ.length = μ3) : evE F C (.call f es) ρ μ = some ([.d x], μ3) := by
  show (evE F C es ρ μ).bind _ = _
  rw [h]
  show (F f ws μ1).bind _ = _
  rw [hf]
  show some ([Val.d x], μ2.take μ.length) = _
  rw [h3]
theorem e_call0 {f : Nat} (h : evE F C es ρ μ = some (ws, μ)) (hf : F f ws μ = some (.d x, μ)) : evE F C (.call f es) ρ μ = some ([.d x], μ) := e_call h hf (take_self μ)
theorem e_callt {f : Nat} (t : Store) (h : evE F C es ρ μ = some (ws, μ ++ t)) (hf : F f ws (μ ++ t) = some (.d x, μ ++ t)) : evE F C (.call f es) ρ μ = some ([.d x], μ) := e_call h hf (take_app μ t)
theorem e_ite (bb : Bool) {p : List Val × Store} (h : evE F C c ρ μ = some ([.d (.bool bb)], μ1)) (h1 : bb = true → evE F C a ρ μ1 = some p) (h2 : bb = false → evE F C b ρ μ1 = some p) : evE F C (.ite c a b) ρ μ = some p := by
  show (evE F C c ρ μ).bind _ = _
  rw [h]
  show (if bb = true then evE F C a ρ μ1 else evE F C b ρ μ1) = _
  cases bb
  · rw [if_neg (by simp)]; exact h2 rfl
  · rw [if_pos rfl]; exact h1 rfl
theorem e_and (bb b2 : Bool) (h : evE F C a ρ μ = some ([.d (.bool bb)], μ)) (h1 : bb = true → evE F C b ρ μ = some ([.d (.bool b2)], μ)) : evE F C (.and a b) ρ μ = some ([.d (.bool (bb && b2))], μ) := by
  show (evE F C a ρ μ).bind _ = _
  rw [h]
  show (if bb = true then evE F C b ρ μ else some ([.d (.bool false)], μ)) = _
  cases bb
  · rw [if_neg (by simp)]; rfl
  · rw [if_pos rfl, h1 rfl]; rfl
theorem e_or (bb b2 : Bool) (h : evE F C a ρ μ = some ([.d (.bool bb)], μ)) (h1 : bb = false → evE F C b ρ μ = some ([.d (.bool b2)], μ)) : evE F C (.or a b) ρ μ = some ([.d (.bool (bb || b2))], μ) := by
  show (evE F C a ρ μ).bind _ = _
  rw [h]
  show (if bb = true then some ([.d (.bool true)], μ) else evE F C b ρ μ) = _
  cases bb
  · rw [if_neg (by simp), h1 rfl]; rfl
  · rw [if_pos rfl]; rfl
theorem e_not (bb : Bool) (h : evE F C a ρ μ = some ([.d (.bool bb)], μ1)) : evE F C (.not a) ρ μ = some ([.d (.bool (!bb))], μ1) := by
  show (evE F C a ρ μ).bind _ = _
  rw [h]
  rfl
theorem e_chain {o1 o2 : Op} (b1 b2 : Bool) {u v z : PyData} (h1 : evE F C a ρ μ = some ([.d u], μ)) (h2 : evE F C b ρ μ = some ([.d v], μ)) (r1 : o1.run [u, v] = some (.d (.bool b1))) (h3 : b1 = true → evE F C c ρ μ = some ([.d z], μ)) (r2 : b1 = true → o2.run [v, z] = some (.d (.bool b2))) :
    evE F C (.chain o1 o2 a b c) ρ μ = some ([.d (.bool (b1 && b2))], μ) := by
  unfold evE
  rw [h1]
  show ((evE F C b ρ μ).bind _) = _
  rw [h2]
  show ((o1.run [u, v]).bind _) = _
  rw [r1]
  cases b1
  · show some _ = _
    rw [take_self]
    rfl
  · show ((evE F C c ρ μ).bind _) = _
    rw [h3 rfl]
    show ((o2.run [v, z]).map _) = _
    rw [r2 rfl]
    have := fin_d μ [] (.bool b2)
    rw [List.append_nil] at this
    show some (fin μ.length μ (.d (.bool b2))) = _
    rw [this]
    rfl
/-! ### statements -/
variable {s s2 : S} {fl : Fl} {r : Fl × Slots × Store}
theorem z_nil : evS F C fu .nil ρ μ = some (.nx, ρ, μ) := rfl
theorem z_cons (h : evS F C fu s ρ μ = some (.nx, ρ', μ1)) (h2 : evS F C fu s2 ρ' μ1 = some r) : evS F C fu (.cons s s2) ρ μ = some r := by
  show (evS F C fu s ρ μ).bind _ = _
  rw [h]
  exact h2
theorem z_consr (h : evS F C fu s ρ μ = some (.rt w, ρ', μ1)) : evS F C fu (.cons s s2) ρ μ = some (.rt w, ρ', μ1) := by
  show (evS F C fu s ρ μ).bind _ = _
  rw [h]
  rfl
theorem z_asg (h : evE F C a ρ μ = some ([w], μ1)) : evS F C fu (.asg (.nm i) a) ρ μ = some (.nx, ρ.set i (some w), μ1) := by
  show (evE F C a ρ μ).bind _ = _
  rw [h]
  rfl
theorem z_asgt {is : List Nat} (h : evE F C a ρ μ = some ([.d (.tuple ds)], μ1)) (hl : ds.length = is.length) : evS F C fu (.asg (.tp is) a) ρ μ = some (.nx, setSlots ρ is (ds.map .d), μ1) := by
  show (evE F C a ρ μ).bind _ = _
  rw [h]
  show ((if ds.length = is.length then some (setSlots ρ is (ds.map .d)) else none)).map _ = _
  rw [if_pos hl]
  rfl
theorem z_par {is : List Nat} (h : evE F C es ρ μ = some (ws, μ1)) (hl : ws.length = is.length) : evS F C fu (.par is es) ρ μ = some (.nx, setSlots ρ is ws, μ1) := by
  show (evE F C es ρ μ).bind _ = _
  rw [h]
  show (if ws.length = is.length then _ else none) = _
  rw [if_pos hl]
theorem z_ret (h : evE F C a ρ μ = some ([w], μ1)) : evS F C fu (.ret a) ρ μ = some (.rt w, ρ, μ1) := by
  show (evE F C a ρ μ).bind _ = _
  rw [h]
  rfl
theorem z_expr (t : Store) (h : evE F C a ρ μ = some (ws, μ ++ t)) : evS F C fu (.expr a) ρ μ = some (.nx, ρ, μ) := by
  show (evE F C a ρ μ).map _ = _
  rw [h]
  show some (Fl.nx, ρ, (μ ++ t).take μ.length) = _
  rw [take_app]
theorem z_expr0 (h : evE F C a ρ μ = some (ws, μ)) : evS F C fu (.expr a) ρ μ = some (.nx, ρ, μ) := z_expr [] (by rw [List.append_nil]; exact h)
theorem z_ifs (bb : Bool) (h : evE F C c ρ μ = some ([.d (.bool bb)], μ1)) (h1 : bb = true → evS F C fu s ρ μ1 = some r) (h2 : bb = false → evS F C fu s2 ρ μ1 = some r) : evS F C fu (.ifs c s s2) ρ μ = some r := by
  show (evE F C c ρ μ).bind _ = _
  rw [h]
  show (if bb = true then evS F C fu s ρ μ1 else evS F C fu s2 ρ μ1) = _
  cases bb
  · rw [if_neg (by simp)]; exact h2 rfl
  · rw [if_pos rfl]; exact h1 rfl
theorem z_app {n : Nat} {xs : List PyData} (h : evE F C a ρ μ = some ([.l n], μ)) (h2 : evE F C b ρ μ = some ([.d y], μ)) (hn : μ[n]? = some xs) (hl : xs.length < sizeMax) : evS F C fu (.app a b) ρ μ = some (.nx, ρ, μ.set n (xs ++ [y])) := by
  show (evE F C a ρ μ).bind _ = _
  rw [h]
  show (evE F C b ρ μ).bind _ = _
  rw [h2]
  show ((μ[n]?).bind _) = _
  rw [hn]
  show (if xs.length < sizeMax then some (Fl.nx, ρ, (μ.take μ.length).set n (xs ++ [y])) else none) = _
  rw [if_pos hl, take_self]
theorem z_setix {n : Nat} {k : Int} {j : Nat} {xs : List PyData} (hv : evE F C c ρ μ = some ([.d y], μ)) (h : evE F C a ρ μ = some ([.l n], μ)) (h2 : evE F C b ρ μ = some ([.d (.int k)], μ)) (hn : μ[n]? = some xs) (hj : L2.ixN xs.length k = some j) : evS F C fu (.setix a b c) ρ μ = some (.nx, ρ, μ.set n (xs.set j y)) := by
  show (evE F C c ρ μ).bind _ = _
  rw [hv]
  show ((evE F C a ρ (μ.take μ.length)).bind _) = _
  rw [take_self, h]
  show ((evE F C b ρ μ).bind _) = _
  rw [h2]
  show ((μ[n]?).bind _) = _
  rw [hn]
  show ((L2.ixN xs.length k).map fun j => (Fl.nx, ρ, (μ.take μ.length).set n (xs.set j y))) = _
  rw [hj, take_self]
  rfl
/-! ### loops -/
theorem l_done {t : Tg} {f : Slots → Store → Outc} {ok : Store → Bool} (h : ok μ = true) : forL t f ok [] ρ μ = some (.nx, ρ, μ) := by
  unfold forL
  rw [if_pos h]
theorem l_nx {t : Tg} {f : Slots → Store → Outc} {ok : Store → Bool} {xs : List PyData} {ρ2 : Slots} (h : ok μ = true) (hp : t.put x ρ = some ρ2) (hb : f ρ2 μ = some (.nx, ρ', μ1)) (hr : forL t f ok xs ρ' μ1 = some r) : forL t f ok (x :: xs) ρ μ = some r := by
  unfold forL
  rw [if_pos h, hp]
  show (f ρ2 μ).bind _ = _
  rw [hb]
  exact hr
theorem l_ct {t : Tg} {f : Slots → Store → Outc} {ok : Store → Bool} {xs : List PyData} {ρ2 : Slots} (h : ok μ = true) (hp : t.put x ρ = some ρ2) (hb : f ρ2 μ = some (.ct, ρ', μ1)) (hr : forL t f ok xs ρ' μ1 = some r) : forL t f ok (x :: xs) ρ μ = some r := by
  unfold forL
  rw [if_pos h, hp]
  show (f ρ2 μ).bind _ = _
  rw [hb]
  exact hr
theorem l_bk {t : Tg} {f : Slots → Store → Outc} {ok : Store → Bool} {xs : List PyData} {ρ2 : Slots} (h : ok μ = true) (hp : t.put x ρ = some ρ2) (hb : f ρ2 μ = some (.bk, ρ', μ1)) : forL t f ok (x :: xs) ρ μ = some (.nx, ρ', μ1) := by
  unfold forL
  rw [if_pos h, hp]
  show (f ρ2 μ).bind _ = _
  rw [hb]
  rfl
theorem l_rt {t : Tg} {f : Slots → Store → Outc} {ok : Store → Bool} {xs : List PyData} {ρ2 : Slots} (h : ok μ = true) (hp : t.put x ρ = some ρ2) (hb : f ρ2 μ = some (.rt w, ρ', μ1)) : forL t f ok (x :: xs) ρ μ = some (.rt w, ρ', μ1) := by
  unfold forL
  rw [if_pos h, hp]
  show (f ρ2 μ).bind _ = _
  rw [hb]
  rfl
/-- a for over data (nothing in the store is walked) -/
theorem z_for {t : Tg} {ik : Ik} {xs : List PyData} (h : evE F C es ρ μ = some (cs.map .d, μ)) (hi : ik.items cs = some xs) (hr : forL t (evS F C fu s) (fun _ => true) xs ρ μ = some r) : evS F C fu (.for_ t ik es s) ρ μ = some r := by
  have e1 : ∀ cs : List PyData, thaws μ.length μ (cs.map .d) = some (cs.map .d) := fun cs => by
    induction cs with
    | nil => rfl
    | cons c cs ih =>
      show ((thaw μ.length μ (.d c)).bind fun x => (thaws μ.length μ (cs.map .d)).map (x :: ·)) = _
      rw [ih]
      rfl
  have e2 : ∀ cs : List PyData, conts μ (cs.map .d) = some cs := fun cs => by
    induction cs with
    | nil => rfl
    | cons c cs ih =>
      show ((cont μ (.d c)).bind fun x => (conts μ (cs.map .d)).map (x :: ·)) = _
      rw [ih]
      rfl
  have e3 : (fun μ' => sames μ' (cs.map .d) cs) = fun _ => true := by
    funext μ'
    have : ∀ cs : List PyData, sames μ' (cs.map .d) cs = true := fun cs => by
      induction cs with
      | nil => rfl
      | cons c cs ih =>
        show (same μ' (.d c) c && sames μ' (cs.map .d) cs) = true
        rw [ih]
        rfl
    exact this cs
  show (evE F C es ρ μ).bind _ = _
  rw [h]
  show ((thaws μ.length μ (cs.map .d)).bind _) = _
  rw [e1]
  show ((conts μ (cs.map .d)).bind _) = _
  rw [e2]
  show ((ik.items cs).bind _) = _
  rw [hi]
  show forL t (evS F C fu s) (fun μ' => sames μ' (cs.map .d) cs) xs ρ (μ.take μ.length) = _
  rw [e3, take_self]
  exact hr
theorem w_stop {f : Slots → Store → Option (Bool × Store)} {g : Slots → Store → Outc} {n : Nat} (h : f ρ μ = some (false, μ1)) : whileN f g (n + 1) ρ μ = some (.nx, ρ, μ1) := by
  unfold whileN
  rw [h]
  rfl
theorem w_go {f : Slots → Store → Option (Bool × Store)} {g : Slots → Store → Outc} {n : Nat} (h : f ρ μ = some (true, μ1)) (hb : g ρ μ1 = some (.nx, ρ', μ2)) (hr : whileN f g n ρ' μ2 = some r) : whileN f g (n + 1) ρ μ = some r := by
  unfold whileN
  rw [h]
  show (g ρ μ1).bind _ = _
  rw [hb]
  exact hr
theorem c_bool (bb : Bool) (h : evE F C c ρ μ = some ([.d (.bool bb)], μ1)) : (evE F C c ρ μ).bind bool1 = some (bb, μ1) := by
  rw [h]
  rfl
end
end Cz
set_option Elab.async false
set_option linter.all false
set_option maxRecDepth 100000
/-! Comprehensions, loops by invariants, for the evaluator. -/
namespace Cz
open PySem
section
variable {F : CallF} {C : List PyData} {ρ ρ' : Slots} {μ μ1 μ2 t t' : Store} {w v : Val} {ws : List Val} {x y : PyData} {o : Op} {es a b c elt its conds : E} {cs ds xs : List PyData} {i : Nat} {fu : Nat} {tg : Tg} {ik : Ik}
theorem last_at (μ : Store) (ds : List PyData) : (μ ++ [ds])[μ.length]? = some ds := by simp
theorem conts_new (μ : Store) (ds : List PyData) : conts (μ ++ [ds]) [.l μ.length] = some [.list ds] := by
  show (cont (μ ++ [ds]) (.l μ.length)).bind _ = _
  show (((μ ++ [ds])[μ.length]?).map PyData.list).bind _ = _
  rw [last_at]
  rfl
/-- an operation on the list just made -/
theorem e_opl (h : evE F C es ρ μ = some ([.l μ.length], μ ++ [ds])) (hr : o.run [.list ds] = some (.d x)) : evE F C (.op o es) ρ μ = some ([.d x], μ) := e_op [ds] h (conts_new μ ds) hr
theorem e_opln {ds' : List PyData} (h : evE F C es ρ μ = some ([.l μ.length], μ ++ [ds])) (hr : o.run [.list ds] = some (.new ds')) : evE F C (.op o es) ρ μ = some ([.l μ.length], μ ++ [ds']) := e_opn [ds] h (conts_new μ ds) hr
theorem thaws_d (μ : Store) (n : Nat) : ∀ cs : List PyData, thaws n μ (cs.map .d) = some (cs.map .d)
  | [] => rfl
  | c :: cs => by
    show ((thaw n μ (.d c)).bind fun x => (thaws n μ (cs.map .d)).map (x :: ·)) = _
    rw [thaws_d μ n cs]
    rfl
theorem conts_d (μ : Store) : ∀ cs : List PyData, conts μ (cs.map .d) = some cs
  | [] => rfl
  | c :: cs => by
    show ((cont μ (.d c)).bind fun x => (conts μ (cs.map .d)).map (x :: ·)) = _
    rw [conts_d μ cs]
    rfl
theorem sames_d (μ : Store) : ∀ cs : List PyData, sames μ (cs.map .d) cs = true
  | [] => rfl
  | c :: cs => by
    show (same μ (.d c) c && sames μ (cs.map .d) cs) = true
    rw [sames_d μ cs]
    rfl
/-- one turn of a comprehension -/
def turnE (F : CallF) (C : List PyData) (elt : E) (tg : Tg) (conds : E) (ρ : Slots) : PyData → Store → Option (Option PyData × Store) := fun x μ' => (tg.put x (wipeS ρ tg.slots)).bind fun ρ' => (evE F C conds ρ' μ').bind fun c => match c.1 with
          | [.d (.bool false)] => some (none, c.2)
          | [.d (.bool true)] => (evE F C elt ρ' c.2).bind fun q => (frzs c.2.length q.2 q.1).bind fun ys => match ys with
            | [y] => some (some y, q.2.take c.2.length)
            | _ => none
          | [] => (evE F C elt ρ' c.2).bind fun q => (frzs c.2.length q.2 q.1).bind fun ys => match ys with
            | [y] => some (some y, q.2.take c.2.length)
            | _ => none
          | _ => none
/-- over data: the loop as a whole -/
theorem e_comp {ys : List PyData} (t : Store) (h : evE F C its ρ μ = some (cs.map .d, μ ++ t)) (hi : ik.items cs = some xs) (hl : loopC (turnE F C elt tg conds ρ) (fun _ => true) xs [] μ = some (ys, μ2)) (h2 : fin μ.length μ2 (.new ys) = ([w], μ1)) : evE F C (.comp elt tg ik its conds) ρ μ = some ([w], μ1) := by
  have e3 : (fun μ' => sames μ' (cs.map .d) cs) = fun _ => true := by
    funext μ'
    exact sames_d μ' cs
  show ((evE F C its ρ μ).bind fun p => (thaws μ.length p.2 p.1).bind fun ws => (conts p.2 p.1).bind fun cs => (ik.items cs).bind fun xs =>
    (loopC (turnE F C elt tg conds ρ) (fun μ' => sames μ' ws cs) xs [] (p.2.take μ.length)).map fun q => fin μ.length q.2 (.new q.1)) = _
  rw [h]
  show ((thaws μ.length (μ ++ t) (cs.map .d)).bind _) = _
  rw [thaws_d]
  show ((conts (μ ++ t) (cs.map .d)).bind _) = _
  rw [conts_d]
  show ((ik.items cs).bind _) = _
  rw [hi]
  show (loopC (turnE F C elt tg conds ρ) (fun μ' => sames μ' (cs.map .d) cs) xs [] ((μ ++ t).take μ.length)).map _ = _
  rw [e3, take_app, hl]
  show some (fin μ.length μ2 (.new ys)) = _
  rw [h2]
/-- over a list of the store that stands behind (made for it) -/
theorem e_comp_l {ys : List PyData} (h : evE F C its ρ μ = some ([.l μ.length], μ ++ [ds])) (hi : ik.items [.list ds] = some xs) (hl : loopC (turnE F C elt tg conds ρ) (fun _ => true) xs [] μ = some (ys, μ2)) (h2 : fin μ.length μ2 (.new ys) = ([w], μ1)) : evE F C (.comp elt tg ik its conds) ρ μ = some ([w], μ1) := by
  show ((evE F C its ρ μ).bind fun p => (thaws μ.length p.2 p.1).bind fun ws => (conts p.2 p.1).bind fun cs => (ik.items cs).bind fun xs =>
    (loopC (turnE F C elt tg conds ρ) (fun μ' => sames μ' ws cs) xs [] (p.2.take μ.length)).map fun q => fin μ.length q.2 (.new q.1)) = _
  rw [h]
  have e1 : thaws μ.length (μ ++ [ds]) [.l μ.length] = some [.d (.list ds)] := by
    show ((if μ.length < μ.length then some (Val.l μ.length) else ((μ ++ [ds])[μ.length]?).map fun ds => Val.d (.list ds)).bind _) = _
    rw [if_neg (Nat.lt_irrefl _), last_at]
    rfl
  show ((thaws μ.length (μ ++ [ds]) [.l μ.length]).bind _) = _
  rw [e1]
  show ((conts (μ ++ [ds]) [.l μ.length]).bind _) = _
  rw [conts_new]
  show ((ik.items [.list ds]).bind _) = _
  rw [hi]
  show (loopC (turnE F C elt tg conds ρ) (fun μ' => sames μ' [.d (.list ds)] [.list ds]) xs [] ((μ ++ [ds]).take μ.length)).map _ = _
  have e3 : (fun μ' => sames μ' [.d (.list ds)] [.list ds]) = fun _ => true := rfl
  rw [e3, take_app, hl]
  show some (fin μ.length μ2 (.new ys)) = _
  rw [h2]
/-- each item gives its own, the store stays -/
theorem loop_map {f : PyData → Store → Option (Option PyData × Store)} (g : PyData → PyData) : ∀ {xs acc : List PyData}, (∀ x ∈ xs, f x μ = some (some (g x), μ)) → acc.length + xs.length ≤ sizeMax → loopC f (fun _ => true) xs acc μ = some (acc ++ xs.map g, μ)
  | [], acc, _, _ => by
    unfold loopC
    rw [if_pos rfl, List.map_nil, List.append_nil]
  | x :: xs, acc, h, hl => by
    unfold loopC
    rw [List.length_cons] at hl
    rw [if_pos (by rw [Bool.true_and, decide_eq_true_eq]; omega), h x List.mem_cons_self]
    show loopC f (fun _ => true) xs (acc ++ [g x]) μ = _
    rw [loop_map g (fun y hy => h y (List.mem_cons_of_mem _ hy)) (by simp; omega), List.map_cons, List.append_assoc]
    rfl
theorem loop_filter {f : PyData → Store → Option (Option PyData × Store)} (g : PyData → Option PyData) : ∀ {xs acc : List PyData}, (∀ x ∈ xs, f x μ = some (g x, μ)) → acc.length + xs.length ≤ sizeMax → loopC f (fun _ => true) xs acc μ = some (acc ++ xs.filterMap g, μ)
  | [], acc, _, _ => by
    unfold loopC
    rw [if_pos rfl, List.filterMap_nil, List.append_nil]
  | x :: xs, acc, h, hl => by
    unfold loopC
    rw [List.length_cons] at hl
    rw [if_pos (by rw [Bool.true_and, decide_eq_true_eq]; omega), h x List.mem_cons_self]
    cases hg : g x with
    | none =>
      show loopC f (fun _ => true) xs acc μ = _
      rw [loop_filter g (fun y hy => h y (List.mem_cons_of_mem _ hy)) (by omega), List.filterMap_cons_none hg]
    | some z =>
      show loopC f (fun _ => true) xs (acc ++ [z]) μ = _
      rw [loop_filter g (fun y hy => h y (List.mem_cons_of_mem _ hy)) (by simp; omega), List.filterMap_cons_some hg, List.append_assoc]
      rfl
theorem turn_map (hp : tg.put x (wipeS ρ tg.slots) = some ρ') (h : evE F C elt ρ' μ = some ([.d y], μ)) : turnE F C elt tg .nil ρ x μ = some (some y, μ) := by
  unfold turnE
  rw [hp]
  show (evE F C elt ρ' μ).bind _ = _
  rw [h]
  show some (some y, μ.take μ.length) = _
  rw [take_self]
theorem turn_cond {bb : Bool} (hp : tg.put x (wipeS ρ tg.slots) = some ρ') (hc : evE F C c ρ' μ = some ([.d (.bool bb)], μ)) (h : bb = true → evE F C elt ρ' μ = some ([.d y], μ)) : turnE F C elt tg (.cons c .nil) ρ x μ = some (if bb = true then some y else none, μ) := by
  unfold turnE
  rw [hp]
  show (evE F C (.cons c .nil) ρ' μ).bind _ = _
  rw [e_cons hc e_nil]
  cases bb with
  | false => rfl
  | true =>
    show (evE F C elt ρ' μ).bind _ = _
    rw [h rfl]
    show some (some y, μ.take μ.length) = _
    rw [take_self]
    rfl
/-- a comprehension over data that only computes -/
theorem e_compM (g : PyData → PyData) (h : evE F C its ρ μ = some (cs.map .d, μ)) (hi : ik.items cs = some xs) (hl : xs.length ≤ sizeMax) (hx : ∀ x ∈ xs, turnE F C elt tg conds ρ x μ = some (some (g x), μ)) : evE F C (.comp elt tg ik its conds) ρ μ = some ([.l μ.length], μ ++ [xs.map g]) := by
  refine e_comp [] (by rw [List.append_nil]; exact h) hi (loop_map g hx (by simpa using hl)) ?_
  have := fin_n μ [] ([] ++ xs.map g)
  rw [List.append_nil] at this
  rw [this, List.nil_append]
theorem e_compF (g : PyData → Option PyData) (h : evE F C its ρ μ = some (cs.map .d, μ)) (hi : ik.items cs = some xs) (hl : xs.length ≤ sizeMax) (hx : ∀ x ∈ xs, turnE F C elt tg conds ρ x μ = some (g x, μ)) : evE F C (.comp elt tg ik its conds) ρ μ = some ([.l μ.length], μ ++ [xs.filterMap g]) := by
  refine e_comp [] (by rw [List.append_nil]; exact h) hi (loop_filter g hx (by simpa using hl)) ?_
  have := fin_n μ [] ([] ++ xs.filterMap g)
  rw [List.append_nil] at this
  rw [this, List.nil_append]
/-- a while by an invariant with a measure -/
theorem z_whl {s : S} {r : Slots × Store} (I : Slots → Store → Nat → Prop) (n : Nat) (h0 : I ρ μ n) (hn : n < fu)
    (turn : ∀ ρ μ n, I ρ μ n → (∃ μ1, evE F C c ρ μ = some ([.d (.bool false)], μ1) ∧ (ρ, μ1) = r) ∨ ∃ μ1 ρ2 μ2 m, evE F C c ρ μ = some ([.d (.bool true)], μ1) ∧ evS F C fu s ρ μ1 = some (.nx, ρ2, μ2) ∧ m < n ∧ I ρ2 μ2 m) : evS F C fu (.whl c s) ρ μ = some (.nx, r.1, r.2) := by
  show whileN (fun ρ μ => (evE F C c ρ μ).bind bool1) (evS F C fu s) fu ρ μ = _
  have go : ∀ (k : Nat) (ρ : Slots) (μ : Store) (n : Nat), I ρ μ n → n < k → whileN (fun ρ μ => (evE F C c ρ μ).bind bool1) (evS F C fu s) k ρ μ = some (.nx, r.1, r.2) := by
    intro k
    induction k with
    | zero => intro ρ μ n _ h; omega
    | succ k ih =>
      intro ρ μ n hI hlt
      rcases turn ρ μ n hI with ⟨μ1, h1, h2⟩ | ⟨μ1, ρ2, μ2, m, h1, h2, h3, h4⟩
      · subst h2
        exact w_stop (c_bool false h1)
      · exact w_go (c_bool true h1) h2 (ih ρ2 μ2 m h4 (by omega))
  exact go fu ρ μ n h0 hn
/-- a for whose body always goes on: by an invariant over the items left -/
theorem l_inv {f : Slots → Store → Outc} (I : List PyData → Slots → Store → Prop) : ∀ {xs : List PyData} {ρ : Slots} {μ : Store}, I xs ρ μ →
    (∀ x r ρ μ, I (x :: r) ρ μ → ∃ ρ2 ρ3 μ3, tg.put x ρ = some ρ2 ∧ f ρ2 μ = some (.nx, ρ3, μ3) ∧ I r ρ3 μ3) → ∃ ρ' μ', forL tg f (fun _ => true) xs ρ μ = some (.nx, ρ', μ') ∧ I [] ρ' μ'
  | [], ρ, μ, h, _ => ⟨ρ, μ, l_done rfl, h⟩
  | x :: r, ρ, μ, h, hs => by
    obtain ⟨ρ2, ρ3, μ3, h1, h2, h3⟩ := hs x r ρ μ h
    obtain ⟨ρ', μ', h4, h5⟩ := l_inv (xs := r) (f := f) I h3 hs
    exact ⟨ρ', μ', l_nx rfl h1 h2 h4, h5⟩
theorem z_asg0 (h : evE F C a ρ μ = some ([w], μ)) : evS F C fu (.asg (.nm i) a) ρ μ = some (.nx, ρ.set i (some w), μ) := z_asg h
theorem z_ret0 (h : evE F C a ρ μ = some ([w], μ)) : evS F C fu (.ret a) ρ μ = some (.rt w, ρ, μ) := z_ret h
theorem z_par0 {is : List Nat} (h : evE F C es ρ μ = some (ws, μ)) (hl : ws.length = is.length) : evS F C fu (.par is es) ρ μ = some (.nx, setSlots ρ is ws, μ) := z_par h hl
theorem z_ifs0 {s s2 : S} {r : Fl × Slots × Store} (bb : Bool) (h : evE F C c ρ μ = some ([.d (.bool bb)], μ)) (h1 : bb = true → evS F C fu s ρ μ = some r) (h2 : bb = false → evS F C fu s2 ρ μ = some r) : evS F C fu (.ifs c s s2) ρ μ = some r := z_ifs bb h h1 h2
theorem z_brk : evS F C fu .brk ρ μ = some (.bk, ρ, μ) := rfl
theorem z_consbk {s s2 : S} (h : evS F C fu s ρ μ = some (.bk, ρ', μ1)) : evS F C fu (.cons s s2) ρ μ = some (.bk, ρ', μ1) := by
  show (evS F C fu s ρ μ).bind _ = _
  rw [h]
  rfl
end
end Cz
set_option Elab.async false
set_option linter.all false
set_option maxRecDepth 100000
namespace Cz
open PySem
/-- a row of ints -/
def row (ns : List Int) : PyData := .tuple (ns.map .int)
theorem eqvAll_ints : ∀ xs ys : List Int, PyData.eqvAll (xs.map .int) (ys.map .int) = decide (xs = ys)
  | [], [] => rfl
  | [], _ :: _ => rfl
  | _ :: _, [] => rfl
  | x :: xs, y :: ys => by
    show (PyData.eqv (.int x) (.int y) && PyData.eqvAll (xs.map .int) (ys.map .int)) = _
    rw [eqvAll_ints xs ys]
    show ((x == y) && decide (xs = ys)) = _
    by_cases h : x = y
    · subst h
      rw [beq_self_eq_true, Bool.true_and]
      by_cases h2 : xs = ys
      · subst h2; simp
      · simp [h2]
    · have : (x == y) = false := by simpa using h
      rw [this, Bool.false_and]
      simp [h]
theorem eqv_row (xs ys : List Int) : PyData.eqv (row xs) (row ys) = decide (xs = ys) := by
  unfold row
  show PyData.eqvAll (xs.map .int) (ys.map .int) = _
  exact eqvAll_ints xs ys
theorem canLay_ints : ∀ ns : List Int, PyData.canLayAll0 (ns.map .int) = true
  | [] => rfl
  | n :: ns => by
    show (PyData.canLay0 (.int n) && PyData.canLayAll0 (ns.map .int)) = true
    rw [canLay_ints ns]
    rfl
theorem depth_ints : ∀ ns : List Int, PyData.depthAll (ns.map .int) = 0
  | [] => rfl
  | n :: ns => by
    show max (PyData.depth (.int n)) (PyData.depthAll (ns.map .int)) = 0
    rw [depth_ints ns]
    rfl
theorem shaped_row (ns : List Int) : SeqAt.shaped (row ns) = true := by
  unfold SeqAt.shaped row
  rw [Bool.and_eq_true, decide_eq_true_eq]
  refine ⟨canLay_ints ns, ?_⟩
  show PyData.depthAll (ns.map .int) + 1 ≤ 64
  rw [depth_ints]
  decide
theorem run_ne_row (xs ys : List Int) : Op.ne.run [row xs, row ys] = some (.d (.bool (!decide (xs = ys)))) := by
  show (if (SeqAt.shaped (row xs) && SeqAt.shaped (row ys)) = true then some (Res.d (.bool (!PyData.eqv (row xs) (row ys)))) else none) = _
  rw [shaped_row, shaped_row, eqv_row]
  rfl
theorem run_eq_row (xs ys : List Int) : Op.eq.run [row xs, row ys] = some (.d (.bool (decide (xs = ys)))) := by
  show (if (SeqAt.shaped (row xs) && SeqAt.shaped (row ys)) = true then some (Res.d (.bool (PyData.eqv (row xs) (row ys)))) else none) = _
  rw [shaped_row, shaped_row, eqv_row]
  rfl
theorem run_eq_int (i j : Int) : Op.eq.run [.int i, .int j] = some (.d (.bool (decide (i = j)))) := by
  show some (Res.d (.bool (i == j))) = _
  rw [Bool.beq_eq_decide_eq]
theorem run_ne_int (i j : Int) : Op.ne.run [.int i, .int j] = some (.d (.bool (!decide (i = j)))) := by
  show some (Res.d (.bool (!(i == j)))) = _
  rw [Bool.beq_eq_decide_eq]
theorem run_mul {i : Int} (h : -(2 ^ 64) < i ∧ i < 2 ^ 64) (j : Int) : Op.mul.run [.int i, .int j] = some (.d (.int (i * j))) := by
  show (if mulOk i j = true then some (Res.d (.int (i * j))) else none) = _
  rw [if_pos (by unfold mulOk; simp only [Bool.or_eq_true, decide_eq_true_eq]; exact .inl (.inl h))]
theorem run_mul' {j : Int} (h : -(2 ^ 64) < j ∧ j < 2 ^ 64) (i : Int) : Op.mul.run [.int i, .int j] = some (.d (.int (i * j))) := by
  show (if mulOk i j = true then some (Res.d (.int (i * j))) else none) = _
  rw [if_pos (by unfold mulOk; simp only [Bool.or_eq_true, decide_eq_true_eq]; exact .inl (.inr h))]
theorem run_fdiv {j : Int} (h : 0 < j) (hj : j < 2 ^ 64) (i : Int) : Op.fdiv.run [.int i, .int j] = some (.d (.int (i / j))) := by
  show (if 0 < j ∧ j.natAbs.log2 < 9000 then some (Res.d (.int (i / j))) else none) = _
  have hlog : j.natAbs.log2 < 9000 := by
    have h2 : j.natAbs < 2 ^ 64 := by omega
    have h3 : j.natAbs.log2 < 64 := (Nat.log2_lt (by omega)).mpr h2
    omega
  rw [if_pos ⟨h, hlog⟩]
theorem run_md {j : Int} (h : 0 < j) (i : Int) : Op.md.run [.int i, .int j] = some (.d (.int (i % j))) := by
  show (if 0 < j then some (Res.d (.int (i % j))) else none) = _
  rw [if_pos h]
theorem bools_map (g : PyData → Bool) : ∀ xs : List PyData, bools? (xs.map fun x => .bool (g x)) = some (xs.map g)
  | [] => rfl
  | x :: xs => by
    show (bools? (xs.map fun x => .bool (g x))).map (g x :: ·) = _
    rw [bools_map g xs]
    rfl
theorem run_all (g : PyData → Bool) (xs : List PyData) : Op.all.run [.list (xs.map fun x => .bool (g x))] = some (.d (.bool (xs.all g))) := by
  show (bools? (xs.map fun x => .bool (g x))).map (fun bs => Res.d (.bool (bs.all id))) = _
  rw [bools_map]
  show some (Res.d (.bool ((xs.map g).all id))) = _
  rw [List.all_map]
  rfl
theorem ints_map : ∀ ns : List Int, ints? (ns.map .int) = some ns
  | [] => rfl
  | n :: ns => by
    show (ints? (ns.map .int)).map (n :: ·) = _
    rw [ints_map ns]
    rfl
theorem run_sum_row (ns : List Int) : Op.sum.run [row ns] = some (.d (.int ns.sum)) := by
  show (ints? (ns.map .int)).map (fun ns => Res.d (.int ns.sum)) = _
  rw [ints_map]
  rfl
end Cz
set_option Elab.async false
set_option linter.all false
set_option maxRecDepth 100000
set_option maxHeartbeats 4000000
namespace K83
open PySem PySem.Spec PyProof.Rows L2 Cz
def topS (i : Nat) : Stmt := PySem.Challenge.pw_countrealm_k83_whole_steps_of_slopes.main.body.getD i (.Pass ⟨0, 0, 0, 0⟩)
def fs : List Str := ["is_whole", "is_tuple_of", "is_slope", "need_slope", "fits_runs", "steps_in", "bounds_by", "middle", "moved", "quotients_in", "chain_in", "steps_of", "slope_of", "depth", "bounds", "next_down", "meeting", "quotients", "chain", "_law_cup", "_law_roll", "_law_some", "_law_common", "_law_slope", "_law_runs", "_law_walked", "_law_path", "_law_told", "_law_small_right", "_law_great_right", "_law_odds_right", "law"]
def cs : List Str := ["GREAT", "RUNS"]
def CC : List PyData := [.int 1000000000000000000, .int 100]
/-- is_whole -/
def n0 : List Str := ["value", "low", "high"]
def p0 : List Str := ["value", "low", "high"]
def b0 : S := (.cons (.ret (.and (.op .isInt (.cons (.var 0) .nil)) (.and (.not (.op .isBool (.cons (.var 0) .nil))) (.chain .le .le (.var 1) (.var 0) (.var 2))))) .nil)
/-- is_tuple_of -/
def n1 : List Str := ["value", "low", "high"]
def p1 : List Str := ["value", "low", "high"]
def b1 : S := (.cons (.ret (.and (.op .isTup (.cons (.var 0) .nil)) (.chain .le .le (.var 1) (.op .len (.cons (.var 0) .nil)) (.var 2)))) .nil)
/-- is_slope -/
def n2 : List Str := ["value", "one"]
def p2 : List Str := ["value"]
def b2 : S := (.cons (.ifs (.or (.not (.call 1 (.cons (.var 0) (.cons (.k (.int 2)) (.cons (.k (.int 2)) .nil))))) (.not (.op .all (.cons (.comp (.call 0 (.cons (.var 1) (.cons (.k (.int 1)) (.cons (.glob 0) .nil)))) (.nm 1) .seq (.cons (.var 0) .nil) .nil) .nil)))) (.cons (.ret (.k (.bool false))) .nil) .nil) (.cons (.ret (.op .eq (.cons (.op .gcd (.cons (.op .ix (.cons (.var 0) (.cons (.k (.int 0)) .nil))) (.cons (.op .ix (.cons (.var 0) (.cons (.k (.int 1)) .nil))) .nil))) (.cons (.k (.int 1)) .nil)))) .nil))
/-- need_slope -/
def n3 : List Str := ["value"]
def p3 : List Str := ["value"]
def b3 : S := (.cons (.ifs (.not (.call 2 (.cons (.var 0) .nil))) (.cons .nev .nil) .nil) .nil)
/-- fits_runs -/
def n4 : List Str := ["value", "many"]
def p4 : List Str := ["value"]
def b4 : S := (.cons (.ifs (.or (.not (.call 1 (.cons (.var 0) (.cons (.k (.int 0)) (.cons (.glob 1) .nil))))) (.not (.op .all (.cons (.comp (.call 0 (.cons (.var 1) (.cons (.k (.int 0)) (.cons (.glob 0) .nil)))) (.nm 1) .seq (.cons (.var 0) .nil) .nil) .nil)))) (.cons (.ret (.k (.bool false))) .nil) .nil) (.cons (.ret (.and (.op .all (.cons (.comp (.op .gt (.cons (.var 1) (.cons (.k (.int 0)) .nil))) (.nm 1) .seq (.cons (.op .sl10 (.cons (.var 0) (.cons (.k (.int 1)) .nil))) .nil) .nil) .nil)) (.op .ne (.cons (.var 0) (.cons (.tup (.cons (.k (.int 0)) .nil)) .nil))))) .nil))
def b5l0 : S := (.cons (.ifs (.op .eq (.cons (.op .md (.cons (.var 4) (.cons (.k (.int 2)) .nil))) (.cons (.k (.int 0)) .nil))) (.cons (.asg (.nm 5) (.op .fdiv (.cons (.op .sub (.cons (.var 1) (.cons (.k (.int 1)) .nil))) (.cons (.var 2) .nil)))) (.cons (.asg (.nm 1) (.op .sub (.cons (.var 1) (.cons (.op .mul (.cons (.var 5) (.cons (.var 2) .nil))) .nil)))) .nil)) (.cons (.asg (.nm 5) (.op .fdiv (.cons (.op .sub (.cons (.var 2) (.cons (.k (.int 1)) .nil))) (.cons (.var 1) .nil)))) (.cons (.asg (.nm 2) (.op .sub (.cons (.var 2) (.cons (.op .mul (.cons (.var 5) (.cons (.var 1) .nil))) .nil)))) .nil))) (.cons (.app (.var 3) (.var 5)) (.cons (.asg (.nm 4) (.op .add (.cons (.var 4) (.cons (.k (.int 1)) .nil)))) .nil)))
/-- steps_in -/
def n5 : List Str := ["slope", "one", "other", "found", "turns", "many"]
def p5 : List Str := ["slope"]
def b5 : S := (.cons (.asg (.tp [1, 2]) (.var 0)) (.cons (.par [3, 4] (.cons (.lst .nil) (.cons (.k (.int 0)) .nil))) (.cons (.whl (.op .ne (.cons (.var 1) (.cons (.var 2) .nil))) b5l0) (.cons (.ret (.op .tupleOf (.cons (.var 3) .nil))) .nil))))
def b6l0 : S := (.cons (.ifs (.op .eq (.cons (.op .md (.cons (.var 3) (.cons (.k (.int 2)) .nil))) (.cons (.k (.int 0)) .nil))) (.cons (.asg (.nm 1) (.tup (.cons (.op .add (.cons (.op .ix (.cons (.var 1) (.cons (.k (.int 0)) .nil))) (.cons (.op .mul (.cons (.var 4) (.cons (.op .ix (.cons (.var 2) (.cons (.k (.int 0)) .nil))) .nil))) .nil))) (.cons (.op .add (.cons (.op .ix (.cons (.var 1) (.cons (.k (.int 1)) .nil))) (.cons (.op .mul (.cons (.var 4) (.cons (.op .ix (.cons (.var 2) (.cons (.k (.int 1)) .nil))) .nil))) .nil))) .nil)))) .nil) (.cons (.asg (.nm 2) (.tup (.cons (.op .add (.cons (.op .ix (.cons (.var 2) (.cons (.k (.int 0)) .nil))) (.cons (.op .mul (.cons (.var 4) (.cons (.op .ix (.cons (.var 1) (.cons (.k (.int 0)) .nil))) .nil))) .nil))) (.cons (.op .add (.cons (.op .ix (.cons (.var 2) (.cons (.k (.int 1)) .nil))) (.cons (.op .mul (.cons (.var 4) (.cons (.op .ix (.cons (.var 1) (.cons (.k (.int 1)) .nil))) .nil))) .nil))) .nil)))) .nil)) .nil)
/-- bounds_by -/
def n6 : List Str := ["runs", "low", "high", "at", "many"]
def p6 : List Str := ["runs"]
def b6 : S := (.cons (.par [1, 2] (.cons (.tup (.cons (.k (.int 0)) (.cons (.k (.int 1)) .nil))) (.cons (.tup (.cons (.k (.int 1)) (.cons (.k (.int 0)) .nil))) .nil))) (.cons (.for_ (.tp [3, 4]) .enum (.cons (.var 0) .nil) b6l0) (.cons (.ret (.tup (.cons (.var 1) (.cons (.var 2) .nil)))) .nil)))
/-- middle -/
def n7 : List Str := ["low", "high"]
def p7 : List Str := ["low", "high"]
def b7 : S := (.cons (.ret (.tup (.cons (.op .add (.cons (.op .ix (.cons (.var 0) (.cons (.k (.int 0)) .nil))) (.cons (.op .ix (.cons (.var 1) (.cons (.k (.int 0)) .nil))) .nil))) (.cons (.op .add (.cons (.op .ix (.cons (.var 0) (.cons (.k (.int 1)) .nil))) (.cons (.op .ix (.cons (.var 1) (.cons (.k (.int 1)) .nil))) .nil))) .nil)))) .nil)
/-- moved -/
def n8 : List Str := ["one", "other", "times"]
def p8 : List Str := ["one", "other", "times"]
def b8 : S := (.cons (.ret (.tup (.cons (.op .add (.cons (.op .ix (.cons (.var 0) (.cons (.k (.int 0)) .nil))) (.cons (.op .mul (.cons (.var 2) (.cons (.op .ix (.cons (.var 1) (.cons (.k (.int 0)) .nil))) .nil))) .nil))) (.cons (.op .add (.cons (.op .ix (.cons (.var 0) (.cons (.k (.int 1)) .nil))) (.cons (.op .mul (.cons (.var 2) (.cons (.op .ix (.cons (.var 1) (.cons (.k (.int 1)) .nil))) .nil))) .nil))) .nil)))) .nil)
def b9l0 : S := (.cons (.par [1, 2, 3] (.cons (.var 2) (.cons (.op .md (.cons (.var 1) (.cons (.var 2) .nil))) (.cons (.op .add (.cons (.var 3) (.cons (.tup (.cons (.op .fdiv (.cons (.var 1) (.cons (.var 2) .nil))) .nil)) .nil))) .nil)))) .nil)
/-- quotients_in -/
def n9 : List Str := ["slope", "one", "other", "found"]
def p9 : List Str := ["slope"]
def b9 : S := (.cons (.par [1, 2, 3] (.cons (.op .ix (.cons (.var 0) (.cons (.k (.int 0)) .nil))) (.cons (.op .ix (.cons (.var 0) (.cons (.k (.int 1)) .nil))) (.cons (.tup .nil) .nil)))) (.cons (.whl (.op .gt (.cons (.var 2) (.cons (.k (.int 0)) .nil))) b9l0) (.cons (.ret (.var 3)) .nil)))
def b10l0 : S := (.cons (.par [3, 4] (.cons (.var 4) (.cons (.call 8 (.cons (.var 3) (.cons (.var 4) (.cons (.var 1) .nil)))) .nil))) (.cons (.asg (.nm 2) (.op .add (.cons (.var 2) (.cons (.tup (.cons (.var 4) .nil)) .nil)))) .nil))
/-- chain_in -/
def n10 : List Str := ["slope", "many", "found", "ahead", "here"]
def p10 : List Str := ["slope"]
def b10 : S := (.cons (.par [2, 3, 4] (.cons (.tup .nil) (.cons (.tup (.cons (.k (.int 0)) (.cons (.k (.int 1)) .nil))) (.cons (.tup (.cons (.k (.int 1)) (.cons (.k (.int 0)) .nil))) .nil)))) (.cons (.for_ (.nm 1) .seq (.cons (.call 9 (.cons (.var 0) .nil)) .nil) b10l0) (.cons (.ret (.var 2)) .nil)))
/-- steps_of -/
def n11 : List Str := ["slope"]
def p11 : List Str := ["slope"]
def b11 : S := (.cons (.expr (.call 3 (.cons (.var 0) .nil))) (.cons (.ret (.call 5 (.cons (.var 0) .nil))) .nil))
/-- slope_of -/
def n12 : List Str := ["runs", "low", "high"]
def p12 : List Str := ["runs"]
def b12 : S := (.cons (.ifs (.not (.call 4 (.cons (.var 0) .nil))) (.cons .nev .nil) .nil) (.cons (.asg (.tp [1, 2]) (.call 6 (.cons (.var 0) .nil))) (.cons (.ret (.call 7 (.cons (.var 1) (.cons (.var 2) .nil)))) .nil)))
/-- depth -/
def n13 : List Str := ["slope"]
def p13 : List Str := ["slope"]
def b13 : S := (.cons (.expr (.call 3 (.cons (.var 0) .nil))) (.cons (.ret (.op .sum (.cons (.call 5 (.cons (.var 0) .nil)) .nil))) .nil))
/-- bounds -/
def n14 : List Str := ["slope"]
def p14 : List Str := ["slope"]
def b14 : S := (.cons (.expr (.call 3 (.cons (.var 0) .nil))) (.cons (.ret (.call 6 (.cons (.call 5 (.cons (.var 0) .nil)) .nil))) .nil))
/-- next_down -/
def n15 : List Str := ["slope", "low", "high"]
def p15 : List Str := ["slope"]
def b15 : S := (.cons (.expr (.call 3 (.cons (.var 0) .nil))) (.cons (.asg (.tp [1, 2]) (.call 6 (.cons (.call 5 (.cons (.var 0) .nil)) .nil))) (.cons (.ret (.tup (.cons (.call 7 (.cons (.var 1) (.cons (.var 0) .nil))) (.cons (.call 7 (.cons (.var 0) (.cons (.var 2) .nil))) .nil)))) .nil)))
def b16l0 : S := (.cons (.app (.var 2) (.op .min2 (.cons (.var 5) (.cons (.var 6) .nil)))) (.cons (.ifs (.op .ne (.cons (.var 5) (.cons (.var 6) .nil))) (.cons .brk .nil) .nil) .nil))
/-- meeting -/
def n16 : List Str := ["slope", "other", "found", "mine", "yours", "one", "two", "low", "high"]
def p16 : List Str := ["slope", "other"]
def b16 : S := (.cons (.expr (.call 3 (.cons (.var 0) .nil))) (.cons (.expr (.call 3 (.cons (.var 1) .nil))) (.cons (.par [2, 3, 4] (.cons (.lst .nil) (.cons (.call 5 (.cons (.var 0) .nil)) (.cons (.call 5 (.cons (.var 1) .nil)) .nil)))) (.cons (.for_ (.tp [5, 6]) .zip2 (.cons (.var 3) (.cons (.var 4) .nil)) b16l0) (.cons (.asg (.tp [7, 8]) (.call 6 (.cons (.var 2) .nil))) (.cons (.ret (.call 7 (.cons (.var 7) (.cons (.var 8) .nil)))) .nil))))))
/-- quotients -/
def n17 : List Str := ["slope"]
def p17 : List Str := ["slope"]
def b17 : S := (.cons (.expr (.call 3 (.cons (.var 0) .nil))) (.cons (.ret (.call 9 (.cons (.var 0) .nil))) .nil))
/-- chain -/
def n18 : List Str := ["slope"]
def p18 : List Str := ["slope"]
def b18 : S := (.cons (.expr (.call 3 (.cons (.var 0) .nil))) (.cons (.ret (.call 10 (.cons (.var 0) .nil))) .nil))
/-- _law_cup -/
def n19 : List Str := ["script", "cell"]
def p19 : List Str := ["script"]
def b19 : S := (.cons (.asg (.nm 1) (.op .abs (.cons (.op .ix (.cons (.op .add (.cons (.op .listOf (.cons (.var 0) .nil)) (.cons (.lst (.cons (.k (.int 0)) .nil)) .nil))) (.cons (.k (.int 0)) .nil))) .nil))) (.cons (.ret (.lst (.cons (.ite (.op .ge (.cons (.var 1) (.cons (.op .pow (.cons (.k (.int 10)) (.cons (.k (.int 18)) .nil))) .nil))) (.op .fdiv (.cons (.var 1) (.cons (.k (.int 131)) .nil))) (.k (.int 0))) (.cons (.op .add (.cons (.op .md (.cons (.op .int1 (.cons (.op .add (.cons (.op .mul (.cons (.var 1) (.cons (.k (.int 367)) .nil))) (.cons (.k (.int 4129)) .nil))) .nil)) (.cons (.k (.int 2077503499)) .nil))) (.cons (.k (.int 227)) .nil))) .nil)))) .nil))
/-- _law_roll -/
def n20 : List Str := ["cup", "many", "deep", "found"]
def p20 : List Str := ["cup", "many"]
def b20 : S := (.cons (.ifs (.op .gt (.cons (.op .ix (.cons (.var 0) (.cons (.k (.int 0)) .nil))) (.cons (.k (.int 0)) .nil))) (.cons (.asg (.nm 3) (.op .md (.cons (.op .int1 (.cons (.op .ix (.cons (.var 0) (.cons (.k (.int 0)) .nil))) .nil)) (.cons (.var 1) .nil)))) (.cons (.setix (.var 0) (.k (.int 0)) (.op .fdiv (.cons (.op .ix (.cons (.var 0) (.cons (.k (.int 0)) .nil))) (.cons (.var 1) .nil)))) (.cons (.ret (.var 3)) .nil))) .nil) (.cons (.setix (.var 0) (.k (.int 1)) (.op .md (.cons (.op .int1 (.cons (.op .add (.cons (.op .mul (.cons (.op .ix (.cons (.var 0) (.cons (.k (.int 1)) .nil))) (.cons (.k (.int 31237)) .nil))) (.cons (.k (.int 8221)) .nil))) .nil)) (.cons (.k (.int 2147483399)) .nil)))) (.cons (.asg (.nm 2) (.op .md (.cons (.op .int1 (.cons (.op .mul (.cons (.op .ix (.cons (.var 0) (.cons (.k (.int 1)) .nil))) (.cons (.op .add (.cons (.op .ix (.cons (.var 0) (.cons (.k (.int 1)) .nil))) (.cons (.k (.int 419)) .nil))) .nil))) .nil)) (.cons (.k (.int 2147483563)) .nil)))) (.cons (.ret (.op .md (.cons (.op .int1 (.cons (.op .fdiv (.cons (.var 2) (.cons (.k (.int 1019)) .nil))) .nil)) (.cons (.var 1) .nil)))) .nil))))
/-- _law_some -/
def n21 : List Str := ["cup", "things"]
def p21 : List Str := ["cup", "things"]
def b21 : S := (.cons (.ret (.op .ix (.cons (.var 1) (.cons (.call 20 (.cons (.var 0) (.cons (.op .len (.cons (.var 1) .nil)) .nil))) .nil)))) .nil)
def b22l0 : S := (.cons (.par [0, 1] (.cons (.var 1) (.cons (.op .md (.cons (.op .int1 (.cons (.var 0) .nil)) (.cons (.op .int1 (.cons (.var 1) .nil)) .nil))) .nil))) .nil)
/-- _law_common -/
def n22 : List Str := ["one", "other"]
def p22 : List Str := ["one", "other"]
def b22 : S := (.cons (.whl (.op .ne (.cons (.var 1) (.cons (.k (.int 0)) .nil))) b22l0) (.cons (.ret (.var 0)) .nil))
/-- _law_slope -/
def n23 : List Str := ["cup", "most", "share", "one", "other"]
def p23 : List Str := ["cup", "most"]
def b23 : S := (.cons (.par [3, 4] (.cons (.op .add (.cons (.k (.int 1)) (.cons (.call 20 (.cons (.var 0) (.cons (.var 1) .nil))) .nil))) (.cons (.op .add (.cons (.k (.int 1)) (.cons (.call 20 (.cons (.var 0) (.cons (.var 1) .nil))) .nil))) .nil))) (.cons (.asg (.nm 2) (.call 22 (.cons (.var 3) (.cons (.var 4) .nil)))) (.cons (.ret (.tup (.cons (.op .fdiv (.cons (.var 3) (.cons (.var 2) .nil))) (.cons (.op .fdiv (.cons (.var 4) (.cons (.var 2) .nil))) .nil)))) .nil)))
/-- _law_runs -/
def n24 : List Str := ["cup", "most", "many", "row", "turn"]
def p24 : List Str := ["cup", "most", "many"]
def b24 : S := (.cons (.asg (.nm 3) (.op .tupleOf (.cons (.comp (.op .add (.cons (.k (.int 1)) (.cons (.call 20 (.cons (.var 0) (.cons (.var 2) .nil))) .nil))) (.nm 4) .range1 (.cons (.call 20 (.cons (.var 0) (.cons (.op .add (.cons (.var 1) (.cons (.k (.int 1)) .nil))) .nil))) .nil) .nil) .nil))) (.cons (.ret (.ite (.and (.op .ne (.cons (.var 3) (.cons (.tup .nil) .nil))) (.op .eq (.cons (.call 20 (.cons (.var 0) (.cons (.k (.int 2)) .nil))) (.cons (.k (.int 0)) .nil)))) (.op .add (.cons (.tup (.cons (.k (.int 0)) .nil)) (.cons (.var 3) .nil))) (.var 3))) .nil))
def b25l0 : S := (.cons (.ifs (.op .eq (.cons (.op .md (.cons (.var 1) (.cons (.k (.int 2)) .nil))) (.cons (.k (.int 0)) .nil))) (.cons (.par [2, 3] (.cons (.var 3) (.cons (.tup (.cons (.op .add (.cons (.op .ix (.cons (.var 3) (.cons (.k (.int 0)) .nil))) (.cons (.op .ix (.cons (.var 4) (.cons (.k (.int 0)) .nil))) .nil))) (.cons (.op .add (.cons (.op .ix (.cons (.var 3) (.cons (.k (.int 1)) .nil))) (.cons (.op .ix (.cons (.var 4) (.cons (.k (.int 1)) .nil))) .nil))) .nil))) .nil))) .nil) (.cons (.par [4, 3] (.cons (.var 3) (.cons (.tup (.cons (.op .add (.cons (.op .ix (.cons (.var 3) (.cons (.k (.int 0)) .nil))) (.cons (.op .ix (.cons (.var 2) (.cons (.k (.int 0)) .nil))) .nil))) (.cons (.op .add (.cons (.op .ix (.cons (.var 3) (.cons (.k (.int 1)) .nil))) (.cons (.op .ix (.cons (.var 2) (.cons (.k (.int 1)) .nil))) .nil))) .nil))) .nil))) .nil)) .nil)
def b25l1 : S := (.cons (.for_ (.nm 5) .range1 (.cons (.op .ix (.cons (.var 0) (.cons (.var 1) .nil))) .nil) b25l0) .nil)
/-- _law_walked -/
def n25 : List Str := ["runs", "at", "below", "here", "above", "turn"]
def p25 : List Str := ["runs"]
def b25 : S := (.cons (.par [2, 3, 4] (.cons (.tup (.cons (.k (.int 0)) (.cons (.k (.int 1)) .nil))) (.cons (.tup (.cons (.k (.int 1)) (.cons (.k (.int 1)) .nil))) (.cons (.tup (.cons (.k (.int 1)) (.cons (.k (.int 0)) .nil))) .nil)))) (.cons (.for_ (.nm 1) .range1 (.cons (.op .len (.cons (.var 0) .nil)) .nil) b25l1) (.cons (.ret (.tup (.cons (.var 2) (.cons (.var 3) (.cons (.var 4) .nil))))) .nil)))
/-- _law_path -/
def n26 : List Str := ["runs", "at"]
def p26 : List Str := ["runs"]
def b26 : S := (.cons (.ret (.op .join (.cons (.k (.str "")) (.cons (.comp (.op .mul (.cons (.op .ix (.cons (.k (.str "ud")) (.cons (.op .md (.cons (.op .int1 (.cons (.var 1) .nil)) (.cons (.k (.int 2)) .nil))) .nil))) (.cons (.op .ix (.cons (.var 0) (.cons (.var 1) .nil))) .nil))) (.nm 1) .range1 (.cons (.op .len (.cons (.var 0) .nil)) .nil) .nil) .nil)))) .nil)
def b27l0 : S := (.cons (.par [2, 3] (.cons (.op .add (.cons (.op .mul (.cons (.var 1) (.cons (.var 2) .nil))) (.cons (.var 3) .nil))) (.cons (.var 2) .nil))) .nil)
/-- _law_told -/
def n27 : List Str := ["rows", "many", "one", "other"]
def p27 : List Str := ["rows"]
def b27 : S := (.cons (.par [2, 3] (.cons (.op .ix (.cons (.var 0) (.cons (.op .neg (.cons (.k (.int 1)) .nil)) .nil))) (.cons (.k (.int 1)) .nil))) (.cons (.for_ (.nm 1) .seq (.cons (.op .rev (.cons (.op .sl01 (.cons (.var 0) (.cons (.op .neg (.cons (.k (.int 1)) .nil)) .nil))) .nil)) .nil) b27l0) (.cons (.ret (.tup (.cons (.var 2) (.cons (.var 3) .nil)))) .nil)))
def b28l0 : S := (.cons (.asg (.tp [10, 11, 12]) (.var 5)) (.cons (.asg (.nm 5) (.ite (.op .eq (.cons (.var 6) (.cons (.k (.str "u")) .nil))) (.tup (.cons (.var 11) (.cons (.tup (.cons (.op .add (.cons (.op .ix (.cons (.var 11) (.cons (.k (.int 0)) .nil))) (.cons (.op .ix (.cons (.var 12) (.cons (.k (.int 0)) .nil))) .nil))) (.cons (.op .add (.cons (.op .ix (.cons (.var 11) (.cons (.k (.int 1)) .nil))) (.cons (.op .ix (.cons (.var 12) (.cons (.k (.int 1)) .nil))) .nil))) .nil))) (.cons (.var 12) .nil)))) (.tup (.cons (.var 10) (.cons (.tup (.cons (.op .add (.cons (.op .ix (.cons (.var 11) (.cons (.k (.int 0)) .nil))) (.cons (.op .ix (.cons (.var 10) (.cons (.k (.int 0)) .nil))) .nil))) (.cons (.op .add (.cons (.op .ix (.cons (.var 11) (.cons (.k (.int 1)) .nil))) (.cons (.op .ix (.cons (.var 10) (.cons (.k (.int 1)) .nil))) .nil))) .nil))) (.cons (.var 11) .nil)))))) .nil))
def b28l1 : S := (.cons (.asg (.nm 15) (.ite (.and (.op .eq (.cons (.var 15) (.cons (.var 4) .nil))) (.op .eq (.cons (.op .ix (.cons (.var 13) (.cons (.var 4) .nil))) (.cons (.op .ix (.cons (.var 14) (.cons (.var 4) .nil))) .nil)))) (.op .add (.cons (.var 4) (.cons (.k (.int 1)) .nil))) (.var 15))) .nil)
/-- _law_small_right -/
def n28 : List Str := ["cup", "runs", "told", "other", "at", "found", "sign", "slope", "order", "size", "below", "here", "above", "one", "two", "same", "first", "second"]
def p28 : List Str := ["cup"]
def b28 : S := (.cons (.asg (.nm 1) (.call 24 (.cons (.var 0) (.cons (.k (.int 5)) (.cons (.k (.int 6)) .nil))))) (.cons (.asg (.tp [10, 11, 12]) (.call 25 (.cons (.var 1) .nil))) (.cons (.asg (.nm 2) (.tup (.cons (.call 12 (.cons (.var 1) .nil)) (.cons (.call 11 (.cons (.var 11) .nil)) (.cons (.call 13 (.cons (.var 11) .nil)) (.cons (.call 14 (.cons (.var 11) .nil)) (.cons (.call 2 (.cons (.var 11) .nil)) .nil))))))) (.cons (.ifs (.op .ne (.cons (.op .repr (.cons (.var 2) .nil)) (.cons (.op .repr (.cons (.tup (.cons (.var 11) (.cons (.var 1) (.cons (.op .sum (.cons (.var 1) .nil)) (.cons (.tup (.cons (.var 10) (.cons (.var 12) .nil))) (.cons (.k (.bool true)) .nil)))))) .nil)) .nil))) (.cons (.ret (.k (.bool false))) .nil) .nil) (.cons (.ifs (.op .ne (.cons (.op .repr (.cons (.call 15 (.cons (.var 11) .nil)) .nil)) (.cons (.op .repr (.cons (.tup (.cons (.tup (.cons (.op .add (.cons (.op .ix (.cons (.var 11) (.cons (.k (.int 0)) .nil))) (.cons (.op .ix (.cons (.var 10) (.cons (.k (.int 0)) .nil))) .nil))) (.cons (.op .add (.cons (.op .ix (.cons (.var 11) (.cons (.k (.int 1)) .nil))) (.cons (.op .ix (.cons (.var 10) (.cons (.k (.int 1)) .nil))) .nil))) .nil))) (.cons (.tup (.cons (.op .add (.cons (.op .ix (.cons (.var 11) (.cons (.k (.int 0)) .nil))) (.cons (.op .ix (.cons (.var 12) (.cons (.k (.int 0)) .nil))) .nil))) (.cons (.op .add (.cons (.op .ix (.cons (.var 11) (.cons (.k (.int 1)) .nil))) (.cons (.op .ix (.cons (.var 12) (.cons (.k (.int 1)) .nil))) .nil))) .nil))) .nil))) .nil)) .nil))) (.cons (.ret (.k (.bool false))) .nil) .nil) (.cons (.ifs (.op .ne (.cons (.call 11 (.cons (.op .ix (.cons (.call 15 (.cons (.var 11) .nil)) (.cons (.k (.int 0)) .nil))) .nil)) (.cons (.ite (.and (.op .eq (.cons (.op .md (.cons (.op .int1 (.cons (.op .len (.cons (.var 1) .nil)) .nil)) (.cons (.k (.int 2)) .nil))) (.cons (.k (.int 0)) .nil))) (.op .ne (.cons (.var 1) (.cons (.tup .nil) .nil)))) (.op .add (.cons (.op .sl01 (.cons (.var 1) (.cons (.op .neg (.cons (.k (.int 1)) .nil)) .nil))) (.cons (.tup (.cons (.op .add (.cons (.op .ix (.cons (.var 1) (.cons (.op .neg (.cons (.k (.int 1)) .nil)) .nil))) (.cons (.k (.int 1)) .nil))) .nil)) .nil))) (.ite (.op .ne (.cons (.var 1) (.cons (.tup .nil) .nil))) (.op .add (.cons (.var 1) (.cons (.tup (.cons (.k (.int 1)) .nil)) .nil))) (.tup (.cons (.k (.int 0)) (.cons (.k (.int 1)) .nil))))) .nil))) (.cons (.ret (.k (.bool false))) .nil) .nil) (.cons (.asg (.nm 3) (.op .ix (.cons (.call 25 (.cons (.call 21 (.cons (.var 0) (.cons (.lst (.cons (.call 24 (.cons (.var 0) (.cons (.k (.int 5)) (.cons (.k (.int 6)) .nil)))) (.cons (.op .add (.cons (.op .sl01 (.cons (.var 1) (.cons (.call 20 (.cons (.var 0) (.cons (.k (.int 4)) .nil))) .nil))) (.cons (.tup (.cons (.op .add (.cons (.k (.int 1)) (.cons (.call 20 (.cons (.var 0) (.cons (.k (.int 3)) .nil))) .nil))) .nil)) .nil))) .nil))) .nil))) .nil)) (.cons (.k (.int 1)) .nil)))) (.cons (.par [13, 14, 15] (.cons (.call 26 (.cons (.var 1) .nil)) (.cons (.call 26 (.cons (.call 11 (.cons (.var 3) .nil)) .nil)) (.cons (.k (.int 0)) .nil)))) (.cons (.for_ (.nm 4) .range1 (.cons (.op .min2 (.cons (.op .len (.cons (.var 13) .nil)) (.cons (.op .len (.cons (.var 14) .nil)) .nil))) .nil) b28l1) (.cons (.asg (.nm 5) (.tup (.cons (.tup (.cons (.k (.int 0)) (.cons (.k (.int 1)) .nil))) (.cons (.tup (.cons (.k (.int 1)) (.cons (.k (.int 1)) .nil))) (.cons (.tup (.cons (.k (.int 1)) (.cons (.k (.int 0)) .nil))) .nil))))) (.cons (.for_ (.nm 6) .seq (.cons (.op .sl01 (.cons (.var 13) (.cons (.var 15) .nil))) .nil) b28l0) (.cons (.asg (.nm 7) (.call 12 (.cons (.var 1) .nil))) (.cons (.ifs (.or (.op .ne (.cons (.op .repr (.cons (.call 16 (.cons (.var 7) (.cons (.var 3) .nil))) .nil)) (.cons (.op .repr (.cons (.op .ix (.cons (.var 5) (.cons (.k (.int 1)) .nil))) .nil)) .nil))) (.op .ne (.cons (.call 16 (.cons (.var 3) (.cons (.var 7) .nil))) (.cons (.op .ix (.cons (.var 5) (.cons (.k (.int 1)) .nil))) .nil)))) (.cons (.ret (.k (.bool false))) .nil) .nil) (.cons (.par [16, 17] (.cons (.op .ix (.cons (.op .add (.cons (.var 13) (.cons (.k (.str "m")) .nil))) (.cons (.var 15) .nil))) (.cons (.op .ix (.cons (.op .add (.cons (.var 14) (.cons (.k (.str "m")) .nil))) (.cons (.var 15) .nil))) .nil))) (.cons (.asg (.nm 8) (.op .sub (.cons (.op .index (.cons (.k (.str "dmu")) (.cons (.var 16) .nil))) (.cons (.op .index (.cons (.k (.str "dmu")) (.cons (.var 17) .nil))) .nil)))) (.cons (.asg (.nm 9) (.op .sub (.cons (.op .mul (.cons (.op .ix (.cons (.var 7) (.cons (.k (.int 0)) .nil))) (.cons (.op .ix (.cons (.var 3) (.cons (.k (.int 1)) .nil))) .nil))) (.cons (.op .mul (.cons (.op .ix (.cons (.var 3) (.cons (.k (.int 0)) .nil))) (.cons (.op .ix (.cons (.var 7) (.cons (.k (.int 1)) .nil))) .nil))) .nil)))) (.cons (.ret (.and (.op .eq (.cons (.op .lt (.cons (.var 8) (.cons (.k (.int 0)) .nil))) (.cons (.op .lt (.cons (.var 9) (.cons (.k (.int 0)) .nil))) .nil))) (.op .eq (.cons (.op .eq (.cons (.var 8) (.cons (.k (.int 0)) .nil))) (.cons (.op .eq (.cons (.var 9) (.cons (.k (.int 0)) .nil))) .nil))))) .nil)))))))))))))))))
def b29l0 : S := (.cons (.par [11, 12] (.cons (.op .sub (.cons (.op .mul (.cons (.op .ix (.cons (.var 1) (.cons (.k (.int 0)) .nil))) (.cons (.op .ix (.cons (.op .ix (.cons (.var 2) (.cons (.var 5) .nil))) (.cons (.k (.int 1)) .nil))) .nil))) (.cons (.op .mul (.cons (.op .ix (.cons (.op .ix (.cons (.var 2) (.cons (.var 5) .nil))) (.cons (.k (.int 0)) .nil))) (.cons (.op .ix (.cons (.var 1) (.cons (.k (.int 1)) .nil))) .nil))) .nil))) (.cons (.op .sub (.cons (.op .mul (.cons (.op .ix (.cons (.var 1) (.cons (.k (.int 0)) .nil))) (.cons (.op .ix (.cons (.op .ix (.cons (.var 2) (.cons (.op .sub (.cons (.var 5) (.cons (.k (.int 1)) .nil))) .nil))) (.cons (.k (.int 1)) .nil))) .nil))) (.cons (.op .mul (.cons (.op .ix (.cons (.op .ix (.cons (.var 2) (.cons (.op .sub (.cons (.var 5) (.cons (.k (.int 1)) .nil))) .nil))) (.cons (.k (.int 0)) .nil))) (.cons (.op .ix (.cons (.var 1) (.cons (.k (.int 1)) .nil))) .nil))) .nil))) .nil))) (.cons (.ifs (.or (.op .gt (.cons (.op .mul (.cons (.var 11) (.cons (.var 12) .nil))) (.cons (.k (.int 0)) .nil))) (.op .ge (.cons (.op .mul (.cons (.op .abs (.cons (.var 11) .nil)) (.cons (.op .ix (.cons (.op .ix (.cons (.var 2) (.cons (.op .sub (.cons (.var 5) (.cons (.k (.int 1)) .nil))) .nil))) (.cons (.k (.int 1)) .nil))) .nil))) (.cons (.op .mul (.cons (.op .abs (.cons (.var 12) .nil)) (.cons (.op .ix (.cons (.op .ix (.cons (.var 2) (.cons (.var 5) .nil))) (.cons (.k (.int 1)) .nil))) .nil))) .nil)))) (.cons (.ret (.k (.bool false))) .nil) .nil) .nil))
def b29l1 : S := (.cons (.par [6, 7, 8] (.cons (.var 7) (.cons (.op .md (.cons (.op .int1 (.cons (.var 6) .nil)) (.cons (.op .int1 (.cons (.var 7) .nil)) .nil))) (.cons (.op .add (.cons (.var 8) (.cons (.tup (.cons (.op .fdiv (.cons (.var 6) (.cons (.var 7) .nil))) .nil)) .nil))) .nil)))) .nil)
/-- _law_great_right -/
def n29 : List Str := ["cup", "slope", "due", "runs", "last", "at", "one", "other", "rows", "below", "above", "mine", "yours", "many"]
def p29 : List Str := ["cup"]
def b29 : S := (.cons (.asg (.nm 1) (.call 23 (.cons (.var 0) (.cons (.call 21 (.cons (.var 0) (.cons (.lst (.cons (.k (.int 12)) (.cons (.k (.int 1000)) (.cons (.op .pow (.cons (.k (.int 10)) (.cons (.k (.int 9)) .nil))) (.cons (.op .pow (.cons (.k (.int 10)) (.cons (.k (.int 18)) .nil))) .nil))))) .nil))) .nil)))) (.cons (.par [6, 7, 8] (.cons (.op .ix (.cons (.var 1) (.cons (.k (.int 0)) .nil))) (.cons (.op .ix (.cons (.var 1) (.cons (.k (.int 1)) .nil))) (.cons (.tup .nil) .nil)))) (.cons (.whl (.op .ne (.cons (.var 7) (.cons (.k (.int 0)) .nil))) b29l1) (.cons (.asg (.nm 2) (.op .tupleOf (.cons (.comp (.call 27 (.cons (.op .sl01 (.cons (.var 8) (.cons (.var 13) .nil))) .nil)) (.nm 13) .range2 (.cons (.k (.int 1)) (.cons (.op .add (.cons (.op .len (.cons (.var 8) .nil)) (.cons (.k (.int 1)) .nil))) .nil)) .nil) .nil))) (.cons (.ifs (.or (.op .ne (.cons (.op .repr (.cons (.tup (.cons (.call 17 (.cons (.var 1) .nil)) (.cons (.call 18 (.cons (.var 1) .nil)) .nil))) .nil)) (.cons (.op .repr (.cons (.tup (.cons (.var 8) (.cons (.var 2) .nil))) .nil)) .nil))) (.op .ne (.cons (.op .ix (.cons (.var 2) (.cons (.op .neg (.cons (.k (.int 1)) .nil)) .nil))) (.cons (.var 1) .nil)))) (.cons (.ret (.k (.bool false))) .nil) .nil) (.cons (.asg (.nm 3) (.call 11 (.cons (.var 1) .nil))) (.cons (.asg (.nm 4) (.op .add (.cons (.op .sl01 (.cons (.var 8) (.cons (.op .neg (.cons (.k (.int 1)) .nil)) .nil))) (.cons (.ite (.or (.op .gt (.cons (.op .ix (.cons (.var 8) (.cons (.op .neg (.cons (.k (.int 1)) .nil)) .nil))) (.cons (.k (.int 1)) .nil))) (.and (.op .gt (.cons (.op .len (.cons (.var 8) .nil)) (.cons (.k (.int 1)) .nil))) (.op .ne (.cons (.op .ix (.cons (.var 8) (.cons (.op .neg (.cons (.k (.int 1)) .nil)) .nil))) (.cons (.k (.int 1)) .nil))))) (.tup (.cons (.op .sub (.cons (.op .ix (.cons (.var 8) (.cons (.op .neg (.cons (.k (.int 1)) .nil)) .nil))) (.cons (.k (.int 1)) .nil))) .nil)) (.tup .nil)) .nil)))) (.cons (.ifs (.or (.op .ne (.cons (.op .repr (.cons (.var 3) .nil)) (.cons (.op .repr (.cons (.var 4) .nil)) .nil))) (.or (.op .ne (.cons (.op .repr (.cons (.call 12 (.cons (.var 3) .nil)) .nil)) (.cons (.op .repr (.cons (.var 1) .nil)) .nil))) (.op .ne (.cons (.op .repr (.cons (.call 13 (.cons (.var 1) .nil)) .nil)) (.cons (.op .repr (.cons (.op .sub (.cons (.op .sum (.cons (.var 8) .nil)) (.cons (.k (.int 1)) .nil))) .nil)) .nil))))) (.cons (.ret (.k (.bool false))) .nil) .nil) (.cons (.asg (.tp [9, 10]) (.call 14 (.cons (.var 1) .nil))) (.cons (.ifs (.or (.op .ne (.cons (.tup (.cons (.op .add (.cons (.op .ix (.cons (.var 9) (.cons (.k (.int 0)) .nil))) (.cons (.op .ix (.cons (.var 10) (.cons (.k (.int 0)) .nil))) .nil))) (.cons (.op .add (.cons (.op .ix (.cons (.var 9) (.cons (.k (.int 1)) .nil))) (.cons (.op .ix (.cons (.var 10) (.cons (.k (.int 1)) .nil))) .nil))) .nil))) (.cons (.var 1) .nil))) (.op .ne (.cons (.op .sub (.cons (.op .mul (.cons (.op .ix (.cons (.var 10) (.cons (.k (.int 0)) .nil))) (.cons (.op .ix (.cons (.var 9) (.cons (.k (.int 1)) .nil))) .nil))) (.cons (.op .mul (.cons (.op .ix (.cons (.var 9) (.cons (.k (.int 0)) .nil))) (.cons (.op .ix (.cons (.var 10) (.cons (.k (.int 1)) .nil))) .nil))) .nil))) (.cons (.k (.int 1)) .nil)))) (.cons (.ret (.k (.bool false))) .nil) .nil) (.cons (.for_ (.nm 5) .range2 (.cons (.k (.int 1)) (.cons (.op .len (.cons (.var 2) .nil)) .nil)) b29l0) (.cons (.ret (.k (.bool true))) .nil))))))))))))
def b30l0 : S := (.cons (.par [6, 7] (.cons (.op .add (.cons (.var 6) (.cons (.var 7) .nil))) (.cons (.var 6) .nil))) .nil)
/-- _law_odds_right -/
def n30 : List Str := ["cup", "many", "odds", "goods", "told", "turn", "one", "other", "odd", "good"]
def p30 : List Str := ["cup"]
def b30 : S := (.cons (.asg (.nm 1) (.op .add (.cons (.k (.int 1)) (.cons (.call 20 (.cons (.var 0) (.cons (.k (.int 30)) .nil))) .nil)))) (.cons (.asg (.nm 2) (.lst (.cons (.k (.none)) (.cons (.tup (.cons (.var 1) .nil)) (.cons (.tup (.cons (.var 1) (.cons (.k (.int 1)) (.cons (.k (.int 1)) .nil)))) (.cons (.lst (.cons (.var 1) (.cons (.k (.int 1)) .nil))) (.cons (.tup (.cons (.k (.int 0)) (.cons (.k (.int 1)) .nil))) (.cons (.tup (.cons (.k (.int 1)) (.cons (.k (.int 0)) .nil))) (.cons (.tup (.cons (.var 1) (.cons (.op .neg (.cons (.k (.int 1)) .nil)) .nil))) (.cons (.tup (.cons (.op .neg (.cons (.k (.int 1)) .nil)) (.cons (.var 1) .nil))) (.cons (.tup (.cons (.op .mul (.cons (.k (.int 2)) (.cons (.var 1) .nil))) (.cons (.k (.int 4)) .nil))) (.cons (.tup (.cons (.var 1) (.cons (.k (.bool true)) .nil))) (.cons (.tup (.cons (.op .add (.cons (.op .pow (.cons (.k (.int 10)) (.cons (.k (.int 18)) .nil))) (.cons (.k (.int 1)) .nil))) (.cons (.k (.int 1)) .nil))) (.cons (.tup (.cons (.k (.int 1)) (.cons (.op .add (.cons (.op .pow (.cons (.k (.int 10)) (.cons (.k (.int 18)) .nil))) (.cons (.k (.int 1)) .nil))) .nil))) (.cons (.tup (.cons (.k (.str "1")) (.cons (.k (.int 2)) .nil))) (.cons (.tup (.cons (.k (.int 1)) (.cons (.k (.none)) .nil))) (.cons (.tup (.cons (.op .mul (.cons (.k (.int 3)) (.cons (.var 1) .nil))) (.cons (.k (.int 3)) .nil))) (.cons (.k (.int 5)) .nil)))))))))))))))))) (.cons (.ifs (.op .ne (.cons (.comp (.var 8) (.nm 8) .seq (.cons (.var 2) .nil) (.cons (.op .isnot (.cons (.call 2 (.cons (.var 8) .nil)) (.cons (.k (.bool false)) .nil))) .nil)) (.cons (.lst .nil) .nil))) (.cons (.ret (.k (.bool false))) .nil) .nil) (.cons (.asg (.nm 3) (.lst (.cons (.tup (.cons (.k (.int 1)) (.cons (.var 1) .nil))) (.cons (.tup (.cons (.op .pow (.cons (.k (.int 10)) (.cons (.k (.int 18)) .nil))) (.cons (.op .sub (.cons (.op .pow (.cons (.k (.int 10)) (.cons (.k (.int 18)) .nil))) (.cons (.k (.int 1)) .nil))) .nil))) (.cons (.tup (.cons (.op .pow (.cons (.k (.int 10)) (.cons (.k (.int 18)) .nil))) (.cons (.k (.int 1)) .nil))) (.cons (.tup (.cons (.k (.int 1)) (.cons (.op .pow (.cons (.k (.int 10)) (.cons (.k (.int 18)) .nil))) .nil))) (.cons (.tup (.cons (.op .add (.cons (.var 1) (.cons (.k (.int 1)) .nil))) (.cons (.var 1) .nil))) .nil))))))) (.cons (.ifs (.op .ne (.cons (.comp (.var 9) (.nm 9) .seq (.cons (.var 3) .nil) (.cons (.op .isnot (.cons (.call 2 (.cons (.var 9) .nil)) (.cons (.k (.bool true)) .nil))) .nil)) (.cons (.lst .nil) .nil))) (.cons (.ret (.k (.bool false))) .nil) .nil) (.cons (.asg (.nm 4) (.tup (.cons (.call 11 (.cons (.tup (.cons (.op .pow (.cons (.k (.int 10)) (.cons (.k (.int 18)) .nil))) (.cons (.k (.int 1)) .nil))) .nil)) (.cons (.call 11 (.cons (.tup (.cons (.k (.int 1)) (.cons (.op .pow (.cons (.k (.int 10)) (.cons (.k (.int 18)) .nil))) .nil))) .nil)) (.cons (.call 11 (.cons (.tup (.cons (.op .pow (.cons (.k (.int 10)) (.cons (.k (.int 18)) .nil))) (.cons (.op .sub (.cons (.op .pow (.cons (.k (.int 10)) (.cons (.k (.int 18)) .nil))) (.cons (.k (.int 1)) .nil))) .nil))) .nil)) (.cons (.call 12 (.cons (.tup (.cons (.op .pow (.cons (.k (.int 10)) (.cons (.k (.int 18)) .nil))) .nil)) .nil)) (.cons (.call 12 (.cons (.op .mul (.cons (.tup (.cons (.k (.int 1)) .nil)) (.cons (.k (.int 100)) .nil))) .nil)) .nil))))))) (.cons (.par [6, 7] (.cons (.k (.int 1)) (.cons (.k (.int 1)) .nil))) (.cons (.for_ (.nm 5) .range1 (.cons (.k (.int 100)) .nil) b30l0) (.cons (.ret (.and (.op .eq (.cons (.var 4) (.cons (.tup (.cons (.tup (.cons (.op .sub (.cons (.op .pow (.cons (.k (.int 10)) (.cons (.k (.int 18)) .nil))) (.cons (.k (.int 1)) .nil))) .nil)) (.cons (.tup (.cons (.k (.int 0)) (.cons (.op .sub (.cons (.op .pow (.cons (.k (.int 10)) (.cons (.k (.int 18)) .nil))) (.cons (.k (.int 1)) .nil))) .nil))) (.cons (.tup (.cons (.k (.int 1)) (.cons (.op .sub (.cons (.op .pow (.cons (.k (.int 10)) (.cons (.k (.int 18)) .nil))) (.cons (.k (.int 2)) .nil))) .nil))) (.cons (.tup (.cons (.op .add (.cons (.op .pow (.cons (.k (.int 10)) (.cons (.k (.int 18)) .nil))) (.cons (.k (.int 1)) .nil))) (.cons (.k (.int 1)) .nil))) (.cons (.op .ix (.cons (.call 25 (.cons (.op .mul (.cons (.tup (.cons (.k (.int 1)) .nil)) (.cons (.k (.int 100)) .nil))) .nil)) (.cons (.k (.int 1)) .nil))) .nil)))))) .nil))) (.op .eq (.cons (.op .sorted (.cons (.op .ix (.cons (.var 4) (.cons (.k (.int 4)) .nil))) .nil)) (.cons (.lst (.cons (.var 7) (.cons (.var 6) .nil))) .nil))))) .nil)))))))))
def b31l0 : S := (.cons (.ifs (.or (.not (.call 28 (.cons (.var 1) .nil))) (.not (.call 29 (.cons (.var 1) .nil)))) (.cons (.ret (.k (.bool false))) .nil) .nil) .nil)
/-- law -/
def n31 : List Str := ["script", "cup", "turn"]
def p31 : List Str := ["script"]
def b31 : S := (.cons (.asg (.nm 1) (.call 19 (.cons (.var 0) .nil))) (.cons (.for_ (.nm 2) .range1 (.cons (.k (.int 6)) .nil) b31l0) (.cons (.ret (.call 30 (.cons (.var 1) .nil))) .nil)))
def ds : List Df := [⟨p0.length, n0.length, b0⟩, ⟨p1.length, n1.length, b1⟩, ⟨p2.length, n2.length, b2⟩, ⟨p3.length, n3.length, b3⟩, ⟨p4.length, n4.length, b4⟩, ⟨p5.length, n5.length, b5⟩, ⟨p6.length, n6.length, b6⟩, ⟨p7.length, n7.length, b7⟩, ⟨p8.length, n8.length, b8⟩, ⟨p9.length, n9.length, b9⟩, ⟨p10.length, n10.length, b10⟩, ⟨p11.length, n11.length, b11⟩, ⟨p12.length, n12.length, b12⟩, ⟨p13.length, n13.length, b13⟩, ⟨p14.length, n14.length, b14⟩, ⟨p15.length, n15.length, b15⟩, ⟨p16.length, n16.length, b16⟩, ⟨p17.length, n17.length, b17⟩, ⟨p18.length, n18.length, b18⟩, ⟨p19.length, n19.length, b19⟩, ⟨p20.length, n20.length, b20⟩, ⟨p21.length, n21.length, b21⟩, ⟨p22.length, n22.length, b22⟩, ⟨p23.length, n23.length, b23⟩, ⟨p24.length, n24.length, b24⟩, ⟨p25.length, n25.length, b25⟩, ⟨p26.length, n26.length, b26⟩, ⟨p27.length, n27.length, b27⟩, ⟨p28.length, n28.length, b28⟩, ⟨p29.length, n29.length, b29⟩, ⟨p30.length, n30.length, b30⟩, ⟨p31.length, n31.length, b31⟩]
def tops : List Nat := [5, 6, 10, 11, 12, 13, 14, 15, 16, 17, 18, 19, 20, 21, 22, 23, 24, 25, 26, 28, 29, 30, 31, 32, 33, 34, 35, 36, 37, 38, 39, 40]
theorem ck0 : okS ⟨n0, fs, cs, defScope (topS 5), fun _ => true, true⟩ b0 (defBody (topS 5)) = true := by kernel_rfl
theorem sc0 : FnScope n0 p0 (defScope (topS 5)) := ⟨by kernel_rfl, by kernel_rfl, by kernel_rfl, by decide +kernel, by kernel_rfl, by decide +kernel, by decide +kernel⟩
theorem ck1 : okS ⟨n1, fs, cs, defScope (topS 6), fun _ => true, true⟩ b1 (defBody (topS 6)) = true := by kernel_rfl
theorem sc1 : FnScope n1 p1 (defScope (topS 6)) := ⟨by kernel_rfl, by kernel_rfl, by kernel_rfl, by decide +kernel, by kernel_rfl, by decide +kernel, by decide +kernel⟩
theorem ck2 : okS ⟨n2, fs, cs, defScope (topS 10), fun _ => true, true⟩ b2 (defBody (topS 10)) = true := by kernel_rfl
theorem sc2 : FnScope n2 p2 (defScope (topS 10)) := ⟨by kernel_rfl, by kernel_rfl, by kernel_rfl, by decide +kernel, by kernel_rfl, by decide +kernel, by decide +kernel⟩
theorem ck3 : okS ⟨n3, fs, cs, defScope (topS 11), fun _ => true, true⟩ b3 (defBody (topS 11)) = true := by kernel_rfl
theorem sc3 : FnScope n3 p3 (defScope (topS 11)) := ⟨by kernel_rfl, by kernel_rfl, by kernel_rfl, by decide +kernel, by kernel_rfl, by decide +kernel, by decide +kernel⟩
theorem ck4 : okS ⟨n4, fs, cs, defScope (topS 12), fun _ => true, true⟩ b4 (defBody (topS 12)) = true := by kernel_rfl
theorem sc4 : FnScope n4 p4 (defScope (topS 12)) := ⟨by kernel_rfl, by kernel_rfl, by kernel_rfl, by decide +kernel, by kernel_rfl, by decide +kernel, by decide +kernel⟩
theorem ck5 : okS ⟨n5, fs, cs, defScope (topS 13), fun _ => true, true⟩ b5 (defBody (topS 13)) = true := by kernel_rfl
theorem sc5 : FnScope n5 p5 (defScope (topS 13)) := ⟨by kernel_rfl, by kernel_rfl, by kernel_rfl, by decide +kernel, by kernel_rfl, by decide +kernel, by decide +kernel⟩
theorem ck6 : okS ⟨n6, fs, cs, defScope (topS 14), fun _ => true, true⟩ b6 (defBody (topS 14)) = true := by kernel_rfl
theorem sc6 : FnScope n6 p6 (defScope (topS 14)) := ⟨by kernel_rfl, by kernel_rfl, by kernel_rfl, by decide +kernel, by kernel_rfl, by decide +kernel, by decide +kernel⟩
theorem ck7 : okS ⟨n7, fs, cs, defScope (topS 15), fun _ => true, true⟩ b7 (defBody (topS 15)) = true := by kernel_rfl
theorem sc7 : FnScope n7 p7 (defScope (topS 15)) := ⟨by kernel_rfl, by kernel_rfl, by kernel_rfl, by decide +kernel, by kernel_rfl, by decide +kernel, by decide +kernel⟩
theorem ck8 : okS ⟨n8, fs, cs, defScope (topS 16), fun _ => true, true⟩ b8 (defBody (topS 16)) = true := by kernel_rfl
theorem sc8 : FnScope n8 p8 (defScope (topS 16)) := ⟨by kernel_rfl, by kernel_rfl, by kernel_rfl, by decide +kernel, by kernel_rfl, by decide +kernel, by decide +kernel⟩
theorem ck9 : okS ⟨n9, fs, cs, defScope (topS 17), fun _ => true, true⟩ b9 (defBody (topS 17)) = true := by kernel_rfl
theorem sc9 : FnScope n9 p9 (defScope (topS 17)) := ⟨by kernel_rfl, by kernel_rfl, by kernel_rfl, by decide +kernel, by kernel_rfl, by decide +kernel, by decide +kernel⟩
theorem ck10 : okS ⟨n10, fs, cs, defScope (topS 18), fun _ => true, true⟩ b10 (defBody (topS 18)) = true := by kernel_rfl
theorem sc10 : FnScope n10 p10 (defScope (topS 18)) := ⟨by kernel_rfl, by kernel_rfl, by kernel_rfl, by decide +kernel, by kernel_rfl, by decide +kernel, by decide +kernel⟩
theorem ck11 : okS ⟨n11, fs, cs, defScope (topS 19), fun _ => true, true⟩ b11 (defBody (topS 19)) = true := by kernel_rfl
theorem sc11 : FnScope n11 p11 (defScope (topS 19)) := ⟨by kernel_rfl, by kernel_rfl, by kernel_rfl, by decide +kernel, by kernel_rfl, by decide +kernel, by decide +kernel⟩
theorem ck12 : okS ⟨n12, fs, cs, defScope (topS 20), fun _ => true, true⟩ b12 (defBody (topS 20)) = true := by kernel_rfl
theorem sc12 : FnScope n12 p12 (defScope (topS 20)) := ⟨by kernel_rfl, by kernel_rfl, by kernel_rfl, by decide +kernel, by kernel_rfl, by decide +kernel, by decide +kernel⟩
theorem ck13 : okS ⟨n13, fs, cs, defScope (topS 21), fun _ => true, true⟩ b13 (defBody (topS 21)) = true := by kernel_rfl
theorem sc13 : FnScope n13 p13 (defScope (topS 21)) := ⟨by kernel_rfl, by kernel_rfl, by kernel_rfl, by decide +kernel, by kernel_rfl, by decide +kernel, by decide +kernel⟩
theorem ck14 : okS ⟨n14, fs, cs, defScope (topS 22), fun _ => true, true⟩ b14 (defBody (topS 22)) = true := by kernel_rfl
theorem sc14 : FnScope n14 p14 (defScope (topS 22)) := ⟨by kernel_rfl, by kernel_rfl, by kernel_rfl, by decide +kernel, by kernel_rfl, by decide +kernel, by decide +kernel⟩
theorem ck15 : okS ⟨n15, fs, cs, defScope (topS 23), fun _ => true, true⟩ b15 (defBody (topS 23)) = true := by kernel_rfl
theorem sc15 : FnScope n15 p15 (defScope (topS 23)) := ⟨by kernel_rfl, by kernel_rfl, by kernel_rfl, by decide +kernel, by kernel_rfl, by decide +kernel, by decide +kernel⟩
theorem ck16 : okS ⟨n16, fs, cs, defScope (topS 24), fun _ => true, true⟩ b16 (defBody (topS 24)) = true := by kernel_rfl
theorem sc16 : FnScope n16 p16 (defScope (topS 24)) := ⟨by kernel_rfl, by kernel_rfl, by kernel_rfl, by decide +kernel, by kernel_rfl, by decide +kernel, by decide +kernel⟩
theorem ck17 : okS ⟨n17, fs, cs, defScope (topS 25), fun _ => true, true⟩ b17 (defBody (topS 25)) = true := by kernel_rfl
theorem sc17 : FnScope n17 p17 (defScope (topS 25)) := ⟨by kernel_rfl, by kernel_rfl, by kernel_rfl, by decide +kernel, by kernel_rfl, by decide +kernel, by decide +kernel⟩
theorem ck18 : okS ⟨n18, fs, cs, defScope (topS 26), fun _ => true, true⟩ b18 (defBody (topS 26)) = true := by kernel_rfl
theorem sc18 : FnScope n18 p18 (defScope (topS 26)) := ⟨by kernel_rfl, by kernel_rfl, by kernel_rfl, by decide +kernel, by kernel_rfl, by decide +kernel, by decide +kernel⟩
theorem ck19 : okS ⟨n19, fs, cs, defScope (topS 28), fun _ => true, true⟩ b19 (defBody (topS 28)) = true := by kernel_rfl
theorem sc19 : FnScope n19 p19 (defScope (topS 28)) := ⟨by kernel_rfl, by kernel_rfl, by kernel_rfl, by decide +kernel, by kernel_rfl, by decide +kernel, by decide +kernel⟩
theorem ck20 : okS ⟨n20, fs, cs, defScope (topS 29), fun _ => true, true⟩ b20 (defBody (topS 29)) = true := by kernel_rfl
theorem sc20 : FnScope n20 p20 (defScope (topS 29)) := ⟨by kernel_rfl, by kernel_rfl, by kernel_rfl, by decide +kernel, by kernel_rfl, by decide +kernel, by decide +kernel⟩
theorem ck21 : okS ⟨n21, fs, cs, defScope (topS 30), fun _ => true, true⟩ b21 (defBody (topS 30)) = true := by kernel_rfl
theorem sc21 : FnScope n21 p21 (defScope (topS 30)) := ⟨by kernel_rfl, by kernel_rfl, by kernel_rfl, by decide +kernel, by kernel_rfl, by decide +kernel, by decide +kernel⟩
theorem ck22 : okS ⟨n22, fs, cs, defScope (topS 31), fun _ => true, true⟩ b22 (defBody (topS 31)) = true := by kernel_rfl
theorem sc22 : FnScope n22 p22 (defScope (topS 31)) := ⟨by kernel_rfl, by kernel_rfl, by kernel_rfl, by decide +kernel, by kernel_rfl, by decide +kernel, by decide +kernel⟩
theorem ck23 : okS ⟨n23, fs, cs, defScope (topS 32), fun _ => true, true⟩ b23 (defBody (topS 32)) = true := by kernel_rfl
theorem sc23 : FnScope n23 p23 (defScope (topS 32)) := ⟨by kernel_rfl, by kernel_rfl, by kernel_rfl, by decide +kernel, by kernel_rfl, by decide +kernel, by decide +kernel⟩
theorem ck24 : okS ⟨n24, fs, cs, defScope (topS 33), fun _ => true, true⟩ b24 (defBody (topS 33)) = true := by kernel_rfl
theorem sc24 : FnScope n24 p24 (defScope (topS 33)) := ⟨by kernel_rfl, by kernel_rfl, by kernel_rfl, by decide +kernel, by kernel_rfl, by decide +kernel, by decide +kernel⟩
theorem ck25 : okS ⟨n25, fs, cs, defScope (topS 34), fun _ => true, true⟩ b25 (defBody (topS 34)) = true := by kernel_rfl
theorem sc25 : FnScope n25 p25 (defScope (topS 34)) := ⟨by kernel_rfl, by kernel_rfl, by kernel_rfl, by decide +kernel, by kernel_rfl, by decide +kernel, by decide +kernel⟩
theorem ck26 : okS ⟨n26, fs, cs, defScope (topS 35), fun _ => true, true⟩ b26 (defBody (topS 35)) = true := by kernel_rfl
theorem sc26 : FnScope n26 p26 (defScope (topS 35)) := ⟨by kernel_rfl, by kernel_rfl, by kernel_rfl, by decide +kernel, by kernel_rfl, by decide +kernel, by decide +kernel⟩
theorem ck27 : okS ⟨n27, fs, cs, defScope (topS 36), fun _ => true, true⟩ b27 (defBody (topS 36)) = true := by kernel_rfl
theorem sc27 : FnScope n27 p27 (defScope (topS 36)) := ⟨by kernel_rfl, by kernel_rfl, by kernel_rfl, by decide +kernel, by kernel_rfl, by decide +kernel, by decide +kernel⟩
theorem ck28 : okS ⟨n28, fs, cs, defScope (topS 37), fun _ => true, true⟩ b28 (defBody (topS 37)) = true := by kernel_rfl
theorem sc28 : FnScope n28 p28 (defScope (topS 37)) := ⟨by kernel_rfl, by kernel_rfl, by kernel_rfl, by decide +kernel, by kernel_rfl, by decide +kernel, by decide +kernel⟩
theorem ck29 : okS ⟨n29, fs, cs, defScope (topS 38), fun _ => true, true⟩ b29 (defBody (topS 38)) = true := by kernel_rfl
theorem sc29 : FnScope n29 p29 (defScope (topS 38)) := ⟨by kernel_rfl, by kernel_rfl, by kernel_rfl, by decide +kernel, by kernel_rfl, by decide +kernel, by decide +kernel⟩
theorem ck30 : okS ⟨n30, fs, cs, defScope (topS 39), fun _ => true, true⟩ b30 (defBody (topS 39)) = true := by kernel_rfl
theorem sc30 : FnScope n30 p30 (defScope (topS 39)) := ⟨by kernel_rfl, by kernel_rfl, by kernel_rfl, by decide +kernel, by kernel_rfl, by decide +kernel, by decide +kernel⟩
theorem ck31 : okS ⟨n31, fs, cs, defScope (topS 40), fun _ => true, true⟩ b31 (defBody (topS 40)) = true := by kernel_rfl
theorem sc31 : FnScope n31 p31 (defScope (topS 40)) := ⟨by kernel_rfl, by kernel_rfl, by kernel_rfl, by decide +kernel, by kernel_rfl, by decide +kernel, by decide +kernel⟩
def pl : List (List Str) := [p0, p1, p2, p3, p4, p5, p6, p7, p8, p9, p10, p11, p12, p13, p14, p15, p16, p17, p18, p19, p20, p21, p22, p23, p24, p25, p26, p27, p28, p29, p30, p31]
def pn (f : Nat) : List Str := pl.getD f []
def fnL : List He.DefD := [⟨("is_whole", none), "is_whole", "is_whole", defArgs (topS 5), defBody (topS 5), defScope (topS 5), [], []⟩, ⟨("is_tuple_of", none), "is_tuple_of", "is_tuple_of", defArgs (topS 6), defBody (topS 6), defScope (topS 6), [], []⟩, ⟨("is_slope", none), "is_slope", "is_slope", defArgs (topS 10), defBody (topS 10), defScope (topS 10), [], []⟩, ⟨("need_slope", none), "need_slope", "need_slope", defArgs (topS 11), defBody (topS 11), defScope (topS 11), [], []⟩, ⟨("fits_runs", none), "fits_runs", "fits_runs", defArgs (topS 12), defBody (topS 12), defScope (topS 12), [], []⟩, ⟨("steps_in", none), "steps_in", "steps_in", defArgs (topS 13), defBody (topS 13), defScope (topS 13), [], []⟩, ⟨("bounds_by", none), "bounds_by", "bounds_by", defArgs (topS 14), defBody (topS 14), defScope (topS 14), [], []⟩, ⟨("middle", none), "middle", "middle", defArgs (topS 15), defBody (topS 15), defScope (topS 15), [], []⟩, ⟨("moved", none), "moved", "moved", defArgs (topS 16), defBody (topS 16), defScope (topS 16), [], []⟩, ⟨("quotients_in", none), "quotients_in", "quotients_in", defArgs (topS 17), defBody (topS 17), defScope (topS 17), [], []⟩, ⟨("chain_in", none), "chain_in", "chain_in", defArgs (topS 18), defBody (topS 18), defScope (topS 18), [], []⟩, ⟨("steps_of", none), "steps_of", "steps_of", defArgs (topS 19), defBody (topS 19), defScope (topS 19), [], []⟩, ⟨("slope_of", none), "slope_of", "slope_of", defArgs (topS 20), defBody (topS 20), defScope (topS 20), [], []⟩, ⟨("depth", none), "depth", "depth", defArgs (topS 21), defBody (topS 21), defScope (topS 21), [], []⟩, ⟨("bounds", none), "bounds", "bounds", defArgs (topS 22), defBody (topS 22), defScope (topS 22), [], []⟩, ⟨("next_down", none), "next_down", "next_down", defArgs (topS 23), defBody (topS 23), defScope (topS 23), [], []⟩, ⟨("meeting", none), "meeting", "meeting", defArgs (topS 24), defBody (topS 24), defScope (topS 24), [], []⟩, ⟨("quotients", none), "quotients", "quotients", defArgs (topS 25), defBody (topS 25), defScope (topS 25), [], []⟩, ⟨("chain", none), "chain", "chain", defArgs (topS 26), defBody (topS 26), defScope (topS 26), [], []⟩, ⟨("_law_cup", none), "_law_cup", "_law_cup", defArgs (topS 28), defBody (topS 28), defScope (topS 28), [], []⟩, ⟨("_law_roll", none), "_law_roll", "_law_roll", defArgs (topS 29), defBody (topS 29), defScope (topS 29), [], []⟩, ⟨("_law_some", none), "_law_some", "_law_some", defArgs (topS 30), defBody (topS 30), defScope (topS 30), [], []⟩, ⟨("_law_common", none), "_law_common", "_law_common", defArgs (topS 31), defBody (topS 31), defScope (topS 31), [], []⟩, ⟨("_law_slope", none), "_law_slope", "_law_slope", defArgs (topS 32), defBody (topS 32), defScope (topS 32), [], []⟩, ⟨("_law_runs", none), "_law_runs", "_law_runs", defArgs (topS 33), defBody (topS 33), defScope (topS 33), [], []⟩, ⟨("_law_walked", none), "_law_walked", "_law_walked", defArgs (topS 34), defBody (topS 34), defScope (topS 34), [], []⟩, ⟨("_law_path", none), "_law_path", "_law_path", defArgs (topS 35), defBody (topS 35), defScope (topS 35), [], []⟩, ⟨("_law_told", none), "_law_told", "_law_told", defArgs (topS 36), defBody (topS 36), defScope (topS 36), [], []⟩, ⟨("_law_small_right", none), "_law_small_right", "_law_small_right", defArgs (topS 37), defBody (topS 37), defScope (topS 37), [], []⟩, ⟨("_law_great_right", none), "_law_great_right", "_law_great_right", defArgs (topS 38), defBody (topS 38), defScope (topS 38), [], []⟩, ⟨("_law_odds_right", none), "_law_odds_right", "_law_odds_right", defArgs (topS 39), defBody (topS 39), defScope (topS 39), [], []⟩, ⟨("law", none), "law", "law", defArgs (topS 40), defBody (topS 40), defScope (topS 40), [], []⟩]
def faL : List He.Fa := [.glo "is_whole", .glo "is_tuple_of", .glo "is_slope", .glo "need_slope", .glo "fits_runs", .glo "steps_in", .glo "bounds_by", .glo "middle", .glo "moved", .glo "quotients_in", .glo "chain_in", .glo "steps_of", .glo "slope_of", .glo "depth", .glo "bounds", .glo "next_down", .glo "meeting", .glo "quotients", .glo "chain", .glo "_law_cup", .glo "_law_roll", .glo "_law_some", .glo "_law_common", .glo "_law_slope", .glo "_law_runs", .glo "_law_walked", .glo "_law_path", .glo "_law_told", .glo "_law_small_right", .glo "_law_great_right", .glo "_law_odds_right", .glo "law", .free "len", .free "abs", .free "min", .free "max", .free "int", .free "sum", .free "all", .free "any", .free "tuple", .free "list", .free "sorted", .free "repr", .free "isinstance", .free "bool", .free "str", .free "range", .free "zip", .free "enumerate", .int "GREAT" 1000000000000000000, .int "RUNS" 100]
section
variable {K : PySem.W.Frag} {h : Heap} {mg : Str → Option Value}
theorem df0 (X : K.In h) (G : h.Ns mainGlobals mg) (c : He.SaysD faL fnL K) : DefOk K mg fs cs true ds 0 "is_whole" (pn 0) := by
  obtain ⟨fd, F⟩ := c.def_ 0 (d := ⟨("is_whole", none), "is_whole", "is_whole", defArgs (topS 5), defBody (topS 5), defScope (topS 5), [], []⟩) rfl
  exact ⟨⟨p0.length, n0.length, b0⟩, topS 5, n0, "is_whole", _, fd, rfl, He.glo_ok X G (c.fact 0 (f := .glo "is_whole") rfl), F, F.bindsA (ps := p0) fun _ _ _ _ _ _ us hl => match us, hl with | [_, _, _], _ => rfl,
    F.bindsN (ps := p0) fun _ _ _ _ _ _ us hl => match us, hl with | [_, _, _], _ => rfl, sc0, rfl, rfl, rfl, ck0⟩
theorem df1 (X : K.In h) (G : h.Ns mainGlobals mg) (c : He.SaysD faL fnL K) : DefOk K mg fs cs true ds 1 "is_tuple_of" (pn 1) := by
  obtain ⟨fd, F⟩ := c.def_ 1 (d := ⟨("is_tuple_of", none), "is_tuple_of", "is_tuple_of", defArgs (topS 6), defBody (topS 6), defScope (topS 6), [], []⟩) rfl
  exact ⟨⟨p1.length, n1.length, b1⟩, topS 6, n1, "is_tuple_of", _, fd, rfl, He.glo_ok X G (c.fact 1 (f := .glo "is_tuple_of") rfl), F, F.bindsA (ps := p1) fun _ _ _ _ _ _ us hl => match us, hl with | [_, _, _], _ => rfl,
    F.bindsN (ps := p1) fun _ _ _ _ _ _ us hl => match us, hl with | [_, _, _], _ => rfl, sc1, rfl, rfl, rfl, ck1⟩
theorem df2 (X : K.In h) (G : h.Ns mainGlobals mg) (c : He.SaysD faL fnL K) : DefOk K mg fs cs true ds 2 "is_slope" (pn 2) := by
  obtain ⟨fd, F⟩ := c.def_ 2 (d := ⟨("is_slope", none), "is_slope", "is_slope", defArgs (topS 10), defBody (topS 10), defScope (topS 10), [], []⟩) rfl
  exact ⟨⟨p2.length, n2.length, b2⟩, topS 10, n2, "is_slope", _, fd, rfl, He.glo_ok X G (c.fact 2 (f := .glo "is_slope") rfl), F, F.bindsA (ps := p2) fun _ _ _ _ _ _ us hl => match us, hl with | [_], _ => rfl,
    F.bindsN (ps := p2) fun _ _ _ _ _ _ us hl => match us, hl with | [_], _ => rfl, sc2, rfl, rfl, rfl, ck2⟩
theorem df3 (X : K.In h) (G : h.Ns mainGlobals mg) (c : He.SaysD faL fnL K) : DefOk K mg fs cs true ds 3 "need_slope" (pn 3) := by
  obtain ⟨fd, F⟩ := c.def_ 3 (d := ⟨("need_slope", none), "need_slope", "need_slope", defArgs (topS 11), defBody (topS 11), defScope (topS 11), [], []⟩) rfl
  exact ⟨⟨p3.length, n3.length, b3⟩, topS 11, n3, "need_slope", _, fd, rfl, He.glo_ok X G (c.fact 3 (f := .glo "need_slope") rfl), F, F.bindsA (ps := p3) fun _ _ _ _ _ _ us hl => match us, hl with | [_], _ => rfl,
    F.bindsN (ps := p3) fun _ _ _ _ _ _ us hl => match us, hl with | [_], _ => rfl, sc3, rfl, rfl, rfl, ck3⟩
theorem df4 (X : K.In h) (G : h.Ns mainGlobals mg) (c : He.SaysD faL fnL K) : DefOk K mg fs cs true ds 4 "fits_runs" (pn 4) := by
  obtain ⟨fd, F⟩ := c.def_ 4 (d := ⟨("fits_runs", none), "fits_runs", "fits_runs", defArgs (topS 12), defBody (topS 12), defScope (topS 12), [], []⟩) rfl
  exact ⟨⟨p4.length, n4.length, b4⟩, topS 12, n4, "fits_runs", _, fd, rfl, He.glo_ok X G (c.fact 4 (f := .glo "fits_runs") rfl), F, F.bindsA (ps := p4) fun _ _ _ _ _ _ us hl => match us, hl with | [_], _ => rfl,
    F.bindsN (ps := p4) fun _ _ _ _ _ _ us hl => match us, hl with | [_], _ => rfl, sc4, rfl, rfl, rfl, ck4⟩
theorem df5 (X : K.In h) (G : h.Ns mainGlobals mg) (c : He.SaysD faL fnL K) : DefOk K mg fs cs true ds 5 "steps_in" (pn 5) := by
  obtain ⟨fd, F⟩ := c.def_ 5 (d := ⟨("steps_in", none), "steps_in", "steps_in", defArgs (topS 13), defBody (topS 13), defScope (topS 13), [], []⟩) rfl
  exact ⟨⟨p5.length, n5.length, b5⟩, topS 13, n5, "steps_in", _, fd, rfl, He.glo_ok X G (c.fact 5 (f := .glo "steps_in") rfl), F, F.bindsA (ps := p5) fun _ _ _ _ _ _ us hl => match us, hl with | [_], _ => rfl,
    F.bindsN (ps := p5) fun _ _ _ _ _ _ us hl => match us, hl with | [_], _ => rfl, sc5, rfl, rfl, rfl, ck5⟩
theorem df6 (X : K.In h) (G : h.Ns mainGlobals mg) (c : He.SaysD faL fnL K) : DefOk K mg fs cs true ds 6 "bounds_by" (pn 6) := by
  obtain ⟨fd, F⟩ := c.def_ 6 (d := ⟨("bounds_by", none), "bounds_by", "bounds_by", defArgs (topS 14), defBody (topS 14), defScope (topS 14), [], []⟩) rfl
  exact ⟨⟨p6.length, n6.length, b6⟩, topS 14, n6, "bounds_by", _, fd, rfl, He.glo_ok X G (c.fact 6 (f := .glo "bounds_by") rfl), F, F.bindsA (ps := p6) fun _ _ _ _ _ _ us hl => match us, hl with | [_], _ => rfl,
    F.bindsN (ps := p6) fun _ _ _ _ _ _ us hl => match us, hl with | [_], _ => rfl, sc6, rfl, rfl, rfl, ck6⟩
theorem df7 (X : K.In h) (G : h.Ns mainGlobals mg) (c : He.SaysD faL fnL K) : DefOk K mg fs cs true ds 7 "middle" (pn 7) := by
  obtain ⟨fd, F⟩ := c.def_ 7 (d := ⟨("middle", none), "middle", "middle", defArgs (topS 15), defBody (topS 15), defScope (topS 15), [], []⟩) rfl
  exact ⟨⟨p7.length, n7.length, b7⟩, topS 15, n7, "middle", _, fd, rfl, He.glo_ok X G (c.fact 7 (f := .glo "middle") rfl), F, F.bindsA (ps := p7) fun _ _ _ _ _ _ us hl => match us, hl with | [_, _], _ => rfl,
    F.bindsN (ps := p7) fun _ _ _ _ _ _ us hl => match us, hl with | [_, _], _ => rfl, sc7, rfl, rfl, rfl, ck7⟩
theorem df8 (X : K.In h) (G : h.Ns mainGlobals mg) (c : He.SaysD faL fnL K) : DefOk K mg fs cs true ds 8 "moved" (pn 8) := by
  obtain ⟨fd, F⟩ := c.def_ 8 (d := ⟨("moved", none), "moved", "moved", defArgs (topS 16), defBody (topS 16), defScope (topS 16), [], []⟩) rfl
  exact ⟨⟨p8.length, n8.length, b8⟩, topS 16, n8, "moved", _, fd, rfl, He.glo_ok X G (c.fact 8 (f := .glo "moved") rfl), F, F.bindsA (ps := p8) fun _ _ _ _ _ _ us hl => match us, hl with | [_, _, _], _ => rfl,
    F.bindsN (ps := p8) fun _ _ _ _ _ _ us hl => match us, hl with | [_, _, _], _ => rfl, sc8, rfl, rfl, rfl, ck8⟩
theorem df9 (X : K.In h) (G : h.Ns mainGlobals mg) (c : He.SaysD faL fnL K) : DefOk K mg fs cs true ds 9 "quotients_in" (pn 9) := by
  obtain ⟨fd, F⟩ := c.def_ 9 (d := ⟨("quotients_in", none), "quotients_in", "quotients_in", defArgs (topS 17), defBody (topS 17), defScope (topS 17), [], []⟩) rfl
  exact ⟨⟨p9.length, n9.length, b9⟩, topS 17, n9, "quotients_in", _, fd, rfl, He.glo_ok X G (c.fact 9 (f := .glo "quotients_in") rfl), F, F.bindsA (ps := p9) fun _ _ _ _ _ _ us hl => match us, hl with | [_], _ => rfl,
    F.bindsN (ps := p9) fun _ _ _ _ _ _ us hl => match us, hl with | [_], _ => rfl, sc9, rfl, rfl, rfl, ck9⟩
theorem df10 (X : K.In h) (G : h.Ns mainGlobals mg) (c : He.SaysD faL fnL K) : DefOk K mg fs cs true ds 10 "chain_in" (pn 10) := by
  obtain ⟨fd, F⟩ := c.def_ 10 (d := ⟨("chain_in", none), "chain_in", "chain_in", defArgs (topS 18), defBody (topS 18), defScope (topS 18), [], []⟩) rfl
  exact ⟨⟨p10.length, n10.length, b10⟩, topS 18, n10, "chain_in", _, fd, rfl, He.glo_ok X G (c.fact 10 (f := .glo "chain_in") rfl), F, F.bindsA (ps := p10) fun _ _ _ _ _ _ us hl => match us, hl with | [_], _ => rfl,
    F.bindsN (ps := p10) fun _ _ _ _ _ _ us hl => match us, hl with | [_], _ => rfl, sc10, rfl, rfl, rfl, ck10⟩
theorem df11 (X : K.In h) (G : h.Ns mainGlobals mg) (c : He.SaysD faL fnL K) : DefOk K mg fs cs true ds 11 "steps_of" (pn 11) := by
  obtain ⟨fd, F⟩ := c.def_ 11 (d := ⟨("steps_of", none), "steps_of", "steps_of", defArgs (topS 19), defBody (topS 19), defScope (topS 19), [], []⟩) rfl
  exact ⟨⟨p11.length, n11.length, b11⟩, topS 19, n11, "steps_of", _, fd, rfl, He.glo_ok X G (c.fact 11 (f := .glo "steps_of") rfl), F, F.bindsA (ps := p11) fun _ _ _ _ _ _ us hl => match us, hl with | [_], _ => rfl,
    F.bindsN (ps := p11) fun _ _ _ _ _ _ us hl => match us, hl with | [_], _ => rfl, sc11, rfl, rfl, rfl, ck11⟩
theorem df12 (X : K.In h) (G : h.Ns mainGlobals mg) (c : He.SaysD faL fnL K) : DefOk K mg fs cs true ds 12 "slope_of" (pn 12) := by
  obtain ⟨fd, F⟩ := c.def_ 12 (d := ⟨("slope_of", none), "slope_of", "slope_of", defArgs (topS 20), defBody (topS 20), defScope (topS 20), [], []⟩) rfl
  exact ⟨⟨p12.length, n12.length, b12⟩, topS 20, n12, "slope_of", _, fd, rfl, He.glo_ok X G (c.fact 12 (f := .glo "slope_of") rfl), F, F.bindsA (ps := p12) fun _ _ _ _ _ _ us hl => match us, hl with | [_], _ => rfl,
    F.bindsN (ps := p12) fun _ _ _ _ _ _ us hl => match us, hl with | [_], _ => rfl, sc12, rfl, rfl, rfl, ck12⟩
theorem df13 (X : K.In h) (G : h.Ns mainGlobals mg) (c : He.SaysD faL fnL K) : DefOk K mg fs cs true ds 13 "depth" (pn 13) := by
  obtain ⟨fd, F⟩ := c.def_ 13 (d := ⟨("depth", none), "depth", "depth", defArgs (topS 21), defBody (topS 21), defScope (topS 21), [], []⟩) rfl
  exact ⟨⟨p13.length, n13.length, b13⟩, topS 21, n13, "depth", _, fd, rfl, He.glo_ok X G (c.fact 13 (f := .glo "depth") rfl), F, F.bindsA (ps := p13) fun _ _ _ _ _ _ us hl => match us, hl with | [_], _ => rfl,
    F.bindsN (ps := p13) fun _ _ _ _ _ _ us hl => match us, hl with | [_], _ => rfl, sc13, rfl, rfl, rfl, ck13⟩
theorem df14 (X : K.In h) (G : h.Ns mainGlobals mg) (c : He.SaysD faL fnL K) : DefOk K mg fs cs true ds 14 "bounds" (pn 14) := by
  obtain ⟨fd, F⟩ := c.def_ 14 (d := ⟨("bounds", none), "bounds", "bounds", defArgs (topS 22), defBody (topS 22), defScope (topS 22), [], []⟩) rfl
  exact ⟨⟨p14.length, n14.length, b14⟩, topS 22, n14, "bounds", _, fd, rfl, He.glo_ok X G (c.fact 14 (f := .glo "bounds") rfl), F, F.bindsA (ps := p14) fun _ _ _ _ _ _ us hl => match us, hl with | [_], _ => rfl,
    F.bindsN (ps := p14) fun _ _ _ _ _ _ us hl => match us, hl with | [_], _ => rfl, sc14, rfl, rfl, rfl, ck14⟩
theorem df15 (X : K.In h) (G : h.Ns mainGlobals mg) (c : He.SaysD faL fnL K) : DefOk K mg fs cs true ds 15 "next_down" (pn 15) := by
  obtain ⟨fd, F⟩ := c.def_ 15 (d := ⟨("next_down", none), "next_down", "next_down", defArgs (topS 23), defBody (topS 23), defScope (topS 23), [], []⟩) rfl
  exact ⟨⟨p15.length, n15.length, b15⟩, topS 23, n15, "next_down", _, fd, rfl, He.glo_ok X G (c.fact 15 (f := .glo "next_down") rfl), F, F.bindsA (ps := p15) fun _ _ _ _ _ _ us hl => match us, hl with | [_], _ => rfl,
    F.bindsN (ps := p15) fun _ _ _ _ _ _ us hl => match us, hl with | [_], _ => rfl, sc15, rfl, rfl, rfl, ck15⟩
theorem df16 (X : K.In h) (G : h.Ns mainGlobals mg) (c : He.SaysD faL fnL K) : DefOk K mg fs cs true ds 16 "meeting" (pn 16) := by
  obtain ⟨fd, F⟩ := c.def_ 16 (d := ⟨("meeting", none), "meeting", "meeting", defArgs (topS 24), defBody (topS 24), defScope (topS 24), [], []⟩) rfl
  exact ⟨⟨p16.length, n16.length, b16⟩, topS 24, n16, "meeting", _, fd, rfl, He.glo_ok X G (c.fact 16 (f := .glo "meeting") rfl), F, F.bindsA (ps := p16) fun _ _ _ _ _ _ us hl => match us, hl with | [_, _], _ => rfl,
    F.bindsN (ps := p16) fun _ _ _ _ _ _ us hl => match us, hl with | [_, _], _ => rfl, sc16, rfl, rfl, rfl, ck16⟩
theorem df17 (X : K.In h) (G : h.Ns mainGlobals mg) (c : He.SaysD faL fnL K) : DefOk K mg fs cs true ds 17 "quotients" (pn 17) := by
  obtain ⟨fd, F⟩ := c.def_ 17 (d := ⟨("quotients", none), "quotients", "quotients", defArgs (topS 25), defBody (topS 25), defScope (topS 25), [], []⟩) rfl
  exact ⟨⟨p17.length, n17.length, b17⟩, topS 25, n17, "quotients", _, fd, rfl, He.glo_ok X G (c.fact 17 (f := .glo "quotients") rfl), F, F.bindsA (ps := p17) fun _ _ _ _ _ _ us hl => match us, hl with | [_], _ => rfl,
    F.bindsN (ps := p17) fun _ _ _ _ _ _ us hl => match us, hl with | [_], _ => rfl, sc17, rfl, rfl, rfl, ck17⟩
theorem df18 (X : K.In h) (G : h.Ns mainGlobals mg) (c : He.SaysD faL fnL K) : DefOk K mg fs cs true ds 18 "chain" (pn 18) := by
  obtain ⟨fd, F⟩ := c.def_ 18 (d := ⟨("chain", none), "chain", "chain", defArgs (topS 26), defBody (topS 26), defScope (topS 26), [], []⟩) rfl
  exact ⟨⟨p18.length, n18.length, b18⟩, topS 26, n18, "chain", _, fd, rfl, He.glo_ok X G (c.fact 18 (f := .glo "chain") rfl), F, F.bindsA (ps := p18) fun _ _ _ _ _ _ us hl => match us, hl with | [_], _ => rfl,
    F.bindsN (ps := p18) fun _ _ _ _ _ _ us hl => match us, hl with | [_], _ => rfl, sc18, rfl, rfl, rfl, ck18⟩
theorem df19 (X : K.In h) (G : h.Ns mainGlobals mg) (c : He.SaysD faL fnL K) : DefOk K mg fs cs true ds 19 "_law_cup" (pn 19) := by
  obtain ⟨fd, F⟩ := c.def_ 19 (d := ⟨("_law_cup", none), "_law_cup", "_law_cup", defArgs (topS 28), defBody (topS 28), defScope (topS 28), [], []⟩) rfl
  exact ⟨⟨p19.length, n19.length, b19⟩, topS 28, n19, "_law_cup", _, fd, rfl, He.glo_ok X G (c.fact 19 (f := .glo "_law_cup") rfl), F, F.bindsA (ps := p19) fun _ _ _ _ _ _ us hl => match us, hl with | [_], _ => rfl,
    F.bindsN (ps := p19) fun _ _ _ _ _ _ us hl => match us, hl with | [_], _ => rfl, sc19, rfl, rfl, rfl, ck19⟩
theorem df20 (X : K.In h) (G : h.Ns mainGlobals mg) (c : He.SaysD faL fnL K) : DefOk K mg fs cs true ds 20 "_law_roll" (pn 20) := by
  obtain ⟨fd, F⟩ := c.def_ 20 (d := ⟨("_law_roll", none), "_law_roll", "_law_roll", defArgs (topS 29), defBody (topS 29), defScope (topS 29), [], []⟩) rfl
  exact ⟨⟨p20.length, n20.length, b20⟩, topS 29, n20, "_law_roll", _, fd, rfl, He.glo_ok X G (c.fact 20 (f := .glo "_law_roll") rfl), F, F.bindsA (ps := p20) fun _ _ _ _ _ _ us hl => match us, hl with | [_, _], _ => rfl,
    F.bindsN (ps := p20) fun _ _ _ _ _ _ us hl => match us, hl with | [_, _], _ => rfl, sc20, rfl, rfl, rfl, ck20⟩
theorem df21 (X : K.In h) (G : h.Ns mainGlobals mg) (c : He.SaysD faL fnL K) : DefOk K mg fs cs true ds 21 "_law_some" (pn 21) := by
  obtain ⟨fd, F⟩ := c.def_ 21 (d := ⟨("_law_some", none), "_law_some", "_law_some", defArgs (topS 30), defBody (topS 30), defScope (topS 30), [], []⟩) rfl
  exact ⟨⟨p21.length, n21.length, b21⟩, topS 30, n21, "_law_some", _, fd, rfl, He.glo_ok X G (c.fact 21 (f := .glo "_law_some") rfl), F, F.bindsA (ps := p21) fun _ _ _ _ _ _ us hl => match us, hl with | [_, _], _ => rfl,
    F.bindsN (ps := p21) fun _ _ _ _ _ _ us hl => match us, hl with | [_, _], _ => rfl, sc21, rfl, rfl, rfl, ck21⟩
theorem df22 (X : K.In h) (G : h.Ns mainGlobals mg) (c : He.SaysD faL fnL K) : DefOk K mg fs cs true ds 22 "_law_common" (pn 22) := by
  obtain ⟨fd, F⟩ := c.def_ 22 (d := ⟨("_law_common", none), "_law_common", "_law_common", defArgs (topS 31), defBody (topS 31), defScope (topS 31), [], []⟩) rfl
  exact ⟨⟨p22.length, n22.length, b22⟩, topS 31, n22, "_law_common", _, fd, rfl, He.glo_ok X G (c.fact 22 (f := .glo "_law_common") rfl), F, F.bindsA (ps := p22) fun _ _ _ _ _ _ us hl => match us, hl with | [_, _], _ => rfl,
    F.bindsN (ps := p22) fun _ _ _ _ _ _ us hl => match us, hl with | [_, _], _ => rfl, sc22, rfl, rfl, rfl, ck22⟩
theorem df23 (X : K.In h) (G : h.Ns mainGlobals mg) (c : He.SaysD faL fnL K) : DefOk K mg fs cs true ds 23 "_law_slope" (pn 23) := by
  obtain ⟨fd, F⟩ := c.def_ 23 (d := ⟨("_law_slope", none), "_law_slope", "_law_slope", defArgs (topS 32), defBody (topS 32), defScope (topS 32), [], []⟩) rfl
  exact ⟨⟨p23.length, n23.length, b23⟩, topS 32, n23, "_law_slope", _, fd, rfl, He.glo_ok X G (c.fact 23 (f := .glo "_law_slope") rfl), F, F.bindsA (ps := p23) fun _ _ _ _ _ _ us hl => match us, hl with | [_, _], _ => rfl,
    F.bindsN (ps := p23) fun _ _ _ _ _ _ us hl => match us, hl with | [_, _], _ => rfl, sc23, rfl, rfl, rfl, ck23⟩
theorem df24 (X : K.In h) (G : h.Ns mainGlobals mg) (c : He.SaysD faL fnL K) : DefOk K mg fs cs true ds 24 "_law_runs" (pn 24) := by
  obtain ⟨fd, F⟩ := c.def_ 24 (d := ⟨("_law_runs", none), "_law_runs", "_law_runs", defArgs (topS 33), defBody (topS 33), defScope (topS 33), [], []⟩) rfl
  exact ⟨⟨p24.length, n24.length, b24⟩, topS 33, n24, "_law_runs", _, fd, rfl, He.glo_ok X G (c.fact 24 (f := .glo "_law_runs") rfl), F, F.bindsA (ps := p24) fun _ _ _ _ _ _ us hl => match us, hl with | [_, _, _], _ => rfl,
    F.bindsN (ps := p24) fun _ _ _ _ _ _ us hl => match us, hl with | [_, _, _], _ => rfl, sc24, rfl, rfl, rfl, ck24⟩
theorem df25 (X : K.In h) (G : h.Ns mainGlobals mg) (c : He.SaysD faL fnL K) : DefOk K mg fs cs true ds 25 "_law_walked" (pn 25) := by
  obtain ⟨fd, F⟩ := c.def_ 25 (d := ⟨("_law_walked", none), "_law_walked", "_law_walked", defArgs (topS 34), defBody (topS 34), defScope (topS 34), [], []⟩) rfl
  exact ⟨⟨p25.length, n25.length, b25⟩, topS 34, n25, "_law_walked", _, fd, rfl, He.glo_ok X G (c.fact 25 (f := .glo "_law_walked") rfl), F, F.bindsA (ps := p25) fun _ _ _ _ _ _ us hl => match us, hl with | [_], _ => rfl,
    F.bindsN (ps := p25) fun _ _ _ _ _ _ us hl => match us, hl with | [_], _ => rfl, sc25, rfl, rfl, rfl, ck25⟩
theorem df26 (X : K.In h) (G : h.Ns mainGlobals mg) (c : He.SaysD faL fnL K) : DefOk K mg fs cs true ds 26 "_law_path" (pn 26) := by
  obtain ⟨fd, F⟩ := c.def_ 26 (d := ⟨("_law_path", none), "_law_path", "_law_path", defArgs (topS 35), defBody (topS 35), defScope (topS 35), [], []⟩) rfl
  exact ⟨⟨p26.length, n26.length, b26⟩, topS 35, n26, "_law_path", _, fd, rfl, He.glo_ok X G (c.fact 26 (f := .glo "_law_path") rfl), F, F.bindsA (ps := p26) fun _ _ _ _ _ _ us hl => match us, hl with | [_], _ => rfl,
    F.bindsN (ps := p26) fun _ _ _ _ _ _ us hl => match us, hl with | [_], _ => rfl, sc26, rfl, rfl, rfl, ck26⟩
theorem df27 (X : K.In h) (G : h.Ns mainGlobals mg) (c : He.SaysD faL fnL K) : DefOk K mg fs cs true ds 27 "_law_told" (pn 27) := by
  obtain ⟨fd, F⟩ := c.def_ 27 (d := ⟨("_law_told", none), "_law_told", "_law_told", defArgs (topS 36), defBody (topS 36), defScope (topS 36), [], []⟩) rfl
  exact ⟨⟨p27.length, n27.length, b27⟩, topS 36, n27, "_law_told", _, fd, rfl, He.glo_ok X G (c.fact 27 (f := .glo "_law_told") rfl), F, F.bindsA (ps := p27) fun _ _ _ _ _ _ us hl => match us, hl with | [_], _ => rfl,
    F.bindsN (ps := p27) fun _ _ _ _ _ _ us hl => match us, hl with | [_], _ => rfl, sc27, rfl, rfl, rfl, ck27⟩
theorem df28 (X : K.In h) (G : h.Ns mainGlobals mg) (c : He.SaysD faL fnL K) : DefOk K mg fs cs true ds 28 "_law_small_right" (pn 28) := by
  obtain ⟨fd, F⟩ := c.def_ 28 (d := ⟨("_law_small_right", none), "_law_small_right", "_law_small_right", defArgs (topS 37), defBody (topS 37), defScope (topS 37), [], []⟩) rfl
  exact ⟨⟨p28.length, n28.length, b28⟩, topS 37, n28, "_law_small_right", _, fd, rfl, He.glo_ok X G (c.fact 28 (f := .glo "_law_small_right") rfl), F, F.bindsA (ps := p28) fun _ _ _ _ _ _ us hl => match us, hl with | [_], _ => rfl,
    F.bindsN (ps := p28) fun _ _ _ _ _ _ us hl => match us, hl with | [_], _ => rfl, sc28, rfl, rfl, rfl, ck28⟩
theorem df29 (X : K.In h) (G : h.Ns mainGlobals mg) (c : He.SaysD faL fnL K) : DefOk K mg fs cs true ds 29 "_law_great_right" (pn 29) := by
  obtain ⟨fd, F⟩ := c.def_ 29 (d := ⟨("_law_great_right", none), "_law_great_right", "_law_great_right", defArgs (topS 38), defBody (topS 38), defScope (topS 38), [], []⟩) rfl
  exact ⟨⟨p29.length, n29.length, b29⟩, topS 38, n29, "_law_great_right", _, fd, rfl, He.glo_ok X G (c.fact 29 (f := .glo "_law_great_right") rfl), F, F.bindsA (ps := p29) fun _ _ _ _ _ _ us hl => match us, hl with | [_], _ => rfl,
    F.bindsN (ps := p29) fun _ _ _ _ _ _ us hl => match us, hl with | [_], _ => rfl, sc29, rfl, rfl, rfl, ck29⟩
theorem df30 (X : K.In h) (G : h.Ns mainGlobals mg) (c : He.SaysD faL fnL K) : DefOk K mg fs cs true ds 30 "_law_odds_right" (pn 30) := by
  obtain ⟨fd, F⟩ := c.def_ 30 (d := ⟨("_law_odds_right", none), "_law_odds_right", "_law_odds_right", defArgs (topS 39), defBody (topS 39), defScope (topS 39), [], []⟩) rfl
  exact ⟨⟨p30.length, n30.length, b30⟩, topS 39, n30, "_law_odds_right", _, fd, rfl, He.glo_ok X G (c.fact 30 (f := .glo "_law_odds_right") rfl), F, F.bindsA (ps := p30) fun _ _ _ _ _ _ us hl => match us, hl with | [_], _ => rfl,
    F.bindsN (ps := p30) fun _ _ _ _ _ _ us hl => match us, hl with | [_], _ => rfl, sc30, rfl, rfl, rfl, ck30⟩
theorem df31 (X : K.In h) (G : h.Ns mainGlobals mg) (c : He.SaysD faL fnL K) : DefOk K mg fs cs true ds 31 "law" (pn 31) := by
  obtain ⟨fd, F⟩ := c.def_ 31 (d := ⟨("law", none), "law", "law", defArgs (topS 40), defBody (topS 40), defScope (topS 40), [], []⟩) rfl
  exact ⟨⟨p31.length, n31.length, b31⟩, topS 40, n31, "law", _, fd, rfl, He.glo_ok X G (c.fact 31 (f := .glo "law") rfl), F, F.bindsA (ps := p31) fun _ _ _ _ _ _ us hl => match us, hl with | [_], _ => rfl,
    F.bindsN (ps := p31) fun _ _ _ _ _ _ us hl => match us, hl with | [_], _ => rfl, sc31, rfl, rfl, rfl, ck31⟩
theorem df (X : K.In h) (G : h.Ns mainGlobals mg) (c : He.SaysD faL fnL K) : ∀ (f : Nat) (x : Str), fs[f]? = some x → DefOk K mg fs cs true ds f x (pn f)
  | 0, _, e => by cases e; exact df0 X G c
  | 1, _, e => by cases e; exact df1 X G c
  | 2, _, e => by cases e; exact df2 X G c
  | 3, _, e => by cases e; exact df3 X G c
  | 4, _, e => by cases e; exact df4 X G c
  | 5, _, e => by cases e; exact df5 X G c
  | 6, _, e => by cases e; exact df6 X G c
  | 7, _, e => by cases e; exact df7 X G c
  | 8, _, e => by cases e; exact df8 X G c
  | 9, _, e => by cases e; exact df9 X G c
  | 10, _, e => by cases e; exact df10 X G c
  | 11, _, e => by cases e; exact df11 X G c
  | 12, _, e => by cases e; exact df12 X G c
  | 13, _, e => by cases e; exact df13 X G c
  | 14, _, e => by cases e; exact df14 X G c
  | 15, _, e => by cases e; exact df15 X G c
  | 16, _, e => by cases e; exact df16 X G c
  | 17, _, e => by cases e; exact df17 X G c
  | 18, _, e => by cases e; exact df18 X G c
  | 19, _, e => by cases e; exact df19 X G c
  | 20, _, e => by cases e; exact df20 X G c
  | 21, _, e => by cases e; exact df21 X G c
  | 22, _, e => by cases e; exact df22 X G c
  | 23, _, e => by cases e; exact df23 X G c
  | 24, _, e => by cases e; exact df24 X G c
  | 25, _, e => by cases e; exact df25 X G c
  | 26, _, e => by cases e; exact df26 X G c
  | 27, _, e => by cases e; exact df27 X G c
  | 28, _, e => by cases e; exact df28 X G c
  | 29, _, e => by cases e; exact df29 X G c
  | 30, _, e => by cases e; exact df30 X G c
  | 31, _, e => by cases e; exact df31 X G c
  | _ + 32, _, e => by cases e
theorem blt (X : K.In h) (G : h.Ns mainGlobals mg) (c : He.SaysD faL fnL K) : ∀ x ∈ bltNames, mg x = none := by
  intro x hx
  have go : ∀ y, (He.Fa.free y) ∈ faL → mg y = none := fun y hy => by
    obtain ⟨i, hi⟩ := List.getElem?_of_mem hy
    exact He.free_ok X G (c.fact i hi)
  unfold bltNames at hx
  simp only [List.mem_cons, List.not_mem_nil, or_false] at hx
  rcases hx with rfl | rfl | rfl | rfl | rfl | rfl | rfl | rfl | rfl | rfl | rfl | rfl | rfl | rfl | rfl | rfl | rfl | rfl
  · exact He.free_ok X G (c.fact 32 rfl)
  · exact He.free_ok X G (c.fact 33 rfl)
  · exact He.free_ok X G (c.fact 34 rfl)
  · exact He.free_ok X G (c.fact 35 rfl)
  · exact He.free_ok X G (c.fact 36 rfl)
  · exact He.free_ok X G (c.fact 37 rfl)
  · exact He.free_ok X G (c.fact 38 rfl)
  · exact He.free_ok X G (c.fact 39 rfl)
  · exact He.free_ok X G (c.fact 40 rfl)
  · exact He.free_ok X G (c.fact 41 rfl)
  · exact He.free_ok X G (c.fact 42 rfl)
  · exact He.free_ok X G (c.fact 43 rfl)
  · exact He.free_ok X G (c.fact 44 rfl)
  · exact He.free_ok X G (c.fact 45 rfl)
  · exact He.free_ok X G (c.fact 46 rfl)
  · exact He.free_ok X G (c.fact 47 rfl)
  · exact He.free_ok X G (c.fact 48 rfl)
  · exact He.free_ok X G (c.fact 49 rfl)
theorem con (X : K.In h) (G : h.Ns mainGlobals mg) (c : He.SaysD faL fnL K) : ∀ (i : Nat) (x : Str) (y : PyData), cs[i]? = some x → CC[i]? = some y → ∃ v u, mg x = some u ∧ RelV v u ∧ ∀ L H, Rp K L H v y
  | 0, _, _, e1, e2 => by
    cases e1
    cases e2
    obtain ⟨t, e⟩ := He.int_ok X G (c.fact 50 rfl)
    exact ⟨.int _, _, e, ⟨t, rfl⟩, fun L H => .int _⟩
  | 1, _, _, e1, e2 => by
    cases e1
    cases e2
    obtain ⟨t, e⟩ := He.int_ok X G (c.fact 51 rfl)
    exact ⟨.int _, _, e, ⟨t, rfl⟩, fun L H => .int _⟩
  | _ + 2, _, _, e1, _ => by cases e1
def WH : Nat := 10 ^ 30
def spL (K : PySem.W.Frag) : SpG := spF K (run ds CC WH 12) 31
theorem all_mk {P : Program} {w : World} {fa : Addr} (X : K.In h) (G : h.Ns mainGlobals mg) (hfa : mg "law" = some (.ref fa)) (c : He.SaysD faL fnL K) (g : PySem.W.nsIn K mainGlobals "gcd" = some (some (.builtin "math.gcd"))) :
    ∃ fd : FuncData, (∀ (s : Shared) (u : Value), BindsTo s fd ⟨[u], []⟩ [("script", u)]) ∧ ∀ base : Heap, K.In base → base.Ns mainGlobals mg → FnG P w K mg base 12 fa fd ["script"] (spL K) := by
  have A : ∀ base : Heap, _ := fun base => fn_all (P := P) (w := w) (base := base) (C := CC) (wh := WH) (blt X G c) (fun _ => PySem.W.mg_of X G g) (con X G c) (df X G c) 12 31 "law" rfl
  obtain ⟨fd, F⟩ := c.def_ 31 (d := ⟨("law", none), "law", "law", defArgs (topS 40), defBody (topS 40), defScope (topS 40), [], []⟩) rfl
  have e := hfa.symm.trans (He.glo_ok X G (c.fact 31 (f := .glo "law") rfl))
  cases e
  refine ⟨fd, fun s u => F.bindsA (ps := ["script"]) (fun _ _ _ _ _ _ us hl => match us, hl with | [_], _ => rfl) s [u] rfl, fun base _ _ => ?_⟩
  obtain ⟨fa', fd', FN, hb, hm, _, _, oc, od, osl, lk⟩ := A base
  have e := hfa.symm.trans hm
  cases e
  obtain ⟨oc2, od2, osl2, lk2⟩ := fun_at F
  have e := lk.symm.trans lk2
  cases e
  exact FN
end
end K83
set_option Elab.async false
set_option linter.all false
set_option maxRecDepth 100000
namespace K83
open PySem Cz
def RK (k : Nat) : CallF := Cz.run ds CC WH k
theorem rk_rt {k f : Nat} {vs : List Val} {μ : Store} {x : PyData} {ρ' : Slots} {μ' : Store} (d : Df) (hd : ds[f]? = some d) (hl : vs.length = d.np) (h : evS (RK k) CC WH d.body (startS d vs) μ = some (.rt (.d x), ρ', μ')) (h2 : μ'.take μ.length = μ) : RK (k + 1) f vs μ = some (.d x, μ) := by
  show ((ds[f]?).bind fun d => if vs.length = d.np then _ else none) = _
  rw [hd]
  show (if vs.length = d.np then (evS (RK k) CC WH d.body (startS d vs) μ).bind _ else none) = _
  rw [if_pos hl, h]
  show finV μ.length μ' (.d x) = _
  unfold finV
  rw [h2]
theorem rk0 {k f : Nat} {vs : List Val} {μ : Store} {x : PyData} {ρ' : Slots} (d : Df) (hd : ds[f]? = some d) (hl : vs.length = d.np) (h : evS (RK k) CC WH d.body (startS d vs) μ = some (.rt (.d x), ρ', μ)) : RK (k + 1) f vs μ = some (.d x, μ) := rk_rt d hd hl h (take_self μ)
theorem rk_nx {k f : Nat} {vs : List Val} {μ : Store} {ρ' : Slots} {μ' : Store} (d : Df) (hd : ds[f]? = some d) (hl : vs.length = d.np) (h : evS (RK k) CC WH d.body (startS d vs) μ = some (.nx, ρ', μ')) (h2 : μ'.take μ.length = μ) : RK (k + 1) f vs μ = some (.d .none, μ) := by
  show ((ds[f]?).bind fun d => if vs.length = d.np then _ else none) = _
  rw [hd]
  show (if vs.length = d.np then (evS (RK k) CC WH d.body (startS d vs) μ).bind _ else none) = _
  rw [if_pos hl, h]
  show some (Val.d .none, μ'.take μ.length) = _
  rw [h2]
local macro_rules | `(tactic| trivial) => `(tactic| repeat' (first
  | exact e_nil | exact e_k | exact z_nil | (apply e_var; rfl) | (apply e_glob; rfl) | apply e_cons
  | apply e_op0 | apply e_tup0 | apply e_call0 | apply e_not
  | exact run_mul (by assumption) _ | exact run_mul' (by assumption) _ | exact run_fdiv (by assumption) (by assumption) _ | exact run_md (by assumption) _ | exact run_eq_int _ _ | exact run_ne_int _ _
  | apply z_par | apply z_asg | apply z_asgt | apply z_ret | (apply z_consr; apply z_ret) | apply z_cons | rfl | (apply e_chain) | (apply e_and) | (apply e_or) | (intro _) | exact Nat.le_of_ble_eq_true rfl))
theorem r7 (k : Nat) (a b c d : Int) (μ : Store) : RK (k+1) 7 [.d (.tuple [.int a, .int b]), .d (.tuple [.int c, .int d])] μ = some (.d (.tuple [.int (a+c), .int (b+d)]), μ) := by
  apply rk0 _ rfl rfl
  trivial
def isW (v : PyData) (lo hi : Int) : Bool := match v with
  | .int i => decide (lo ≤ i) && decide (i ≤ hi)
  | _ => false
def isTp (v : PyData) (lo hi : Int) : Bool := match v with
  | .tuple xs => decide (lo ≤ (xs.length : Int)) && decide ((xs.length : Int) ≤ hi)
  | _ => false
theorem isIntF {v : PyData} (h1 : ∀ i, v ≠ .int i) (h2 : ∀ b, v ≠ .bool b) : Op.isInt.run [v] = some (.d (.bool false)) := by
  cases v <;> first | rfl | exact absurd rfl (h1 _) | exact absurd rfl (h2 _)
theorem isTupF {v : PyData} (h1 : ∀ i, v ≠ .tuple i) : Op.isTup.run [v] = some (.d (.bool false)) := by
  cases v <;> first | rfl | exact absurd rfl (h1 _)
theorem r0 (k : Nat) (v : PyData) (lo hi : Int) (μ : Store) : RK (k+1) 0 [.d v, .d (.int lo), .d (.int hi)] μ = some (.d (.bool (isW v lo hi)), μ) := by
  by_cases h1 : ∃ i, v = .int i
  · obtain ⟨i, rfl⟩ := h1
    have h : RK (k+1) 0 [.d (.int i), .d (.int lo), .d (.int hi)] μ = some (.d (.bool (true && (!false && (decide (lo ≤ i) && decide (i ≤ hi))))), μ) := by
      apply rk0 _ rfl rfl
      trivial
    exact h
  · by_cases h2 : ∃ b, v = .bool b
    · obtain ⟨b, rfl⟩ := h2
      have h : RK (k+1) 0 [.d (.bool b), .d (.int lo), .d (.int hi)] μ = some (.d (.bool (true && (!true && false))), μ) := by
        apply rk0 _ rfl rfl
        apply z_consr
        apply z_ret
        refine e_and true (!true && false) ?_ fun _ => e_and (!true) false ?_ (fun z => by cases z)
        · trivial
        · trivial
      exact h
    · have e : isW v lo hi = false := by
        cases v <;> first | rfl | exact absurd ⟨_, rfl⟩ h1
      rw [e]
      have h : RK (k+1) 0 [.d v, .d (.int lo), .d (.int hi)] μ = some (.d (.bool (false && false)), μ) := by
        apply rk0 _ rfl rfl
        apply z_consr
        apply z_ret
        refine e_and false false (e_op0 (ws := [.d v]) ?_ rfl (isIntF (fun i z => h1 ⟨i, z⟩) (fun i z => h2 ⟨i, z⟩))) (fun z => by cases z)
        trivial
      exact h
theorem r1 (k : Nat) (v : PyData) (lo hi : Int) (μ : Store) : RK (k+1) 1 [.d v, .d (.int lo), .d (.int hi)] μ = some (.d (.bool (isTp v lo hi)), μ) := by
  by_cases h1 : ∃ i, v = .tuple i
  · obtain ⟨i, rfl⟩ := h1
    have h : RK (k+1) 1 [.d (.tuple i), .d (.int lo), .d (.int hi)] μ = some (.d (.bool (true && (decide (lo ≤ (i.length : Int)) && decide ((i.length : Int) ≤ hi)))), μ) := by
      apply rk0 _ rfl rfl
      trivial
    exact h
  · have e : isTp v lo hi = false := by
      cases v <;> first | rfl | exact absurd ⟨_, rfl⟩ h1
    rw [e]
    have h : RK (k+1) 1 [.d v, .d (.int lo), .d (.int hi)] μ = some (.d (.bool (false && false)), μ) := by
      apply rk0 _ rfl rfl
      apply z_consr
      apply z_ret
      refine e_and false false (e_op0 (ws := [.d v]) ?_ rfl (isTupF (fun i z => h1 ⟨i, z⟩))) (fun z => by cases z)
      trivial
    exact h

/-! ### is_slope, need_slope, fits_runs -/
abbrev GR : Int := 1000000000000000000
def isS (v : PyData) : Bool := match v with
  | .tuple [.int a, .int b] => isW (.int a) 1 GR && isW (.int b) 1 GR && decide (((Nat.gcd a.natAbs b.natAbs : Nat) : Int) = 1)
  | _ => false
/-- all([is_whole(one, lo, GREAT) for one in value]) -/
theorem all_whole (k : Nat) (lo : Int) (xs : List PyData) (μ : Store) (hl : xs.length ≤ sizeMax) : evE (RK (k + 1)) CC (.op .all (.cons (.comp (.call 0 (.cons (.var 1) (.cons (.k (.int lo)) (.cons (.glob 0) .nil)))) (.nm 1) .seq (.cons (.var 0) .nil) .nil) .nil)) [some (.d (.tuple xs)), none] μ = some ([.d (.bool (xs.all fun x => isW x lo GR))], μ) := by
  have h : evE (RK (k + 1)) CC (.comp (.call 0 (.cons (.var 1) (.cons (.k (.int lo)) (.cons (.glob 0) .nil)))) (.nm 1) .seq (.cons (.var 0) .nil) .nil) [some (.d (.tuple xs)), none] μ = some ([.l μ.length], μ ++ [xs.map fun x => .bool (isW x lo GR)]) := by
    refine e_compM (cs := [.tuple xs]) (xs := xs) (fun x => .bool (isW x lo GR)) ?_ rfl hl fun x _ => turn_map (ρ' := [some (.d (.tuple xs)), some (.d x)]) rfl ?_
    · trivial
    · refine e_call0 (ws := [.d x, .d (.int lo), .d (.int GR)]) ?_ (r0 k x lo GR μ)
      trivial
  exact e_opl (e_cons h e_nil) (run_all _ xs)
theorem r2 (k : Nat) (v : PyData) (μ : Store) : RK (k + 2) 2 [.d v] μ = some (.d (.bool (isS v)), μ) := by
  by_cases h1 : ∃ x y, v = .tuple [x, y]
  · obtain ⟨x, y, rfl⟩ := h1
    have h1 : RK (k + 1) 1 [.d (.tuple [x, y]), .d (.int 2), .d (.int 2)] μ = some (.d (.bool true), μ) := r1 k _ 2 2 μ
    have h2 := all_whole k 1 [x, y] μ (Nat.le_of_ble_eq_true rfl)
    by_cases hb : ([x, y].all fun x => isW x 1 GR) = true
    · rw [hb] at h2
      have hb' : (isW x 1 GR && (isW y 1 GR && true)) = true := hb
      simp only [Bool.and_eq_true] at hb'
      have ix : ∃ a, x = .int a := by cases x <;> first | exact ⟨_, rfl⟩ | cases hb'.1
      have iy : ∃ a, y = .int a := by cases y <;> first | exact ⟨_, rfl⟩ | cases hb'.2.1
      obtain ⟨a, rfl⟩ := ix
      obtain ⟨b, rfl⟩ := iy
      have e : isS (.tuple [.int a, .int b]) = decide (((Nat.gcd a.natAbs b.natAbs : Nat) : Int) = 1) := by
        show (isW (.int a) 1 GR && isW (.int b) 1 GR && _) = _
        rw [hb'.1, hb'.2.1]
        rfl
      rw [e]
      apply rk0 _ rfl rfl
      refine z_cons (z_ifs false (e_or false false (e_not true ?_) fun _ => e_not true h2) (fun z => by cases z) fun _ => z_nil) ?_
      · refine e_call0 (ws := [.d (.tuple [.int a, .int b]), .d (.int 2), .d (.int 2)]) ?_ h1
        trivial
      · apply z_consr
        apply z_ret
        refine e_op0 (ws := [.d (.int ((Nat.gcd a.natAbs b.natAbs : Nat) : Int)), .d (.int 1)]) ?_ rfl (run_eq_int _ _)
        trivial
    · have e : isS (.tuple [x, y]) = false := by
        by_cases q : ∃ a b, x = .int a ∧ y = .int b
        · obtain ⟨a, b, rfl, rfl⟩ := q
          show (isW (.int a) 1 GR && isW (.int b) 1 GR && _) = false
          have hb' : ¬ (isW (.int a) 1 GR && (isW (.int b) 1 GR && true)) = true := hb
          rw [Bool.and_true] at hb'
          rw [Bool.not_eq_true] at hb'
          rw [hb']
          rfl
        · unfold isS
          split
          · rename_i e
            cases e
            exact absurd ⟨_, _, rfl, rfl⟩ q
          · rfl
      rw [e]
      rw [Bool.not_eq_true] at hb
      rw [hb] at h2
      apply rk0 _ rfl rfl
      apply z_consr
      refine z_ifs true (e_or false true (e_not true ?_) fun _ => e_not false h2) (fun _ => z_consr (z_ret e_k)) (fun z => by cases z)
      refine e_call0 (ws := [.d (.tuple [x, y]), .d (.int 2), .d (.int 2)]) ?_ h1
      trivial
  · have ht : isTp v 2 2 = false := by
      cases v with
      | tuple xs =>
        match xs, h1 with
        | [], _ => rfl
        | [_], _ => rfl
        | [x, y], h1 => exact absurd ⟨x, y, rfl⟩ h1
        | _ :: _ :: _ :: r, _ =>
          show (decide _ && decide ((((r.length + 1 + 1 + 1 : Nat)) : Int) ≤ 2)) = false
          have : ¬ (((r.length + 1 + 1 + 1 : Nat) : Int) ≤ 2) := by omega
          rw [decide_eq_false this, Bool.and_false]
      | _ => rfl
    have e : isS v = false := by
      unfold isS
      split
      · exact absurd ⟨_, _, rfl⟩ h1
      · rfl
    rw [e]
    have hc : RK (k + 1) 1 [.d v, .d (.int 2), .d (.int 2)] μ = some (.d (.bool false), μ) := by
      rw [r1, ht]
    apply rk0 _ rfl rfl
    apply z_consr
    refine z_ifs true (e_or true false (e_not false ?_) fun z => by cases z) (fun _ => z_consr (z_ret e_k)) (fun z => by cases z)
    refine e_call0 (ws := [.d v, .d (.int 2), .d (.int 2)]) ?_ hc
    trivial
theorem r3 (k : Nat) (v : PyData) (h : isS v = true) (μ : Store) : RK (k + 3) 3 [.d v] μ = some (.d .none, μ) := by
  refine rk_nx _ rfl rfl (z_cons (z_ifs false (e_not true ?_) (fun z => by cases z) fun _ => z_nil) z_nil) (take_self μ)
  have := r2 k v μ
  rw [h] at this
  refine e_call0 (ws := [.d v]) ?_ this
  trivial
end K83
set_option Elab.async false
set_option linter.all false
set_option maxRecDepth 100000
namespace K83
open PySem Cz
local macro_rules | `(tactic| trivial) => `(tactic| repeat' (first
  | exact e_nil | exact e_k | exact z_nil | (apply e_var; rfl) | (apply e_glob; rfl) | apply e_cons
  | apply e_op0 | apply e_tup0 | apply e_call0 | apply e_not
  | exact run_mul (by assumption) _ | exact run_mul' (by assumption) _ | exact run_fdiv (by assumption) (by assumption) _ | exact run_md (by assumption) _ | exact run_eq_int _ _ | exact run_ne_int _ _
  | apply z_par | apply z_asg | apply z_asgt | apply z_ret | (apply z_consr; apply z_ret) | apply z_cons | rfl | (apply e_chain) | (apply e_and) | (apply e_or) | (intro _) | exact Nat.le_of_ble_eq_true rfl))

abbrev I2 := Int × Int
def pr (p : I2) : PyData := .tuple [.int p.1, .int p.2]
def bst (i : Nat) (m : Int) (s : I2 × I2) : I2 × I2 := if i % 2 = 0 then ((s.1.1 + m * s.2.1, s.1.2 + m * s.2.2), s.2) else (s.1, (s.2.1 + m * s.1.1, s.2.2 + m * s.1.2))
def bnd : Nat → List Int → I2 × I2 → I2 × I2
  | _, [], s => s
  | i, m :: r, s => bnd (i + 1) r (bst i m s)
abbrev B64 (m : Int) : Prop := -(2 ^ 64) < m ∧ m < 2 ^ 64
theorem par_odd (i : Nat) : decide ((i : Int) % 2 = 0) = decide (i % 2 = 0) := by
  by_cases h : i % 2 = 0
  · rw [decide_eq_true h, decide_eq_true (by omega)]
  · rw [decide_eq_false h, decide_eq_false (by omega)]
theorem c6 (k : Nat) (R low high : Val) (i : Nat) (x4 : Option Val) (μ : Store) : evE (RK k) CC (.op .eq (.cons (.op .md (.cons (.var 3) (.cons (.k (.int 2)) .nil))) (.cons (.k (.int 0)) .nil))) [some R, some low, some high, some (.d (.int (i : Int))), x4] μ = some ([.d (.bool (decide (i % 2 = 0)))], μ) := by
  rw [← par_odd]
  trivial
theorem s6 (k : Nat) (R : Val) (s : I2 × I2) (i : Nat) (m : Int) (hm : B64 m) (μ : Store) : evS (RK k) CC WH b6l0 [some R, some (.d (pr s.1)), some (.d (pr s.2)), some (.d (.int (i : Int))), some (.d (.int m))] μ =
    some (.nx, [some R, some (.d (pr (bst i m s).1)), some (.d (pr (bst i m s).2)), some (.d (.int (i : Int))), some (.d (.int m))], μ) := by
  have hc := c6 k R (.d (pr s.1)) (.d (pr s.2)) i (some (.d (.int m))) μ
  by_cases h : i % 2 = 0
  · rw [decide_eq_true h] at hc
    unfold bst
    rw [if_pos h]
    refine z_cons (z_ifs true hc (fun _ => z_cons (z_asg ?_) z_nil) fun z => by cases z) z_nil
    trivial
  · rw [decide_eq_false h] at hc
    unfold bst
    rw [if_neg h]
    refine z_cons (z_ifs false hc (fun z => by cases z) fun _ => z_cons (z_asg ?_) z_nil) z_nil
    trivial
theorem l6 (k : Nat) (R : Val) (μ : Store) : ∀ (ns : List Int) (i : Nat) (s : I2 × I2) (x3 x4 : Option Val), (∀ m ∈ ns, B64 m) →
    ∃ y3 y4, forL (.tp [3, 4]) (evS (RK k) CC WH b6l0) (fun _ => true) (enumFrom i (ns.map .int)) [some R, some (.d (pr s.1)), some (.d (pr s.2)), x3, x4] μ = some (.nx, [some R, some (.d (pr (bnd i ns s).1)), some (.d (pr (bnd i ns s).2)), y3, y4], μ)
  | [], i, s, x3, x4, _ => ⟨x3, x4, l_done rfl⟩
  | m :: ns, i, s, x3, x4, h => by
    obtain ⟨y3, y4, e⟩ := l6 k R μ ns (i + 1) (bst i m s) (some (.d (.int (i : Int)))) (some (.d (.int m))) fun z hz => h z (List.mem_cons_of_mem _ hz)
    exact ⟨y3, y4, l_nx (ρ2 := [some R, some (.d (pr s.1)), some (.d (pr s.2)), some (.d (.int (i : Int))), some (.d (.int m))]) rfl rfl (s6 k R s i m (h m List.mem_cons_self) μ) e⟩
def B (ns : List Int) : I2 × I2 := bnd 0 ns ((0, 1), (1, 0))
def mid (s : I2 × I2) : I2 := (s.1.1 + s.2.1, s.1.2 + s.2.2)
theorem r6 (k : Nat) (ns : List Int) (h : ∀ m ∈ ns, B64 m) (μ : Store) : RK (k + 1) 6 [.d (row ns)] μ = some (.d (.tuple [pr (B ns).1, pr (B ns).2]), μ) := by
  obtain ⟨y3, y4, e⟩ := l6 k (.d (row ns)) μ ns 0 ((0, 1), (1, 0)) none none h
  refine rk0 _ rfl rfl (z_cons (ρ' := [some (.d (row ns)), some (.d (pr (0, 1))), some (.d (pr (1, 0))), none, none]) (μ1 := μ) ?_ (z_cons (z_for (cs := [row ns]) (xs := enumFrom 0 (ns.map .int)) ?_ rfl e) (z_consr (z_ret ?_))))
  · refine z_par (ws := [.d (pr (0, 1)), .d (pr (1, 0))]) ?_ rfl
    trivial
  · trivial
  · trivial
theorem r7p (k : Nat) (p q : I2) (μ : Store) : RK (k + 1) 7 [.d (pr p), .d (pr q)] μ = some (.d (pr (p.1 + q.1, p.2 + q.2)), μ) := r7 k _ _ _ _ μ
end K83
set_option Elab.async false
set_option linter.all false
set_option maxRecDepth 100000
namespace K83
open PySem Cz
local macro_rules | `(tactic| trivial) => `(tactic| repeat' (first
  | exact e_nil | exact e_k | exact z_nil | (apply e_var; rfl) | (apply e_glob; rfl) | apply e_cons
  | apply e_op0 | apply e_tup0 | apply e_call0 | apply e_not
  | exact run_mul (by assumption) _ | exact run_mul' (by assumption) _ | exact run_fdiv (by assumption) (by assumption) _ | exact run_md (by assumption) _ | exact run_eq_int _ _ | exact run_ne_int _ _
  | apply z_par | apply z_asg | apply z_asgt | apply z_ret | (apply z_consr; apply z_ret) | apply z_cons | rfl | (apply e_chain) | (apply e_and) | (apply e_or) | (intro _) | exact Nat.le_of_ble_eq_true rfl))


/-- the slope of a row of runs, from the front -/
def SL : Nat → List Int → I2
  | _, [] => (1, 1)
  | t, m :: r => if t % 2 = 0 then ((SL (t + 1) r).1 + m * (SL (t + 1) r).2, (SL (t + 1) r).2) else ((SL (t + 1) r).1, (SL (t + 1) r).2 + m * (SL (t + 1) r).1)
theorem SL_cons (t : Nat) (m : Int) (r : List Int) : SL t (m :: r) = if t % 2 = 0 then ((SL (t + 1) r).1 + m * (SL (t + 1) r).2, (SL (t + 1) r).2) else ((SL (t + 1) r).1, (SL (t + 1) r).2 + m * (SL (t + 1) r).1) := rfl
theorem bnd_mid : ∀ (ns : List Int) (t : Nat) (s : I2 × I2), mid (bnd t ns s) = ((SL t ns).2 * s.1.1 + (SL t ns).1 * s.2.1, (SL t ns).2 * s.1.2 + (SL t ns).1 * s.2.2)
  | [], t, s => by
    show (s.1.1 + s.2.1, s.1.2 + s.2.2) = ((1 : Int) * s.1.1 + 1 * s.2.1, (1 : Int) * s.1.2 + 1 * s.2.2)
    rw [Int.one_mul, Int.one_mul, Int.one_mul, Int.one_mul]
  | m :: r, t, s => by
    show mid (bnd (t + 1) r (bst t m s)) = _
    rw [bnd_mid r (t + 1), SL_cons]
    generalize SL (t + 1) r = w
    unfold bst
    by_cases h : t % 2 = 0
    · rw [if_pos h, if_pos h]
      refine Prod.ext ?_ ?_ <;> simp only [] <;> grind
    · rw [if_neg h, if_neg h]
      refine Prod.ext ?_ ?_ <;> simp only [] <;> grind
theorem mid_B (ns : List Int) : mid (B ns) = SL 0 ns := by
  unfold B
  rw [bnd_mid]
  refine Prod.ext ?_ ?_ <;> simp
/-- runs behind the first are above 0; the first too, if it is the last -/
def Pos (ns : List Int) : Prop := ∀ m ∈ ns, 1 ≤ m
def Val0 : List Int → Prop
  | [] => True
  | [m] => 1 ≤ m
  | m :: r => 0 ≤ m ∧ Pos r
theorem SL_pos : ∀ (ns : List Int) (t : Nat), (∀ m ∈ ns, 0 ≤ m) → 1 ≤ (SL t ns).1 ∧ 1 ≤ (SL t ns).2
  | [], _, _ => ⟨Int.le_refl _, Int.le_refl _⟩
  | m :: r, t, h => by
    obtain ⟨h1, h2⟩ := SL_pos r (t + 1) fun x hx => h x (List.mem_cons_of_mem _ hx)
    have hm := h m List.mem_cons_self
    rw [SL_cons]
    by_cases ht : t % 2 = 0
    · rw [if_pos ht]
      have : 0 ≤ m * (SL (t + 1) r).2 := Int.mul_nonneg hm (by omega)
      exact ⟨by show 1 ≤ _ + _; omega, h2⟩
    · rw [if_neg ht]
      have : 0 ≤ m * (SL (t + 1) r).1 := Int.mul_nonneg hm (by omega)
      exact ⟨h1, by show 1 ≤ _ + _; omega⟩
/-- at an odd turn the first is the less, at an even one the second -/
theorem SL_ord : ∀ (ns : List Int) (t : Nat), Pos ns → (t % 2 = 1 → (SL t ns).1 ≤ (SL t ns).2 ∧ (ns ≠ [] → (SL t ns).1 < (SL t ns).2)) ∧ (t % 2 = 0 → (SL t ns).2 ≤ (SL t ns).1 ∧ (ns ≠ [] → (SL t ns).2 < (SL t ns).1))
  | [], t, _ => ⟨fun _ => ⟨Int.le_refl _, fun z => absurd rfl z⟩, fun _ => ⟨Int.le_refl _, fun z => absurd rfl z⟩⟩
  | m :: r, t, h => by
    obtain ⟨h1, h2⟩ := SL_pos r (t + 1) fun x hx => by have := h x (List.mem_cons_of_mem _ hx); omega
    have hm := h m List.mem_cons_self
    rw [SL_cons]
    by_cases ht : t % 2 = 0
    · rw [if_pos ht]
      have : (SL (t + 1) r).2 ≤ m * (SL (t + 1) r).2 := by have := Int.mul_le_mul_of_nonneg_right hm (show 0 ≤ (SL (t + 1) r).2 by omega); omega
      exact ⟨fun z => by omega, fun _ => ⟨by show _ ≤ _ + _; omega, fun _ => by show _ < _ + _; omega⟩⟩
    · rw [if_neg ht]
      have : (SL (t + 1) r).1 ≤ m * (SL (t + 1) r).1 := by have := Int.mul_le_mul_of_nonneg_right hm (show 0 ≤ (SL (t + 1) r).1 by omega); omega
      exact ⟨fun _ => ⟨by show _ ≤ _ + _; omega, fun _ => by show _ < _ + _; omega⟩, fun z => by omega⟩
theorem SL_mono (m : Int) (r : List Int) (t : Nat) (h : ∀ x ∈ m :: r, 0 ≤ x) : (SL (t + 1) r).1 ≤ (SL t (m :: r)).1 ∧ (SL (t + 1) r).2 ≤ (SL t (m :: r)).2 := by
  obtain ⟨h1, h2⟩ := SL_pos r (t + 1) fun x hx => h x (List.mem_cons_of_mem _ hx)
  have hm := h m List.mem_cons_self
  rw [SL_cons]
  by_cases ht : t % 2 = 0
  · rw [if_pos ht]
    have : 0 ≤ m * (SL (t + 1) r).2 := Int.mul_nonneg hm (by omega)
    exact ⟨by show _ ≤ _ + _; omega, Int.le_refl _⟩
  · rw [if_neg ht]
    have : 0 ≤ m * (SL (t + 1) r).1 := Int.mul_nonneg hm (by omega)
    exact ⟨Int.le_refl _, by show _ ≤ _ + _; omega⟩
theorem div_step {p q m : Int} (hp : 1 ≤ p) (hq : p ≤ q) : (p + m * q - 1) / q = m := by
  have e : p + m * q - 1 = (p - 1) + m * q := by omega
  rw [e, Int.add_mul_ediv_right _ _ (by omega), Int.ediv_eq_zero_of_lt (by omega) (by omega), Int.zero_add]

theorem set_last (μ : Store) (xs ys : List PyData) : (μ ++ [xs]).set μ.length ys = μ ++ [ys] := by
  simp
theorem get_last (μ : Store) (xs : List PyData) : (μ ++ [xs])[μ.length]? = some xs := by simp
/-- one turn of steps_in -/
theorem s5 (k : Nat) (R : Val) (μ : Store) (t : Nat) (p q m : Int) (x5 : Option Val) (found : List Int) (hp : 1 ≤ p) (hq : 1 ≤ q) (ho : if t % 2 = 0 then p ≤ q else q ≤ p) (hm : B64 m) (h64 : p < 2 ^ 64 ∧ q < 2 ^ 64) (hl : found.length < sizeMax) :
    evS (RK k) CC WH b5l0 [some R, some (.d (.int (if t % 2 = 0 then p + m * q else p))), some (.d (.int (if t % 2 = 0 then q else q + m * p))), some (.l μ.length), some (.d (.int (t : Int))), x5] (μ ++ [found.map .int]) =
    some (.nx, [some R, some (.d (.int p)), some (.d (.int q)), some (.l μ.length), some (.d (.int ((t + 1 : Nat) : Int))), some (.d (.int m))], μ ++ [(found ++ [m]).map .int]) := by
  have hpar : ∀ a b : Val, evE (RK k) CC (.op .eq (.cons (.op .md (.cons (.var 4) (.cons (.k (.int 2)) .nil))) (.cons (.k (.int 0)) .nil))) [some R, some a, some b, some (.l μ.length), some (.d (.int (t : Int))), x5] (μ ++ [found.map .int]) = some ([.d (.bool (decide (t % 2 = 0)))], μ ++ [found.map .int]) := fun a b => by
    rw [← par_odd]
    trivial
  have hj : 0 < q := by omega
  have hj2 : q < 2 ^ 64 := h64.2
  have hi : 0 < p := by omega
  have hi2 : p < 2 ^ 64 := h64.1
  have fin : ∀ a b : Int, evS (RK k) CC WH (.cons (.app (.var 3) (.var 5)) (.cons (.asg (.nm 4) (.op .add (.cons (.var 4) (.cons (.k (.int 1)) .nil)))) .nil)) [some R, some (.d (.int a)), some (.d (.int b)), some (.l μ.length), some (.d (.int (t : Int))), some (.d (.int m))] (μ ++ [found.map .int]) =
      some (.nx, [some R, some (.d (.int a)), some (.d (.int b)), some (.l μ.length), some (.d (.int ((t : Int) + 1))), some (.d (.int m))], μ ++ [(found ++ [m]).map .int]) := fun a b => by
    have e := z_app (F := RK k) (C := CC) (fu := WH) (a := .var 3) (b := .var 5) (n := μ.length) (y := .int m) (ρ := [some R, some (.d (.int a)), some (.d (.int b)), some (.l μ.length), some (.d (.int (t : Int))), some (.d (.int m))]) (μ := μ ++ [found.map .int]) (e_var rfl) (e_var rfl) (get_last μ _) (by simpa using hl)
    rw [set_last] at e
    rw [List.map_append]
    refine z_cons e (z_cons (z_asg (w := .d (.int ((t : Int) + 1))) (μ1 := μ ++ [found.map .int ++ [.int m]]) ?_) z_nil)
    trivial
  have ht : ((t + 1 : Nat) : Int) = (t : Int) + 1 := by omega
  rw [ht]
  by_cases h : t % 2 = 0
  · rw [if_pos h] at ho
    rw [if_pos h, if_pos h]
    have hc := hpar (.d (.int (p + m * q))) (.d (.int q))
    rw [decide_eq_true h] at hc
    have ed : (p + m * q - 1) / q = m := div_step hp ho
    have em : p + m * q - m * q = p := by omega
    refine z_cons (z_ifs0 true hc (fun _ => z_cons (z_asg0 (w := .d (.int m)) ?_) (z_cons (z_asg0 (w := .d (.int p)) ?_) z_nil)) fun z => by cases z) (fin p q)
    · have e := run_fdiv hj hj2 (p + m * q - 1)
      rw [ed] at e
      refine e_op0 (ws := [.d (.int (p + m * q - 1)), .d (.int q)]) ?_ rfl e
      trivial
    · refine e_op0 (ws := [.d (.int (p + m * q)), .d (.int (m * q))]) ?_ rfl ?_
      · trivial
      · show some (Res.d (.int (p + m * q - m * q))) = _
        rw [em]
  · rw [if_neg h] at ho
    rw [if_neg h, if_neg h]
    have hc := hpar (.d (.int p)) (.d (.int (q + m * p)))
    rw [decide_eq_false h] at hc
    have ed : (q + m * p - 1) / p = m := div_step hq ho
    have em : q + m * p - m * p = q := by omega
    refine z_cons (z_ifs0 false hc (fun z => by cases z) fun _ => z_cons (z_asg0 (w := .d (.int m)) ?_) (z_cons (z_asg0 (w := .d (.int q)) ?_) z_nil)) (fin p q)
    · have e := run_fdiv hi hi2 (q + m * p - 1)
      rw [ed] at e
      refine e_op0 (ws := [.d (.int (q + m * p - 1)), .d (.int p)]) ?_ rfl e
      trivial
    · refine e_op0 (ws := [.d (.int (q + m * p)), .d (.int (m * p))]) ?_ rfl ?_
      · trivial
      · show some (Res.d (.int (q + m * p - m * p))) = _
        rw [em]

theorem Pos.tail {m : Int} {r : List Int} (h : Pos (m :: r)) : Pos r := fun x hx => h x (List.mem_cons_of_mem _ hx)
theorem Val0.nonneg {ns : List Int} (h : Val0 ns) : ∀ m ∈ ns, 0 ≤ m := by
  match ns, h with
  | [], _ => intro m hm; cases hm
  | [x], h =>
    intro m hm
    have e : m = x := by simpa using hm
    have h : 1 ≤ x := h
    omega
  | x :: y :: r, h =>
    intro m hm
    rcases List.mem_cons.mp hm with e | hm
    · rw [e]; exact h.1
    · have := h.2 m hm
      omega
theorem Val0.tail {m : Int} {r : List Int} (h : Val0 (m :: r)) : Pos r := by
  cases r with
  | nil => intro x hx; cases hx
  | cons y r => exact h.2
theorem Pos.val {ns : List Int} (h : Pos ns) : Val0 ns := by
  match ns, h with
  | [], _ => exact True.intro
  | [x], h => exact h x (by simp)
  | x :: y :: r, h => exact ⟨by have := h x (by simp); omega, h.tail⟩
/-- the loop of steps_in -/
theorem w5 (k : Nat) (R : Val) (μ : Store) : ∀ (ns : List Int) (t : Nat) (x5 : Option Val) (found : List Int) (fu : Nat), Val0 ns → (t % 2 = 1 → Pos ns) → (∀ m ∈ ns, B64 m) → (SL t ns).1 < 2 ^ 64 → (SL t ns).2 < 2 ^ 64 → found.length + ns.length < sizeMax → ns.length < fu →
    ∃ y4 y5, whileN (fun ρ μ => (evE (RK k) CC (.op .ne (.cons (.var 1) (.cons (.var 2) .nil))) ρ μ).bind bool1) (evS (RK k) CC WH b5l0) fu [some R, some (.d (.int (SL t ns).1)), some (.d (.int (SL t ns).2)), some (.l μ.length), some (.d (.int (t : Int))), x5] (μ ++ [found.map .int]) =
      some (.nx, [some R, some (.d (.int 1)), some (.d (.int 1)), some (.l μ.length), y4, y5], μ ++ [(found ++ ns).map .int])
  | [], t, x5, found, 0, _, _, _, _, _, _, h => by simp at h
  | [], t, x5, found, fu + 1, _, _, _, _, _, _, _ => by
    refine ⟨some (.d (.int (t : Int))), x5, ?_⟩
    rw [List.append_nil]
    refine w_stop (c_bool false ?_)
    show evE (RK k) CC _ [some R, some (.d (.int 1)), some (.d (.int 1)), some (.l μ.length), some (.d (.int (t : Int))), x5] (μ ++ [found.map .int]) = _
    trivial
  | m :: r, t, x5, found, 0, _, _, _, _, _, _, h => by simp at h
  | m :: r, t, x5, found, fu + 1, hv, hp, hb, h1, h2, hl, hf => by
    have hnn := hv.nonneg
    have hr := hv.tail
    obtain ⟨p1, q1⟩ := SL_pos r (t + 1) fun x hx => hnn x (List.mem_cons_of_mem _ hx)
    obtain ⟨m1, m2⟩ := SL_mono m r t hnn
    have hm := hb m List.mem_cons_self
    have ord := SL_ord r (t + 1) hr
    have hm0 := hnn m List.mem_cons_self
    have ho : if t % 2 = 0 then (SL (t + 1) r).1 ≤ (SL (t + 1) r).2 else (SL (t + 1) r).2 ≤ (SL (t + 1) r).1 := by
      by_cases h : t % 2 = 0
      · rw [if_pos h]; exact (ord.1 (by omega)).1
      · rw [if_neg h]; exact (ord.2 (by omega)).1
    have ne : (SL t (m :: r)).1 ≠ (SL t (m :: r)).2 := by
      rw [SL_cons]
      by_cases h : t % 2 = 0
      · rw [if_pos h]
        show (SL (t + 1) r).1 + m * (SL (t + 1) r).2 ≠ (SL (t + 1) r).2
        by_cases hz : 1 ≤ m
        · have := Int.mul_le_mul_of_nonneg_right hz (show 0 ≤ (SL (t + 1) r).2 by omega)
          omega
        · have hz0 : m = 0 := by omega
          subst hz0
          have hr0 : r ≠ [] := fun z => by
            subst z
            have : (1 : Int) ≤ 0 := hv
            omega
          have := (ord.1 (by omega)).2 hr0
          omega
      · rw [if_neg h]
        show (SL (t + 1) r).1 ≠ (SL (t + 1) r).2 + m * (SL (t + 1) r).1
        have hz := hp (by omega) m List.mem_cons_self
        have := Int.mul_le_mul_of_nonneg_right hz (show 0 ≤ (SL (t + 1) r).1 by omega)
        omega
    have step := s5 k R μ t (SL (t + 1) r).1 (SL (t + 1) r).2 m x5 found p1 q1 ho hm ⟨by omega, by omega⟩ (by rw [List.length_cons] at hl; omega)
    have e1 : (if t % 2 = 0 then (SL (t + 1) r).1 + m * (SL (t + 1) r).2 else (SL (t + 1) r).1) = (SL t (m :: r)).1 := by
      rw [SL_cons]; split <;> rfl
    have e2 : (if t % 2 = 0 then (SL (t + 1) r).2 else (SL (t + 1) r).2 + m * (SL (t + 1) r).1) = (SL t (m :: r)).2 := by
      rw [SL_cons]; split <;> rfl
    rw [e1, e2] at step
    obtain ⟨y4, y5, e⟩ := w5 k R μ r (t + 1) (some (.d (.int m))) (found ++ [m]) fu hr.val (fun _ => hr) (fun x hx => hb x (List.mem_cons_of_mem _ hx)) (by omega) (by omega) (by simp at hl ⊢; omega) (by simp at hf; omega)
    refine ⟨y4, y5, ?_⟩
    rw [List.append_assoc] at e
    refine w_go (c_bool true ?_) step e
    have e0 := run_ne_int (SL t (m :: r)).1 (SL t (m :: r)).2
    rw [decide_eq_false ne] at e0
    refine e_op0 (ws := [.d (.int (SL t (m :: r)).1), .d (.int (SL t (m :: r)).2)]) ?_ rfl e0
    trivial
theorem wh_big : 1000 < WH := by decide +kernel
theorem r5 (k : Nat) (ns : List Int) (μ : Store) (hv : Val0 ns) (hb : ∀ m ∈ ns, B64 m) (h1 : (SL 0 ns).1 < 2 ^ 64) (h2 : (SL 0 ns).2 < 2 ^ 64) (hl : ns.length ≤ 1000) : RK (k + 1) 5 [.d (pr (SL 0 ns))] μ = some (.d (row ns), μ) := by
  obtain ⟨y4, y5, e⟩ := w5 k (.d (pr (SL 0 ns))) μ ns 0 none [] WH hv (fun z => by cases z) hb h1 h2 (by simp [sizeMax]; omega) (Nat.lt_of_le_of_lt hl wh_big)
  have st1 : evS (RK k) CC WH (.asg (.tp [1, 2]) (.var 0)) [some (.d (pr (SL 0 ns))), none, none, none, none, none] μ = some (.nx, [some (.d (pr (SL 0 ns))), some (.d (.int (SL 0 ns).1)), some (.d (.int (SL 0 ns).2)), none, none, none], μ) := by
    refine z_asgt (ds := [.int (SL 0 ns).1, .int (SL 0 ns).2]) ?_ rfl
    exact e_var rfl
  have st2 : evS (RK k) CC WH (.par [3, 4] (.cons (.lst .nil) (.cons (.k (.int 0)) .nil))) [some (.d (pr (SL 0 ns))), some (.d (.int (SL 0 ns).1)), some (.d (.int (SL 0 ns).2)), none, none, none] μ = some (.nx, [some (.d (pr (SL 0 ns))), some (.d (.int (SL 0 ns).1)), some (.d (.int (SL 0 ns).2)), some (.l μ.length), some (.d (.int 0)), none], μ ++ [[]]) := by
    refine z_par (ws := [.l μ.length, .d (.int 0)]) (e_cons (e_lst0 (cs := []) e_nil rfl (Nat.zero_le _)) (e_cons e_k e_nil)) rfl
  have st3 : evS (RK k) CC WH (.ret (.op .tupleOf (.cons (.var 3) .nil))) [some (.d (pr (SL 0 ns))), some (.d (.int 1)), some (.d (.int 1)), some (.l μ.length), y4, y5] (μ ++ [([] ++ ns).map .int]) = some (.rt (.d (row ns)), [some (.d (pr (SL 0 ns))), some (.d (.int 1)), some (.d (.int 1)), some (.l μ.length), y4, y5], μ ++ [([] ++ ns).map .int]) := by
    refine z_ret0 (e_op0 (e_cons (e_var rfl) e_nil) (conts_new μ _) rfl)
  exact rk_rt _ rfl rfl (z_cons st1 (z_cons st2 (z_cons (s := .whl _ b5l0) e (z_consr st3)))) (take_app μ _)
end K83
set_option Elab.async false
set_option linter.all false
set_option maxRecDepth 100000
namespace K83
open PySem Cz
local macro_rules | `(tactic| trivial) => `(tactic| repeat' (first
  | exact e_nil | exact e_k | exact z_nil | (apply e_var; rfl) | (apply e_glob; rfl) | apply e_cons
  | apply e_op0 | apply e_tup0 | apply e_call0 | apply e_not
  | exact run_mul (by assumption) _ | exact run_mul' (by assumption) _ | exact run_fdiv (by assumption) (by assumption) _ | exact run_md (by assumption) _ | exact run_eq_int _ _ | exact run_ne_int _ _
  | apply z_par | apply z_asg | apply z_asgt | apply z_ret | (apply z_consr; apply z_ret) | apply z_cons | rfl | (apply e_chain) | (apply e_and) | (apply e_or) | (intro _) | exact Nat.le_of_ble_eq_true rfl))
theorem cut_tail {α : Type} (x : α) (xs : List α) : cutA (x :: xs) (some 1) none = xs := by
  unfold cutA HT.sIx
  simp
theorem cut_nil {α : Type} : cutA ([] : List α) (some 1) none = [] := by
  unfold cutA HT.sIx
  simp
structure Ok (ns : List Int) : Prop where
  v : Val0 ns
  b : ∀ m ∈ ns, m ≤ GR
  l : ns.length ≤ 100
theorem Ok.b64 {ns : List Int} (h : Ok ns) : ∀ m ∈ ns, B64 m := fun m hm => ⟨by have := h.v.nonneg m hm; omega, by have h2 : m ≤ 1000000000000000000 := h.b m hm; show m < 18446744073709551616; omega⟩
theorem Ok.ne0 {ns : List Int} (h : Ok ns) : ns ≠ [0] := fun z => by
  subst z
  have : (1 : Int) ≤ 0 := h.v
  omega
theorem tail_gt (k : Nat) (R : PyData) (ns : List Int) (hp : Pos ns) (hl : ns.length ≤ 100) (μ : Store) (e : evE (RK k) CC (.op .sl10 (.cons (.var 0) (.cons (.k (.int 1)) .nil))) [some (.d R), none] μ = some ([.d (row ns)], μ)) :
    evE (RK k) CC (.op .all (.cons (.comp (.op .gt (.cons (.var 1) (.cons (.k (.int 0)) .nil))) (.nm 1) .seq (.cons (.op .sl10 (.cons (.var 0) (.cons (.k (.int 1)) .nil))) .nil) .nil) .nil)) [some (.d R), none] μ = some ([.d (.bool true)], μ) := by
  let g : PyData → Bool := fun x => match x with | .int i => decide (0 < i) | _ => false
  have h : evE (RK k) CC (.comp (.op .gt (.cons (.var 1) (.cons (.k (.int 0)) .nil))) (.nm 1) .seq (.cons (.op .sl10 (.cons (.var 0) (.cons (.k (.int 1)) .nil))) .nil) .nil) [some (.d R), none] μ = some ([.l μ.length], μ ++ [(ns.map .int).map fun x => .bool (g x)]) := by
    refine e_compM (cs := [row ns]) (xs := ns.map .int) (fun x => .bool (g x)) (e_cons e e_nil) rfl (by rw [List.length_map]; exact Nat.le_trans hl (by decide)) fun x hx => ?_
    obtain ⟨i, _, rfl⟩ := List.mem_map.mp hx
    refine turn_map (ρ' := [some (.d R), some (.d (.int i))]) rfl ?_
    show evE (RK k) CC _ _ μ = some ([.d (.bool (decide (0 < i)))], μ)
    trivial
  have e2 := run_all g (ns.map .int)
  have e3 : (ns.map PyData.int).all g = true := by
    rw [List.all_eq_true]
    intro x hx
    obtain ⟨i, hi, rfl⟩ := List.mem_map.mp hx
    exact decide_eq_true (by have := hp i hi; omega)
  rw [e3] at e2
  exact e_opl (e_cons h e_nil) e2
theorem r4 (k : Nat) (ns : List Int) (h : Ok ns) (μ : Store) : RK (k + 2) 4 [.d (row ns)] μ = some (.d (.bool true), μ) := by
  have h1 : RK (k + 1) 1 [.d (row ns), .d (.int 0), .d (.int 100)] μ = some (.d (.bool true), μ) := by
    have e : isTp (row ns) 0 100 = true := by
      show (decide ((0 : Int) ≤ ((ns.map PyData.int).length : Int)) && decide (((ns.map PyData.int).length : Int) ≤ 100)) = true
      rw [List.length_map, decide_eq_true (by omega), decide_eq_true (by have := h.l; omega)]
      rfl
    have := r1 k (row ns) 0 100 μ
    rw [e] at this
    exact this
  have h2 : evE (RK (k + 1)) CC (.op .all (.cons (.comp (.call 0 (.cons (.var 1) (.cons (.k (.int 0)) (.cons (.glob 0) .nil)))) (.nm 1) .seq (.cons (.var 0) .nil) .nil) .nil)) [some (.d (row ns)), none] μ = some ([.d (.bool true)], μ) := by
    have e := all_whole k 0 (ns.map .int) μ (by rw [List.length_map]; exact Nat.le_trans h.l (by decide))
    have e3 : ((ns.map PyData.int).all fun x => isW x 0 GR) = true := by
      rw [List.all_eq_true]
      intro x hx
      obtain ⟨i, hi, rfl⟩ := List.mem_map.mp hx
      show (decide (0 ≤ i) && decide (i ≤ GR)) = true
      rw [decide_eq_true (h.v.nonneg i hi), decide_eq_true (h.b i hi)]
      rfl
    rw [e3] at e
    exact e
  have h3 : evE (RK (k + 1)) CC (.op .all (.cons (.comp (.op .gt (.cons (.var 1) (.cons (.k (.int 0)) .nil))) (.nm 1) .seq (.cons (.op .sl10 (.cons (.var 0) (.cons (.k (.int 1)) .nil))) .nil) .nil) .nil)) [some (.d (row ns)), none] μ = some ([.d (.bool true)], μ) := by
    cases ns with
    | nil =>
      refine tail_gt (k + 1) (row []) [] (fun m hm => by cases hm) (by decide) μ (e_op0 (ws := [.d (row []), .d (.int 1)]) ?_ rfl ?_)
      · trivial
      · show some (Res.d (.tuple (cutA ([] : List PyData) (some 1) none))) = _
        rw [cut_nil]
        rfl
    | cons m r =>
      refine tail_gt (k + 1) (row (m :: r)) r h.v.tail (by have := h.l; simp at this; omega) μ (e_op0 (ws := [.d (row (m :: r)), .d (.int 1)]) ?_ rfl ?_)
      · trivial
      · show some (Res.d (.tuple (cutA (PyData.int m :: r.map .int) (some 1) none))) = _
        rw [cut_tail]
        rfl
  have h4 : Op.ne.run [row ns, row [0]] = some (.d (.bool true)) := by
    rw [run_ne_row, decide_eq_false h.ne0]
    rfl
  refine rk0 _ rfl rfl (z_cons (z_ifs0 false (e_or false false (e_not true ?_) fun _ => e_not true h2) (fun z => by cases z) fun _ => z_nil) (z_consr (z_ret (e_and true true h3 fun _ => e_op0 (ws := [.d (row ns), .d (row [0])]) ?_ rfl h4))))
  · refine e_call0 (ws := [.d (row ns), .d (.int 0), .d (.int 100)]) ?_ h1
    trivial
  · refine e_cons (e_var rfl) (e_cons (e_tup0 (ws := [.d (.int 0)]) ?_ rfl (by decide)) e_nil)
    trivial

/-! ### what the layer of slopes answers on valid runs -/
/-- valid runs whose slope is small enough -/
structure Ok2 (ns : List Int) : Prop where
  o : Ok ns
  s1 : (SL 0 ns).1 ≤ GR
  s2 : (SL 0 ns).2 ≤ GR
theorem det_bnd : ∀ (ns : List Int) (t : Nat) (s : I2 × I2), (bnd t ns s).2.1 * (bnd t ns s).1.2 - (bnd t ns s).1.1 * (bnd t ns s).2.2 = s.2.1 * s.1.2 - s.1.1 * s.2.2
  | [], _, _ => rfl
  | m :: r, t, s => by
    show (bnd (t + 1) r (bst t m s)).2.1 * (bnd (t + 1) r (bst t m s)).1.2 - (bnd (t + 1) r (bst t m s)).1.1 * (bnd (t + 1) r (bst t m s)).2.2 = _
    rw [det_bnd r]
    unfold bst
    by_cases h : t % 2 = 0
    · rw [if_pos h]
      simp only []
      grind
    · rw [if_neg h]
      simp only []
      grind
theorem det_B (ns : List Int) : (B ns).2.1 * (B ns).1.2 - (B ns).1.1 * (B ns).2.2 = 1 := by
  unfold B
  rw [det_bnd]
  rfl
theorem gcd_SL (ns : List Int) : ((Nat.gcd (SL 0 ns).1.natAbs (SL 0 ns).2.natAbs : Nat) : Int) = 1 := by
  have hd := det_B ns
  have hm := mid_B ns
  have h1 : (SL 0 ns).1 = (B ns).1.1 + (B ns).2.1 := by rw [← hm]; rfl
  have h2 : (SL 0 ns).2 = (B ns).1.2 + (B ns).2.2 := by rw [← hm]; rfl
  have d1 : ((Nat.gcd (SL 0 ns).1.natAbs (SL 0 ns).2.natAbs : Nat) : Int) ∣ (SL 0 ns).1 := Int.ofNat_dvd_left.mpr (Nat.gcd_dvd_left _ _)
  have d2 : ((Nat.gcd (SL 0 ns).1.natAbs (SL 0 ns).2.natAbs : Nat) : Int) ∣ (SL 0 ns).2 := Int.ofNat_dvd_left.mpr (Nat.gcd_dvd_right _ _)
  generalize Nat.gcd (SL 0 ns).1.natAbs (SL 0 ns).2.natAbs = g at d1 d2 ⊢
  have e : (1 : Int) = (B ns).2.1 * (SL 0 ns).2 - (SL 0 ns).1 * (B ns).2.2 := by
    rw [h1, h2, ← hd]
    grind
  have d3 : (g : Int) ∣ 1 := by
    rw [e]
    exact Int.dvd_sub (Int.dvd_trans d2 (Int.dvd_mul_left _ _)) (Int.dvd_trans d1 (Int.dvd_mul_right _ _))
  have d4 : g ∣ 1 := Int.ofNat_dvd_left.mp d3
  rw [Nat.dvd_one.mp d4]
  rfl
theorem isS_SL {ns : List Int} (h : Ok2 ns) : isS (pr (SL 0 ns)) = true := by
  obtain ⟨h1, h2⟩ := SL_pos ns 0 h.o.v.nonneg
  show (isW (.int (SL 0 ns).1) 1 GR && isW (.int (SL 0 ns).2) 1 GR && decide (((Nat.gcd (SL 0 ns).1.natAbs (SL 0 ns).2.natAbs : Nat) : Int) = 1)) = true
  rw [gcd_SL]
  show (decide (1 ≤ (SL 0 ns).1) && decide ((SL 0 ns).1 ≤ GR) && (decide (1 ≤ (SL 0 ns).2) && decide ((SL 0 ns).2 ≤ GR)) && true) = true
  rw [decide_eq_true h1, decide_eq_true h2, decide_eq_true h.s1, decide_eq_true h.s2]
  rfl
theorem r5' (k : Nat) {ns : List Int} (h : Ok2 ns) (μ : Store) : RK (k + 1) 5 [.d (pr (SL 0 ns))] μ = some (.d (row ns), μ) :=
  r5 k ns μ h.o.v h.o.b64 (Int.lt_of_le_of_lt h.s1 (by decide)) (Int.lt_of_le_of_lt h.s2 (by decide)) (Nat.le_trans h.o.l (by decide))
theorem need (k : Nat) {ns : List Int} (h : Ok2 ns) {i : Nat} {ρ : Slots} {v : Val} (hv : ρ[i]? = some (some (.d (pr (SL 0 ns))))) (μ : Store) : evS (RK (k + 3)) CC WH (.expr (.call 3 (.cons (.var i) .nil))) ρ μ = some (.nx, ρ, μ) :=
  z_expr0 (e_call0 (e_cons (e_var hv) e_nil) (r3 k _ (isS_SL h) μ))
theorem r11 (k : Nat) {ns : List Int} (h : Ok2 ns) (μ : Store) : RK (k + 4) 11 [.d (pr (SL 0 ns))] μ = some (.d (row ns), μ) :=
  rk0 _ rfl rfl (z_cons (need k h (v := .d .none) rfl μ) (z_consr (z_ret0 (e_call0 (e_cons (e_var rfl) e_nil) (r5' (k + 2) h μ)))))
theorem r12 (k : Nat) {ns : List Int} (h : Ok ns) (μ : Store) : RK (k + 3) 12 [.d (row ns)] μ = some (.d (pr (SL 0 ns)), μ) := by
  have e4 := r4 k ns h μ
  have e6 := r6 (k + 1) ns h.b64 μ
  have e7 := r7p (k + 1) (B ns).1 (B ns).2 μ
  have em : ((B ns).1.1 + (B ns).2.1, (B ns).1.2 + (B ns).2.2) = SL 0 ns := mid_B ns
  rw [em] at e7
  refine rk0 _ rfl rfl (z_cons (z_ifs0 false (e_not true (e_call0 (e_cons (e_var rfl) e_nil) e4)) (fun z => by cases z) fun _ => z_nil) (z_cons (z_asgt (μ1 := μ) (ds := [pr (B ns).1, pr (B ns).2]) (e_call0 (e_cons (e_var rfl) e_nil) e6) rfl) (z_consr (z_ret0 (e_call0 (ws := [.d (pr (B ns).1), .d (pr (B ns).2)]) ?_ e7)))))
  exact e_cons (e_var rfl) (e_cons (e_var rfl) e_nil)
theorem r13 (k : Nat) {ns : List Int} (h : Ok2 ns) (μ : Store) : RK (k + 4) 13 [.d (pr (SL 0 ns))] μ = some (.d (.int ns.sum), μ) :=
  rk0 _ rfl rfl (z_cons (need k h (v := .d .none) rfl μ) (z_consr (z_ret0 (e_op0 (e_cons (e_call0 (e_cons (e_var rfl) e_nil) (r5' (k + 2) h μ)) e_nil) rfl (run_sum_row ns)))))
theorem r14 (k : Nat) {ns : List Int} (h : Ok2 ns) (μ : Store) : RK (k + 4) 14 [.d (pr (SL 0 ns))] μ = some (.d (.tuple [pr (B ns).1, pr (B ns).2]), μ) :=
  rk0 _ rfl rfl (z_cons (need k h (v := .d .none) rfl μ) (z_consr (z_ret0 (e_call0 (e_cons (e_call0 (e_cons (e_var rfl) e_nil) (r5' (k + 2) h μ)) e_nil) (r6 (k + 2) ns h.o.b64 μ)))))
end K83
set_option Elab.async false
set_option linter.all false
set_option maxRecDepth 100000
set_option maxHeartbeats 1000000
namespace K83
open PySem Cz
local macro_rules | `(tactic| trivial) => `(tactic| repeat' (first
  | exact e_nil | exact e_k | exact z_nil | (apply e_var; rfl) | (apply e_glob; rfl) | apply e_cons
  | apply e_op0 | apply e_tup0 | apply e_call0 | apply e_not
  | exact run_mul (by assumption) _ | exact run_mul' (by assumption) _ | exact run_fdiv (by assumption) (by assumption) _ | exact run_md (by assumption) _ | exact run_eq_int _ _ | exact run_ne_int _ _
  | apply z_par | apply z_asg | apply z_asgt | apply z_ret | (apply z_consr; apply z_ret) | apply z_cons | rfl | (apply e_chain) | (apply e_and) | (apply e_or) | (intro _) | exact Nat.le_of_ble_eq_true rfl))


theorem r15 (k : Nat) {ns : List Int} (h : Ok2 ns) (μ : Store) : RK (k + 4) 15 [.d (pr (SL 0 ns))] μ =
    some (.d (.tuple [pr ((B ns).1.1 + (SL 0 ns).1, (B ns).1.2 + (SL 0 ns).2), pr ((SL 0 ns).1 + (B ns).2.1, (SL 0 ns).2 + (B ns).2.2)]), μ) := by
  have e1 := r7p (k + 2) (B ns).1 (SL 0 ns) μ
  have e2 := r7p (k + 2) (SL 0 ns) (B ns).2 μ
  refine rk0 _ rfl rfl (z_cons (need k h (v := .d .none) rfl μ) (z_cons (z_asgt (μ1 := μ) (ds := [pr (B ns).1, pr (B ns).2]) (e_call0 (e_cons (e_call0 (e_cons (e_var rfl) e_nil) (r5' (k + 2) h μ)) e_nil) (r6 (k + 2) ns h.o.b64 μ)) rfl)
    (z_consr (z_ret0 (e_tup0 (ws := [.d (pr ((B ns).1.1 + (SL 0 ns).1, (B ns).1.2 + (SL 0 ns).2)), .d (pr ((SL 0 ns).1 + (B ns).2.1, (SL 0 ns).2 + (B ns).2.2))]) (e_cons (e_call0 (e_cons (e_var rfl) (e_cons (e_var rfl) e_nil)) e1) (e_cons (e_call0 (e_cons (e_var rfl) (e_cons (e_var rfl) e_nil)) e2) e_nil)) rfl (Nat.le_of_ble_eq_true rfl))))))
/-! ### meeting -/
theorem eqDs_ints : ∀ ns : List Int, eqDs (ns.map .int) (ns.map .int) = true
  | [] => rfl
  | n :: ns => by
    show (eqD (.int n) (.int n) && eqDs (ns.map .int) (ns.map .int)) = true
    rw [eqDs_ints ns, Bool.and_true]
    show (n == n) = true
    exact beq_self_eq_true n
/-- bounds_by of a list of the store's -/
theorem l6L (k : Nat) (R : Val) (μ : Store) (ok : Store → Bool) (hok : ok μ = true) : ∀ (ns : List Int) (i : Nat) (s : I2 × I2) (x3 x4 : Option Val), (∀ m ∈ ns, B64 m) →
    ∃ y3 y4, forL (.tp [3, 4]) (evS (RK k) CC WH b6l0) ok (enumFrom i (ns.map .int)) [some R, some (.d (pr s.1)), some (.d (pr s.2)), x3, x4] μ = some (.nx, [some R, some (.d (pr (bnd i ns s).1)), some (.d (pr (bnd i ns s).2)), y3, y4], μ)
  | [], i, s, x3, x4, _ => ⟨x3, x4, l_done hok⟩
  | m :: ns, i, s, x3, x4, h => by
    obtain ⟨y3, y4, e⟩ := l6L k R μ ok hok ns (i + 1) (bst i m s) (some (.d (.int (i : Int)))) (some (.d (.int m))) fun z hz => h z (List.mem_cons_of_mem _ hz)
    exact ⟨y3, y4, l_nx (ρ2 := [some R, some (.d (pr s.1)), some (.d (pr s.2)), some (.d (.int (i : Int))), some (.d (.int m))]) hok rfl (s6 k R s i m (h m List.mem_cons_self) μ) e⟩
theorem z_forl {F : CallF} {C : List PyData} {fu : Nat} {t : Tg} {ik : Ik} {es : E} {s : S} {ρ : Slots} {μ : Store} {n : Nat} {ds xs : List PyData} {r : Fl × Slots × Store} (h : evE F C es ρ μ = some ([.l n], μ)) (hn : μ[n]? = some ds) (hi : ik.items [.list ds] = some xs)
    (hr : forL t (evS F C fu s) (fun μ' => sames μ' [.l n] [.list ds]) xs ρ μ = some r) : evS F C fu (.for_ t ik es s) ρ μ = some r := by
  have hl : n < μ.length := (List.getElem?_eq_some_iff.mp hn).1
  have e1 : thaws μ.length μ [.l n] = some [.l n] := by
    show ((if n < μ.length then some (Val.l n) else (μ[n]?).map fun ds => Val.d (.list ds)).bind _) = _
    rw [if_pos hl]
    rfl
  have e2 : conts μ [.l n] = some [.list ds] := by
    show (((μ[n]?).map PyData.list).bind _) = _
    rw [hn]
    rfl
  show (evE F C es ρ μ).bind _ = _
  rw [h]
  show ((thaws μ.length μ [.l n]).bind _) = _
  rw [e1]
  show ((conts μ [.l n]).bind _) = _
  rw [e2]
  show ((ik.items [.list ds]).bind _) = _
  rw [hi]
  show forL t (evS F C fu s) (fun μ' => sames μ' [.l n] [.list ds]) xs ρ (μ.take μ.length) = _
  rw [take_self]
  exact hr
theorem r6L (k : Nat) (ns : List Int) (h : ∀ m ∈ ns, B64 m) (μ : Store) (n : Nat) (hn : μ[n]? = some (ns.map .int)) : RK (k + 1) 6 [.l n] μ = some (.d (.tuple [pr (B ns).1, pr (B ns).2]), μ) := by
  obtain ⟨y3, y4, e⟩ := l6L k (.l n) μ (fun μ' => sames μ' [.l n] [.list (ns.map .int)]) (by
    show (same μ (.l n) (.list (ns.map .int)) && true) = true
    show ((match μ[n]? with | some es => eqDs es (ns.map .int) | none => false) && true) = true
    rw [hn]
    show (eqDs (ns.map .int) (ns.map .int) && true) = true
    rw [eqDs_ints]
    rfl) ns 0 ((0, 1), (1, 0)) none none h
  refine rk0 _ rfl rfl (z_cons (ρ' := [some (.l n), some (.d (pr (0, 1))), some (.d (pr (1, 0))), none, none]) (μ1 := μ) ?_ (z_cons (z_forl (n := n) (ds := ns.map .int) (xs := enumFrom 0 (ns.map .int)) ?_ hn rfl e) (z_consr (z_ret ?_))))
  · refine z_par (ws := [.d (pr (0, 1)), .d (pr (1, 0))]) ?_ rfl
    trivial
  · exact e_cons (e_var rfl) e_nil
  · trivial
def com : List Int → List Int → List Int
  | a :: r, b :: s => if a = b then a :: com r s else [if b < a then b else a]
  | _, _ => []
theorem l16 (k : Nat) (v0 v1 v3 v4 : Option Val) (μ : Store) : ∀ (ns ms found : List Int) (x5 x6 : Option Val), found.length + ns.length < sizeMax →
    ∃ y5 y6, forL (.tp [5, 6]) (evS (RK k) CC WH b16l0) (fun _ => true) (zipD (ns.map .int) (ms.map .int)) [v0, v1, some (.l μ.length), v3, v4, x5, x6, none, none] (μ ++ [found.map .int]) =
      some (.nx, [v0, v1, some (.l μ.length), v3, v4, y5, y6, none, none], μ ++ [(found ++ com ns ms).map .int])
  | [], ms, found, x5, x6, _ => ⟨x5, x6, by
    rw [com, List.append_nil]
    · exact l_done rfl
    · simp⟩
  | a :: r, [], found, x5, x6, _ => ⟨x5, x6, by
    rw [com, List.append_nil]
    · exact l_done rfl
    · simp⟩
  | a :: r, b :: s, found, x5, x6, hl => by
    rw [List.length_cons] at hl
    have ap : evS (RK k) CC WH (.app (.var 2) (.op .min2 (.cons (.var 5) (.cons (.var 6) .nil)))) [v0, v1, some (.l μ.length), v3, v4, some (.d (.int a)), some (.d (.int b)), none, none] (μ ++ [found.map .int]) =
        some (.nx, [v0, v1, some (.l μ.length), v3, v4, some (.d (.int a)), some (.d (.int b)), none, none], μ ++ [(found ++ [if b < a then b else a]).map .int]) := by
      have e := z_app (F := RK k) (C := CC) (fu := WH) (a := .var 2) (b := .op .min2 (.cons (.var 5) (.cons (.var 6) .nil))) (n := μ.length) (y := .int (if b < a then b else a)) (ρ := [v0, v1, some (.l μ.length), v3, v4, some (.d (.int a)), some (.d (.int b)), none, none]) (μ := μ ++ [found.map .int])
        (e_var rfl) (e_op0 (e_cons (e_var rfl) (e_cons (e_var rfl) e_nil)) rfl rfl) (get_last μ _) (by rw [List.length_map]; omega)
      rw [set_last] at e
      rw [List.map_append]
      exact e
    have cn : evE (RK k) CC (.op .ne (.cons (.var 5) (.cons (.var 6) .nil))) [v0, v1, some (.l μ.length), v3, v4, some (.d (.int a)), some (.d (.int b)), none, none] (μ ++ [(found ++ [if b < a then b else a]).map .int]) = some ([.d (.bool (!decide (a = b)))], μ ++ [(found ++ [if b < a then b else a]).map .int]) :=
      e_op0 (e_cons (e_var rfl) (e_cons (e_var rfl) e_nil)) rfl (run_ne_int a b)
    by_cases h : a = b
    · subst h
      rw [decide_eq_true rfl] at cn
      rw [if_neg (Int.lt_irrefl a)] at ap cn
      obtain ⟨y5, y6, e⟩ := l16 k v0 v1 v3 v4 μ r s (found ++ [a]) (some (.d (.int a))) (some (.d (.int a))) (by rw [List.length_append]; simp; omega)
      refine ⟨y5, y6, ?_⟩
      rw [com, if_pos rfl]
      rw [List.append_assoc] at e
      exact l_nx (ρ2 := [v0, v1, some (.l μ.length), v3, v4, some (.d (.int a)), some (.d (.int a)), none, none]) rfl rfl (z_cons ap (z_cons (z_ifs0 false cn (fun z => by cases z) fun _ => z_nil) z_nil)) e
    · rw [decide_eq_false h] at cn
      refine ⟨some (.d (.int a)), some (.d (.int b)), ?_⟩
      rw [com, if_neg h]
      have br : evS (RK k) CC WH (.ifs (.op .ne (.cons (.var 5) (.cons (.var 6) .nil))) (.cons .brk .nil) .nil) [v0, v1, some (.l μ.length), v3, v4, some (.d (.int a)), some (.d (.int b)), none, none] (μ ++ [(found ++ [if b < a then b else a]).map .int]) =
          some (.bk, [v0, v1, some (.l μ.length), v3, v4, some (.d (.int a)), some (.d (.int b)), none, none], μ ++ [(found ++ [if b < a then b else a]).map .int]) := z_ifs0 true cn (fun _ => z_consbk z_brk) fun z => by cases z
      have bd : evS (RK k) CC WH b16l0 [v0, v1, some (.l μ.length), v3, v4, some (.d (.int a)), some (.d (.int b)), none, none] (μ ++ [found.map .int]) =
          some (.bk, [v0, v1, some (.l μ.length), v3, v4, some (.d (.int a)), some (.d (.int b)), none, none], μ ++ [(found ++ [if b < a then b else a]).map .int]) := z_cons ap (z_consbk br)
      exact l_bk (ρ2 := [v0, v1, some (.l μ.length), v3, v4, some (.d (.int a)), some (.d (.int b)), none, none]) rfl rfl bd
theorem com_mem : ∀ (ns ms : List Int) (x : Int), x ∈ com ns ms → x ∈ ns ∨ x ∈ ms
  | [], ms, x, h => by
    rw [com] at h
    · cases h
    · simp
  | a :: r, [], x, h => by
    rw [com] at h
    · cases h
    · simp
  | a :: r, b :: s, x, h => by
    rw [com] at h
    split at h
    · rcases List.mem_cons.mp h with e | h
      · exact .inl (by rw [e]; exact List.mem_cons_self)
      · rcases com_mem r s x h with h | h
        · exact .inl (List.mem_cons_of_mem _ h)
        · exact .inr (List.mem_cons_of_mem _ h)
    · have e : x = if b < a then b else a := by simpa using h
      split at e
      · exact .inr (by rw [e]; exact List.mem_cons_self)
      · exact .inl (by rw [e]; exact List.mem_cons_self)
theorem r16 (k : Nat) {ns ms : List Int} (h : Ok2 ns) (h' : Ok2 ms) (μ : Store) : RK (k + 4) 16 [.d (pr (SL 0 ns)), .d (pr (SL 0 ms))] μ = some (.d (pr (SL 0 (com ns ms))), μ) := by
  obtain ⟨y5, y6, e⟩ := l16 (k + 3) (some (.d (pr (SL 0 ns)))) (some (.d (pr (SL 0 ms)))) (some (.d (row ns))) (some (.d (row ms))) μ ns ms [] none none (by have := h.o.l; simp [sizeMax]; omega)
  rw [List.nil_append] at e
  have hb : ∀ m ∈ com ns ms, B64 m := fun m hm => (com_mem ns ms m hm).elim (h.o.b64 m) (h'.o.b64 m)
  have e6 := r6L (k + 2) (com ns ms) hb (μ ++ [(com ns ms).map .int]) μ.length (get_last μ _)
  have e7 := r7p (k + 2) (B (com ns ms)).1 (B (com ns ms)).2 (μ ++ [(com ns ms).map .int])
  have em : ((B (com ns ms)).1.1 + (B (com ns ms)).2.1, (B (com ns ms)).1.2 + (B (com ns ms)).2.2) = SL 0 (com ns ms) := mid_B _
  rw [em] at e7
  have st3 : evS (RK (k + 3)) CC WH (.par [2, 3, 4] (.cons (.lst .nil) (.cons (.call 5 (.cons (.var 0) .nil)) (.cons (.call 5 (.cons (.var 1) .nil)) .nil)))) [some (.d (pr (SL 0 ns))), some (.d (pr (SL 0 ms))), none, none, none, none, none, none, none] μ =
      some (.nx, [some (.d (pr (SL 0 ns))), some (.d (pr (SL 0 ms))), some (.l μ.length), some (.d (row ns)), some (.d (row ms)), none, none, none, none], μ ++ [[]]) :=
    z_par (ws := [.l μ.length, .d (row ns), .d (row ms)]) (e_cons (e_lst0 (cs := []) e_nil rfl (Nat.zero_le _)) (e_cons (e_call0 (e_cons (e_var rfl) e_nil) (r5' (k + 2) h _)) (e_cons (e_call0 (e_cons (e_var rfl) e_nil) (r5' (k + 2) h' _)) e_nil))) rfl
  have st4 : evS (RK (k + 3)) CC WH (.for_ (.tp [5, 6]) .zip2 (.cons (.var 3) (.cons (.var 4) .nil)) b16l0) [some (.d (pr (SL 0 ns))), some (.d (pr (SL 0 ms))), some (.l μ.length), some (.d (row ns)), some (.d (row ms)), none, none, none, none] (μ ++ [[]]) =
      some (.nx, [some (.d (pr (SL 0 ns))), some (.d (pr (SL 0 ms))), some (.l μ.length), some (.d (row ns)), some (.d (row ms)), y5, y6, none, none], μ ++ [(com ns ms).map .int]) :=
    z_for (cs := [row ns, row ms]) (xs := zipD (ns.map .int) (ms.map .int)) (e_cons (e_var rfl) (e_cons (e_var rfl) e_nil)) rfl e
  have st5 : evS (RK (k + 3)) CC WH (.asg (.tp [7, 8]) (.call 6 (.cons (.var 2) .nil))) [some (.d (pr (SL 0 ns))), some (.d (pr (SL 0 ms))), some (.l μ.length), some (.d (row ns)), some (.d (row ms)), y5, y6, none, none] (μ ++ [(com ns ms).map .int]) =
      some (.nx, [some (.d (pr (SL 0 ns))), some (.d (pr (SL 0 ms))), some (.l μ.length), some (.d (row ns)), some (.d (row ms)), y5, y6, some (.d (pr (B (com ns ms)).1)), some (.d (pr (B (com ns ms)).2))], μ ++ [(com ns ms).map .int]) :=
    z_asgt (ds := [pr (B (com ns ms)).1, pr (B (com ns ms)).2]) (e_call0 (e_cons (e_var rfl) e_nil) e6) rfl
  have st6 : evS (RK (k + 3)) CC WH (.ret (.call 7 (.cons (.var 7) (.cons (.var 8) .nil)))) [some (.d (pr (SL 0 ns))), some (.d (pr (SL 0 ms))), some (.l μ.length), some (.d (row ns)), some (.d (row ms)), y5, y6, some (.d (pr (B (com ns ms)).1)), some (.d (pr (B (com ns ms)).2))] (μ ++ [(com ns ms).map .int]) =
      some (.rt (.d (pr (SL 0 (com ns ms)))), [some (.d (pr (SL 0 ns))), some (.d (pr (SL 0 ms))), some (.l μ.length), some (.d (row ns)), some (.d (row ms)), y5, y6, some (.d (pr (B (com ns ms)).1)), some (.d (pr (B (com ns ms)).2))], μ ++ [(com ns ms).map .int]) :=
    z_ret0 (e_call0 (ws := [.d (pr (B (com ns ms)).1), .d (pr (B (com ns ms)).2)]) (e_cons (e_var rfl) (e_cons (e_var rfl) e_nil)) e7)
  have n1 : evS (RK (k + 3)) CC WH (.expr (.call 3 (.cons (.var 0) .nil))) [some (.d (pr (SL 0 ns))), some (.d (pr (SL 0 ms))), none, none, none, none, none, none, none] μ = _ := need k h (v := .d .none) rfl μ
  have n2 : evS (RK (k + 3)) CC WH (.expr (.call 3 (.cons (.var 1) .nil))) [some (.d (pr (SL 0 ns))), some (.d (pr (SL 0 ms))), none, none, none, none, none, none, none] μ = _ := need k h' (v := .d .none) rfl μ
  have all := z_cons n1 (z_cons n2 (z_cons st3 (z_cons st4 (z_cons st5 (z_consr (s2 := .nil) st6)))))
  exact rk_rt ⟨p16.length, n16.length, b16⟩ rfl rfl all (take_app μ _)
end K83
set_option Elab.async false
set_option linter.all false
set_option maxRecDepth 100000
set_option maxHeartbeats 1000000
namespace K83
open PySem Cz
local macro_rules | `(tactic| trivial) => `(tactic| repeat' (first
  | exact e_nil | exact e_k | exact z_nil | (apply e_var; rfl) | (apply e_glob; rfl) | apply e_cons
  | apply e_op0 | apply e_tup0 | apply e_call0 | apply e_not
  | exact run_mul (by assumption) _ | exact run_mul' (by assumption) _ | exact run_fdiv (by assumption) (by assumption) _ | exact run_md (by assumption) _ | exact run_eq_int _ _ | exact run_ne_int _ _
  | apply z_par | apply z_asg | apply z_asgt | apply z_ret | (apply z_consr; apply z_ret) | apply z_cons | rfl | (apply e_chain) | (apply e_and) | (apply e_or) | (intro _) | exact Nat.le_of_ble_eq_true rfl))


/-! ### Euclid's quotients -/
def eu : Nat → Int → Int → List Int
  | 0, _, _ => []
  | n + 1, a, b => if 0 < b then (a / b) :: eu n b (a % b) else []
def fibn : Nat → Int
  | 0 => 1
  | 1 => 1
  | n + 2 => fibn (n + 1) + fibn n
theorem fibn_pos : ∀ n, 1 ≤ fibn n
  | 0 => by decide
  | 1 => by decide
  | n + 2 => by
    have h1 := fibn_pos (n + 1)
    have h2 := fibn_pos n
    show 1 ≤ fibn (n + 1) + fibn n
    omega
theorem fibn_mono (n : Nat) : fibn n ≤ fibn (n + 1) := by
  cases n with
  | zero => decide
  | succ n =>
    have := fibn_pos n
    show fibn (n + 1) ≤ fibn (n + 1) + fibn n
    omega
theorem fibn_le {n : Nat} : ∀ k, fibn n ≤ fibn (n + k)
  | 0 => Int.le_refl _
  | k + 1 => Int.le_trans (fibn_le k) (fibn_mono _)
theorem eu_pos {n : Nat} {a b : Int} (h : 0 < b) : eu (n + 1) a b = (a / b) :: eu n b (a % b) := by
  show (if 0 < b then _ else _) = _
  rw [if_pos h]
theorem eu_zero (n : Nat) (a : Int) : eu n a 0 = [] := by
  cases n with
  | zero => rfl
  | succ n => rfl
theorem lame : ∀ (n : Nat) (a b : Int), 0 < b → b ≤ a → b < n → fibn (eu n a b).length ≤ b
  | 0, a, b, h, _, hn => by omega
  | 1, a, b, h, _, hn => by omega
  | n + 2, a, b, h, hab, hn => by
    rw [eu_pos h, List.length_cons]
    have r0 := Int.emod_nonneg a (show b ≠ 0 by omega)
    have r1 := Int.emod_lt_of_pos a h
    generalize a % b = r at r0 r1
    by_cases hr : r = 0
    · subst hr
      rw [eu_zero]
      exact h
    · have hr0 : 0 < r := by omega
      rw [eu_pos hr0, List.length_cons]
      have s0 := Int.emod_nonneg b (show r ≠ 0 by omega)
      have s1 := Int.emod_lt_of_pos b hr0
      have hq : r + b % r ≤ b := by
        have h1 : 1 ≤ b / r := (Int.le_ediv_iff_mul_le hr0).mpr (by omega)
        have h2 := Int.mul_le_mul_of_nonneg_left h1 (show 0 ≤ r by omega)
        have h3 := Int.mul_ediv_add_emod b r
        omega
      have ih1 := lame (n + 1) b r hr0 (by omega) (by omega)
      rw [eu_pos hr0, List.length_cons] at ih1
      show fibn ((eu n r (b % r)).length + 1) + fibn (eu n r (b % r)).length ≤ b
      by_cases hs : b % r = 0
      · rw [hs, eu_zero]
        show (1 : Int) + 1 ≤ b
        omega
      · have ih2 := lame n r (b % r) (by omega) (by omega) (by omega)
        omega
theorem fibn_big : GR < fibn 87 := by decide +kernel
theorem lame_le {n : Nat} {a b : Int} (hb : 0 < b) (hab : b ≤ a) (hn : b < n) (h : b ≤ GR) : (eu n a b).length ≤ 86 := by
  refine Nat.le_of_not_lt fun hl => ?_
  have h1 := lame n a b hb hab hn
  have h2 : fibn 87 ≤ fibn (87 + ((eu n a b).length - 87)) := fibn_le _
  have e : 87 + ((eu n a b).length - 87) = (eu n a b).length := by omega
  rw [e] at h2
  have := fibn_big
  omega
theorem eu_len {n : Nat} {a b : Int} (ha : 1 ≤ a) (hb : 1 ≤ b) (hA : a ≤ GR) (hB : b ≤ GR) (hn : b < n) (hn' : a + 1 < n) : (eu n a b).length ≤ 87 := by
  cases n with
  | zero => omega
  | succ n =>
    rw [eu_pos (by omega), List.length_cons]
    have r0 := Int.emod_nonneg a (show b ≠ 0 by omega)
    have r1 := Int.emod_lt_of_pos a (show 0 < b by omega)
    have r2 : a % b ≤ a := by
      by_cases h : a < b
      · rw [Int.emod_eq_of_lt (by omega) h]; omega
      · omega
    by_cases hr : a % b = 0
    · rw [hr, eu_zero]
      decide
    · have := lame_le (n := n) (a := b) (b := a % b) (by omega) (by omega) (by omega) (by omega)
      omega
/-! ### quotients_in -/
theorem add_row (xs ys : List Int) (h : xs.length + ys.length ≤ sizeMax) : Op.add.run [row xs, row ys] = some (.d (row (xs ++ ys))) := by
  show (if (xs.map PyData.int).length + (ys.map PyData.int).length ≤ sizeMax then some (Res.d (.tuple (xs.map .int ++ ys.map .int))) else none) = _
  rw [List.length_map, List.length_map, if_pos h]
  unfold row
  rw [List.map_append]
theorem w9 (k : Nat) (R : Val) (μ : Store) : ∀ (n : Nat) (a b : Int) (found : List Int) (fu : Nat), 0 ≤ b → b < 2 ^ 64 → b < n → n ≤ fu → found.length + (eu n a b).length ≤ 1000 →
    ∃ g, whileN (fun ρ μ => (evE (RK k) CC (.op .gt (.cons (.var 2) (.cons (.k (.int 0)) .nil))) ρ μ).bind bool1) (evS (RK k) CC WH b9l0) fu [some R, some (.d (.int a)), some (.d (.int b)), some (.d (row found))] μ =
      some (.nx, [some R, some (.d (.int g)), some (.d (.int 0)), some (.d (row (found ++ eu n a b)))], μ)
  | 0, a, b, found, fu, h, _, hn, _, _ => by omega
  | n + 1, a, b, found, 0, h, _, hn, hf, _ => by omega
  | n + 1, a, b, found, fu + 1, h, h64, hn, hf, hl => by
    have cn : evE (RK k) CC (.op .gt (.cons (.var 2) (.cons (.k (.int 0)) .nil))) [some R, some (.d (.int a)), some (.d (.int b)), some (.d (row found))] μ = some ([.d (.bool (decide (0 < b)))], μ) := by trivial
    by_cases hb : 0 < b
    · rw [decide_eq_true hb] at cn
      rw [eu_pos hb] at hl ⊢
      rw [List.length_cons] at hl
      have r0 := Int.emod_nonneg a (show b ≠ 0 by omega)
      have r1 := Int.emod_lt_of_pos a hb
      obtain ⟨g, e⟩ := w9 k R μ n b (a % b) (found ++ [a / b]) fu r0 (by omega) (by omega) (by omega) (by rw [List.length_append, List.length_singleton]; omega)
      refine ⟨g, ?_⟩
      rw [List.append_assoc] at e
      have b1 : evS (RK k) CC WH b9l0 [some R, some (.d (.int a)), some (.d (.int b)), some (.d (row found))] μ = some (.nx, [some R, some (.d (.int b)), some (.d (.int (a % b))), some (.d (row (found ++ [a / b])))], μ) := by
        refine z_cons (z_par0 (ws := [.d (.int b), .d (.int (a % b)), .d (row (found ++ [a / b]))]) (e_cons (e_var rfl) (e_cons (e_op0 (e_cons (e_var rfl) (e_cons (e_var rfl) e_nil)) rfl (run_md hb a)) (e_cons (e_op0 (ws := [.d (row found), .d (row [a / b])]) (e_cons (e_var rfl) (e_cons (e_tup0 (ws := [.d (.int (a / b))]) (e_cons (e_op0 (e_cons (e_var rfl) (e_cons (e_var rfl) e_nil)) rfl (run_fdiv hb h64 a)) e_nil) rfl (Nat.le_of_ble_eq_true rfl)) e_nil)) rfl (add_row _ _ (by simp [sizeMax]; omega))) e_nil))) rfl) z_nil
      exact w_go (c_bool true cn) b1 e
    · have hb0 : b = 0 := by omega
      subst hb0
      rw [eu_zero, List.append_nil]
      rw [decide_eq_false (by omega)] at cn
      exact ⟨a, w_stop (c_bool false cn)⟩
end K83
set_option Elab.async false
set_option linter.all false
set_option maxRecDepth 100000
set_option maxHeartbeats 1000000
namespace K83
open PySem Cz
local macro_rules | `(tactic| trivial) => `(tactic| repeat' (first
  | exact e_nil | exact e_k | exact z_nil | (apply e_var; rfl) | (apply e_glob; rfl) | apply e_cons
  | apply e_op0 | apply e_tup0 | apply e_call0 | apply e_not
  | exact run_mul (by assumption) _ | exact run_mul' (by assumption) _ | exact run_fdiv (by assumption) (by assumption) _ | exact run_md (by assumption) _ | exact run_eq_int _ _ | exact run_ne_int _ _
  | apply z_par | apply z_asg | apply z_asgt | apply z_ret | (apply z_consr; apply z_ret) | apply z_cons | rfl | (apply e_chain) | (apply e_and) | (apply e_or) | (intro _) | exact Nat.le_of_ble_eq_true rfl))


def NQ : Nat := 10 ^ 19
theorem nq_wh : NQ ≤ WH := by decide +kernel
theorem nq_gr : GR + 1 < (NQ : Int) := by decide +kernel
/-- the quotients of a slope -/
def Q (p : I2) : List Int := eu NQ p.1 p.2
structure Sl (p : I2) : Prop where
  a1 : 1 ≤ p.1
  b1 : 1 ≤ p.2
  a2 : p.1 ≤ GR
  b2 : p.2 ≤ GR
theorem Sl.len {p : I2} (h : Sl p) : (Q p).length ≤ 87 := by
  have := nq_gr
  exact eu_len h.a1 h.b1 h.a2 h.b2 (by have := h.b2; omega) (by have := h.a2; omega)
theorem r9 (k : Nat) {p : I2} (h : Sl p) (μ : Store) : RK (k + 1) 9 [.d (pr p)] μ = some (.d (row (Q p)), μ) := by
  have hg := nq_gr
  have hl := h.len
  have hb2 : p.2 ≤ 1000000000000000000 := h.b2
  obtain ⟨g, e⟩ := w9 k (.d (pr p)) μ NQ p.1 p.2 [] WH (by have := h.b1; omega) (by omega) (by have := h.b2; omega) nq_wh (by rw [List.length_nil]; show 0 + (Q p).length ≤ 1000; omega)
  rw [List.nil_append] at e
  have s1 : evS (RK k) CC WH (.par [1, 2, 3] (.cons (.op .ix (.cons (.var 0) (.cons (.k (.int 0)) .nil))) (.cons (.op .ix (.cons (.var 0) (.cons (.k (.int 1)) .nil))) (.cons (.tup .nil) .nil)))) [some (.d (pr p)), none, none, none] μ = some (.nx, [some (.d (pr p)), some (.d (.int p.1)), some (.d (.int p.2)), some (.d (row []))], μ) := by
    refine z_par0 (ws := [.d (.int p.1), .d (.int p.2), .d (row [])]) ?_ rfl
    trivial
  exact rk_rt ⟨p9.length, n9.length, b9⟩ rfl rfl (z_cons s1 (z_cons (s := .whl _ b9l0) e (z_consr (s2 := .nil) (z_ret0 (e_var rfl))))) (take_self μ)
theorem r8 (k : Nat) (p q : I2) {m : Int} (hm : B64 m) (μ : Store) : RK (k + 1) 8 [.d (pr p), .d (pr q), .d (.int m)] μ = some (.d (pr (p.1 + m * q.1, p.2 + m * q.2)), μ) := by
  apply rk0 _ rfl rfl
  trivial
/-- the chain of convergents -/
def ch : List Int → I2 → I2 → List I2
  | [], _, _ => []
  | m :: r, ah, he => (ah.1 + m * he.1, ah.2 + m * he.2) :: ch r he (ah.1 + m * he.1, ah.2 + m * he.2)
theorem ch_len : ∀ (ns : List Int) (a h : I2), (ch ns a h).length = ns.length
  | [], _, _ => rfl
  | m :: r, a, h => by
    rw [ch, List.length_cons, List.length_cons, ch_len r]
theorem add_tup (xs ys : List PyData) (h : xs.length + ys.length ≤ sizeMax) : Op.add.run [.tuple xs, .tuple ys] = some (.d (.tuple (xs ++ ys))) := by
  show (if xs.length + ys.length ≤ sizeMax then some (Res.d (.tuple (xs ++ ys))) else none) = _
  rw [if_pos h]
theorem l10 (k : Nat) (R : Val) (μ : Store) : ∀ (ns : List Int) (ah he : I2) (found : List PyData) (x1 : Option Val), (∀ m ∈ ns, B64 m) → found.length + ns.length ≤ 1000 →
    ∃ y1 y3 y4, forL (.nm 1) (evS (RK (k + 1)) CC WH b10l0) (fun _ => true) (ns.map .int) [some R, x1, some (.d (.tuple found)), some (.d (pr ah)), some (.d (pr he))] μ = some (.nx, [some R, y1, some (.d (.tuple (found ++ (ch ns ah he).map pr))), y3, y4], μ)
  | [], ah, he, found, x1, _, _ => ⟨x1, some (.d (pr ah)), some (.d (pr he)), by
    have e : found ++ (ch [] ah he).map pr = found := List.append_nil found
    rw [e]
    exact l_done rfl⟩
  | m :: r, ah, he, found, x1, hb, hl => by
    rw [List.length_cons] at hl
    have hm := hb m List.mem_cons_self
    obtain ⟨y1, y3, y4, e⟩ := l10 k R μ r he (ah.1 + m * he.1, ah.2 + m * he.2) (found ++ [pr (ah.1 + m * he.1, ah.2 + m * he.2)]) (some (.d (.int m))) (fun x hx => hb x (List.mem_cons_of_mem _ hx)) (by rw [List.length_append, List.length_singleton]; omega)
    refine ⟨y1, y3, y4, ?_⟩
    rw [ch, List.map_cons]
    rw [List.append_assoc] at e
    have b1 : evS (RK (k + 1)) CC WH (.par [3, 4] (.cons (.var 4) (.cons (.call 8 (.cons (.var 3) (.cons (.var 4) (.cons (.var 1) .nil)))) .nil))) [some R, some (.d (.int m)), some (.d (.tuple found)), some (.d (pr ah)), some (.d (pr he))] μ =
        some (.nx, [some R, some (.d (.int m)), some (.d (.tuple found)), some (.d (pr he)), some (.d (pr (ah.1 + m * he.1, ah.2 + m * he.2)))], μ) :=
      z_par0 (ws := [.d (pr he), .d (pr (ah.1 + m * he.1, ah.2 + m * he.2))]) (e_cons (e_var rfl) (e_cons (e_call0 (e_cons (e_var rfl) (e_cons (e_var rfl) (e_cons (e_var rfl) e_nil))) (r8 k ah he hm μ)) e_nil)) rfl
    have b2 : evS (RK (k + 1)) CC WH (.asg (.nm 2) (.op .add (.cons (.var 2) (.cons (.tup (.cons (.var 4) .nil)) .nil)))) [some R, some (.d (.int m)), some (.d (.tuple found)), some (.d (pr he)), some (.d (pr (ah.1 + m * he.1, ah.2 + m * he.2)))] μ =
        some (.nx, [some R, some (.d (.int m)), some (.d (.tuple (found ++ [pr (ah.1 + m * he.1, ah.2 + m * he.2)]))), some (.d (pr he)), some (.d (pr (ah.1 + m * he.1, ah.2 + m * he.2)))], μ) :=
      z_asg0 (e_op0 (ws := [.d (.tuple found), .d (.tuple [pr (ah.1 + m * he.1, ah.2 + m * he.2)])]) (e_cons (e_var rfl) (e_cons (e_tup0 (e_cons (e_var rfl) e_nil) rfl (Nat.le_of_ble_eq_true rfl)) e_nil)) rfl (add_tup _ _ (by simp [sizeMax]; omega)))
    exact l_nx (ρ2 := [some R, some (.d (.int m)), some (.d (.tuple found)), some (.d (pr ah)), some (.d (pr he))]) rfl rfl (z_cons b1 (z_cons b2 z_nil)) e
theorem eu_nn : ∀ (n : Nat) (a b : Int), 0 ≤ a → a < 2 ^ 64 → b < 2 ^ 64 → ∀ m ∈ eu n a b, B64 m ∧ 0 ≤ m
  | 0, _, _, _, _, _, m, h => by cases h
  | n + 1, a, b, ha, ha2, hb2, m, h => by
    by_cases hb : 0 < b
    · rw [eu_pos hb] at h
      rcases List.mem_cons.mp h with e | h
      · have h1 : 0 ≤ a / b := Int.ediv_nonneg ha (by omega)
        have h2 : a / b ≤ a := Int.ediv_le_self _ ha
        rw [e]
        exact ⟨⟨by omega, by omega⟩, h1⟩
      · exact eu_nn n b (a % b) (by omega) hb2 (by have := Int.emod_lt_of_pos a hb; omega) m h
    · have : eu (n + 1) a b = [] := by
        show (if 0 < b then _ else []) = _
        rw [if_neg hb]
      rw [this] at h
      cases h
def ch0 (p : I2) : List I2 := ch (Q p) (0, 1) (1, 0)
theorem Q_b64 {p : I2} (h : Sl p) : ∀ m ∈ Q p, B64 m ∧ 0 ≤ m := by
  have h1 := h.a1
  have h2 : p.1 ≤ 1000000000000000000 := h.a2
  have h3 : p.2 ≤ 1000000000000000000 := h.b2
  exact eu_nn NQ p.1 p.2 (by omega) (by omega) (by omega)
theorem r10 (k : Nat) {p : I2} (h : Sl p) (μ : Store) : RK (k + 2) 10 [.d (pr p)] μ = some (.d (.tuple ((ch0 p).map pr)), μ) := by
  have hl := h.len
  obtain ⟨y1, y3, y4, e⟩ := l10 k (.d (pr p)) μ (Q p) (0, 1) (1, 0) [] none (fun m hm => (Q_b64 h m hm).1) (by rw [List.length_nil]; omega)
  have s1 : evS (RK (k + 1)) CC WH (.par [2, 3, 4] (.cons (.tup .nil) (.cons (.tup (.cons (.k (.int 0)) (.cons (.k (.int 1)) .nil))) (.cons (.tup (.cons (.k (.int 1)) (.cons (.k (.int 0)) .nil))) .nil)))) [some (.d (pr p)), none, none, none, none] μ =
      some (.nx, [some (.d (pr p)), none, some (.d (.tuple [])), some (.d (pr (0, 1))), some (.d (pr (1, 0)))], μ) := by
    refine z_par0 (ws := [.d (.tuple []), .d (pr (0, 1)), .d (pr (1, 0))]) ?_ rfl
    trivial
  have s2 := z_for (F := RK (k + 1)) (C := CC) (fu := WH) (es := .cons (.call 9 (.cons (.var 0) .nil)) .nil) (ρ := [some (.d (pr p)), none, some (.d (.tuple [])), some (.d (pr (0, 1))), some (.d (pr (1, 0)))]) (μ := μ) (ik := .seq) (cs := [row (Q p)]) (xs := (Q p).map .int) (e_cons (e_call0 (e_cons (e_var rfl) e_nil) (r9 k h μ)) e_nil) rfl e
  exact rk_rt ⟨p10.length, n10.length, b10⟩ rfl rfl (z_cons s1 (z_cons s2 (z_consr (s2 := .nil) (z_ret0 (e_var rfl))))) (take_self μ)
theorem isS_of {p : I2} (h : Sl p) (hg : ((Nat.gcd p.1.natAbs p.2.natAbs : Nat) : Int) = 1) : isS (pr p) = true := by
  show (isW (.int p.1) 1 GR && isW (.int p.2) 1 GR && decide (((Nat.gcd p.1.natAbs p.2.natAbs : Nat) : Int) = 1)) = true
  rw [hg]
  show (decide (1 ≤ p.1) && decide (p.1 ≤ GR) && (decide (1 ≤ p.2) && decide (p.2 ≤ GR)) && true) = true
  rw [decide_eq_true h.a1, decide_eq_true h.a2, decide_eq_true h.b1, decide_eq_true h.b2]
  rfl
theorem r17 (k : Nat) {p : I2} (h : Sl p) (hg : ((Nat.gcd p.1.natAbs p.2.natAbs : Nat) : Int) = 1) (μ : Store) : RK (k + 4) 17 [.d (pr p)] μ = some (.d (row (Q p)), μ) := by
  have n1 : evS (RK (k + 3)) CC WH (.expr (.call 3 (.cons (.var 0) .nil))) [some (.d (pr p))] μ = some (.nx, [some (.d (pr p))], μ) := z_expr0 (e_call0 (e_cons (e_var rfl) e_nil) (r3 k _ (isS_of h hg) μ))
  exact rk0 ⟨p17.length, n17.length, b17⟩ rfl rfl (z_cons n1 (z_consr (s2 := .nil) (z_ret0 (e_call0 (e_cons (e_var rfl) e_nil) (r9 (k + 2) h μ)))))
theorem r18 (k : Nat) {p : I2} (h : Sl p) (hg : ((Nat.gcd p.1.natAbs p.2.natAbs : Nat) : Int) = 1) (μ : Store) : RK (k + 4) 18 [.d (pr p)] μ = some (.d (.tuple ((ch0 p).map pr)), μ) := by
  have n1 : evS (RK (k + 3)) CC WH (.expr (.call 3 (.cons (.var 0) .nil))) [some (.d (pr p))] μ = some (.nx, [some (.d (pr p))], μ) := z_expr0 (e_call0 (e_cons (e_var rfl) e_nil) (r3 k _ (isS_of h hg) μ))
  exact rk0 ⟨p18.length, n18.length, b18⟩ rfl rfl (z_cons n1 (z_consr (s2 := .nil) (z_ret0 (e_call0 (e_cons (e_var rfl) e_nil) (r10 (k + 1) h μ)))))
end K83
set_option Elab.async false
set_option linter.all false
set_option maxRecDepth 100000
set_option maxHeartbeats 1000000
namespace K83
open PySem Cz
local macro_rules | `(tactic| trivial) => `(tactic| repeat' (first
  | exact e_nil | exact e_k | exact z_nil | (apply e_var; rfl) | (apply e_glob; rfl) | apply e_cons
  | apply e_op0 | apply e_tup0 | apply e_call0 | apply e_not
  | exact run_mul (by assumption) _ | exact run_mul' (by assumption) _ | exact run_fdiv (by assumption) (by assumption) _ | exact run_md (by assumption) _ | exact run_eq_int _ _ | exact run_ne_int _ _
  | apply z_par | apply z_asg | apply z_asgt | apply z_ret | (apply z_consr; apply z_ret) | apply z_cons | rfl | (apply e_chain) | (apply e_and) | (apply e_or) | (intro _) | exact Nat.le_of_ble_eq_true rfl))


theorem rk_st {k f : Nat} {vs : List Val} {μ : Store} {x : PyData} {ρ' : Slots} {μ' : Store} (d : Df) (hd : ds[f]? = some d) (hl : vs.length = d.np) (h : evS (RK k) CC WH d.body (startS d vs) μ = some (.rt (.d x), ρ', μ')) (h2 : μ'.length = μ.length) : RK (k + 1) f vs μ = some (.d x, μ') := by
  show ((ds[f]?).bind fun d => if vs.length = d.np then _ else none) = _
  rw [hd]
  show (if vs.length = d.np then (evS (RK k) CC WH d.body (startS d vs) μ).bind _ else none) = _
  rw [if_pos hl, h]
  show finV μ.length μ' (.d x) = _
  unfold finV
  rw [← h2, take_self]
/-! ### the draws -/
def C2 (a b : Int) : List PyData := [.int a, .int b]
structure Cup (a b : Int) : Prop where
  a0 : 0 ≤ a
  b0 : 0 ≤ b
  b1 : b < 2 ^ 62
theorem r20 (k : Nat) {a b m : Int} (c : Cup a b) (hm : 1 ≤ m) (hm2 : m < 2 ^ 64) (t : Store) : ∃ r a' b', 0 ≤ r ∧ r < m ∧ Cup a' b' ∧ RK (k + 1) 20 [.l 0, .d (.int m)] (C2 a b :: t) = some (.d (.int r), C2 a' b' :: t) := by
  have hm0 : 0 < m := by omega
  by_cases ha : 0 < a
  · refine ⟨a % m, a / m, b, Int.emod_nonneg _ (by omega), Int.emod_lt_of_pos _ hm0, ⟨Int.ediv_nonneg c.a0 (by omega), c.b0, c.b1⟩, ?_⟩
    have cn : evE (RK k) CC (.op .gt (.cons (.op .ix (.cons (.var 0) (.cons (.k (.int 0)) .nil))) (.cons (.k (.int 0)) .nil))) [some (.l 0), some (.d (.int m)), none, none] (C2 a b :: t) = some ([.d (.bool (decide (0 < a)))], C2 a b :: t) := by trivial
    rw [decide_eq_true ha] at cn
    have s1 : evS (RK k) CC WH (.asg (.nm 3) (.op .md (.cons (.op .int1 (.cons (.op .ix (.cons (.var 0) (.cons (.k (.int 0)) .nil))) .nil)) (.cons (.var 1) .nil)))) [some (.l 0), some (.d (.int m)), none, none] (C2 a b :: t) = some (.nx, [some (.l 0), some (.d (.int m)), none, some (.d (.int (a % m)))], C2 a b :: t) := by
      refine z_asg0 (w := .d (.int (a % m))) ?_
      trivial
    have s2 : evS (RK k) CC WH (.setix (.var 0) (.k (.int 0)) (.op .fdiv (.cons (.op .ix (.cons (.var 0) (.cons (.k (.int 0)) .nil))) (.cons (.var 1) .nil)))) [some (.l 0), some (.d (.int m)), none, some (.d (.int (a % m)))] (C2 a b :: t) = some (.nx, [some (.l 0), some (.d (.int m)), none, some (.d (.int (a % m)))], C2 (a / m) b :: t) := by
      refine z_setix (n := 0) (k := 0) (j := 0) (xs := C2 a b) (y := .int (a / m)) ?_ (e_var rfl) e_k rfl rfl
      trivial
    refine rk_st ⟨p20.length, n20.length, b20⟩ rfl rfl (z_consr (z_ifs0 true cn (fun _ => z_cons s1 (z_cons s2 (z_consr (s2 := .nil) (z_ret0 (e_var rfl))))) fun z => by cases z)) rfl
  · let b' := (b * 31237 + 8221) % 2147483399
    have hb' : 0 ≤ b' ∧ b' < 2147483399 := ⟨Int.emod_nonneg _ (by omega), Int.emod_lt_of_pos _ (by omega)⟩
    let d := (b' * (b' + 419)) % 2147483563
    refine ⟨(d / 1019) % m, a, b', Int.emod_nonneg _ (by omega), Int.emod_lt_of_pos _ hm0, ⟨c.a0, hb'.1, by have := hb'.2; omega⟩, ?_⟩
    have cn : evE (RK k) CC (.op .gt (.cons (.op .ix (.cons (.var 0) (.cons (.k (.int 0)) .nil))) (.cons (.k (.int 0)) .nil))) [some (.l 0), some (.d (.int m)), none, none] (C2 a b :: t) = some ([.d (.bool (decide (0 < a)))], C2 a b :: t) := by trivial
    rw [decide_eq_false ha] at cn
    have k1 : -(2 ^ 64) < b ∧ b < 2 ^ 64 := ⟨by have := c.b0; omega, by have := c.b1; omega⟩
    have k2 : -(2 ^ 64) < b' ∧ b' < 2 ^ 64 := ⟨by omega, by omega⟩
    have g1 : (0 : Int) < 2147483399 := by decide
    have g2 : (0 : Int) < 2147483563 := by decide
    have g3 : (0 : Int) < 1019 := by decide
    have g4 : (1019 : Int) < 2 ^ 64 := by decide
    have s1 : evS (RK k) CC WH (.setix (.var 0) (.k (.int 1)) (.op .md (.cons (.op .int1 (.cons (.op .add (.cons (.op .mul (.cons (.op .ix (.cons (.var 0) (.cons (.k (.int 1)) .nil))) (.cons (.k (.int 31237)) .nil))) (.cons (.k (.int 8221)) .nil))) .nil)) (.cons (.k (.int 2147483399)) .nil)))) [some (.l 0), some (.d (.int m)), none, none] (C2 a b :: t) = some (.nx, [some (.l 0), some (.d (.int m)), none, none], C2 a b' :: t) := by
      refine z_setix (n := 0) (k := 1) (j := 1) (xs := C2 a b) (y := .int b') ?_ (e_var rfl) e_k rfl rfl
      trivial
    have s2 : evS (RK k) CC WH (.asg (.nm 2) (.op .md (.cons (.op .int1 (.cons (.op .mul (.cons (.op .ix (.cons (.var 0) (.cons (.k (.int 1)) .nil))) (.cons (.op .add (.cons (.op .ix (.cons (.var 0) (.cons (.k (.int 1)) .nil))) (.cons (.k (.int 419)) .nil))) .nil))) .nil)) (.cons (.k (.int 2147483563)) .nil)))) [some (.l 0), some (.d (.int m)), none, none] (C2 a b' :: t) = some (.nx, [some (.l 0), some (.d (.int m)), some (.d (.int d)), none], C2 a b' :: t) := by
      refine z_asg0 (w := .d (.int d)) ?_
      trivial
    have s3 : evE (RK k) CC (.op .md (.cons (.op .int1 (.cons (.op .fdiv (.cons (.var 2) (.cons (.k (.int 1019)) .nil))) .nil)) (.cons (.var 1) .nil))) [some (.l 0), some (.d (.int m)), some (.d (.int d)), none] (C2 a b' :: t) = some ([.d (.int ((d / 1019) % m))], C2 a b' :: t) := by trivial
    refine rk_st ⟨p20.length, n20.length, b20⟩ rfl rfl (z_cons (z_ifs0 false cn (fun z => by cases z) fun _ => z_nil) (z_cons s1 (z_cons s2 (z_consr (s2 := .nil) (z_ret0 s3))))) rfl
end K83
set_option Elab.async false
set_option linter.all false
set_option maxRecDepth 100000
set_option maxHeartbeats 1000000
namespace K83
open PySem Cz
local macro_rules | `(tactic| trivial) => `(tactic| repeat' (first
  | exact e_nil | exact e_k | exact z_nil | (apply e_var; rfl) | (apply e_glob; rfl) | apply e_cons
  | apply e_op0 | apply e_tup0 | apply e_call0 | apply e_not
  | exact run_mul (by assumption) _ | exact run_mul' (by assumption) _ | exact run_fdiv (by assumption) (by assumption) _ | exact run_md (by assumption) _ | exact run_eq_int _ _ | exact run_ne_int _ _
  | apply z_par | apply z_asg | apply z_asgt | apply z_ret | (apply z_consr; apply z_ret) | apply z_cons | rfl | (apply e_chain) | (apply e_and) | (apply e_or) | (intro _) | exact Nat.le_of_ble_eq_true rfl))


theorem ix_first (ns : List Int) : ∃ x, Op.ix.run [.list (ns.map PyData.int ++ [.int 0]), .int 0] = some (.d (.int x)) := by
  cases ns with
  | nil => exact ⟨0, rfl⟩
  | cons n r =>
    refine ⟨n, ?_⟩
    show (atA (PyData.int n :: (r.map PyData.int ++ [.int 0])) 0).map Res.d = _
    unfold atA L2.ixN
    simp
    rw [if_pos (by omega)]
    rfl
theorem r19 (k : Nat) (ns : List Int) (hl : ns.length ≤ 63) : ∃ a b, Cup a b ∧ RK (k + 1) 19 [.d (.list (ns.map .int))] [] = some (.l 0, [C2 a b]) := by
  obtain ⟨x, hx⟩ := ix_first ns
  let c : Int := if x < 0 then -x else x
  have hc : 0 ≤ c := by
    show 0 ≤ (if x < 0 then -x else x)
    split <;> omega
  have e0 : evE (RK k) CC (.op .add (.cons (.op .listOf (.cons (.var 0) .nil)) (.cons (.lst (.cons (.k (.int 0)) .nil)) .nil))) [some (.d (.list (ns.map .int))), none] [] = some ([.l 0], [ns.map .int ++ [.int 0]]) := by
    refine e_opn (μ := []) [ns.map .int, [.int 0]] (ws := [.l 0, .l 1]) (cs := [.list (ns.map .int), .list [.int 0]]) ?_ rfl ?_
    · refine e_cons (μ1 := [ns.map .int]) (e_opn0 (μ := []) (e_cons (e_var rfl) e_nil) rfl rfl) (e_cons (e_lst0 (μ := [ns.map .int]) (e_cons e_k e_nil) rfl (by decide)) e_nil)
    · show (if (ns.map PyData.int).length + [PyData.int 0].length ≤ sizeMax then some (Res.new (ns.map PyData.int ++ [PyData.int 0])) else none) = _
      rw [if_pos (by rw [List.length_map]; simp [sizeMax]; omega)]
  have e1 : evE (RK k) CC (.op .ix (.cons (.op .add (.cons (.op .listOf (.cons (.var 0) .nil)) (.cons (.lst (.cons (.k (.int 0)) .nil)) .nil))) (.cons (.k (.int 0)) .nil))) [some (.d (.list (ns.map .int))), none] [] = some ([.d (.int x)], []) :=
    e_op (μ := []) [ns.map .int ++ [.int 0]] (ws := [.l 0, .d (.int 0)]) (cs := [.list (ns.map .int ++ [.int 0]), .int 0]) (e_cons e0 (e_cons e_k e_nil)) rfl hx
  have s1 : evS (RK k) CC WH (.asg (.nm 1) (.op .abs (.cons (.op .ix (.cons (.op .add (.cons (.op .listOf (.cons (.var 0) .nil)) (.cons (.lst (.cons (.k (.int 0)) .nil)) .nil))) (.cons (.k (.int 0)) .nil))) .nil))) [some (.d (.list (ns.map .int))), none] [] = some (.nx, [some (.d (.list (ns.map .int))), some (.d (.int c))], []) :=
    z_asg0 (e_op0 (e_cons e1 e_nil) rfl rfl)
  let b : Int := (c * 367 + 4129) % 2077503499 + 227
  have hb : 0 ≤ b ∧ b < 2 ^ 62 := by
    have h1 := Int.emod_nonneg (c * 367 + 4129) (show (2077503499 : Int) ≠ 0 by decide)
    have h2 := Int.emod_lt_of_pos (c * 367 + 4129) (show (0 : Int) < 2077503499 by decide)
    exact ⟨by show 0 ≤ _ + _; omega, by show _ + _ < _; omega⟩
  have k1 : -(2 ^ 64) < (367 : Int) ∧ (367 : Int) < 2 ^ 64 := by decide
  have g1 : (0 : Int) < 2077503499 := by decide
  have g2 : (0 : Int) < 131 := by decide
  have g3 : (131 : Int) < 2 ^ 64 := by decide
  have e2 : evE (RK k) CC (.op .add (.cons (.op .md (.cons (.op .int1 (.cons (.op .add (.cons (.op .mul (.cons (.var 1) (.cons (.k (.int 367)) .nil))) (.cons (.k (.int 4129)) .nil))) .nil)) (.cons (.k (.int 2077503499)) .nil))) (.cons (.k (.int 227)) .nil))) [some (.d (.list (ns.map .int))), some (.d (.int c))] [] = some ([.d (.int b)], []) := by trivial
  have cn : evE (RK k) CC (.op .ge (.cons (.var 1) (.cons (.op .pow (.cons (.k (.int 10)) (.cons (.k (.int 18)) .nil))) .nil))) [some (.d (.list (ns.map .int))), some (.d (.int c))] [] = some ([.d (.bool (decide ((1000000000000000000 : Int) ≤ c)))], []) := by trivial
  have e3 : ∃ a, 0 ≤ a ∧ evE (RK k) CC (.ite (.op .ge (.cons (.var 1) (.cons (.op .pow (.cons (.k (.int 10)) (.cons (.k (.int 18)) .nil))) .nil))) (.op .fdiv (.cons (.var 1) (.cons (.k (.int 131)) .nil))) (.k (.int 0))) [some (.d (.list (ns.map .int))), some (.d (.int c))] [] = some ([.d (.int a)], []) := by
    by_cases h : (1000000000000000000 : Int) ≤ c
    · rw [decide_eq_true h] at cn
      refine ⟨c / 131, Int.ediv_nonneg hc (by decide), e_ite true cn (fun _ => ?_) fun z => by cases z⟩
      trivial
    · rw [decide_eq_false h] at cn
      exact ⟨0, Int.le_refl _, e_ite false cn (fun z => by cases z) fun _ => e_k⟩
  obtain ⟨a, ha, e3⟩ := e3
  refine ⟨a, b, ⟨ha, hb.1, hb.2⟩, ?_⟩
  have s2 : evS (RK k) CC WH b19 [some (.d (.list (ns.map .int))), none] [] = some (.rt (.l 0), [some (.d (.list (ns.map .int))), some (.d (.int c))], [C2 a b]) :=
    z_cons s1 (z_consr (s2 := .nil) (z_ret (e_lst0 (μ := []) (e_cons e3 (e_cons e2 e_nil)) rfl (Nat.le_of_ble_eq_true rfl))))
  show ((ds[19]?).bind fun d => if [Val.d (.list (ns.map .int))].length = d.np then _ else none) = _
  show (evS (RK k) CC WH b19 [some (.d (.list (ns.map .int))), none] []).bind _ = _
  rw [s2]
  rfl
theorem r21 (k : Nat) {a b : Int} (c : Cup a b) (xs : List PyData) (h0 : 0 < xs.length) (hl : xs.length ≤ 1000) (t : Store) : ∃ x a' b', x ∈ xs ∧ Cup a' b' ∧ RK (k + 2) 21 [.l 0, .l 1] (C2 a b :: xs :: t) = some (.d x, C2 a' b' :: xs :: t) := by
  obtain ⟨r, a', b', h1, h2, c', e⟩ := r20 k c (m := (xs.length : Int)) (by omega) (by omega) (xs :: t)
  have hr : r.toNat < xs.length := by omega
  refine ⟨xs[r.toNat], a', b', List.getElem_mem hr, c', ?_⟩
  have ix : Op.ix.run [.list xs, .int r] = some (.d xs[r.toNat]) := by
    show (atA xs r).map Res.d = _
    unfold atA L2.ixN
    rw [if_pos h1, if_pos (by omega)]
    show (xs[r.toNat]?).map Res.d = _
    rw [List.getElem?_eq_getElem hr]
    rfl
  have e1 : evE (RK (k + 1)) CC (.call 20 (.cons (.var 0) (.cons (.op .len (.cons (.var 1) .nil)) .nil))) [some (.l 0), some (.l 1)] (C2 a b :: xs :: t) = some ([.d (.int r)], C2 a' b' :: xs :: t) :=
    e_call (e_cons (e_var rfl) (e_cons (e_op0 (e_cons (e_var rfl) e_nil) rfl rfl) e_nil)) e (take_self (C2 a' b' :: xs :: t))
  have e2 : evE (RK (k + 1)) CC (.op .ix (.cons (.var 1) (.cons (.call 20 (.cons (.var 0) (.cons (.op .len (.cons (.var 1) .nil)) .nil))) .nil))) [some (.l 0), some (.l 1)] (C2 a b :: xs :: t) = some ([.d xs[r.toNat]], C2 a' b' :: xs :: t) := by
    show (evE (RK (k + 1)) CC (.cons (.var 1) (.cons (.call 20 (.cons (.var 0) (.cons (.op .len (.cons (.var 1) .nil)) .nil))) .nil)) [some (.l 0), some (.l 1)] (C2 a b :: xs :: t)).bind _ = _
    rw [e_cons (w := .l 1) (e_var rfl) (e_cons e1 e_nil)]
    show (Op.ix.run [.list xs, .int r]).map _ = _
    rw [ix]
    show some ([Val.d _], (C2 a' b' :: xs :: t).take (C2 a b :: xs :: t).length) = _
    rw [show (C2 a b :: xs :: t).length = (C2 a' b' :: xs :: t).length from rfl, take_self]
  exact rk_st ⟨p21.length, n21.length, b21⟩ rfl rfl (z_consr (s2 := .nil) (z_ret e2)) rfl
end K83
set_option Elab.async false
set_option linter.all false
set_option maxRecDepth 100000
set_option maxHeartbeats 1000000
namespace K83
open PySem Cz
local macro_rules | `(tactic| trivial) => `(tactic| repeat' (first
  | exact e_nil | exact e_k | exact z_nil | (apply e_var; rfl) | (apply e_glob; rfl) | apply e_cons
  | apply e_op0 | apply e_tup0 | apply e_call0 | apply e_not
  | exact run_mul (by assumption) _ | exact run_mul' (by assumption) _ | exact run_fdiv (by assumption) (by assumption) _ | exact run_md (by assumption) _ | exact run_eq_int _ _ | exact run_ne_int _ _
  | apply z_par | apply z_asg | apply z_asgt | apply z_ret | (apply z_consr; apply z_ret) | apply z_cons | rfl | (apply e_chain) | (apply e_and) | (apply e_or) | (intro _) | exact Nat.le_of_ble_eq_true rfl))


theorem gcd_step {a b : Int} (ha : 0 ≤ a) (hb : 0 < b) : Nat.gcd b.natAbs (a % b).natAbs = Nat.gcd a.natAbs b.natAbs := by
  have e : (a % b).natAbs = a.natAbs % b.natAbs := by
    have h1 := Int.natAbs_of_nonneg ha
    have h2 := Int.natAbs_of_nonneg (show 0 ≤ b by omega)
    have h3 : ((a.natAbs % b.natAbs : Nat) : Int) = a % b := by
      rw [Int.natCast_emod, h1, h2]
    rw [← h3, Int.natAbs_natCast]
  rw [e, Nat.gcd_comm b.natAbs, ← Nat.gcd_rec, Nat.gcd_comm]
theorem w22 (k : Nat) (μ : Store) : ∀ (n : Nat) (a b : Int) (fu : Nat), 0 ≤ a → 0 ≤ b → b < n → n ≤ fu →
    whileN (fun ρ μ => (evE (RK k) CC (.op .ne (.cons (.var 1) (.cons (.k (.int 0)) .nil))) ρ μ).bind bool1) (evS (RK k) CC WH b22l0) fu [some (.d (.int a)), some (.d (.int b))] μ = some (.nx, [some (.d (.int ((Nat.gcd a.natAbs b.natAbs : Nat) : Int))), some (.d (.int 0))], μ)
  | 0, a, b, fu, ha, hb, hn, _ => by omega
  | n + 1, a, b, 0, ha, hb, hn, hf => by omega
  | n + 1, a, b, fu + 1, ha, hb, hn, hf => by
    have cn : evE (RK k) CC (.op .ne (.cons (.var 1) (.cons (.k (.int 0)) .nil))) [some (.d (.int a)), some (.d (.int b))] μ = some ([.d (.bool (!decide (b = 0)))], μ) := by trivial
    by_cases h : b = 0
    · subst h
      rw [decide_eq_true rfl] at cn
      have e : ((Nat.gcd a.natAbs (0 : Int).natAbs : Nat) : Int) = a := by
        rw [Int.natAbs_zero, Nat.gcd_zero_right, Int.natAbs_of_nonneg ha]
      rw [e]
      exact w_stop (c_bool false cn)
    · rw [decide_eq_false h] at cn
      have hb0 : 0 < b := by omega
      have r0 := Int.emod_nonneg a h
      have r1 := Int.emod_lt_of_pos a hb0
      have e := w22 k μ n b (a % b) fu hb r0 (by omega) (by omega)
      rw [gcd_step ha hb0] at e
      have b1 : evS (RK k) CC WH b22l0 [some (.d (.int a)), some (.d (.int b))] μ = some (.nx, [some (.d (.int b)), some (.d (.int (a % b)))], μ) := by
        refine z_cons (z_par0 (ws := [.d (.int b), .d (.int (a % b))]) ?_ rfl) z_nil
        trivial
      exact w_go (c_bool true cn) b1 e
theorem r22 (k : Nat) {a b : Int} (ha : 0 ≤ a) (hb : 0 ≤ b) (hB : b ≤ GR) (μ : Store) : RK (k + 1) 22 [.d (.int a), .d (.int b)] μ = some (.d (.int ((Nat.gcd a.natAbs b.natAbs : Nat) : Int)), μ) := by
  have hg := nq_gr
  have e := w22 k μ NQ a b WH ha hb (by omega) nq_wh
  exact rk_rt ⟨p22.length, n22.length, b22⟩ rfl rfl (z_cons (s := .whl _ b22l0) e (z_consr (s2 := .nil) (z_ret0 (e_var rfl)))) (take_self μ)
/-- a coprime pair from two numbers -/
theorem coprime_of {a b : Int} (ha : 1 ≤ a) (hb : 1 ≤ b) : ∃ g : Int, g = ((Nat.gcd a.natAbs b.natAbs : Nat) : Int) ∧ 0 < g ∧ g ≤ a ∧ 1 ≤ a / g ∧ 1 ≤ b / g ∧ a / g ≤ a ∧ b / g ≤ b ∧ ((Nat.gcd (a / g).natAbs (b / g).natAbs : Nat) : Int) = 1 := by
  have e1 := Int.natAbs_of_nonneg (show 0 ≤ a by omega)
  have e2 := Int.natAbs_of_nonneg (show 0 ≤ b by omega)
  have ap : 0 < a.natAbs := by omega
  have bp : 0 < b.natAbs := by omega
  have gp : 0 < Nat.gcd a.natAbs b.natAbs := Nat.gcd_pos_of_pos_left _ ap
  have ga := Nat.gcd_dvd_left a.natAbs b.natAbs
  have gb := Nat.gcd_dvd_right a.natAbs b.natAbs
  have la := Nat.le_of_dvd ap ga
  have lb := Nat.le_of_dvd bp gb
  have hc : Nat.gcd (a.natAbs / Nat.gcd a.natAbs b.natAbs) (b.natAbs / Nat.gcd a.natAbs b.natAbs) = 1 := by
    rw [Nat.gcd_div ga gb, Nat.div_self gp]
  have da : a / ((Nat.gcd a.natAbs b.natAbs : Nat) : Int) = ((a.natAbs / Nat.gcd a.natAbs b.natAbs : Nat) : Int) := by
    rw [Int.natCast_ediv, e1]
  have db : b / ((Nat.gcd a.natAbs b.natAbs : Nat) : Int) = ((b.natAbs / Nat.gcd a.natAbs b.natAbs : Nat) : Int) := by
    rw [Int.natCast_ediv, e2]
  have qa := Nat.div_pos la gp
  have qb := Nat.div_pos lb gp
  refine ⟨_, rfl, by omega, by omega, by rw [da]; omega, by rw [db]; omega, Int.ediv_le_self _ (by omega), Int.ediv_le_self _ (by omega), ?_⟩
  rw [da, db, Int.natAbs_natCast, Int.natAbs_natCast, hc]
  rfl
theorem r23 (k : Nat) {a b m : Int} (c : Cup a b) (hm : 1 ≤ m) (hm2 : m ≤ GR) (t : Store) : ∃ p a' b', Sl p ∧ ((Nat.gcd p.1.natAbs p.2.natAbs : Nat) : Int) = 1 ∧ Cup a' b' ∧ RK (k + 2) 23 [.l 0, .d (.int m)] (C2 a b :: t) = some (.d (pr p), C2 a' b' :: t) := by
  have hm3 : m ≤ 1000000000000000000 := hm2
  obtain ⟨x, a1, b1, x0, x1, c1, e1⟩ := r20 k c hm (by omega) t
  obtain ⟨y, a2, b2, y0, y1, c2, e2⟩ := r20 k c1 hm (by omega) t
  obtain ⟨g, hg, g0, gl, p1, p2, p3, p4, p5⟩ := coprime_of (show 1 ≤ 1 + x by omega) (show 1 ≤ 1 + y by omega)
  refine ⟨((1 + x) / g, (1 + y) / g), a2, b2, ⟨p1, p2, by show (1 + x) / g ≤ 1000000000000000000; omega, by show (1 + y) / g ≤ 1000000000000000000; omega⟩, p5, c2, ?_⟩
  have d1 : evE (RK (k + 1)) CC (.op .add (.cons (.k (.int 1)) (.cons (.call 20 (.cons (.var 0) (.cons (.var 1) .nil))) .nil))) [some (.l 0), some (.d (.int m)), none, none, none] (C2 a b :: t) = some ([.d (.int (1 + x))], C2 a1 b1 :: t) := by
    show (evE (RK (k + 1)) CC (.cons (.k (.int 1)) (.cons (.call 20 (.cons (.var 0) (.cons (.var 1) .nil))) .nil)) [some (.l 0), some (.d (.int m)), none, none, none] (C2 a b :: t)).bind _ = _
    rw [e_cons e_k (e_cons (e_call (e_cons (e_var rfl) (e_cons (e_var rfl) e_nil)) e1 (take_self (C2 a1 b1 :: t))) e_nil)]
    show some ([Val.d (.int (1 + x))], (C2 a1 b1 :: t).take (C2 a b :: t).length) = _
    rw [show (C2 a b :: t).length = (C2 a1 b1 :: t).length from rfl, take_self]
  have d2 : evE (RK (k + 1)) CC (.op .add (.cons (.k (.int 1)) (.cons (.call 20 (.cons (.var 0) (.cons (.var 1) .nil))) .nil))) [some (.l 0), some (.d (.int m)), none, none, none] (C2 a1 b1 :: t) = some ([.d (.int (1 + y))], C2 a2 b2 :: t) := by
    show (evE (RK (k + 1)) CC (.cons (.k (.int 1)) (.cons (.call 20 (.cons (.var 0) (.cons (.var 1) .nil))) .nil)) [some (.l 0), some (.d (.int m)), none, none, none] (C2 a1 b1 :: t)).bind _ = _
    rw [e_cons e_k (e_cons (e_call (e_cons (e_var rfl) (e_cons (e_var rfl) e_nil)) e2 (take_self (C2 a2 b2 :: t))) e_nil)]
    show some ([Val.d (.int (1 + y))], (C2 a2 b2 :: t).take (C2 a1 b1 :: t).length) = _
    rw [show (C2 a1 b1 :: t).length = (C2 a2 b2 :: t).length from rfl, take_self]
  have s1 : evS (RK (k + 1)) CC WH (.par [3, 4] (.cons (.op .add (.cons (.k (.int 1)) (.cons (.call 20 (.cons (.var 0) (.cons (.var 1) .nil))) .nil))) (.cons (.op .add (.cons (.k (.int 1)) (.cons (.call 20 (.cons (.var 0) (.cons (.var 1) .nil))) .nil))) .nil))) [some (.l 0), some (.d (.int m)), none, none, none] (C2 a b :: t) =
      some (.nx, [some (.l 0), some (.d (.int m)), none, some (.d (.int (1 + x))), some (.d (.int (1 + y)))], C2 a2 b2 :: t) := z_par (ws := [.d (.int (1 + x)), .d (.int (1 + y))]) (e_cons d1 (e_cons d2 e_nil)) rfl
  have s2 : evS (RK (k + 1)) CC WH (.asg (.nm 2) (.call 22 (.cons (.var 3) (.cons (.var 4) .nil)))) [some (.l 0), some (.d (.int m)), none, some (.d (.int (1 + x))), some (.d (.int (1 + y)))] (C2 a2 b2 :: t) =
      some (.nx, [some (.l 0), some (.d (.int m)), some (.d (.int g)), some (.d (.int (1 + x))), some (.d (.int (1 + y)))], C2 a2 b2 :: t) := by
    have e := r22 k (a := 1 + x) (b := 1 + y) (by omega) (by omega) (by show 1 + y ≤ 1000000000000000000; omega) (C2 a2 b2 :: t)
    rw [← hg] at e
    exact z_asg0 (e_call0 (e_cons (e_var rfl) (e_cons (e_var rfl) e_nil)) e)
  have hg64 : g < 2 ^ 64 := by omega
  have s3 : evE (RK (k + 1)) CC (.tup (.cons (.op .fdiv (.cons (.var 3) (.cons (.var 2) .nil))) (.cons (.op .fdiv (.cons (.var 4) (.cons (.var 2) .nil))) .nil))) [some (.l 0), some (.d (.int m)), some (.d (.int g)), some (.d (.int (1 + x))), some (.d (.int (1 + y)))] (C2 a2 b2 :: t) = some ([.d (pr ((1 + x) / g, (1 + y) / g))], C2 a2 b2 :: t) := by trivial
  exact rk_st ⟨p23.length, n23.length, b23⟩ rfl rfl (z_cons s1 (z_cons s2 (z_consr (s2 := .nil) (z_ret0 s3)))) rfl
end K83
set_option Elab.async false
set_option linter.all false
set_option maxRecDepth 100000
set_option maxHeartbeats 1000000
namespace K83
open PySem Cz
local macro_rules | `(tactic| trivial) => `(tactic| repeat' (first
  | exact e_nil | exact e_k | exact z_nil | (apply e_var; rfl) | (apply e_glob; rfl) | apply e_cons
  | apply e_op0 | apply e_tup0 | apply e_call0 | apply e_not
  | exact run_mul (by assumption) _ | exact run_mul' (by assumption) _ | exact run_fdiv (by assumption) (by assumption) _ | exact run_md (by assumption) _ | exact run_eq_int _ _ | exact run_ne_int _ _
  | apply z_par | apply z_asg | apply z_asgt | apply z_ret | (apply z_consr; apply z_ret) | apply z_cons | rfl | (apply e_chain) | (apply e_and) | (apply e_or) | (intro _) | exact Nat.le_of_ble_eq_true rfl))


/-! ### the law's own walk -/
theorem bst_succ (i n : Nat) (s : I2 × I2) : bst i (((n + 1 : Nat)) : Int) s = bst i (n : Int) (bst i 1 s) := by
  unfold bst
  by_cases h : i % 2 = 0
  · rw [if_pos h, if_pos h, if_pos h]
    refine Prod.ext (Prod.ext ?_ ?_) rfl
    · show _ + ((n + 1 : Nat) : Int) * _ = (_ + 1 * _) + (n : Int) * _
      rw [Int.natCast_add, Int.add_mul]
      simp only [Int.natCast_one]
      omega
    · show _ + ((n + 1 : Nat) : Int) * _ = (_ + 1 * _) + (n : Int) * _
      rw [Int.natCast_add, Int.add_mul]
      simp only [Int.natCast_one]
      omega
  · rw [if_neg h, if_neg h, if_neg h]
    refine Prod.ext rfl (Prod.ext ?_ ?_)
    · show _ + ((n + 1 : Nat) : Int) * _ = (_ + 1 * _) + (n : Int) * _
      rw [Int.natCast_add, Int.add_mul]
      simp only [Int.natCast_one]
      omega
    · show _ + ((n + 1 : Nat) : Int) * _ = (_ + 1 * _) + (n : Int) * _
      rw [Int.natCast_add, Int.add_mul]
      simp only [Int.natCast_one]
      omega
theorem bst_zero (i : Nat) (s : I2 × I2) : bst i 0 s = s := by
  unfold bst
  by_cases h : i % 2 = 0
  · rw [if_pos h]
    refine Prod.ext (Prod.ext ?_ ?_) rfl
    · show _ + 0 * _ = _; omega
    · show _ + 0 * _ = _; omega
  · rw [if_neg h]
    refine Prod.ext rfl (Prod.ext ?_ ?_)
    · show _ + 0 * _ = _; omega
    · show _ + 0 * _ = _; omega
theorem c25 (k : Nat) (R v2 v3 v4 : Val) (i : Nat) (x5 : Option Val) (μ : Store) : evE (RK k) CC (.op .eq (.cons (.op .md (.cons (.var 1) (.cons (.k (.int 2)) .nil))) (.cons (.k (.int 0)) .nil))) [some R, some (.d (.int (i : Int))), some v2, some v3, some v4, x5] μ = some ([.d (.bool (decide (i % 2 = 0)))], μ) := by
  rw [← par_odd]
  trivial
theorem s25 (k : Nat) (R : Val) (i : Nat) (s : I2 × I2) (x5 : Option Val) (μ : Store) : evS (RK k) CC WH b25l0 [some R, some (.d (.int (i : Int))), some (.d (pr s.1)), some (.d (pr (mid s))), some (.d (pr s.2)), x5] μ =
    some (.nx, [some R, some (.d (.int (i : Int))), some (.d (pr (bst i 1 s).1)), some (.d (pr (mid (bst i 1 s)))), some (.d (pr (bst i 1 s).2)), x5], μ) := by
  have hc := c25 k R (.d (pr s.1)) (.d (pr (mid s))) (.d (pr s.2)) i x5 μ
  by_cases h : i % 2 = 0
  · rw [decide_eq_true h] at hc
    have e : bst i 1 s = (mid s, s.2) := by
      unfold bst mid
      rw [if_pos h, Int.one_mul, Int.one_mul]
    rw [e]
    refine z_cons (z_ifs0 true hc (fun _ => z_cons (z_par0 (ws := [.d (pr (mid s)), .d (pr (mid (mid s, s.2)))]) ?_ rfl) z_nil) fun z => by cases z) z_nil
    trivial
  · rw [decide_eq_false h] at hc
    have e : bst i 1 s = (s.1, mid s) := by
      unfold bst mid
      rw [if_neg h, Int.one_mul, Int.one_mul]
      refine Prod.ext rfl (Prod.ext ?_ ?_)
      · show s.2.1 + s.1.1 = s.1.1 + s.2.1; omega
      · show s.2.2 + s.1.2 = s.1.2 + s.2.2; omega
    rw [e]
    have em : mid (s.1, mid s) = ((mid s).1 + s.1.1, (mid s).2 + s.1.2) := by
      refine Prod.ext ?_ ?_
      · show s.1.1 + (mid s).1 = (mid s).1 + s.1.1; omega
      · show s.1.2 + (mid s).2 = (mid s).2 + s.1.2; omega
    rw [em]
    refine z_cons (z_ifs0 false hc (fun z => by cases z) fun _ => z_cons (z_par0 (ws := [.d (pr (mid s)), .d (pr ((mid s).1 + s.1.1, (mid s).2 + s.1.2))]) ?_ rfl) z_nil) z_nil
    trivial
theorem l25a (k : Nat) (R : Val) (i : Nat) (μ : Store) : ∀ (n : Nat) (lo : Int) (s : I2 × I2) (x5 : Option Val), ∃ y5, forL (.nm 5) (evS (RK k) CC WH b25l0) (fun _ => true) (rangeD lo n) [some R, some (.d (.int (i : Int))), some (.d (pr s.1)), some (.d (pr (mid s))), some (.d (pr s.2)), x5] μ =
    some (.nx, [some R, some (.d (.int (i : Int))), some (.d (pr (bst i (n : Int) s).1)), some (.d (pr (mid (bst i (n : Int) s)))), some (.d (pr (bst i (n : Int) s).2)), y5], μ)
  | 0, lo, s, x5 => ⟨x5, by
    rw [show ((0 : Nat) : Int) = 0 from rfl, bst_zero]
    exact l_done rfl⟩
  | n + 1, lo, s, x5 => by
    obtain ⟨y5, e⟩ := l25a k R i μ n (lo + 1) (bst i 1 s) (some (.d (.int lo)))
    rw [← bst_succ] at e
    exact ⟨y5, l_nx (ρ2 := [some R, some (.d (.int (i : Int))), some (.d (pr s.1)), some (.d (pr (mid s))), some (.d (pr s.2)), some (.d (.int lo))]) rfl rfl (s25 k R i s (some (.d (.int lo))) μ) e⟩
theorem ix_row {ns : List Int} {i : Nat} {m : Int} (h : ns[i]? = some m) : Op.ix.run [row ns, .int (i : Int)] = some (.d (.int m)) := by
  have hi := (List.getElem?_eq_some_iff.mp h).1
  show (atA (ns.map PyData.int) (i : Int)).map Res.d = _
  unfold atA L2.ixN
  rw [if_pos (by omega), List.length_map, if_pos (by omega), Int.toNat_natCast]
  show ((ns.map PyData.int)[i]?).map Res.d = _
  rw [List.getElem?_map, h]
  rfl
theorem l25b (k : Nat) (all : List Int) (μ : Store) : ∀ (ns : List Int) (i : Nat) (s : I2 × I2) (x1 x5 : Option Val), (∀ m ∈ ns, 0 ≤ m ∧ m < 2 ^ 62) → all.drop i = ns →
    ∃ y1 y5, forL (.nm 1) (evS (RK k) CC WH b25l1) (fun _ => true) (rangeD (i : Int) ns.length) [some (.d (row all)), x1, some (.d (pr s.1)), some (.d (pr (mid s))), some (.d (pr s.2)), x5] μ =
      some (.nx, [some (.d (row all)), y1, some (.d (pr (bnd i ns s).1)), some (.d (pr (mid (bnd i ns s)))), some (.d (pr (bnd i ns s).2)), y5], μ)
  | [], i, s, x1, x5, _, _ => ⟨x1, x5, l_done rfl⟩
  | m :: r, i, s, x1, x5, h, hd => by
    have hm := h m List.mem_cons_self
    have ha : all[i]? = some m := by
      have : (all.drop i)[0]? = some m := by rw [hd]; rfl
      rw [List.getElem?_drop] at this
      simpa using this
    have hr : all.drop (i + 1) = r := by
      rw [← List.drop_drop, hd]
      rfl
    obtain ⟨z5, e1⟩ := l25a k (.d (row all)) i μ m.toNat 0 s x5
    rw [Int.toNat_of_nonneg hm.1] at e1
    obtain ⟨y1, y5, e2⟩ := l25b k all μ r (i + 1) (bst i m s) (some (.d (.int (i : Int)))) z5 (fun x hx => h x (List.mem_cons_of_mem _ hx)) hr
    have b1 : evS (RK k) CC WH b25l1 [some (.d (row all)), some (.d (.int (i : Int))), some (.d (pr s.1)), some (.d (pr (mid s))), some (.d (pr s.2)), x5] μ =
        some (.nx, [some (.d (row all)), some (.d (.int (i : Int))), some (.d (pr (bst i m s).1)), some (.d (pr (mid (bst i m s)))), some (.d (pr (bst i m s).2)), z5], μ) :=
      z_cons (z_for (cs := [.int m]) (xs := rangeD 0 m.toNat) (e_cons (e_op0 (e_cons (e_var rfl) (e_cons (e_var rfl) e_nil)) rfl (ix_row ha)) e_nil) (by
        show (if bound62 m = true then some (rangeD 0 m.toNat) else none) = _
        rw [if_pos (by unfold bound62; exact decide_eq_true ⟨by omega, hm.2⟩)]) e1) z_nil
    exact ⟨y1, y5, l_nx (ρ2 := [some (.d (row all)), some (.d (.int (i : Int))), some (.d (pr s.1)), some (.d (pr (mid s))), some (.d (pr s.2)), x5]) rfl rfl b1 e2⟩
theorem r25 (k : Nat) (ns : List Int) (h : ∀ m ∈ ns, 0 ≤ m ∧ m < 2 ^ 62) (hl : ns.length ≤ 1000) (μ : Store) : RK (k + 1) 25 [.d (row ns)] μ = some (.d (.tuple [pr (B ns).1, pr (SL 0 ns), pr (B ns).2]), μ) := by
  obtain ⟨y1, y5, e⟩ := l25b k ns μ ns 0 ((0, 1), (1, 0)) none none h rfl
  have s1 : evS (RK k) CC WH (.par [2, 3, 4] (.cons (.tup (.cons (.k (.int 0)) (.cons (.k (.int 1)) .nil))) (.cons (.tup (.cons (.k (.int 1)) (.cons (.k (.int 1)) .nil))) (.cons (.tup (.cons (.k (.int 1)) (.cons (.k (.int 0)) .nil))) .nil)))) [some (.d (row ns)), none, none, none, none, none] μ =
      some (.nx, [some (.d (row ns)), none, some (.d (pr (0, 1))), some (.d (pr (mid ((0, 1), (1, 0))))), some (.d (pr (1, 0))), none], μ) := by
    refine z_par0 (ws := [.d (pr (0, 1)), .d (pr (1, 1)), .d (pr (1, 0))]) ?_ rfl
    trivial
  have s2 : evS (RK k) CC WH (.for_ (.nm 1) .range1 (.cons (.op .len (.cons (.var 0) .nil)) .nil) b25l1) [some (.d (row ns)), none, some (.d (pr (0, 1))), some (.d (pr (mid ((0, 1), (1, 0))))), some (.d (pr (1, 0))), none] μ =
      some (.nx, [some (.d (row ns)), y1, some (.d (pr (B ns).1)), some (.d (pr (mid (B ns)))), some (.d (pr (B ns).2)), y5], μ) :=
    z_for (cs := [.int (ns.length : Int)]) (xs := rangeD 0 ns.length) (e_cons (e_op0 (ws := [.d (row ns)]) (e_cons (e_var rfl) e_nil) rfl (by
      show some (Res.d (.int ((ns.map PyData.int).length : Int))) = _
      rw [List.length_map])) e_nil) (by
        show (if bound62 (ns.length : Int) = true then some (rangeD 0 ((ns.length : Int)).toNat) else none) = _
        rw [if_pos (by unfold bound62; exact decide_eq_true ⟨by omega, by omega⟩), Int.toNat_natCast]) e
  have s3 : evE (RK k) CC (.tup (.cons (.var 2) (.cons (.var 3) (.cons (.var 4) .nil)))) [some (.d (row ns)), y1, some (.d (pr (B ns).1)), some (.d (pr (mid (B ns)))), some (.d (pr (B ns).2)), y5] μ = some ([.d (.tuple [pr (B ns).1, pr (SL 0 ns), pr (B ns).2])], μ) := by
    rw [mid_B]
    exact e_tup0 (e_cons (e_var rfl) (e_cons (e_var rfl) (e_cons (e_var rfl) e_nil))) rfl (Nat.le_of_ble_eq_true rfl)
  exact rk_rt ⟨p25.length, n25.length, b25⟩ rfl rfl (z_cons s1 (z_cons s2 (z_consr (s2 := .nil) (z_ret0 s3)))) (take_self μ)
end K83
set_option Elab.async false
set_option linter.all false
set_option maxRecDepth 100000
set_option maxHeartbeats 1000000
namespace K83
open PySem Cz
local macro_rules | `(tactic| trivial) => `(tactic| repeat' (first
  | exact e_nil | exact e_k | exact z_nil | (apply e_var; rfl) | (apply e_glob; rfl) | apply e_cons
  | apply e_op0 | apply e_tup0 | apply e_call0 | apply e_not
  | exact run_mul (by assumption) _ | exact run_mul' (by assumption) _ | exact run_fdiv (by assumption) (by assumption) _ | exact run_md (by assumption) _ | exact run_eq_int _ _ | exact run_ne_int _ _
  | apply z_par | apply z_asg | apply z_asgt | apply z_ret | (apply z_consr; apply z_ret) | apply z_cons | rfl | (apply e_chain) | (apply e_and) | (apply e_or) | (intro _) | exact Nat.le_of_ble_eq_true rfl))


/-! ### _law_runs -/
def elt24 : E := .op .add (.cons (.k (.int 1)) (.cons (.call 20 (.cons (.var 0) (.cons (.var 2) .nil))) .nil))
theorem loop24 (k : Nat) (M q : Int) (hq : 1 ≤ q) (hq2 : q < 2 ^ 62) (t : Store) : ∀ (xs : List PyData) (acc : List Int) {a b : Int}, Cup a b → acc.length + xs.length ≤ 1000 →
    ∃ (vs : List Int) (a' b' : Int), Cup a' b' ∧ vs.length = xs.length ∧ (∀ v ∈ vs, 1 ≤ v ∧ v ≤ q) ∧
      loopC (turnE (RK (k + 1)) CC elt24 (.nm 4) .nil [some (.l 0), some (.d (.int M)), some (.d (.int q)), none, none]) (fun _ => true) xs (acc.map .int) (C2 a b :: t) = some ((acc ++ vs).map .int, C2 a' b' :: t)
  | [], acc, a, b, c, _ => ⟨[], a, b, c, rfl, by simp, by
    unfold loopC
    rw [if_pos rfl, List.append_nil]⟩
  | x :: xs, acc, a, b, c, hl => by
    rw [List.length_cons] at hl
    obtain ⟨r, a1, b1, r0, r1, c1, e1⟩ := r20 k c hq (by omega) t
    obtain ⟨vs, a2, b2, c2, h1, h2, h3⟩ := loop24 k M q hq hq2 t xs (acc ++ [1 + r]) c1 (by rw [List.length_append, List.length_singleton]; omega)
    refine ⟨(1 + r) :: vs, a2, b2, c2, by rw [List.length_cons, List.length_cons, h1], fun v hv => ?_, ?_⟩
    · rcases List.mem_cons.mp hv with e | hv
      · rw [e]; omega
      · exact h2 v hv
    · unfold loopC
      rw [if_pos (by rw [Bool.true_and, List.length_map]; exact decide_eq_true (by simp [sizeMax]; omega))]
      have tu : turnE (RK (k + 1)) CC elt24 (.nm 4) .nil [some (.l 0), some (.d (.int M)), some (.d (.int q)), none, none] x (C2 a b :: t) = some (some (.int (1 + r)), C2 a1 b1 :: t) := by
        have d1 : evE (RK (k + 1)) CC elt24 [some (.l 0), some (.d (.int M)), some (.d (.int q)), none, some (.d x)] (C2 a b :: t) = some ([.d (.int (1 + r))], C2 a1 b1 :: t) := by
          show (evE (RK (k + 1)) CC (.cons (.k (.int 1)) (.cons (.call 20 (.cons (.var 0) (.cons (.var 2) .nil))) .nil)) [some (.l 0), some (.d (.int M)), some (.d (.int q)), none, some (.d x)] (C2 a b :: t)).bind _ = _
          rw [e_cons e_k (e_cons (e_call (e_cons (e_var rfl) (e_cons (e_var rfl) e_nil)) e1 (take_self (C2 a1 b1 :: t))) e_nil)]
          show some ([Val.d (.int (1 + r))], (C2 a1 b1 :: t).take (C2 a b :: t).length) = _
          rw [show (C2 a b :: t).length = (C2 a1 b1 :: t).length from rfl, take_self]
        unfold turnE
        show (evE (RK (k + 1)) CC elt24 [some (.l 0), some (.d (.int M)), some (.d (.int q)), none, some (.d x)] (C2 a b :: t)).bind _ = _
        rw [d1]
        show some (some (PyData.int (1 + r)), (C2 a1 b1 :: t).take (C2 a b :: t).length) = _
        rw [show (C2 a b :: t).length = (C2 a1 b1 :: t).length from rfl, take_self]
      rw [tu]
      have ea : (acc.map PyData.int ++ [PyData.int (1 + r)]) = (acc ++ [1 + r]).map PyData.int := by rw [List.map_append]; rfl
      have eb : acc ++ (1 + r) :: vs = (acc ++ [1 + r]) ++ vs := by simp
      show loopC _ (fun _ => true) xs (acc.map .int ++ [.int (1 + r)]) (C2 a1 b1 :: t) = _
      rw [ea, eb]
      exact h3
/-- what _law_runs(cup, M, q) gives -/
theorem r24 (k : Nat) {a b : Int} (c : Cup a b) (M q : Int) (hM : 0 ≤ M) (hM2 : M ≤ 100) (hq : 1 ≤ q) (hq2 : q < 2 ^ 62) : ∃ (ns : List Int) (a' b' : Int), Cup a' b' ∧ Val0 ns ∧ (∀ m ∈ ns, m ≤ q) ∧ (ns.length : Int) ≤ M + 1 ∧
    RK (k + 2) 24 [.l 0, .d (.int M), .d (.int q)] [C2 a b] = some (.d (row ns), [C2 a' b']) := by
  obtain ⟨n, a1, b1, n0, n1, c1, e1⟩ := r20 k c (m := M + 1) (by omega) (by omega) []
  obtain ⟨vs, a2, b2, c2, h1, h2, h3⟩ := loop24 k M q hq hq2 [] (rangeD 0 n.toNat) [] c1 (by rw [rangeD_len]; simp; omega)
  rw [rangeD_len] at h1
  rw [List.nil_append] at h3
  have d1 : evE (RK (k + 1)) CC (.cons (.call 20 (.cons (.var 0) (.cons (.op .add (.cons (.var 1) (.cons (.k (.int 1)) .nil))) .nil))) .nil) [some (.l 0), some (.d (.int M)), some (.d (.int q)), none, none] [C2 a b] = some ([.d (.int n)], [C2 a1 b1]) :=
    e_cons (e_call (e_cons (e_var rfl) (e_cons (e_op0 (e_cons (e_var rfl) (e_cons e_k e_nil)) rfl rfl) e_nil)) e1 rfl) e_nil
  have d2 : evE (RK (k + 1)) CC (.comp elt24 (.nm 4) .range1 (.cons (.call 20 (.cons (.var 0) (.cons (.op .add (.cons (.var 1) (.cons (.k (.int 1)) .nil))) .nil))) .nil) .nil) [some (.l 0), some (.d (.int M)), some (.d (.int q)), none, none] [C2 a b] = some ([.l 1], [C2 a2 b2, vs.map .int]) := by
    show ((evE (RK (k + 1)) CC (.cons (.call 20 (.cons (.var 0) (.cons (.op .add (.cons (.var 1) (.cons (.k (.int 1)) .nil))) .nil))) .nil) [some (.l 0), some (.d (.int M)), some (.d (.int q)), none, none] [C2 a b]).bind fun p => (thaws [C2 a b].length p.2 p.1).bind fun ws => (conts p.2 p.1).bind fun cs => (Ik.range1.items cs).bind fun xs =>
      (loopC (turnE (RK (k + 1)) CC elt24 (.nm 4) .nil [some (.l 0), some (.d (.int M)), some (.d (.int q)), none, none]) (fun μ' => sames μ' ws cs) xs [] (p.2.take [C2 a b].length)).map fun q => fin [C2 a b].length q.2 (.new q.1)) = _
    rw [d1]
    show ((if bound62 n = true then some (rangeD 0 n.toNat) else none).bind fun xs => (loopC (turnE (RK (k + 1)) CC elt24 (.nm 4) .nil [some (.l 0), some (.d (.int M)), some (.d (.int q)), none, none]) (fun _ => true) xs [] [C2 a1 b1]).map fun q => fin [C2 a b].length q.2 (.new q.1)) = _
    rw [if_pos (by unfold bound62; exact decide_eq_true ⟨by omega, by omega⟩)]
    show (loopC (turnE (RK (k + 1)) CC elt24 (.nm 4) .nil [some (.l 0), some (.d (.int M)), some (.d (.int q)), none, none]) (fun _ => true) (rangeD 0 n.toNat) [] [C2 a1 b1]).map _ = _
    have h3' : loopC (turnE (RK (k + 1)) CC elt24 (.nm 4) .nil [some (.l 0), some (.d (.int M)), some (.d (.int q)), none, none]) (fun _ => true) (rangeD 0 n.toNat) [] [C2 a1 b1] = _ := h3
    rw [h3']
    rfl
  have s1 : evS (RK (k + 1)) CC WH (.asg (.nm 3) (.op .tupleOf (.cons (.comp elt24 (.nm 4) .range1 (.cons (.call 20 (.cons (.var 0) (.cons (.op .add (.cons (.var 1) (.cons (.k (.int 1)) .nil))) .nil))) .nil) .nil) .nil))) [some (.l 0), some (.d (.int M)), some (.d (.int q)), none, none] [C2 a b] =
      some (.nx, [some (.l 0), some (.d (.int M)), some (.d (.int q)), some (.d (row vs)), none], [C2 a2 b2]) := by
    refine z_asg (w := .d (row vs)) ?_
    show (evE (RK (k + 1)) CC (.cons (.comp elt24 (.nm 4) .range1 (.cons (.call 20 (.cons (.var 0) (.cons (.op .add (.cons (.var 1) (.cons (.k (.int 1)) .nil))) .nil))) .nil) .nil) .nil) [some (.l 0), some (.d (.int M)), some (.d (.int q)), none, none] [C2 a b]).bind _ = _
    rw [e_cons d2 e_nil]
    rfl
  have pos : Pos vs := fun m hm => (h2 m hm).1
  by_cases hv : vs = []
  · subst hv
    refine ⟨[], a2, b2, c2, True.intro, fun m hm => (by cases hm), by simp; omega, ?_⟩
    have cn : evE (RK (k + 1)) CC (.and (.op .ne (.cons (.var 3) (.cons (.tup .nil) .nil))) (.op .eq (.cons (.call 20 (.cons (.var 0) (.cons (.k (.int 2)) .nil))) (.cons (.k (.int 0)) .nil)))) [some (.l 0), some (.d (.int M)), some (.d (.int q)), some (.d (row [])), none] [C2 a2 b2] = some ([.d (.bool (false && false))], [C2 a2 b2]) :=
      e_and false false (e_op0 (ws := [.d (row []), .d (row [])]) (e_cons (e_var rfl) (e_cons (e_tup0 e_nil rfl (Nat.zero_le _)) e_nil)) rfl (run_ne_row [] [])) (fun z => by cases z)
    exact rk_st ⟨p24.length, n24.length, b24⟩ rfl rfl (z_cons s1 (z_consr (s2 := .nil) (z_ret0 (e_ite false cn (fun z => by cases z) fun _ => e_var rfl)))) rfl
  · obtain ⟨z, a3, b3, z0, z1, c3, e3⟩ := r20 k c2 (m := 2) (by decide) (by decide) []
    have cn : evE (RK (k + 1)) CC (.and (.op .ne (.cons (.var 3) (.cons (.tup .nil) .nil))) (.op .eq (.cons (.call 20 (.cons (.var 0) (.cons (.k (.int 2)) .nil))) (.cons (.k (.int 0)) .nil)))) [some (.l 0), some (.d (.int M)), some (.d (.int q)), some (.d (row vs)), none] [C2 a2 b2] = some ([.d (.bool (decide (z = 0)))], [C2 a3 b3]) := by
      show (evE (RK (k + 1)) CC (.op .ne (.cons (.var 3) (.cons (.tup .nil) .nil))) [some (.l 0), some (.d (.int M)), some (.d (.int q)), some (.d (row vs)), none] [C2 a2 b2]).bind _ = _
      have e0 := run_ne_row vs []
      rw [decide_eq_false hv] at e0
      rw [e_op0 (ws := [.d (row vs), .d (row [])]) (e_cons (e_var rfl) (e_cons (e_tup0 e_nil rfl (Nat.zero_le _)) e_nil)) rfl e0]
      show (evE (RK (k + 1)) CC (.cons (.call 20 (.cons (.var 0) (.cons (.k (.int 2)) .nil))) (.cons (.k (.int 0)) .nil)) [some (.l 0), some (.d (.int M)), some (.d (.int q)), some (.d (row vs)), none] [C2 a2 b2]).bind _ = _
      rw [e_cons (e_call (e_cons (e_var rfl) (e_cons e_k e_nil)) e3 rfl) (e_cons e_k e_nil)]
      show (Op.eq.run [.int z, .int 0]).map _ = _
      rw [run_eq_int]
      rfl
    by_cases hz : z = 0
    · rw [decide_eq_true hz] at cn
      refine ⟨0 :: vs, a3, b3, c3, ?_, fun m hm => ?_, by rw [List.length_cons]; omega, ?_⟩
      · match vs, hv, pos with
        | x :: r, _, pos => exact ⟨Int.le_refl _, pos⟩
      · rcases List.mem_cons.mp hm with e | hm
        · omega
        · exact (h2 m hm).2
      · have ad := add_row [0] vs (by rw [h1]; simp [sizeMax]; omega)
        exact rk_st ⟨p24.length, n24.length, b24⟩ rfl rfl (z_cons s1 (z_consr (s2 := .nil) (z_ret (e_ite true cn (fun _ => e_op0 (ws := [.d (row [0]), .d (row vs)]) (e_cons (e_tup0 (e_cons e_k e_nil) rfl (Nat.le_of_ble_eq_true rfl)) (e_cons (e_var rfl) e_nil)) rfl ad) fun z => by cases z)))) rfl
    · rw [decide_eq_false hz] at cn
      refine ⟨vs, a3, b3, c3, pos.val, fun m hm => (h2 m hm).2, by omega, ?_⟩
      exact rk_st ⟨p24.length, n24.length, b24⟩ rfl rfl (z_cons s1 (z_consr (s2 := .nil) (z_ret (e_ite false cn (fun z => by cases z) fun _ => e_var rfl)))) rfl
end K83
set_option Elab.async false
set_option linter.all false
set_option maxRecDepth 100000
set_option maxHeartbeats 1000000
namespace K83
open PySem Cz
/-! ### _law_odds_right -/
def tl : S → S
  | .cons _ r => r
  | s => s
def hd4 : S → S
  | .cons a (.cons b (.cons c (.cons d _))) => .cons a (.cons b (.cons c (.cons d .nil)))
  | s => s
def mid30 : S := hd4 (tl b30)
def end30 : S := tl (tl (tl (tl (tl b30))))
def sl30 (m : Int) (x y : Option Val) : Slots := [some (.l 0), some (.d (.int m)), x, y, none, none, none, none, none, none]
def see30 (m a b : Int) : Option (Bool × Slots × Store × Nat) := (evS (RK 10) CC WH mid30 (sl30 m none none) [C2 a b]).map fun q => (match q.1 with
  | .nx => true
  | _ => false, q.2.1, q.2.2.take 1, q.2.2.length)
theorem odd1 (a b : Int) : see30 1 a b = some (true, sl30 1 (some (.l 1)) (some (.l 2)), [C2 a b], 3) := by kernel_rfl
theorem odd2 (a b : Int) : see30 2 a b = some (true, sl30 2 (some (.l 1)) (some (.l 2)), [C2 a b], 3) := by kernel_rfl
theorem odd3 (a b : Int) : see30 3 a b = some (true, sl30 3 (some (.l 1)) (some (.l 2)), [C2 a b], 3) := by kernel_rfl
theorem odd4 (a b : Int) : see30 4 a b = some (true, sl30 4 (some (.l 1)) (some (.l 2)), [C2 a b], 3) := by kernel_rfl
theorem odd5 (a b : Int) : see30 5 a b = some (true, sl30 5 (some (.l 1)) (some (.l 2)), [C2 a b], 3) := by kernel_rfl
theorem odd6 (a b : Int) : see30 6 a b = some (true, sl30 6 (some (.l 1)) (some (.l 2)), [C2 a b], 3) := by kernel_rfl
theorem odd7 (a b : Int) : see30 7 a b = some (true, sl30 7 (some (.l 1)) (some (.l 2)), [C2 a b], 3) := by kernel_rfl
theorem odd8 (a b : Int) : see30 8 a b = some (true, sl30 8 (some (.l 1)) (some (.l 2)), [C2 a b], 3) := by kernel_rfl
theorem odd9 (a b : Int) : see30 9 a b = some (true, sl30 9 (some (.l 1)) (some (.l 2)), [C2 a b], 3) := by kernel_rfl
theorem odd10 (a b : Int) : see30 10 a b = some (true, sl30 10 (some (.l 1)) (some (.l 2)), [C2 a b], 3) := by kernel_rfl
theorem odd11 (a b : Int) : see30 11 a b = some (true, sl30 11 (some (.l 1)) (some (.l 2)), [C2 a b], 3) := by kernel_rfl
theorem odd12 (a b : Int) : see30 12 a b = some (true, sl30 12 (some (.l 1)) (some (.l 2)), [C2 a b], 3) := by kernel_rfl
theorem odd13 (a b : Int) : see30 13 a b = some (true, sl30 13 (some (.l 1)) (some (.l 2)), [C2 a b], 3) := by kernel_rfl
theorem odd14 (a b : Int) : see30 14 a b = some (true, sl30 14 (some (.l 1)) (some (.l 2)), [C2 a b], 3) := by kernel_rfl
theorem odd15 (a b : Int) : see30 15 a b = some (true, sl30 15 (some (.l 1)) (some (.l 2)), [C2 a b], 3) := by kernel_rfl
theorem odd16 (a b : Int) : see30 16 a b = some (true, sl30 16 (some (.l 1)) (some (.l 2)), [C2 a b], 3) := by kernel_rfl
theorem odd17 (a b : Int) : see30 17 a b = some (true, sl30 17 (some (.l 1)) (some (.l 2)), [C2 a b], 3) := by kernel_rfl
theorem odd18 (a b : Int) : see30 18 a b = some (true, sl30 18 (some (.l 1)) (some (.l 2)), [C2 a b], 3) := by kernel_rfl
theorem odd19 (a b : Int) : see30 19 a b = some (true, sl30 19 (some (.l 1)) (some (.l 2)), [C2 a b], 3) := by kernel_rfl
theorem odd20 (a b : Int) : see30 20 a b = some (true, sl30 20 (some (.l 1)) (some (.l 2)), [C2 a b], 3) := by kernel_rfl
theorem odd21 (a b : Int) : see30 21 a b = some (true, sl30 21 (some (.l 1)) (some (.l 2)), [C2 a b], 3) := by kernel_rfl
theorem odd22 (a b : Int) : see30 22 a b = some (true, sl30 22 (some (.l 1)) (some (.l 2)), [C2 a b], 3) := by kernel_rfl
theorem odd23 (a b : Int) : see30 23 a b = some (true, sl30 23 (some (.l 1)) (some (.l 2)), [C2 a b], 3) := by kernel_rfl
theorem odd24 (a b : Int) : see30 24 a b = some (true, sl30 24 (some (.l 1)) (some (.l 2)), [C2 a b], 3) := by kernel_rfl
theorem odd25 (a b : Int) : see30 25 a b = some (true, sl30 25 (some (.l 1)) (some (.l 2)), [C2 a b], 3) := by kernel_rfl
theorem odd26 (a b : Int) : see30 26 a b = some (true, sl30 26 (some (.l 1)) (some (.l 2)), [C2 a b], 3) := by kernel_rfl
theorem odd27 (a b : Int) : see30 27 a b = some (true, sl30 27 (some (.l 1)) (some (.l 2)), [C2 a b], 3) := by kernel_rfl
theorem odd28 (a b : Int) : see30 28 a b = some (true, sl30 28 (some (.l 1)) (some (.l 2)), [C2 a b], 3) := by kernel_rfl
theorem odd29 (a b : Int) : see30 29 a b = some (true, sl30 29 (some (.l 1)) (some (.l 2)), [C2 a b], 3) := by kernel_rfl
theorem odd30 (a b : Int) : see30 30 a b = some (true, sl30 30 (some (.l 1)) (some (.l 2)), [C2 a b], 3) := by kernel_rfl
theorem odds (m a b : Int) (h1 : 1 ≤ m) (h2 : m ≤ 30) : see30 m a b = some (true, sl30 m (some (.l 1)) (some (.l 2)), [C2 a b], 3) := by
  have h : m = 1 ∨ m = 2 ∨ m = 3 ∨ m = 4 ∨ m = 5 ∨ m = 6 ∨ m = 7 ∨ m = 8 ∨ m = 9 ∨ m = 10 ∨ m = 11 ∨ m = 12 ∨ m = 13 ∨ m = 14 ∨ m = 15 ∨ m = 16 ∨ m = 17 ∨ m = 18 ∨ m = 19 ∨ m = 20 ∨ m = 21 ∨ m = 22 ∨ m = 23 ∨ m = 24 ∨ m = 25 ∨ m = 26 ∨ m = 27 ∨ m = 28 ∨ m = 29 ∨ m = 30 := by omega
  rcases h with rfl | rfl | rfl | rfl | rfl | rfl | rfl | rfl | rfl | rfl | rfl | rfl | rfl | rfl | rfl | rfl | rfl | rfl | rfl | rfl | rfl | rfl | rfl | rfl | rfl | rfl | rfl | rfl | rfl | rfl
  · exact odd1 a b
  · exact odd2 a b
  · exact odd3 a b
  · exact odd4 a b
  · exact odd5 a b
  · exact odd6 a b
  · exact odd7 a b
  · exact odd8 a b
  · exact odd9 a b
  · exact odd10 a b
  · exact odd11 a b
  · exact odd12 a b
  · exact odd13 a b
  · exact odd14 a b
  · exact odd15 a b
  · exact odd16 a b
  · exact odd17 a b
  · exact odd18 a b
  · exact odd19 a b
  · exact odd20 a b
  · exact odd21 a b
  · exact odd22 a b
  · exact odd23 a b
  · exact odd24 a b
  · exact odd25 a b
  · exact odd26 a b
  · exact odd27 a b
  · exact odd28 a b
  · exact odd29 a b
  · exact odd30 a b
def fin30 (m a b : Int) (X Y : List PyData) : Option (Bool × Store) := (evS (RK 10) CC WH end30 (sl30 m (some (.l 1)) (some (.l 2))) [C2 a b, X, Y]).map fun q => (match q.1 with
  | .rt (.d (.bool b)) => b
  | _ => false, q.2.2.take 1)
theorem oddE (m a b : Int) (X Y : List PyData) : fin30 m a b X Y = some (true, [C2 a b]) := by kernel_rfl
theorem z_split {F : CallF} {C : List PyData} {fu : Nat} {s t t' : S} {ρ ρ' : Slots} {μ μ' : Store} {r : Fl × Slots × Store} (h : evS F C fu (.cons s t) ρ μ = some (.nx, ρ', μ')) (k : ∀ ρ1 μ1, evS F C fu t ρ1 μ1 = some (.nx, ρ', μ') → evS F C fu t' ρ1 μ1 = some r) : evS F C fu (.cons s t') ρ μ = some r := by
  have h : (evS F C fu s ρ μ).bind (fun q => match q.1 with
      | .nx => evS F C fu t q.2.1 q.2.2
      | .rt v => some (.rt v, q.2.1, q.2.2)
      | .bk => some (.bk, q.2.1, q.2.2)
      | .ct => some (.ct, q.2.1, q.2.2)) = some (.nx, ρ', μ') := h
  obtain ⟨⟨f1, ρ1, μ1⟩, e1, e2⟩ := Option.bind_eq_some_iff.mp h
  cases f1 with
  | nx => exact z_cons e1 (k ρ1 μ1 e2)
  | rt v => cases e2
  | bk => cases e2
  | ct => cases e2
theorem r30 {a b : Int} (c : Cup a b) : ∃ a' b', Cup a' b' ∧ RK 11 30 [.l 0] [C2 a b] = some (.d (.bool true), [C2 a' b']) := by
  obtain ⟨r, a1, b1, r0, r1, c1, e1⟩ := r20 9 c (m := 30) (by decide) (by decide) []
  refine ⟨a1, b1, c1, ?_⟩
  have s1 : evS (RK 10) CC WH (.asg (.nm 1) (.op .add (.cons (.k (.int 1)) (.cons (.call 20 (.cons (.var 0) (.cons (.k (.int 30)) .nil))) .nil)))) [some (.l 0), none, none, none, none, none, none, none, none, none] [C2 a b] = some (.nx, sl30 (1 + r) none none, [C2 a1 b1]) := by
    refine z_asg (w := .d (.int (1 + r))) ?_
    show (evE (RK 10) CC (.cons (.k (.int 1)) (.cons (.call 20 (.cons (.var 0) (.cons (.k (.int 30)) .nil))) .nil)) [some (.l 0), none, none, none, none, none, none, none, none, none] [C2 a b]).bind _ = _
    rw [e_cons e_k (e_cons (e_call (e_cons (e_var rfl) (e_cons e_k e_nil)) e1 rfl) e_nil)]
    rfl
  have o := odds (1 + r) a1 b1 (by omega) (by omega)
  unfold see30 at o
  obtain ⟨⟨q1, q2, q3⟩, e2, e3⟩ := Option.map_eq_some_iff.mp o
  simp only [Prod.mk.injEq] at e3
  obtain ⟨f1, f2, f3, f4⟩ := e3
  have hn : q1 = .nx := by
    cases q1 with
    | nx => rfl
    | _ => cases f1
  subst hn
  subst f2
  obtain ⟨X, Y, rfl⟩ : ∃ X Y, q3 = [C2 a1 b1, X, Y] := by
    match q3, f3, f4 with
    | [x, y, z], f3, _ =>
      have : x = C2 a1 b1 := by simpa using f3
      subst this
      exact ⟨y, z, rfl⟩
  have g := oddE (1 + r) a1 b1 X Y
  unfold fin30 at g
  obtain ⟨⟨p1, p2, p3⟩, g2, g3⟩ := Option.map_eq_some_iff.mp g
  simp only [Prod.mk.injEq] at g3
  obtain ⟨i1, i2⟩ := g3
  have hp : p1 = .rt (.d (.bool true)) := by
    cases p1 with
    | rt v =>
      cases v with
      | d x =>
        cases x with
        | bool z =>
          have : z = true := i1
          rw [this]
        | _ => cases i1
      | l i => cases i1
    | _ => cases i1
  subst hp
  have body : evS (RK 10) CC WH b30 [some (.l 0), none, none, none, none, none, none, none, none, none] [C2 a b] = some (.rt (.d (.bool true)), p2, p3) :=
    z_cons s1 (z_split e2 fun ρ1 μ1 h1 => z_split h1 fun ρ2 μ2 h2 => z_split h2 fun ρ3 μ3 h3 => z_split h3 fun ρ4 μ4 h4 => by
      have h4 : some (Fl.nx, ρ4, μ4) = some (Fl.nx, _, _) := h4
      cases h4
      exact g2)
  show (evS (RK 10) CC WH b30 [some (.l 0), none, none, none, none, none, none, none, none, none] [C2 a b]).bind _ = _
  rw [body]
  show some (Val.d (.bool true), p3.take 1) = _
  rw [i2]
end K83
set_option Elab.async false
set_option linter.all false
set_option maxRecDepth 100000
set_option maxHeartbeats 1000000
namespace K83
open PySem Cz
local macro_rules | `(tactic| trivial) => `(tactic| repeat' (first
  | exact e_nil | exact e_k | exact z_nil | (apply e_var; rfl) | (apply e_glob; rfl) | apply e_cons
  | apply e_op0 | apply e_tup0 | apply e_call0 | apply e_not
  | exact run_mul (by assumption) _ | exact run_mul' (by assumption) _ | exact run_fdiv (by assumption) (by assumption) _ | exact run_md (by assumption) _ | exact run_eq_int _ _ | exact run_ne_int _ _
  | apply z_par | apply z_asg | apply z_asgt | apply z_ret | (apply z_consr; apply z_ret) | apply z_cons | rfl | (apply e_chain) | (apply e_and) | (apply e_or) | (intro _) | exact Nat.le_of_ble_eq_true rfl))


/-! ### _law_told: a continued fraction from behind -/
def told : List Int → I2
  | [] => (1, 0)
  | [m] => (m, 1)
  | m :: r => (m * (told r).1 + (told r).2, (told r).1)
theorem told_cons (m : Int) {r : List Int} (h : r ≠ []) : told (m :: r) = (m * (told r).1 + (told r).2, (told r).1) := by
  cases r with
  | nil => exact absurd rfl h
  | cons x r => rfl
/-- the loop: the rest from behind -/
theorem l27 (k : Nat) (R : Val) (μ : Store) : ∀ (back front : List Int) (x1 : Option Val), front ≠ [] → (∀ m ∈ back, B64 m) →
    ∃ y1, forL (.nm 1) (evS (RK k) CC WH b27l0) (fun _ => true) (back.map .int) [some R, x1, some (.d (.int (told front).1)), some (.d (.int (told front).2))] μ =
      some (.nx, [some R, y1, some (.d (.int (told (back.reverse ++ front)).1)), some (.d (.int (told (back.reverse ++ front)).2))], μ)
  | [], front, x1, _, _ => ⟨x1, l_done rfl⟩
  | m :: r, front, x1, hf, hb => by
    have hm := hb m List.mem_cons_self
    obtain ⟨y1, e⟩ := l27 k R μ r (m :: front) (some (.d (.int m))) (by simp) fun x hx => hb x (List.mem_cons_of_mem _ hx)
    rw [told_cons m hf] at e
    refine ⟨y1, ?_⟩
    have er : (m :: r).reverse ++ front = r.reverse ++ (m :: front) := by simp
    rw [er]
    have b1 : evS (RK k) CC WH b27l0 [some R, some (.d (.int m)), some (.d (.int (told front).1)), some (.d (.int (told front).2))] μ = some (.nx, [some R, some (.d (.int m)), some (.d (.int (m * (told front).1 + (told front).2))), some (.d (.int (told front).1))], μ) := by
      refine z_cons (z_par0 (ws := [.d (.int (m * (told front).1 + (told front).2)), .d (.int (told front).1)]) ?_ rfl) z_nil
      trivial
    exact l_nx (ρ2 := [some R, some (.d (.int m)), some (.d (.int (told front).1)), some (.d (.int (told front).2))]) rfl rfl b1 e
theorem cut_init {α : Type} (xs : List α) (x : α) : cutA (xs ++ [x]) none (some (-1)) = xs := by
  unfold cutA HT.sIx
  simp
  have e : (-1 + ((xs.length : Int) + 1)).toNat = xs.length := by omega
  rw [e, List.take_left]
theorem at_last {α : Type} (xs : List α) (x : α) : atA (xs ++ [x]) (-1) = some x := by
  unfold atA L2.ixN
  simp
  have e : (-1 + ((xs.length : Int) + 1)).toNat = xs.length := by omega
  rw [if_pos (by omega), e]
  show (xs ++ [x])[xs.length]? = some x
  simp
theorem r27 (k : Nat) (init : List Int) (m : Int) (hb : ∀ x ∈ init, B64 x) (hl : init.length ≤ 1000) (μ : Store) : RK (k + 1) 27 [.d (row (init ++ [m]))] μ = some (.d (pr (told (init ++ [m]))), μ) := by
  obtain ⟨y1, e⟩ := l27 k (.d (row (init ++ [m]))) μ init.reverse [m] none (by simp) fun x hx => hb x (List.mem_reverse.mp hx)
  rw [List.reverse_reverse] at e
  have ix : Op.ix.run [row (init ++ [m]), .int (-1)] = some (.d (.int m)) := by
    show (atA ((init ++ [m]).map PyData.int) (-1)).map Res.d = _
    rw [List.map_append, show [m].map PyData.int = [PyData.int m] from rfl, at_last]
    rfl
  have sl : Op.sl01.run [row (init ++ [m]), .int (-1)] = some (.d (row init)) := by
    show some (Res.d (.tuple (cutA ((init ++ [m]).map PyData.int) none (some (-1))))) = _
    rw [List.map_append, show [m].map PyData.int = [PyData.int m] from rfl, cut_init]
    rfl
  have rv : Op.rev.run [row init] = some (.d (row init.reverse)) := by
    show some (Res.d (.tuple (init.map PyData.int).reverse)) = _
    rw [← List.map_reverse]
    rfl
  have ng : ∀ ρ, evE (RK k) CC (.op .neg (.cons (.k (.int 1)) .nil)) ρ μ = some ([.d (.int (-1))], μ) := fun ρ => e_op0 (e_cons e_k e_nil) rfl rfl
  have s1 : evS (RK k) CC WH (.par [2, 3] (.cons (.op .ix (.cons (.var 0) (.cons (.op .neg (.cons (.k (.int 1)) .nil)) .nil))) (.cons (.k (.int 1)) .nil))) [some (.d (row (init ++ [m]))), none, none, none] μ = some (.nx, [some (.d (row (init ++ [m]))), none, some (.d (.int m)), some (.d (.int 1))], μ) :=
    z_par0 (ws := [.d (.int m), .d (.int 1)]) (e_cons (e_op0 (ws := [.d (row (init ++ [m])), .d (.int (-1))]) (e_cons (e_var rfl) (e_cons (ng _) e_nil)) rfl ix) (e_cons e_k e_nil)) rfl
  have s2 : evS (RK k) CC WH (.for_ (.nm 1) .seq (.cons (.op .rev (.cons (.op .sl01 (.cons (.var 0) (.cons (.op .neg (.cons (.k (.int 1)) .nil)) .nil))) .nil)) .nil) b27l0) [some (.d (row (init ++ [m]))), none, some (.d (.int m)), some (.d (.int 1))] μ =
      some (.nx, [some (.d (row (init ++ [m]))), y1, some (.d (.int (told (init ++ [m])).1)), some (.d (.int (told (init ++ [m])).2))], μ) :=
    z_for (cs := [row init.reverse]) (xs := init.reverse.map .int) (e_cons (e_op0 (ws := [.d (row init)]) (e_cons (e_op0 (ws := [.d (row (init ++ [m])), .d (.int (-1))]) (e_cons (e_var rfl) (e_cons (ng _) e_nil)) rfl sl) e_nil) rfl rv) e_nil) rfl e
  exact rk_rt ⟨p27.length, n27.length, b27⟩ rfl rfl (z_cons s1 (z_cons s2 (z_consr (s2 := .nil) (z_ret0 (e_tup0 (e_cons (e_var rfl) (e_cons (e_var rfl) e_nil)) rfl (Nat.le_of_ble_eq_true rfl)))))) (take_self μ)
end K83
set_option Elab.async false
set_option linter.all false
set_option maxRecDepth 100000
set_option maxHeartbeats 1000000
namespace K83
open PySem Cz
theorem join_eq (ys : List Str) : Txt.join "" ys = Str.join "" ys := eq_of_beq (PyProof.Rows.join_plain_closes "" ys)
theorem cps_append (x y : Str) : (x ++ y).cps.toList = x.cps.toList ++ y.cps.toList := by
  show (x.cps ++ y.cps).toList = _
  simp
theorem join_cps : ∀ ys : List Str, (Str.join "" ys).cps.toList = (ys.map (·.cps.toList)).flatten
  | [] => rfl
  | [x] => by
    show x.cps.toList = _
    simp
  | x :: y :: r => by
    show (x ++ ("" : Str) ++ Str.join "" (y :: r)).cps.toList = _
    rw [cps_append, cps_append, join_cps (y :: r)]
    show x.cps.toList ++ [] ++ _ = _
    simp
/-- the letters of a path: 117 up, 100 down -/
def pl1 (i : Nat) (m : Int) : List Nat := List.replicate m.toNat (if i % 2 = 0 then 117 else 100)
def plL : Nat → List Int → List Nat
  | _, [] => []
  | i, m :: r => pl1 i m ++ plL (i + 1) r
def path (ns : List Int) : Str := ⟨(plL 0 ns).toArray⟩

theorem rep_one (n c : Nat) : (List.replicate n [c]).flatten = List.replicate n c := by
  induction n with
  | zero => rfl
  | succ n ih => rw [List.replicate_succ, List.flatten_cons, ih, List.replicate_succ]; rfl
def g26 (ns : List Int) : PyData → PyData := fun x => match x with
  | .int i => .str ⟨(pl1 i.toNat (ns.getD i.toNat 0)).toArray⟩
  | _ => .none
theorem rangeD_mem : ∀ (n : Nat) (lo : Int) (x : PyData), x ∈ rangeD lo n → ∃ j : Nat, j < n ∧ x = .int (lo + (j : Int))
  | 0, _, _, h => by cases h
  | n + 1, lo, x, h => by
    rcases List.mem_cons.mp h with e | h
    · exact ⟨0, by omega, by rw [e]; congr 1; omega⟩
    · obtain ⟨j, h1, h2⟩ := rangeD_mem n (lo + 1) x h
      exact ⟨j + 1, by omega, by rw [h2]; congr 1; omega⟩
theorem elt26 (k : Nat) (ns : List Int) (i : Nat) (m : Int) (h : ns[i]? = some m) (hm : 0 ≤ m ∧ m ≤ 1000) (μ : Store) : evE (RK k) CC (.op .mul (.cons (.op .ix (.cons (.k (.str "ud")) (.cons (.op .md (.cons (.op .int1 (.cons (.var 1) .nil)) (.cons (.k (.int 2)) .nil))) .nil))) (.cons (.op .ix (.cons (.var 0) (.cons (.var 1) .nil))) .nil))) [some (.d (row ns)), some (.d (.int (i : Int)))] μ = some ([.d (.str ⟨(pl1 i m).toArray⟩)], μ) := by
  have e1 : evE (RK k) CC (.op .md (.cons (.op .int1 (.cons (.var 1) .nil)) (.cons (.k (.int 2)) .nil))) [some (.d (row ns)), some (.d (.int (i : Int)))] μ = some ([.d (.int ((i : Int) % 2))], μ) := e_op0 (ws := [.d (.int (i : Int)), .d (.int 2)]) (e_cons (e_op0 (e_cons (e_var rfl) e_nil) rfl rfl) (e_cons e_k e_nil)) rfl rfl
  have e2 : evE (RK k) CC (.op .ix (.cons (.var 0) (.cons (.var 1) .nil))) [some (.d (row ns)), some (.d (.int (i : Int)))] μ = some ([.d (.int m)], μ) := e_op0 (ws := [.d (row ns), .d (.int (i : Int))]) (e_cons (e_var rfl) (e_cons (e_var rfl) e_nil)) rfl (ix_row h)
  have mulr : ∀ c : Nat, Op.mul.run [.str ⟨#[c]⟩, .int m] = some (.d (.str ⟨(List.replicate m.toNat c).toArray⟩)) := fun c => by
    show (if m < 2 ^ 62 ∧ -(2 ^ 62) < m ∧ 1 * m.toNat ≤ sizeMax then some (Res.d (.str ⟨(List.replicate m.toNat [c]).flatten.toArray⟩)) else none) = _
    rw [if_pos ⟨by omega, by omega, by simp [sizeMax]; omega⟩, rep_one]
  by_cases hp : i % 2 = 0
  · have ez : (i : Int) % 2 = 0 := by omega
    rw [ez] at e1
    have e3 : evE (RK k) CC (.op .ix (.cons (.k (.str "ud")) (.cons (.op .md (.cons (.op .int1 (.cons (.var 1) .nil)) (.cons (.k (.int 2)) .nil))) .nil))) [some (.d (row ns)), some (.d (.int (i : Int)))] μ = some ([.d (.str ⟨#[117]⟩)], μ) := e_op0 (e_cons e_k (e_cons e1 e_nil)) rfl rfl
    have := mulr 117
    unfold pl1
    rw [if_pos hp]
    exact e_op0 (e_cons e3 (e_cons e2 e_nil)) rfl this
  · have ez : (i : Int) % 2 = 1 := by omega
    rw [ez] at e1
    have e3 : evE (RK k) CC (.op .ix (.cons (.k (.str "ud")) (.cons (.op .md (.cons (.op .int1 (.cons (.var 1) .nil)) (.cons (.k (.int 2)) .nil))) .nil))) [some (.d (row ns)), some (.d (.int (i : Int)))] μ = some ([.d (.str ⟨#[100]⟩)], μ) := e_op0 (e_cons e_k (e_cons e1 e_nil)) rfl rfl
    have := mulr 100
    unfold pl1
    rw [if_neg hp]
    exact e_op0 (e_cons e3 (e_cons e2 e_nil)) rfl this

theorem strs_of : ∀ ys : List Str, strs? (ys.map .str) = some ys
  | [] => rfl
  | y :: ys => by
    show (strs? (ys.map .str)).map (y :: ·) = _
    rw [strs_of ys]
    rfl
def yL : Nat → List Int → List Str
  | _, [] => []
  | i, m :: r => ⟨(pl1 i m).toArray⟩ :: yL (i + 1) r
theorem yL_cps : ∀ (ns : List Int) (i : Nat), ((yL i ns).map (·.cps.toList)).flatten = plL i ns
  | [], _ => rfl
  | m :: r, i => by
    show (pl1 i m).toArray.toList ++ ((yL (i + 1) r).map (·.cps.toList)).flatten = pl1 i m ++ plL (i + 1) r
    rw [yL_cps r (i + 1)]
theorem yL_len : ∀ (ns : List Int) (i : Nat), (∀ m ∈ ns, m ≤ 1000) → ((yL i ns).map (·.length)).sum ≤ ns.length * 1000
  | [], _, _ => Nat.le_refl _
  | m :: r, i, h => by
    have h1 := yL_len r (i + 1) fun x hx => h x (List.mem_cons_of_mem _ hx)
    have hm := h m List.mem_cons_self
    have hl : (⟨(pl1 i m).toArray⟩ : Str).length = m.toNat := by
      show (pl1 i m).toArray.size = _
      unfold pl1
      simp
    show (⟨(pl1 i m).toArray⟩ : Str).length + ((yL (i + 1) r).map (·.length)).sum ≤ (r.length + 1) * 1000
    rw [hl]
    omega
theorem g26_map (all : List Int) : ∀ (ns : List Int) (i : Nat), all.drop i = ns → (rangeD (i : Int) ns.length).map (g26 all) = (yL i ns).map .str
  | [], _, _ => rfl
  | m :: r, i, hd => by
    have ha : all[i]? = some m := by
      have : (all.drop i)[0]? = some m := by rw [hd]; rfl
      rw [List.getElem?_drop] at this
      simpa using this
    have hr : all.drop (i + 1) = r := by
      rw [← List.drop_drop, hd]
      rfl
    have ih := g26_map all r (i + 1) hr
    show g26 all (.int (i : Int)) :: (rangeD ((i : Int) + 1) r.length).map (g26 all) = PyData.str ⟨(pl1 i m).toArray⟩ :: (yL (i + 1) r).map .str
    have e1 : g26 all (.int (i : Int)) = .str ⟨(pl1 i m).toArray⟩ := by
      show PyData.str ⟨(pl1 ((i : Int)).toNat (all.getD ((i : Int)).toNat 0)).toArray⟩ = _
      rw [Int.toNat_natCast, List.getD_eq_getElem?_getD, ha]
      rfl
    rw [e1]
    have e2 : ((i : Int) + 1) = ((i + 1 : Nat) : Int) := by omega
    rw [e2, ih]
theorem r26 (k : Nat) (ns : List Int) (hm : ∀ m ∈ ns, 0 ≤ m ∧ m ≤ 1000) (hl : ns.length ≤ 1000) (μ : Store) : RK (k + 1) 26 [.d (row ns)] μ = some (.d (.str (path ns)), μ) := by
  have d1 : evE (RK k) CC (.comp (.op .mul (.cons (.op .ix (.cons (.k (.str "ud")) (.cons (.op .md (.cons (.op .int1 (.cons (.var 1) .nil)) (.cons (.k (.int 2)) .nil))) .nil))) (.cons (.op .ix (.cons (.var 0) (.cons (.var 1) .nil))) .nil))) (.nm 1) .range1 (.cons (.op .len (.cons (.var 0) .nil)) .nil) .nil) [some (.d (row ns)), none] μ = some ([.l μ.length], μ ++ [(rangeD 0 ns.length).map (g26 ns)]) := by
    refine e_compM (cs := [.int (ns.length : Int)]) (g26 ns) (e_cons (e_op0 (ws := [.d (row ns)]) (e_cons (e_var rfl) e_nil) rfl (by
      show some (Res.d (.int ((ns.map PyData.int).length : Int))) = _
      rw [List.length_map])) e_nil) (by
        show (if bound62 (ns.length : Int) = true then some (rangeD 0 ((ns.length : Int)).toNat) else none) = _
        rw [if_pos (by unfold bound62; exact decide_eq_true ⟨by omega, by omega⟩), Int.toNat_natCast]) (by rw [rangeD_len]; simp [sizeMax]; omega) fun x hx => ?_
    obtain ⟨j, hj, rfl⟩ := rangeD_mem _ _ _ hx
    rw [Int.zero_add]
    have hget : ns[j]? = some ns[j] := List.getElem?_eq_getElem hj
    refine turn_map (ρ' := [some (.d (row ns)), some (.d (.int (j : Int)))]) rfl ?_
    have e := elt26 k ns j ns[j] hget (hm _ (List.getElem_mem hj)) μ
    have eg : g26 ns (.int (j : Int)) = .str ⟨(pl1 j ns[j]).toArray⟩ := by
      show PyData.str ⟨(pl1 ((j : Int)).toNat (ns.getD ((j : Int)).toNat 0)).toArray⟩ = _
      rw [Int.toNat_natCast, List.getD_eq_getElem?_getD, hget]
      rfl
    rw [eg]
    exact e
  have em := g26_map ns ns 0 rfl
  have em' : (rangeD 0 ns.length).map (g26 ns) = (yL 0 ns).map .str := em
  rw [em'] at d1
  have jn : Op.join.run [.str "", .list ((yL 0 ns).map .str)] = some (.d (.str (path ns))) := by
    show (strs? ((yL 0 ns).map .str)).bind (fun ys => if (ys.map (·.length)).sum + ys.length * ("" : Str).length ≤ 16777216 then some (Res.d (.str (Txt.join "" ys))) else none) = _
    rw [strs_of]
    show (if ((yL 0 ns).map (·.length)).sum + (yL 0 ns).length * 0 ≤ 16777216 then some (Res.d (.str (Txt.join "" (yL 0 ns)))) else none) = _
    have h1 := yL_len ns 0 fun m h => (hm m h).2
    rw [if_pos (by omega), join_eq]
    have h2 := join_cps (yL 0 ns)
    rw [yL_cps] at h2
    have h3 : Str.join "" (yL 0 ns) = path ns := by
      have : (Str.join "" (yL 0 ns)).cps = (plL 0 ns).toArray := by
        rw [← h2]
      unfold path
      rw [← this]
    rw [h3]
  refine rk0 ⟨p26.length, n26.length, b26⟩ rfl rfl (z_consr (s2 := .nil) (z_ret0 (e_op [(yL 0 ns).map .str] (ws := [.d (.str ""), .l μ.length]) (cs := [.str "", .list ((yL 0 ns).map .str)]) (e_cons e_k (e_cons d1 e_nil)) ?_ jn)))
  show (cont _ (.d (.str ""))).bind (fun x => (conts (μ ++ [(yL 0 ns).map .str]) [.l μ.length]).map (x :: ·)) = _
  rw [conts_new]
  rfl
end K83
set_option Elab.async false
set_option linter.all false
set_option maxRecDepth 100000
set_option maxHeartbeats 1000000
namespace K83
open PySem Cz
/-! ### the chain: forward and from behind -/
/-- forward convergents by matrices: ch is told of the prefixes -/
def fw : List Int → I2 → I2 → I2
  | [], _, he => he
  | m :: r, ah, he => fw r he (ah.1 + m * he.1, ah.2 + m * he.2)
theorem fw_told : ∀ (ns : List Int) (ah he : I2), ns ≠ [] → fw ns ah he = ((told ns).1 * he.1 + (told ns).2 * ah.1, (told ns).1 * he.2 + (told ns).2 * ah.2)
  | [], _, _, h => absurd rfl h
  | [m], ah, he, _ => by
    show (ah.1 + m * he.1, ah.2 + m * he.2) = (m * he.1 + 1 * ah.1, m * he.2 + 1 * ah.2)
    refine Prod.ext ?_ ?_ <;> simp only [] <;> omega
  | m :: x :: r, ah, he, _ => by
    show fw (x :: r) he (ah.1 + m * he.1, ah.2 + m * he.2) = _
    rw [fw_told (x :: r) _ _ (by simp), told_cons m (by simp : x :: r ≠ [])]
    generalize told (x :: r) = w
    refine Prod.ext ?_ ?_ <;> simp only [] <;> grind
theorem fw0 (ns : List Int) (h : ns ≠ []) : fw ns (0, 1) (1, 0) = told ns := by
  rw [fw_told ns _ _ h]
  refine Prod.ext ?_ ?_ <;> simp
theorem ch_fw : ∀ (ns : List Int) (ah he : I2) (i : Nat), i < ns.length → (ch ns ah he)[i]? = some (fw (ns.take (i + 1)) ah he)
  | [], _, _, i, h => by simp at h
  | m :: r, ah, he, 0, _ => by
    rw [ch]
    rfl
  | m :: r, ah, he, i + 1, h => by
    rw [ch, List.getElem?_cons_succ, ch_fw r he _ i (by simpa using h)]
    rfl
/-- the convergents are told of the prefixes -/
theorem ch_told (ns : List Int) : ch ns (0, 1) (1, 0) = (List.range ns.length).map fun i => told (ns.take (i + 1)) := by
  refine List.ext_getElem? fun i => ?_
  by_cases h : i < ns.length
  · rw [ch_fw ns _ _ i h, fw0 _ (by
      cases ns with
      | nil => simp at h
      | cons m r => simp), List.getElem?_map, List.getElem?_range h]
    rfl
  · rw [List.getElem?_eq_none (by rw [ch_len]; omega), List.getElem?_eq_none (by simp; omega)]
end K83
set_option Elab.async false
set_option linter.all false
set_option maxRecDepth 100000
set_option maxHeartbeats 1000000
namespace K83
open PySem Cz
/-- the quotients with the last lessened: the runs -/
def less : List Int → List Int
  | [] => []
  | [q] => if 1 < q then [q - 1] else []
  | q :: r => q :: less r
theorem less_cons (q : Int) {r : List Int} (h : r ≠ []) : less (q :: r) = q :: less r := by
  cases r with
  | nil => exact absurd rfl h
  | cons x r => rfl
theorem eu_ne {n : Nat} {a b : Int} (h : 0 < b) (hn : 0 < n) : eu n a b ≠ [] := by
  cases n with
  | zero => omega
  | succ n => rw [eu_pos h]; simp
theorem SL_less : ∀ (n : Nat) (a b : Int) (t : Nat), 1 ≤ a → 1 ≤ b → b < n → Nat.gcd a.natAbs b.natAbs = 1 → SL t (less (eu n a b)) = if t % 2 = 0 then (a, b) else (b, a)
  | 0, a, b, t, _, _, h, _ => by omega
  | n + 1, a, b, t, ha, hb, hn, hg => by
    rw [eu_pos (by omega)]
    have r0 := Int.emod_nonneg a (show b ≠ 0 by omega)
    have r1 := Int.emod_lt_of_pos a (show 0 < b by omega)
    have hq := Int.mul_ediv_add_emod a b
    have hg2 := gcd_step (a := a) (b := b) (by omega) (by omega)
    rw [hg] at hg2
    by_cases hr : a % b = 0
    · rw [hr] at hg2
      rw [Int.natAbs_zero, Nat.gcd_zero_right] at hg2
      have hb1 : b = 1 := by omega
      subst hb1
      rw [hr, eu_zero, Int.ediv_one]
      show SL t (if 1 < a then [a - 1] else []) = _
      by_cases h1 : 1 < a
      · rw [if_pos h1, SL_cons]
        by_cases ht : t % 2 = 0
        · rw [if_pos ht, if_pos ht]
          show ((1 : Int) + (a - 1) * 1, (1 : Int)) = (a, 1)
          refine Prod.ext ?_ rfl
          show (1 : Int) + (a - 1) * 1 = a
          omega
        · rw [if_neg ht, if_neg ht]
          show ((1 : Int), (1 : Int) + (a - 1) * 1) = (1, a)
          refine Prod.ext rfl ?_
          show (1 : Int) + (a - 1) * 1 = a
          omega
      · have ha1 : a = 1 := by omega
        subst ha1
        rw [if_neg h1]
        show ((1 : Int), (1 : Int)) = _
        split <;> rfl
    · have hr0 : 1 ≤ a % b := by omega
      rw [less_cons _ (eu_ne (by omega) (by omega)), SL_cons, SL_less n b (a % b) (t + 1) hb hr0 (by omega) hg2]
      have em : a / b * b + a % b = a := by rw [Int.mul_comm]; exact hq
      by_cases ht : t % 2 = 0
      · rw [if_pos ht, if_pos ht, if_neg (by omega)]
        refine Prod.ext ?_ rfl
        show a % b + a / b * b = a
        omega
      · rw [if_neg ht, if_neg ht, if_pos (by omega)]
        refine Prod.ext rfl ?_
        show a % b + a / b * b = a
        omega
end K83
set_option Elab.async false
set_option linter.all false
set_option maxRecDepth 100000
set_option maxHeartbeats 1000000
namespace K83
open PySem Cz
theorem less_pos : ∀ (n : Nat) (a b : Int), 1 ≤ b → b < a → b < n → Nat.gcd a.natAbs b.natAbs = 1 → Pos (less (eu n a b)) ∧ less (eu n a b) ≠ []
  | 0, a, b, _, _, h, _ => by omega
  | n + 1, a, b, hb, hab, hn, hg => by
    rw [eu_pos (by omega)]
    have r0 := Int.emod_nonneg a (show b ≠ 0 by omega)
    have r1 := Int.emod_lt_of_pos a (show 0 < b by omega)
    have hg2 := gcd_step (a := a) (b := b) (by omega) (by omega)
    rw [hg] at hg2
    have hq : 1 ≤ a / b := (Int.le_ediv_iff_mul_le (by omega)).mpr (by omega)
    by_cases hr : a % b = 0
    · rw [hr] at hg2
      rw [Int.natAbs_zero, Nat.gcd_zero_right] at hg2
      have hb1 : b = 1 := by omega
      subst hb1
      rw [hr, eu_zero, Int.ediv_one]
      show Pos (if 1 < a then [a - 1] else []) ∧ (if 1 < a then [a - 1] else []) ≠ []
      rw [if_pos hab]
      refine ⟨fun m hm => ?_, by simp⟩
      have e : m = a - 1 := by simpa using hm
      omega
    · obtain ⟨h1, h2⟩ := less_pos n b (a % b) (by omega) r1 (by omega) hg2
      rw [less_cons _ (eu_ne (by omega) (by omega))]
      refine ⟨fun m hm => ?_, by simp⟩
      rcases List.mem_cons.mp hm with e | hm
      · rw [e]; exact hq
      · exact h1 m hm
theorem less_val (n : Nat) (a b : Int) (ha : 1 ≤ a) (hb : 1 ≤ b) (hn : b < n) (hg : Nat.gcd a.natAbs b.natAbs = 1) : Val0 (less (eu n a b)) := by
  cases n with
  | zero => omega
  | succ n =>
    rw [eu_pos (by omega)]
    have r0 := Int.emod_nonneg a (show b ≠ 0 by omega)
    have r1 := Int.emod_lt_of_pos a (show 0 < b by omega)
    have hg2 := gcd_step (a := a) (b := b) (by omega) (by omega)
    rw [hg] at hg2
    have hq : 0 ≤ a / b := Int.ediv_nonneg (by omega) (by omega)
    by_cases hr : a % b = 0
    · rw [hr] at hg2
      rw [Int.natAbs_zero, Nat.gcd_zero_right] at hg2
      have hb1 : b = 1 := by omega
      subst hb1
      rw [hr, eu_zero, Int.ediv_one]
      show Val0 (if 1 < a then [a - 1] else [])
      by_cases h1 : 1 < a
      · rw [if_pos h1]
        show 1 ≤ a - 1
        omega
      · rw [if_neg h1]
        exact True.intro
    · obtain ⟨h1, h2⟩ := less_pos n b (a % b) (by omega) r1 (by omega) hg2
      rw [less_cons _ (eu_ne (by omega) (by omega))]
      match hE : less (eu n b (a % b)), h1, h2 with
      | [], _, h2 => exact absurd rfl h2
      | x :: r, h1, _ => exact ⟨hq, h1⟩
theorem less_len : ∀ E : List Int, (less E).length ≤ E.length
  | [] => Nat.le_refl _
  | [q] => by
    show (if 1 < q then [q - 1] else []).length ≤ 1
    split <;> simp
  | q :: x :: r => by
    have := less_len (x :: r)
    show (less (x :: r)).length + 1 ≤ (x :: r).length + 1
    omega
theorem less_le {B : Int} : ∀ E : List Int, (∀ m ∈ E, m ≤ B) → ∀ m ∈ less E, m ≤ B
  | [], _, m, h => by cases h
  | [q], hB, m, h => by
    have h : m ∈ (if 1 < q then [q - 1] else []) := h
    split at h
    · have e : m = q - 1 := by simpa using h
      have := hB q (by simp)
      omega
    · cases h
  | q :: x :: r, hB, m, h => by
    have h : m ∈ q :: less (x :: r) := h
    rcases List.mem_cons.mp h with e | h
    · rw [e]; exact hB q List.mem_cons_self
    · exact less_le (x :: r) (fun y hy => hB y (List.mem_cons_of_mem _ hy)) m h
theorem less_sum (n : Nat) (a b : Int) (ha : 1 ≤ a) (hb : 1 ≤ b) (hn : b < n) (hg : Nat.gcd a.natAbs b.natAbs = 1) : (less (eu n a b)).sum = (eu n a b).sum - 1 := by
  induction n generalizing a b with
  | zero => omega
  | succ n ih =>
    rw [eu_pos (by omega)]
    have r0 := Int.emod_nonneg a (show b ≠ 0 by omega)
    have r1 := Int.emod_lt_of_pos a (show 0 < b by omega)
    have hg2 := gcd_step (a := a) (b := b) (by omega) (by omega)
    rw [hg] at hg2
    by_cases hr : a % b = 0
    · rw [hr] at hg2
      rw [Int.natAbs_zero, Nat.gcd_zero_right] at hg2
      have hb1 : b = 1 := by omega
      subst hb1
      rw [hr, eu_zero, Int.ediv_one]
      show (if 1 < a then [a - 1] else []).sum = [a].sum - 1
      by_cases h1 : 1 < a
      · rw [if_pos h1]
        simp
      · have ha1 : a = 1 := by omega
        subst ha1
        rfl
    · have := ih b (a % b) hb (by omega) (by omega) hg2
      rw [less_cons _ (eu_ne (by omega) (by omega)), List.sum_cons, List.sum_cons, this]
      omega
end K83
set_option Elab.async false
set_option linter.all false
set_option maxRecDepth 100000
set_option maxHeartbeats 1000000
namespace K83
open PySem Cz
theorem eu_le {B : Int} : ∀ (n : Nat) (a b : Int), 0 ≤ a → a ≤ B → b ≤ B → ∀ m ∈ eu n a b, m ≤ B
  | 0, _, _, _, _, _, m, h => by cases h
  | n + 1, a, b, ha, ha2, hb2, m, h => by
    by_cases hb : 0 < b
    · rw [eu_pos hb] at h
      rcases List.mem_cons.mp h with e | h
      · have h2 : a / b ≤ a := Int.ediv_le_self _ ha
        rw [e]
        omega
      · exact eu_le n b (a % b) (by omega) hb2 (by have := Int.emod_lt_of_pos a hb; omega) m h
    · have : eu (n + 1) a b = [] := by
        show (if 0 < b then _ else []) = _
        rw [if_neg hb]
      rw [this] at h
      cases h
theorem okQ {p : I2} (h : Sl p) (hg : ((Nat.gcd p.1.natAbs p.2.natAbs : Nat) : Int) = 1) : Ok2 (less (Q p)) ∧ SL 0 (less (Q p)) = p := by
  have hN := nq_gr
  have a1 := h.a1
  have b1 := h.b1
  have b2 := h.b2
  have hg' : Nat.gcd p.1.natAbs p.2.natAbs = 1 := by omega
  have hb : p.2 < (NQ : Int) := by omega
  have e : SL 0 (less (Q p)) = p := SL_less NQ p.1 p.2 0 a1 b1 hb hg'
  refine ⟨⟨⟨less_val NQ p.1 p.2 a1 b1 hb hg', less_le _ (eu_le NQ p.1 p.2 (by omega) h.a2 h.b2), ?_⟩, by rw [e]; exact h.a2, by rw [e]; exact h.b2⟩, e⟩
  have h1 := less_len (Q p)
  have h2 := h.len
  omega
end K83
set_option Elab.async false
set_option linter.all false
set_option maxRecDepth 100000
set_option maxHeartbeats 1000000
namespace K83
open PySem Cz
/-- what each round's test must answer -/
def Right (f : Nat) : Prop := ∀ a b : Int, Cup a b → ∃ a' b', Cup a' b' ∧ RK 11 f [.l 0] [C2 a b] = some (.d (.bool true), [C2 a' b'])
theorem s31 (h28 : Right 28) (h29 : Right 29) (R : Option Val) (x2 : Option Val) {a b : Int} (c : Cup a b) : ∃ a' b', Cup a' b' ∧ evS (RK 11) CC WH b31l0 [R, some (.l 0), x2] [C2 a b] = some (.nx, [R, some (.l 0), x2], [C2 a' b']) := by
  obtain ⟨a1, b1, c1, e1⟩ := h28 a b c
  obtain ⟨a2, b2, c2, e2⟩ := h29 a1 b1 c1
  refine ⟨a2, b2, c2, ?_⟩
  have cn : evE (RK 11) CC (.or (.not (.call 28 (.cons (.var 1) .nil))) (.not (.call 29 (.cons (.var 1) .nil)))) [R, some (.l 0), x2] [C2 a b] = some ([.d (.bool false)], [C2 a2 b2]) := by
    show (evE (RK 11) CC (.not (.call 28 (.cons (.var 1) .nil))) [R, some (.l 0), x2] [C2 a b]).bind _ = _
    rw [e_not true (e_call (e_cons (e_var rfl) e_nil) e1 rfl)]
    show evE (RK 11) CC (.not (.call 29 (.cons (.var 1) .nil))) [R, some (.l 0), x2] [C2 a1 b1] = _
    rw [e_not true (e_call (e_cons (e_var rfl) e_nil) e2 rfl)]
    rfl
  exact z_cons (z_ifs false cn (fun z => by cases z) fun _ => z_nil) z_nil
theorem l31 (h28 : Right 28) (h29 : Right 29) (R : Option Val) : ∀ (xs : List PyData) (x2 : Option Val) {a b : Int}, Cup a b → ∃ y2 a' b', Cup a' b' ∧ forL (.nm 2) (evS (RK 11) CC WH b31l0) (fun _ => true) xs [R, some (.l 0), x2] [C2 a b] = some (.nx, [R, some (.l 0), y2], [C2 a' b'])
  | [], x2, a, b, c => ⟨x2, a, b, c, l_done rfl⟩
  | x :: xs, x2, a, b, c => by
    obtain ⟨a1, b1, c1, e1⟩ := s31 h28 h29 R (some (.d x)) c
    obtain ⟨y2, a2, b2, c2, e2⟩ := l31 h28 h29 R xs (some (.d x)) c1
    exact ⟨y2, a2, b2, c2, l_nx (ρ2 := [R, some (.l 0), some (.d x)]) rfl rfl e1 e2⟩
theorem law_of (h28 : Right 28) (h29 : Right 29) (ns : List Int) (hl : ns.length ≤ 63) : Cz.run ds CC WH 12 31 [.d (.list (ns.map .int))] [] = some (.d (.bool true), []) := by
  obtain ⟨a, b, c, e1⟩ := r19 10 ns hl
  obtain ⟨y2, a2, b2, c2, e2⟩ := l31 h28 h29 (some (.d (.list (ns.map .int)))) (rangeD 0 6) none c
  obtain ⟨a3, b3, c3, e3⟩ := r30 c2
  have s1 : evS (RK 11) CC WH (.asg (.nm 1) (.call 19 (.cons (.var 0) .nil))) [some (.d (.list (ns.map .int))), none, none] [] = some (.nx, [some (.d (.list (ns.map .int))), some (.l 0), none], [C2 a b]) := by
    refine z_asg (w := .l 0) ?_
    show (evE (RK 11) CC (.cons (.var 0) .nil) [some (.d (.list (ns.map .int))), none, none] []).bind _ = _
    rw [e_cons (w := .d (.list (ns.map .int))) (e_var rfl) e_nil]
    show (RK 11 19 [.d (.list (ns.map .int))] []).bind _ = _
    rw [e1]
    rfl
  have s2 : evS (RK 11) CC WH (.for_ (.nm 2) .range1 (.cons (.k (.int 6)) .nil) b31l0) [some (.d (.list (ns.map .int))), some (.l 0), none] [C2 a b] = some (.nx, [some (.d (.list (ns.map .int))), some (.l 0), y2], [C2 a2 b2]) :=
    z_for (cs := [.int 6]) (xs := rangeD 0 6) (e_cons e_k e_nil) rfl e2
  have s3 : evS (RK 11) CC WH (.ret (.call 30 (.cons (.var 1) .nil))) [some (.d (.list (ns.map .int))), some (.l 0), y2] [C2 a2 b2] = some (.rt (.d (.bool true)), [some (.d (.list (ns.map .int))), some (.l 0), y2], [C2 a3 b3]) :=
    z_ret (e_call (e_cons (e_var rfl) e_nil) e3 rfl)
  have body : evS (RK 11) CC WH b31 [some (.d (.list (ns.map .int))), none, none] [] = some (.rt (.d (.bool true)), [some (.d (.list (ns.map .int))), some (.l 0), y2], [C2 a3 b3]) := z_cons s1 (z_cons s2 (z_consr (s2 := .nil) s3))
  show (evS (RK 11) CC WH b31 [some (.d (.list (ns.map .int))), none, none] []).bind _ = _
  rw [body]
  rfl
end K83
set_option Elab.async false
set_option linter.all false
set_option maxRecDepth 100000
set_option maxHeartbeats 1000000
namespace K83p
abbrev I2 := Int × Int
def mid (s : I2 × I2) : I2 := (s.1.1 + s.2.1, s.1.2 + s.2.2)
/-- one letter -/
def stp (s : I2 × I2) (c : Nat) : I2 × I2 := if c = 117 then (mid s, s.2) else (s.1, mid s)
theorem fold_lin : ∀ (w : List Nat) (s : I2 × I2), ∃ x y : Int, 1 ≤ x ∧ 1 ≤ y ∧ mid (w.foldl stp s) = (x * s.1.1 + y * s.2.1, x * s.1.2 + y * s.2.2)
  | [], s => ⟨1, 1, Int.le_refl _, Int.le_refl _, by
    show (s.1.1 + s.2.1, s.1.2 + s.2.2) = _
    simp⟩
  | c :: w, s => by
    obtain ⟨x, y, hx, hy, e⟩ := fold_lin w (stp s c)
    show ∃ x y : Int, 1 ≤ x ∧ 1 ≤ y ∧ mid (w.foldl stp (stp s c)) = _
    rw [e]
    unfold stp mid
    by_cases h : c = 117
    · rw [if_pos h]
      refine ⟨x, x + y, hx, by omega, ?_⟩
      refine Prod.ext ?_ ?_ <;> simp only [] <;> grind
    · rw [if_neg h]
      refine ⟨x + y, y, by omega, hy, ?_⟩
      refine Prod.ext ?_ ?_ <;> simp only [] <;> grind
def det (p q : I2) : Int := p.1 * q.2 - q.1 * p.2
theorem det_stp (s : I2 × I2) (c : Nat) : det (stp s c).2 (stp s c).1 = det s.2 s.1 := by
  unfold det stp mid
  by_cases h : c = 117
  · rw [if_pos h]; simp only []; grind
  · rw [if_neg h]; simp only []; grind
theorem det_fold : ∀ (w : List Nat) (s : I2 × I2), det (w.foldl stp s).2 (w.foldl stp s).1 = det s.2 s.1
  | [], _ => rfl
  | c :: w, s => (det_fold w (stp s c)).trans (det_stp s c)
/-- behind a step up: above; behind a step down: below -/
theorem up_gt (s : I2 × I2) (w : List Nat) (h : det s.2 s.1 = 1) : 0 < det (mid ((117 :: w).foldl stp s)) (mid s) := by
  obtain ⟨x, y, hx, hy, e⟩ := fold_lin w (stp s 117)
  show 0 < det (mid (w.foldl stp (stp s 117))) (mid s)
  rw [e]
  have : det (x * (stp s 117).1.1 + y * (stp s 117).2.1, x * (stp s 117).1.2 + y * (stp s 117).2.2) (mid s) = y * det s.2 s.1 := by
    unfold det stp mid
    rw [if_pos rfl]
    simp only []
    grind
  rw [this, h]
  omega
theorem down_lt (s : I2 × I2) (w : List Nat) (h : det s.2 s.1 = 1) : det (mid ((100 :: w).foldl stp s)) (mid s) < 0 := by
  obtain ⟨x, y, hx, hy, e⟩ := fold_lin w (stp s 100)
  show det (mid (w.foldl stp (stp s 100))) (mid s) < 0
  rw [e]
  have : det (x * (stp s 100).1.1 + y * (stp s 100).2.1, x * (stp s 100).1.2 + y * (stp s 100).2.2) (mid s) = -(x * det s.2 s.1) := by
    unfold det stp mid
    rw [if_neg (by decide)]
    simp only []
    grind
  rw [this, h]
  omega
end K83p
set_option Elab.async false
set_option linter.all false
set_option maxRecDepth 100000
set_option maxHeartbeats 1000000
namespace K83p
/-- the common prefix -/
def cp : List Nat → List Nat → List Nat
  | a :: r, b :: s => if a = b then a :: cp r s else []
  | _, _ => []
theorem cp_nil (l : List Nat) : cp l [] = [] := by
  cases l <;> rfl
theorem cp_rep (c : Nat) : ∀ (n : Nat) (l r : List Nat), cp (List.replicate n c ++ l) (List.replicate n c ++ r) = List.replicate n c ++ cp l r
  | 0, _, _ => rfl
  | n + 1, l, r => by
    rw [List.replicate_succ, List.cons_append, List.cons_append, cp, if_pos rfl, cp_rep c n l r]
    rfl
/-- what follows a shorter run does not go on as the longer one does -/
theorem cp_off {c : Nat} {l : List Nat} (h : l.head? ≠ some c) (r : List Nat) : cp l (c :: r) = [] := by
  cases l with
  | nil => rfl
  | cons a l =>
    rw [cp, if_neg (fun e => h (by rw [e]; rfl))]
theorem cp_comm : ∀ l r : List Nat, cp l r = cp r l
  | [], r => by rw [cp_nil]; rfl
  | a :: l, [] => rfl
  | a :: l, b :: r => by
    rw [cp, cp]
    by_cases h : a = b
    · subst h
      rw [if_pos rfl, if_pos rfl, cp_comm l r]
    · rw [if_neg h, if_neg (fun e => h e.symm)]
end K83p
set_option Elab.async false
set_option linter.all false
set_option maxRecDepth 100000
set_option maxHeartbeats 1000000
namespace K83p
def lt (i : Nat) : Nat := if i % 2 = 0 then 117 else 100
def pl1 (i : Nat) (m : Int) : List Nat := List.replicate m.toNat (lt i)
def plL : Nat → List Int → List Nat
  | _, [] => []
  | i, m :: r => pl1 i m ++ plL (i + 1) r
def com : List Int → List Int → List Int
  | a :: r, b :: s => if a = b then a :: com r s else [if b < a then b else a]
  | _, _ => []
theorem lt_ne (i : Nat) : lt (i + 1) ≠ lt i := by
  unfold lt
  by_cases h : i % 2 = 0
  · rw [if_pos h, if_neg (by omega)]; decide
  · rw [if_neg h, if_pos (by omega)]; decide
theorem head_next (i : Nat) (r : List Int) (h : ∀ m ∈ r, 1 ≤ m) : (plL (i + 1) r).head? ≠ some (lt i) := by
  cases r with
  | nil => simp [plL]
  | cons m r =>
    have hm := h m List.mem_cons_self
    obtain ⟨n, hn⟩ : ∃ n, m.toNat = n + 1 := ⟨m.toNat - 1, by omega⟩
    show (List.replicate m.toNat (lt (i + 1)) ++ plL (i + 2) r).head? ≠ some (lt i)
    rw [hn, List.replicate_succ]
    show some (lt (i + 1)) ≠ some (lt i)
    intro e
    exact lt_ne i (Option.some.inj e)
theorem short (i : Nat) (a b : Int) (r s : List Int) (ha : 0 ≤ a) (hab : a < b) (hr : ∀ m ∈ r, 1 ≤ m) : cp (plL i (a :: r)) (plL i (b :: s)) = pl1 i a := by
  have e : pl1 i b = List.replicate a.toNat (lt i) ++ (lt i :: List.replicate (b.toNat - a.toNat - 1) (lt i)) := by
    unfold pl1
    rw [← List.replicate_succ, List.replicate_append_replicate]
    congr 1
    omega
  show cp (List.replicate a.toNat (lt i) ++ plL (i + 1) r) (pl1 i b ++ plL (i + 1) s) = _
  rw [e, List.append_assoc, cp_rep, List.cons_append, cp_off (head_next i r hr), List.append_nil]
  rfl
theorem com_cp : ∀ (ns ms : List Int) (i : Nat), (∀ m ∈ ns, 0 ≤ m) → (∀ m ∈ ms, 0 ≤ m) → (∀ m ∈ ns.tail, 1 ≤ m) → (∀ m ∈ ms.tail, 1 ≤ m) → plL i (com ns ms) = cp (plL i ns) (plL i ms)
  | [], ms, i, _, _, _, _ => by
    cases ms <;> rfl
  | a :: r, [], i, _, _, _, _ => by
    show plL i [] = _
    rw [show plL i [] = [] from rfl, cp_nil]
  | a :: r, b :: s, i, h1, h2, h3, h4 => by
    have h3 : ∀ m ∈ r, 1 ≤ m := h3
    have h4 : ∀ m ∈ s, 1 ≤ m := h4
    have ha := h1 a List.mem_cons_self
    have hb := h2 b List.mem_cons_self
    rw [com]
    by_cases h : a = b
    · subst h
      rw [if_pos rfl]
      show pl1 i a ++ plL (i + 1) (com r s) = cp (List.replicate a.toNat (lt i) ++ plL (i + 1) r) (List.replicate a.toNat (lt i) ++ plL (i + 1) s)
      rw [cp_rep, com_cp r s (i + 1) (fun m hm => by have := h3 m hm; omega) (fun m hm => by have := h4 m hm; omega) (fun m hm => h3 m (List.mem_of_mem_tail hm)) (fun m hm => h4 m (List.mem_of_mem_tail hm))]
      rfl
    · rw [if_neg h]
      by_cases hba : b < a
      · rw [if_pos hba]
        show pl1 i b ++ [] = _
        rw [List.append_nil, cp_comm, short i b a s r hb hba h4]
      · rw [if_neg hba]
        show pl1 i a ++ [] = _
        rw [List.append_nil, short i a b r s ha (by omega) h3]
end K83p
set_option Elab.async false
set_option linter.all false
set_option maxRecDepth 100000
set_option maxHeartbeats 1000000
namespace K83p
def bst (i : Nat) (m : Int) (s : I2 × I2) : I2 × I2 := if i % 2 = 0 then ((s.1.1 + m * s.2.1, s.1.2 + m * s.2.2), s.2) else (s.1, (s.2.1 + m * s.1.1, s.2.2 + m * s.1.2))
def bnd : Nat → List Int → I2 × I2 → I2 × I2
  | _, [], s => s
  | i, m :: r, s => bnd (i + 1) r (bst i m s)
theorem fold_rep (i : Nat) : ∀ (n : Nat) (s : I2 × I2), (List.replicate n (lt i)).foldl stp s = bst i (n : Int) s
  | 0, s => by
    show s = bst i 0 s
    unfold bst
    by_cases h : i % 2 = 0
    · rw [if_pos h]; simp
    · rw [if_neg h]; simp
  | n + 1, s => by
    rw [List.replicate_succ]
    show (List.replicate n (lt i)).foldl stp (stp s (lt i)) = _
    rw [fold_rep i n]
    unfold bst stp lt mid
    by_cases h : i % 2 = 0
    · simp only [if_pos h, if_true]
      refine Prod.ext (Prod.ext ?_ ?_) rfl
      · simp only [Int.natCast_add, Int.natCast_one]; grind
      · simp only [Int.natCast_add, Int.natCast_one]; grind
    · simp only [if_neg h]
      rw [if_neg (by decide)]
      refine Prod.ext rfl (Prod.ext ?_ ?_)
      · simp only [Int.natCast_add, Int.natCast_one]; grind
      · simp only [Int.natCast_add, Int.natCast_one]; grind
theorem fold_plL : ∀ (ns : List Int) (i : Nat) (s : I2 × I2), (∀ m ∈ ns, 0 ≤ m) → (plL i ns).foldl stp s = bnd i ns s
  | [], _, _, _ => rfl
  | m :: r, i, s, h => by
    show (pl1 i m ++ plL (i + 1) r).foldl stp s = bnd (i + 1) r (bst i m s)
    rw [List.foldl_append]
    unfold pl1
    rw [fold_rep, Int.toNat_of_nonneg (h m List.mem_cons_self), fold_plL r (i + 1) _ fun x hx => h x (List.mem_cons_of_mem _ hx)]
end K83p
set_option Elab.async false
set_option linter.all false
set_option maxRecDepth 100000
set_option maxHeartbeats 1000000
namespace K83p
theorem updown (s : I2 × I2) (w w' : List Nat) (h : det s.2 s.1 = 1) : 0 < det (mid ((117 :: w).foldl stp s)) (mid ((100 :: w').foldl stp s)) := by
  obtain ⟨x, y, hx, hy, e⟩ := fold_lin w (stp s 117)
  obtain ⟨x', y', hx', hy', e'⟩ := fold_lin w' (stp s 100)
  show 0 < det (mid (w.foldl stp (stp s 117))) (mid (w'.foldl stp (stp s 100)))
  rw [e, e']
  have : det (x * (stp s 117).1.1 + y * (stp s 117).2.1, x * (stp s 117).1.2 + y * (stp s 117).2.2) (x' * (stp s 100).1.1 + y' * (stp s 100).2.1, x' * (stp s 100).1.2 + y' * (stp s 100).2.2) = (x * x' + y * x' + y * y') * det s.2 s.1 := by
    unfold det stp mid
    rw [if_pos rfl, if_neg (by decide)]
    simp only []
    grind
  rw [this, h, Int.mul_one]
  have h1 : 0 < x * x' := Int.mul_pos (by omega) (by omega)
  have h2 : 0 < y * x' := Int.mul_pos (by omega) (by omega)
  have h3 : 0 < y * y' := Int.mul_pos (by omega) (by omega)
  omega
theorem det_anti (p q : I2) : det p q = -det q p := by
  unfold det
  omega
theorem det_self (p : I2) : det p p = 0 := by
  unfold det
  omega
/-! ### the common prefix, place by place -/
theorem cp_le : ∀ l r : List Nat, (cp l r).length ≤ l.length ∧ (cp l r).length ≤ r.length
  | [], r => ⟨Nat.le_refl _, Nat.zero_le _⟩
  | a :: l, [] => ⟨Nat.zero_le _, Nat.le_refl _⟩
  | a :: l, b :: r => by
    rw [cp]
    by_cases h : a = b
    · rw [if_pos h, List.length_cons, List.length_cons, List.length_cons]
      have := cp_le l r
      omega
    · rw [if_neg h]
      exact ⟨Nat.zero_le _, Nat.zero_le _⟩
theorem cp_take : ∀ l r : List Nat, l.take (cp l r).length = cp l r
  | [], r => by
    show List.take 0 [] = []
    rfl
  | a :: l, [] => rfl
  | a :: l, b :: r => by
    rw [cp]
    by_cases h : a = b
    · rw [if_pos h, List.length_cons, List.take_succ_cons, cp_take l r]
    · rw [if_neg h]
      rfl
theorem cp_get : ∀ (l r : List Nat) (i : Nat), i < (cp l r).length → ∃ c, l[i]? = some c ∧ r[i]? = some c
  | [], r, i, h => by simp [cp] at h
  | a :: l, [], i, h => by simp [cp] at h
  | a :: l, b :: r, i, h => by
    rw [cp] at h
    by_cases e : a = b
    · subst e
      rw [if_pos rfl] at h
      cases i with
      | zero => exact ⟨a, rfl, rfl⟩
      | succ i => exact cp_get l r i (by simpa using h)
    · rw [if_neg e] at h
      simp at h
theorem cp_end : ∀ (l r : List Nat) {x y : Nat}, l[(cp l r).length]? = some x → r[(cp l r).length]? = some y → x ≠ y
  | [], r, x, y, h, _ => by simp [cp] at h
  | a :: l, [], x, y, _, h => by simp [cp] at h
  | a :: l, b :: r, x, y, h1, h2 => by
    rw [cp] at h1 h2
    by_cases e : a = b
    · subst e
      rw [if_pos rfl] at h1 h2
      exact cp_end l r (by simpa using h1) (by simpa using h2)
    · rw [if_neg e] at h1 h2
      have h1 : some a = some x := h1
      have h2 : some b = some y := h2
      intro z
      apply e
      have := Option.some.inj h1
      have := Option.some.inj h2
      omega
/-- what the loop has after i turns -/
def upto (c i : Nat) : Nat := if i ≤ c then i else c
/-- the letter behind the common prefix, or m -/
def hd (w : List Nat) (c : Nat) : Nat := (w ++ [109]).getD c 0
def ixl (c : Nat) : Int := if c = 100 then 0 else if c = 109 then 1 else 2
def ordo (l r : List Nat) : Int := ixl (hd l (cp l r).length) - ixl (hd r (cp l r).length)
theorem hd_or (w : List Nat) (hw : ∀ c ∈ w, c = 117 ∨ c = 100) (c : Nat) (h : c ≤ w.length) : (w ++ [109])[c]? = some (hd w c) ∧ (hd w c = 117 ∨ hd w c = 100 ∨ hd w c = 109) := by
  have h1 : c < (w ++ [109]).length := by simp; omega
  have e : (w ++ [109])[c]? = some (hd w c) := by
    unfold hd
    rw [List.getD_eq_getElem?_getD, List.getElem?_eq_getElem h1]
    rfl
  refine ⟨e, ?_⟩
  have m := List.mem_of_getElem? e
  rcases List.mem_append.mp m with m | m
  · rcases hw _ m with z | z
    · exact .inl z
    · exact .inr (.inl z)
  · exact .inr (.inr (by simpa using m))
theorem order : ∀ (l r : List Nat) (s : I2 × I2), (∀ c ∈ l, c = 117 ∨ c = 100) → (∀ c ∈ r, c = 117 ∨ c = 100) → det s.2 s.1 = 1 →
    (ordo l r < 0 ↔ det (mid (l.foldl stp s)) (mid (r.foldl stp s)) < 0) ∧ (ordo l r = 0 ↔ det (mid (l.foldl stp s)) (mid (r.foldl stp s)) = 0)
  | [], [], s, _, _, _ => by
    have e : det (mid (([] : List Nat).foldl stp s)) (mid (([] : List Nat).foldl stp s)) = 0 := det_self _
    rw [e]
    have : ordo [] [] = 0 := by decide
    rw [this]
    omega
  | [], b :: r, s, _, hr, hd => by
    rcases hr b List.mem_cons_self with e | e
    · subst e
      have h := up_gt s r hd
      rw [det_anti] at h
      have h : 0 < -det (mid (([] : List Nat).foldl stp s)) (mid ((117 :: r).foldl stp s)) := h
      have : ordo [] (117 :: r) = -1 := rfl
      rw [this]
      omega
    · subst e
      have h := down_lt s r hd
      rw [det_anti] at h
      have h : -det (mid (([] : List Nat).foldl stp s)) (mid ((100 :: r).foldl stp s)) < 0 := h
      have : ordo [] (100 :: r) = 1 := rfl
      rw [this]
      omega
  | a :: l, [], s, hl, _, hd => by
    rcases hl a List.mem_cons_self with e | e
    · subst e
      have h : 0 < det (mid ((117 :: l).foldl stp s)) (mid (([] : List Nat).foldl stp s)) := up_gt s l hd
      have : ordo (117 :: l) [] = 1 := rfl
      rw [this]
      omega
    · subst e
      have h : det (mid ((100 :: l).foldl stp s)) (mid (([] : List Nat).foldl stp s)) < 0 := down_lt s l hd
      have : ordo (100 :: l) [] = -1 := rfl
      rw [this]
      omega
  | a :: l, b :: r, s, hl, hr, hd' => by
    by_cases e : a = b
    · subst e
      have e1 : ordo (a :: l) (a :: r) = ordo l r := by
        unfold ordo
        rw [cp, if_pos rfl, List.length_cons]
        rfl
      rw [e1]
      exact order l r (stp s a) (fun c hc => hl c (List.mem_cons_of_mem _ hc)) (fun c hc => hr c (List.mem_cons_of_mem _ hc)) ((det_stp s a).trans hd')
    · rcases hl a List.mem_cons_self with e1 | e1 <;> rcases hr b List.mem_cons_self with e2 | e2
      · omega
      · subst e1; subst e2
        have h := updown s l r hd'
        have : ordo (117 :: l) (100 :: r) = 2 := rfl
        rw [this]
        omega
      · subst e1; subst e2
        have h := updown s r l hd'
        rw [det_anti] at h
        have : ordo (100 :: l) (117 :: r) = -2 := rfl
        rw [this]
        omega
      · omega
theorem plL_mem : ∀ (ns : List Int) (i : Nat) (c : Nat), c ∈ plL i ns → c = 117 ∨ c = 100
  | [], _, _, h => by cases h
  | m :: r, i, c, h => by
    rcases List.mem_append.mp (show c ∈ pl1 i m ++ plL (i + 1) r from h) with h | h
    · have e : c = lt i := (List.mem_replicate.mp h).2
      rw [e]
      unfold lt
      split
      · exact .inl rfl
      · exact .inr rfl
    · exact plL_mem r (i + 1) c h
theorem com_comm : ∀ ns ms : List Int, com ns ms = com ms ns
  | [], [] => rfl
  | [], _ :: _ => rfl
  | _ :: _, [] => rfl
  | a :: r, b :: s => by
    rw [com, com]
    by_cases h : a = b
    · subst h
      rw [if_pos rfl, if_pos rfl, com_comm r s]
    · rw [if_neg h, if_neg (show ¬ b = a from fun e => h e.symm)]
      by_cases h2 : b < a
      · rw [if_pos h2, if_neg (show ¬ a < b by omega)]
      · rw [if_neg h2, if_pos (show a < b by omega)]
theorem plL_len : ∀ (ns : List Int) (i : Nat) (q : Nat), (∀ m ∈ ns, m ≤ (q : Int)) → (plL i ns).length ≤ ns.length * q
  | [], _, _, _ => Nat.zero_le _
  | m :: r, i, q, h => by
    have h1 := plL_len r (i + 1) q fun x hx => h x (List.mem_cons_of_mem _ hx)
    have h2 := h m List.mem_cons_self
    show (pl1 i m ++ plL (i + 1) r).length ≤ (r.length + 1) * q
    rw [List.length_append]
    have h3 : (pl1 i m).length = m.toNat := by
      unfold pl1
      simp
    rw [h3, Nat.add_mul]
    omega
end K83p
set_option Elab.async false
set_option linter.all false
set_option maxRecDepth 100000
set_option maxHeartbeats 1000000
namespace K83
open PySem Cz
/-! ### what repr takes -/
structure Sh (d : PyData) (n e : Nat) : Prop where
  s : d.showable = true
  h : d.hasDict = false
  dp : d.depth ≤ e
  l : d.leavesShort 21 = true
  b : d.bulk ≤ n
structure ShA (d : List PyData) (n e : Nat) : Prop where
  s : PyData.showableAll d = true
  h : PyData.hasDictAll d = false
  dp : PyData.depthAll d ≤ e
  l : PyData.leavesShortAll 21 d = true
  b : PyData.bulkAll d ≤ n
theorem Sh.int {i : Int} (h : i.natAbs < 10 ^ 20) : Sh (.int i) 0 0 := by
  refine ⟨?_, rfl, Nat.le_refl _, ?_, Nat.le_refl _⟩
  · show decide (i.natAbs.log2 < 1920) = true
    refine decide_eq_true ?_
    by_cases h0 : i.natAbs = 0
    · rw [h0]; decide
    · have h1 : i.natAbs < 2 ^ 70 := Nat.lt_trans h (by decide)
      have h2 : i.natAbs.log2 < 70 := (Nat.log2_lt h0).mpr h1
      omega
  · show decide ((PyData.shown (.int i)).length ≤ 21) = true
    refine decide_eq_true ?_
    have h2 : (PyData.shown (.int i)).length = (toString i).length := by
      show (Str.ofString (toString i)).length = (toString i).length
      exact ofString_length _
    have h3 := int_text_length_le10 (a := i) (k := 20) (by decide) h
    omega
theorem Sh.bool (b : Bool) : Sh (.bool b) 0 0 := ⟨rfl, rfl, Nat.le_refl _, rfl, Nat.le_refl _⟩
theorem ShA.nil : ShA [] 0 0 := ⟨rfl, rfl, Nat.le_refl _, rfl, Nat.le_refl _⟩
theorem ShA.cons {x : PyData} {xs : List PyData} {n m e f : Nat} (a : Sh x n e) (b : ShA xs m f) : ShA (x :: xs) (n + 1 + m) (max e f) := by
  refine ⟨?_, ?_, ?_, ?_, ?_⟩
  · show (x.showable && PyData.showableAll xs) = true
    rw [a.s, b.s]; rfl
  · show (x.hasDict || PyData.hasDictAll xs) = false
    rw [a.h, b.h]; rfl
  · show max x.depth (PyData.depthAll xs) ≤ max e f
    have := a.dp
    have := b.dp
    omega
  · show (x.leavesShort 21 && PyData.leavesShortAll 21 xs) = true
    rw [a.l, b.l]; rfl
  · show x.bulk + 1 + PyData.bulkAll xs ≤ _
    have := a.b
    have := b.b
    omega
theorem Sh.tup {xs : List PyData} {n e : Nat} (a : ShA xs n e) : Sh (.tuple xs) n (e + 1) :=
  ⟨a.s, a.h, by show PyData.depthAll xs + 1 ≤ e + 1; have := a.dp; omega, a.l, a.b⟩
theorem ShA.ints : ∀ ns : List Int, (∀ m ∈ ns, m.natAbs < 10 ^ 20) → ShA (ns.map .int) ns.length 0
  | [], _ => ShA.nil
  | m :: ns, h => by
    have := ShA.cons (Sh.int (h m List.mem_cons_self)) (ShA.ints ns fun x hx => h x (List.mem_cons_of_mem _ hx))
    have e : (m :: ns).length = 0 + 1 + ns.length := by rw [List.length_cons]; omega
    rw [e]
    exact this
theorem Sh.row (ns : List Int) (h : ∀ m ∈ ns, m.natAbs < 10 ^ 20) : Sh (Cz.row ns) ns.length 1 := Sh.tup (ShA.ints ns h)
theorem Sh.pr {p : I2} (h1 : p.1.natAbs < 10 ^ 20) (h2 : p.2.natAbs < 10 ^ 20) : Sh (pr p) 2 1 := Sh.tup (ShA.cons (Sh.int h1) (ShA.cons (Sh.int h2) ShA.nil))
theorem ShA.prs : ∀ ps : List I2, (∀ p ∈ ps, p.1.natAbs < 10 ^ 20 ∧ p.2.natAbs < 10 ^ 20) → ShA (ps.map K83.pr) (3 * ps.length) 1
  | [], _ => ⟨rfl, rfl, Nat.zero_le _, rfl, Nat.le_refl _⟩
  | p :: ps, h => by
    have h0 := h p List.mem_cons_self
    have := ShA.cons (Sh.pr h0.1 h0.2) (ShA.prs ps fun x hx => h x (List.mem_cons_of_mem _ hx))
    have e : 3 * (p :: ps).length = 2 + 1 + 3 * ps.length := by rw [List.length_cons]; omega
    rw [e]
    exact this
theorem Sh.ok {d : PyData} {n e : Nat} (a : Sh d n e) (hn : n ≤ 4000) (he : e ≤ 30) : shownOk d = true := by
  unfold shownOk
  rw [a.s, a.h]
  have h1 := PyData.shown_le_bulk 21 (by decide) d a.l
  have h2 := a.b
  have h3 := a.dp
  rw [decide_eq_true (show d.depth ≤ 30 by omega), decide_eq_true (show d.shown.length ≤ sizeMax by unfold sizeMax; omega)]
  rfl
theorem repr_tup {xs : List PyData} (h : shownOk (.tuple xs) = true) : Op.repr.run [.tuple xs] = some (.d (.str (PyData.tuple xs).shown)) := by
  show (if shownOk (.tuple xs) = true then some (Res.d (.str (PyData.tuple xs).shown)) else none) = _
  rw [if_pos h]
theorem repr_int {i : Int} (h : i.natAbs < 10 ^ 20) : Op.repr.run [.int i] = some (.d (.str (toString i))) := by
  show (if i.natAbs.log2 < 1920 then some (Res.d (.str (toString i))) else none) = _
  rw [if_pos]
  by_cases h0 : i.natAbs = 0
  · rw [h0]; decide
  · have h1 : i.natAbs < 2 ^ 70 := Nat.lt_trans h (by decide)
    have h2 : i.natAbs.log2 < 70 := (Nat.log2_lt h0).mpr h1
    omega
theorem ne_str (z : Str) : Op.ne.run [.str z, .str z] = some (.d (.bool false)) := by
  show some (Res.d (.bool (!decide (z = z)))) = _
  rw [decide_eq_true rfl]
  rfl
/-- repr(a) != repr(b) of the same data -/
theorem ne_repr {F : CallF} {C : List PyData} {ρ : Slots} {μ : Store} {ea eb : E} {X : PyData} {z : Str} (hk : Op.repr.run [X] = some (.d (.str z))) (ha : evE F C ea ρ μ = some ([.d X], μ)) (hb : evE F C eb ρ μ = some ([.d X], μ)) :
    evE F C (.op .ne (.cons (.op .repr (.cons ea .nil)) (.cons (.op .repr (.cons eb .nil)) .nil))) ρ μ = some ([.d (.bool false)], μ) :=
  e_op0 (ws := [.d (.str z), .d (.str z)]) (e_cons (e_op0 (ws := [.d X]) (e_cons ha e_nil) rfl hk) (e_cons (e_op0 (ws := [.d X]) (e_cons hb e_nil) rfl hk) e_nil)) rfl (ne_str z)
theorem pr_row (p : I2) : pr p = row [p.1, p.2] := rfl
theorem run_ne_pr (p q : I2) : Op.ne.run [pr p, pr q] = some (.d (.bool (!decide (p = q)))) := by
  rw [pr_row, pr_row, run_ne_row]
  have : ([p.1, p.2] = [q.1, q.2]) ↔ p = q := by
    constructor
    · intro h
      have h := List.cons.inj h
      exact Prod.ext h.1 (List.cons.inj h.2).1
    · intro h
      rw [h]
  congr 3
  rw [Bool.not_inj_iff]
  exact decide_eq_decide.mpr this
/-! ### bounds of small slopes -/
theorem SL_le8 : ∀ (ns : List Int) (t : Nat), (∀ m ∈ ns, 0 ≤ m ∧ m ≤ 7) → (SL t ns).1 + (SL t ns).2 ≤ 2 * 8 ^ ns.length
  | [], _, _ => Int.le_refl _
  | m :: r, t, h => by
    have h1 := SL_le8 r (t + 1) fun x hx => h x (List.mem_cons_of_mem _ hx)
    have hm := h m List.mem_cons_self
    obtain ⟨p1, p2⟩ := SL_pos r (t + 1) fun x hx => (h x (List.mem_cons_of_mem _ hx)).1
    rw [SL_cons, List.length_cons, Int.pow_succ]
    generalize SL (t + 1) r = w at *
    generalize (8 : Int) ^ r.length = e at *
    have a1 : m * w.2 ≤ 7 * w.2 := Int.mul_le_mul_of_nonneg_right hm.2 (by omega)
    have a2 : m * w.1 ≤ 7 * w.1 := Int.mul_le_mul_of_nonneg_right hm.2 (by omega)
    by_cases ht : t % 2 = 0
    · rw [if_pos ht]
      show w.1 + m * w.2 + w.2 ≤ _
      omega
    · rw [if_neg ht]
      show w.1 + (w.2 + m * w.1) ≤ _
      omega
/-- small runs -/
structure Sm (ns : List Int) : Prop where
  v : Val0 ns
  b : ∀ m ∈ ns, m ≤ 7
  l : ns.length ≤ 7
theorem Sm.le {ns : List Int} (h : Sm ns) : (SL 0 ns).1 + (SL 0 ns).2 ≤ 4194304 := by
  have h1 := SL_le8 ns 0 fun m hm => ⟨h.v.nonneg m hm, h.b m hm⟩
  have h2 : (8 : Int) ^ ns.length ≤ 8 ^ 7 := by
    have : 8 ^ ns.length ≤ 8 ^ 7 := Nat.pow_le_pow_right (by decide) h.l
    exact_mod_cast this
  have h3 : (8 : Int) ^ 7 = 2097152 := by decide
  omega
theorem Sm.pos {ns : List Int} (h : Sm ns) : 1 ≤ (SL 0 ns).1 ∧ 1 ≤ (SL 0 ns).2 := SL_pos ns 0 h.v.nonneg
theorem Sm.ok2 {ns : List Int} (h : Sm ns) : Ok2 ns := by
  have h1 := h.le
  have h2 := h.pos
  refine ⟨⟨h.v, fun m hm => ?_, by have := h.l; omega⟩, ?_, ?_⟩
  · have := h.b m hm
    show m ≤ 1000000000000000000
    omega
  · show _ ≤ (1000000000000000000 : Int)
    omega
  · show _ ≤ (1000000000000000000 : Int)
    omega
end K83
set_option Elab.async false
set_option linter.all false
set_option maxRecDepth 100000
set_option maxHeartbeats 1000000
namespace K83
open PySem Cz
/-! ### rules where the draws go on -/
section
variable {F : CallF} {C : List PyData} {ρ ρ' : Slots} {μ μ1 μ2 : Store} {w v : Val} {ws : List Val} {x y : PyData} {o : Op} {es a b c : E} {cs ds : List PyData}
theorem e_opx (h : evE F C es ρ μ = some (ws, μ1)) (hl : μ1.length = μ.length) (hc : conts μ1 ws = some cs) (hr : o.run cs = some (.d x)) : evE F C (.op o es) ρ μ = some ([.d x], μ1) := by
  show (evE F C es ρ μ).bind _ = _
  rw [h]
  show (conts μ1 ws).bind _ = _
  rw [hc]
  show (o.run cs).map _ = _
  rw [hr]
  show some ([Val.d x], μ1.take μ.length) = _
  rw [← hl, take_self]
theorem e_tupx (h : evE F C es ρ μ = some (ws, μ1)) (hl : μ1.length = μ.length) (hc : frzs μ.length μ1 ws = some cs) (hs : cs.length ≤ sizeMax) : evE F C (.tup es) ρ μ = some ([.d (.tuple cs)], μ1) := by
  show (evE F C es ρ μ).bind _ = _
  rw [h]
  show (frzs μ.length μ1 ws).bind _ = _
  rw [hc]
  show (if cs.length ≤ sizeMax then some ([Val.d (.tuple cs)], μ1.take μ.length) else none) = _
  rw [if_pos hs, ← hl, take_self]
theorem e_lstx (h : evE F C es ρ μ = some (ws, μ1)) (hl : μ1.length = μ.length) (hc : frzs μ.length μ1 ws = some cs) (hs : cs.length ≤ sizeMax) : evE F C (.lst es) ρ μ = some ([.l μ.length], μ1 ++ [cs]) := by
  show (evE F C es ρ μ).bind _ = _
  rw [h]
  show (frzs μ.length μ1 ws).bind _ = _
  rw [hc]
  show (if cs.length ≤ sizeMax then some ([Val.l μ.length], μ1.take μ.length ++ [cs]) else none) = _
  rw [if_pos hs, ← hl, take_self]
end
def sAt : Nat → S → S
  | 0, .cons a _ => a
  | n + 1, .cons _ r => sAt n r
  | _, s => s
abbrev D (x : PyData) : Option Val := some (.d x)
theorem run_eq_bool (a b : Bool) : Op.eq.run [.bool a, .bool b] = some (.d (.bool (a == b))) := by
  cases a <;> cases b <;> rfl
/-! ### texts -/
def tx (l : List Nat) : Str := ⟨l.toArray⟩
theorem tx_len (l : List Nat) : (tx l).length = l.length := by
  show l.toArray.size = _
  simp
theorem tx_cps (l : List Nat) : (tx l).cps.toList = l := by
  show l.toArray.toList = _
  simp
theorem tx_add (l r : List Nat) : tx l ++ tx r = tx (l ++ r) := by
  have h : (tx l ++ tx r).cps = (tx (l ++ r)).cps := by
    show l.toArray ++ r.toArray = (l ++ r).toArray
    simp
  have e : ∀ a b : Str, a.cps = b.cps → a = b := fun a b h => by
    cases a; cases b; cases h; rfl
  exact e _ _ h
theorem ix_tx {l : List Nat} {i c : Nat} (h : l[i]? = some c) (hl : l.length ≤ sizeMax) : Op.ix.run [.str (tx l), .int (i : Int)] = some (.d (.str (tx [c]))) := by
  have hi := (List.getElem?_eq_some_iff.mp h).1
  show (if (tx l).length ≤ sizeMax then (atA (tx l).cps.toList (i : Int)).map fun c => Res.d (.str ⟨#[c]⟩) else none) = _
  rw [tx_len, if_pos hl, tx_cps]
  unfold atA L2.ixN
  rw [if_pos (by omega), if_pos (by omega), Int.toNat_natCast]
  show ((l[i]?)).map _ = _
  rw [h]
  rfl
theorem tx_eq (x y : Nat) : decide (tx [x] = tx [y]) = decide (x = y) := by
  by_cases h : x = y
  · subst h
    rw [decide_eq_true rfl, decide_eq_true rfl]
  · rw [decide_eq_false h, decide_eq_false]
    intro e
    apply h
    have e2 : (tx [x]).cps.toList = (tx [y]).cps.toList := by rw [e]
    rw [tx_cps, tx_cps] at e2
    exact (List.cons.inj e2).1
theorem eq_tx (x y : Nat) : Op.eq.run [.str (tx [x]), .str (tx [y])] = some (.d (.bool (decide (x = y)))) := by
  show some (Res.d (.bool (decide (tx [x] = tx [y])))) = _
  rw [tx_eq]
theorem len_tx {l : List Nat} (hl : l.length ≤ sizeMax) : Op.len.run [.str (tx l)] = some (.d (.int (l.length : Int))) := by
  show (if (tx l).length ≤ sizeMax then some (Res.d (.int ((tx l).length : Int))) else none) = _
  rw [tx_len, if_pos hl]
theorem cut_take {α : Type} (xs : List α) (c : Nat) (h : c ≤ xs.length) : cutA xs none (some (c : Int)) = xs.take c := by
  unfold cutA
  rw [show HT.sIx xs.length xs.length (some (c : Int)) = min c xs.length from HT.sIx_nat _ _ _, show HT.sIx xs.length 0 none = 0 from rfl, Nat.min_eq_left h]
  rfl
theorem sl_tx {l : List Nat} {c : Nat} (h : c ≤ l.length) (hl : l.length ≤ sizeMax) : Op.sl01.run [.str (tx l), .int (c : Int)] = some (.d (.str (tx (l.take c)))) := by
  show (if (tx l).length ≤ sizeMax then some (Res.d (.str ⟨(cutA (tx l).cps.toList none (some (c : Int))).toArray⟩)) else none) = _
  rw [tx_len, if_pos hl, tx_cps, cut_take l c h]
  rfl
theorem add_tx {l r : List Nat} (h : l.length + r.length ≤ sizeMax) : Op.add.run [.str (tx l), .str (tx r)] = some (.d (.str (tx (l ++ r)))) := by
  show (if (tx l).length + (tx r).length ≤ sizeMax then some (Res.d (.str (tx l ++ tx r))) else none) = _
  rw [tx_len, tx_len, if_pos h, tx_add]
theorem idx_tx {c : Nat} (h : c = 117 ∨ c = 100 ∨ c = 109) : Op.index.run [.str "dmu", .str (tx [c])] = some (.d (.int (K83p.ixl c))) := by
  rcases h with rfl | rfl | rfl
  · kernel_rfl
  · kernel_rfl
  · kernel_rfl
/-! ### the two definitions agree -/
theorem plL_eq : ∀ (ns : List Int) (i : Nat), plL i ns = K83p.plL i ns
  | [], _ => rfl
  | m :: r, i => by
    show pl1 i m ++ plL (i + 1) r = K83p.pl1 i m ++ K83p.plL (i + 1) r
    rw [plL_eq r (i + 1)]
    rfl
theorem com_eq : ∀ ns ms : List Int, com ns ms = K83p.com ns ms
  | [], [] => rfl
  | [], _ :: _ => rfl
  | _ :: _, [] => rfl
  | a :: r, b :: s => by
    rw [com, K83p.com, com_eq r s]
theorem bnd_eq : ∀ (ns : List Int) (i : Nat) (s : I2 × I2), bnd i ns s = K83p.bnd i ns s
  | [], _, _ => rfl
  | m :: r, i, s => by
    show bnd (i + 1) r (bst i m s) = K83p.bnd (i + 1) r (K83p.bst i m s)
    rw [bnd_eq r (i + 1)]
    rfl
theorem path_tx (ns : List Int) : path ns = tx (K83p.plL 0 ns) := by
  unfold path
  rw [plL_eq]
  rfl
/-! ### bounds of the neighbours -/
theorem bnd_nn : ∀ (ns : List Int) (t : Nat) (s : I2 × I2), (∀ m ∈ ns, 0 ≤ m) → (0 ≤ s.1.1 ∧ 0 ≤ s.1.2 ∧ 0 ≤ s.2.1 ∧ 0 ≤ s.2.2) → (0 ≤ (bnd t ns s).1.1 ∧ 0 ≤ (bnd t ns s).1.2 ∧ 0 ≤ (bnd t ns s).2.1 ∧ 0 ≤ (bnd t ns s).2.2)
  | [], _, _, _, h => h
  | m :: r, t, s, hm, h => by
    have h0 := hm m List.mem_cons_self
    refine bnd_nn r (t + 1) (bst t m s) (fun x hx => hm x (List.mem_cons_of_mem _ hx)) ?_
    obtain ⟨h1, h2, h3, h4⟩ := h
    have m1 := Int.mul_nonneg h0 h1
    have m2 := Int.mul_nonneg h0 h2
    have m3 := Int.mul_nonneg h0 h3
    have m4 := Int.mul_nonneg h0 h4
    unfold bst
    by_cases ht : t % 2 = 0
    · rw [if_pos ht]
      exact ⟨by show 0 ≤ _ + _; omega, by show 0 ≤ _ + _; omega, h3, h4⟩
    · rw [if_neg ht]
      exact ⟨h1, h2, by show 0 ≤ _ + _; omega, by show 0 ≤ _ + _; omega⟩
theorem B_nn {ns : List Int} (h : ∀ m ∈ ns, 0 ≤ m) : 0 ≤ (B ns).1.1 ∧ 0 ≤ (B ns).1.2 ∧ 0 ≤ (B ns).2.1 ∧ 0 ≤ (B ns).2.2 :=
  bnd_nn ns 0 _ h ⟨by decide, by decide, by decide, by decide⟩
theorem B_mid (ns : List Int) : (B ns).1.1 + (B ns).2.1 = (SL 0 ns).1 ∧ (B ns).1.2 + (B ns).2.2 = (SL 0 ns).2 := by
  have h := mid_B ns
  exact ⟨congrArg Prod.fst h, congrArg Prod.snd h⟩
/-! ### the child below -/
theorem bnd_app : ∀ (xs ys : List Int) (t : Nat) (s : I2 × I2), bnd t (xs ++ ys) s = bnd (t + xs.length) ys (bnd t xs s)
  | [], _, _, _ => rfl
  | m :: r, ys, t, s => by
    show bnd (t + 1) (r ++ ys) (bst t m s) = _
    rw [bnd_app r ys, List.length_cons]
    have : t + 1 + r.length = t + (r.length + 1) := by omega
    rw [this]
    rfl
theorem child0 : SL 0 [0, 1] = ((B []).1.1 + (SL 0 []).1, (B []).1.2 + (SL 0 []).2) := by decide
theorem childO (ns : List Int) (h : ns.length % 2 = 1) : SL 0 (ns ++ [1]) = ((B ns).1.1 + (SL 0 ns).1, (B ns).1.2 + (SL 0 ns).2) := by
  obtain ⟨h1, h2⟩ := B_mid ns
  rw [← mid_B]
  have e : B (ns ++ [1]) = bst ns.length 1 (B ns) := by
    unfold B
    rw [bnd_app, Nat.zero_add]
    rfl
  rw [e, ← h1, ← h2]
  unfold bst
  rw [if_neg (by omega)]
  unfold mid
  refine Prod.ext ?_ ?_ <;> simp only [] <;> omega
theorem childE (ns : List Int) (m : Int) (h : (ns ++ [m]).length % 2 = 0) : SL 0 (ns ++ [m + 1]) = ((B (ns ++ [m])).1.1 + (SL 0 (ns ++ [m])).1, (B (ns ++ [m])).1.2 + (SL 0 (ns ++ [m])).2) := by
  obtain ⟨h1, h2⟩ := B_mid (ns ++ [m])
  rw [← mid_B]
  have e : ∀ x, B (ns ++ [x]) = bst ns.length x (B ns) := fun x => by
    unfold B
    rw [bnd_app, Nat.zero_add]
    rfl
  rw [← h1, ← h2, e, e]
  rw [List.length_append, List.length_singleton] at h
  unfold bst
  rw [if_neg (by omega), if_neg (by omega)]
  unfold mid
  refine Prod.ext ?_ ?_
  · simp only []
    rw [Int.add_mul]
    omega
  · simp only []
    rw [Int.add_mul]
    omega
/-- what the child's runs are -/
def chd (ns : List Int) : List Int := if ns = [] then [0, 1] else if ns.length % 2 = 0 then ns.dropLast ++ [ns.getLastD 0 + 1] else ns ++ [1]
theorem val_snoc {ns : List Int} {x : Int} (h : Val0 ns) (hx : 1 ≤ x) (hn : ns ≠ []) : Val0 (ns ++ [x]) := by
  match ns, h, hn with
  | a :: r, h, _ =>
    have hp := h.tail
    have h0 := h.nonneg a List.mem_cons_self
    have e : a :: r ++ [x] = a :: (r ++ [x]) := rfl
    rw [e]
    have pp : Pos (r ++ [x]) := fun m hm => by
      rcases List.mem_append.mp hm with z | z
      · exact hp m z
      · have : m = x := by simpa using z
        omega
    match hr : r ++ [x], pp with
    | [], _ => simp at hr
    | y :: t, pp => exact ⟨h0, pp⟩
theorem val_init {ns : List Int} {x : Int} (h : Val0 (ns ++ [x])) : ∀ y : Int, x ≤ y → 1 ≤ x → Val0 (ns ++ [y]) := fun y hy hx => by
  match ns, h with
  | [], h => show 1 ≤ y; omega
  | a :: r, h =>
    have hp : Pos (r ++ [x]) := h.tail
    have h0 := h.nonneg a List.mem_cons_self
    have e : a :: r ++ [y] = a :: (r ++ [y]) := rfl
    rw [e]
    have pp : Pos (r ++ [y]) := fun m hm => by
      rcases List.mem_append.mp hm with z | z
      · exact hp m (List.mem_append_left _ z)
      · have : m = y := by simpa using z
        omega
    match hr : r ++ [y], pp with
    | [], _ => simp at hr
    | z :: t, pp => exact ⟨h0, pp⟩
/-- runs as the law draws them -/
structure Sd (ns : List Int) : Prop where
  v : Val0 ns
  b : ∀ m ∈ ns, m ≤ 6
  l : ns.length ≤ 6
theorem Sd.sm {ns : List Int} (h : Sd ns) : Sm ns := ⟨h.v, fun m hm => by have := h.b m hm; omega, by have := h.l; omega⟩
theorem Sd.odd {ns : List Int} (h : Sd ns) (hn : ns ≠ []) : Sm (ns ++ [1]) := by
  refine ⟨val_snoc h.v (by decide) hn, fun m hm => ?_, by have := h.l; simp; omega⟩
  rcases List.mem_append.mp hm with z | z
  · have := h.b m z
    omega
  · have : m = 1 := by simpa using z
    omega
theorem Sd.even {ns : List Int} {x : Int} (h : Sd (ns ++ [x])) (hx : 1 ≤ x) : Sm (ns ++ [x + 1]) := by
  refine ⟨val_init h.v _ (by omega) hx, fun m hm => ?_, by have := h.l; simp at this ⊢; omega⟩
  rcases List.mem_append.mp hm with z | z
  · have := h.b m (List.mem_append_left _ z)
    omega
  · have e : m = x + 1 := by simpa using z
    have := h.b x (by simp)
    omega
theorem sm01 : Sm [0, 1] := by
  refine ⟨⟨by decide, fun m hm => ?_⟩, fun m hm => ?_, by decide⟩
  · have : m = 1 := by simpa using hm
    omega
  · have : m = 0 ∨ m = 1 := by simpa using hm
    omega
end K83
set_option Elab.async false
set_option linter.all false
set_option maxRecDepth 100000
set_option maxHeartbeats 1000000
namespace K83
open PySem Cz
local macro_rules | `(tactic| trivial) => `(tactic| repeat' (first
  | exact e_nil | exact e_k | exact z_nil | (apply e_var; rfl) | (apply e_glob; rfl) | apply e_cons
  | apply e_op0 | apply e_tup0 | apply e_call0 | apply e_not
  | exact run_mul (by assumption) _ | exact run_mul' (by assumption) _ | exact run_fdiv (by assumption) (by assumption) _ | exact run_md (by assumption) _ | exact run_eq_int _ _ | exact run_ne_int _ _
  | apply z_par | apply z_asg | apply z_asgt | apply z_ret | (apply z_consr; apply z_ret) | apply z_cons | rfl | (apply e_chain) | (apply e_and) | (apply e_or) | (intro _) | exact Nat.le_of_ble_eq_true rfl))

/-! ### the loops of _law_small_right -/
open K83p in
theorem l28b (k : Nat) (l r : List Nat) (hl : l.length ≤ 1000) (hr : r.length ≤ 1000) (v0 v1 v2 v3 v5 v6 v7 v8 v9 va vb vc vg vh : Option Val) (μ : Store) : ∀ (n i : Nat) (x4 : Option Val), i + n ≤ l.length → i + n ≤ r.length →
    ∃ y4, forL (.nm 4) (evS (RK k) CC WH b28l1) (fun _ => true) (rangeD (i : Int) n) [v0, v1, v2, v3, x4, v5, v6, v7, v8, v9, va, vb, vc, D (.str (tx l)), D (.str (tx r)), D (.int ((upto (cp l r).length i : Nat) : Int)), vg, vh] μ =
      some (.nx, [v0, v1, v2, v3, y4, v5, v6, v7, v8, v9, va, vb, vc, D (.str (tx l)), D (.str (tx r)), D (.int ((upto (cp l r).length (i + n) : Nat) : Int)), vg, vh], μ)
  | 0, i, x4, _, _ => ⟨x4, l_done rfl⟩
  | n + 1, i, x4, h1, h2 => by
    have e4 : ∃ c, c = (cp l r).length := ⟨_, rfl⟩
    obtain ⟨c, hc⟩ := e4
    obtain ⟨y4, e⟩ := l28b k l r hl hr v0 v1 v2 v3 v5 v6 v7 v8 v9 va vb vc vg vh μ n (i + 1) (D (.int (i : Int))) (by omega) (by omega)
    refine ⟨y4, ?_⟩
    have hi : i + 1 + n = i + (n + 1) := by omega
    rw [hi] at e
    have hx : l[i]? = some (l[i]'(by omega)) := List.getElem?_eq_getElem _
    have hy : r[i]? = some (r[i]'(by omega)) := List.getElem?_eq_getElem _
    generalize l[i]'(by omega) = x at hx
    generalize r[i]'(by omega) = y at hy
    have q1 : ∀ w : Option Val, evE (RK k) CC (.op .eq (.cons (.var 15) (.cons (.var 4) .nil))) [v0, v1, v2, v3, D (.int (i : Int)), v5, v6, v7, v8, v9, va, vb, vc, D (.str (tx l)), D (.str (tx r)), D (.int ((upto (cp l r).length i : Nat) : Int)), vg, vh] μ = some ([.d (.bool (decide (((upto (cp l r).length i : Nat) : Int) = (i : Int))))], μ) := fun _ =>
      e_op0 (ws := [.d (.int _), .d (.int _)]) (e_cons (e_var rfl) (e_cons (e_var rfl) e_nil)) rfl (run_eq_int _ _)
    have q2 : evE (RK k) CC (.op .eq (.cons (.op .ix (.cons (.var 13) (.cons (.var 4) .nil))) (.cons (.op .ix (.cons (.var 14) (.cons (.var 4) .nil))) .nil))) [v0, v1, v2, v3, D (.int (i : Int)), v5, v6, v7, v8, v9, va, vb, vc, D (.str (tx l)), D (.str (tx r)), D (.int ((upto (cp l r).length i : Nat) : Int)), vg, vh] μ = some ([.d (.bool (decide (x = y)))], μ) :=
      e_op0 (ws := [.d (.str (tx [x])), .d (.str (tx [y]))]) (e_cons (e_op0 (ws := [.d (.str (tx l)), .d (.int (i : Int))]) (e_cons (e_var rfl) (e_cons (e_var rfl) e_nil)) rfl (ix_tx hx (by unfold sizeMax; omega))) (e_cons (e_op0 (ws := [.d (.str (tx r)), .d (.int (i : Int))]) (e_cons (e_var rfl) (e_cons (e_var rfl) e_nil)) rfl (ix_tx hy (by unfold sizeMax; omega))) e_nil)) rfl (eq_tx x y)
    have q3 := e_and _ _ (q1 none) fun _ => q2
    have q4 : evE (RK k) CC (.ite (.and (.op .eq (.cons (.var 15) (.cons (.var 4) .nil))) (.op .eq (.cons (.op .ix (.cons (.var 13) (.cons (.var 4) .nil))) (.cons (.op .ix (.cons (.var 14) (.cons (.var 4) .nil))) .nil)))) (.op .add (.cons (.var 4) (.cons (.k (.int 1)) .nil))) (.var 15)) [v0, v1, v2, v3, D (.int (i : Int)), v5, v6, v7, v8, v9, va, vb, vc, D (.str (tx l)), D (.str (tx r)), D (.int ((upto (cp l r).length i : Nat) : Int)), vg, vh] μ = some ([.d (.int ((upto (cp l r).length (i + 1) : Nat) : Int))], μ) := by
      by_cases hlt : i < (cp l r).length
      · obtain ⟨z, g1, g2⟩ := cp_get l r i hlt
        have exy : x = y := by
          have a1 := hx.symm.trans g1
          have a2 := hy.symm.trans g2
          have := Option.some.inj a1
          have := Option.some.inj a2
          omega
        have u1 : upto (cp l r).length i = i := by unfold upto; rw [if_pos (by omega)]
        have u2 : upto (cp l r).length (i + 1) = i + 1 := by unfold upto; rw [if_pos (by omega)]
        rw [u1] at q3
        rw [u1, u2]
        rw [decide_eq_true rfl, decide_eq_true exy] at q3
        refine e_ite true q3 (fun _ => ?_) fun z => by cases z
        have ee : ((i + 1 : Nat) : Int) = (i : Int) + 1 := by omega
        rw [ee]
        trivial
      · have u2 : upto (cp l r).length (i + 1) = (cp l r).length := by unfold upto; rw [if_neg (by omega)]
        have u1 : upto (cp l r).length i = (cp l r).length := by
          unfold upto
          by_cases h : i ≤ (cp l r).length
          · rw [if_pos h]; omega
          · rw [if_neg h]
        rw [u1] at q3
        rw [u1, u2]
        have fl : (decide ((((cp l r).length : Nat) : Int) = (i : Int)) && decide (x = y)) = false := by
          by_cases h : (cp l r).length = i
          · have hne : x ≠ y := by
              rw [← h] at hx hy
              exact cp_end l r hx hy
            rw [decide_eq_false hne, Bool.and_false]
          · rw [decide_eq_false (by omega), Bool.false_and]
        rw [fl] at q3
        exact e_ite false q3 (fun z => by cases z) fun _ => e_var rfl
    have b1 : evS (RK k) CC WH b28l1 [v0, v1, v2, v3, D (.int (i : Int)), v5, v6, v7, v8, v9, va, vb, vc, D (.str (tx l)), D (.str (tx r)), D (.int ((upto (cp l r).length i : Nat) : Int)), vg, vh] μ =
        some (.nx, [v0, v1, v2, v3, D (.int (i : Int)), v5, v6, v7, v8, v9, va, vb, vc, D (.str (tx l)), D (.str (tx r)), D (.int ((upto (cp l r).length (i + 1) : Nat) : Int)), vg, vh], μ) :=
      z_cons (z_asg0 q4) z_nil
    exact l_nx (ρ2 := [v0, v1, v2, v3, D (.int (i : Int)), v5, v6, v7, v8, v9, va, vb, vc, D (.str (tx l)), D (.str (tx r)), D (.int ((upto (cp l r).length i : Nat) : Int)), vg, vh]) rfl rfl b1 e
/-- what the walk by letters holds -/
def T3 (s : I2 × I2) : PyData := .tuple [pr s.1, pr (mid s), pr s.2]
theorem l28a (k : Nat) (v0 v1 v2 v3 v4 v7 v8 v9 vd ve vf vg vh : Option Val) (μ : Store) : ∀ (w : List Nat) (s : I2 × I2) (x6 xa xb xc : Option Val), (∀ c ∈ w, c = 117 ∨ c = 100) →
    ∃ y6 ya yb yc, forL (.nm 6) (evS (RK k) CC WH b28l0) (fun _ => true) (w.map fun c => .str (tx [c])) [v0, v1, v2, v3, v4, D (T3 s), x6, v7, v8, v9, xa, xb, xc, vd, ve, vf, vg, vh] μ =
      some (.nx, [v0, v1, v2, v3, v4, D (T3 (w.foldl K83p.stp s)), y6, v7, v8, v9, ya, yb, yc, vd, ve, vf, vg, vh], μ)
  | [], s, x6, xa, xb, xc, _ => ⟨x6, xa, xb, xc, l_done rfl⟩
  | c :: w, s, x6, xa, xb, xc, hw => by
    obtain ⟨y6, ya, yb, yc, e⟩ := l28a k v0 v1 v2 v3 v4 v7 v8 v9 vd ve vf vg vh μ w (K83p.stp s c) (D (.str (tx [c]))) (D (pr s.1)) (D (pr (mid s))) (D (pr s.2)) fun x hx => hw x (List.mem_cons_of_mem _ hx)
    refine ⟨y6, ya, yb, yc, ?_⟩
    have s1 : evS (RK k) CC WH (.asg (.tp [10, 11, 12]) (.var 5)) [v0, v1, v2, v3, v4, D (T3 s), D (.str (tx [c])), v7, v8, v9, xa, xb, xc, vd, ve, vf, vg, vh] μ = some (.nx, [v0, v1, v2, v3, v4, D (T3 s), D (.str (tx [c])), v7, v8, v9, D (pr s.1), D (pr (mid s)), D (pr s.2), vd, ve, vf, vg, vh], μ) :=
      z_asgt (ds := [pr s.1, pr (mid s), pr s.2]) (e_var rfl) rfl
    have cn : evE (RK k) CC (.op .eq (.cons (.var 6) (.cons (.k (.str "u")) .nil))) [v0, v1, v2, v3, v4, D (T3 s), D (.str (tx [c])), v7, v8, v9, D (pr s.1), D (pr (mid s)), D (pr s.2), vd, ve, vf, vg, vh] μ = some ([.d (.bool (decide (c = 117)))], μ) :=
      e_op0 (ws := [.d (.str (tx [c])), .d (.str (tx [117]))]) (e_cons (e_var rfl) (e_cons e_k e_nil)) rfl (eq_tx c 117)
    have s2 : evS (RK k) CC WH (sAt 1 b28l0) [v0, v1, v2, v3, v4, D (T3 s), D (.str (tx [c])), v7, v8, v9, D (pr s.1), D (pr (mid s)), D (pr s.2), vd, ve, vf, vg, vh] μ = some (.nx, [v0, v1, v2, v3, v4, D (T3 (K83p.stp s c)), D (.str (tx [c])), v7, v8, v9, D (pr s.1), D (pr (mid s)), D (pr s.2), vd, ve, vf, vg, vh], μ) := by
      by_cases h : c = 117
      · rw [decide_eq_true h] at cn
        have e1 : K83p.stp s c = (mid s, s.2) := by
          unfold K83p.stp
          rw [if_pos h]
          rfl
        rw [e1]
        refine z_asg0 (e_ite true cn (fun _ => ?_) fun z => by cases z)
        show evE _ _ _ _ _ = some ([.d (.tuple [pr (mid s), pr ((mid s).1 + s.2.1, (mid s).2 + s.2.2), pr s.2])], μ)
        trivial
      · rw [decide_eq_false h] at cn
        have e1 : K83p.stp s c = (s.1, mid s) := by
          unfold K83p.stp
          rw [if_neg h]
          rfl
        rw [e1]
        refine z_asg0 (e_ite false cn (fun z => by cases z) fun _ => ?_)
        have em : mid (s.1, mid s) = ((mid s).1 + s.1.1, (mid s).2 + s.1.2) := by
          refine Prod.ext ?_ ?_
          · show s.1.1 + (mid s).1 = (mid s).1 + s.1.1; omega
          · show s.1.2 + (mid s).2 = (mid s).2 + s.1.2; omega
        have e3 : T3 (s.1, mid s) = .tuple [pr s.1, pr ((mid s).1 + s.1.1, (mid s).2 + s.1.2), pr (mid s)] := by
          unfold T3
          rw [em]
        rw [e3]
        trivial
    exact l_nx (ρ2 := [v0, v1, v2, v3, v4, D (T3 s), D (.str (tx [c])), v7, v8, v9, xa, xb, xc, vd, ve, vf, vg, vh]) rfl rfl (z_cons s1 (z_cons s2 z_nil)) e
end K83
set_option Elab.async false
set_option linter.all false
set_option maxRecDepth 100000
set_option maxHeartbeats 1000000
namespace K83
open PySem Cz
local macro_rules | `(tactic| trivial) => `(tactic| repeat' (first
  | exact e_nil | exact e_k | exact z_nil | (apply e_var; rfl) | (apply e_glob; rfl) | apply e_cons
  | apply e_op0 | apply e_tup0 | apply e_call0 | apply e_not
  | exact run_mul (by assumption) _ | exact run_mul' (by assumption) _ | exact run_fdiv (by assumption) (by assumption) _ | exact run_md (by assumption) _ | exact run_eq_int _ _ | exact run_ne_int _ _
  | apply z_par | apply z_asg | apply z_asgt | apply z_ret | (apply z_consr; apply z_ret) | apply z_cons | rfl | (apply e_chain) | (apply e_and) | (apply e_or) | (intro _) | exact Nat.le_of_ble_eq_true rfl))

theorem sum_le {q : Int} : ∀ ns : List Int, (∀ m ∈ ns, 0 ≤ m ∧ m ≤ q) → 0 ≤ ns.sum ∧ ns.sum ≤ ns.length * q
  | [], _ => by simp
  | m :: r, h => by
    have h1 := sum_le r fun x hx => h x (List.mem_cons_of_mem _ hx)
    have h2 := h m List.mem_cons_self
    rw [List.sum_cons, List.length_cons, Int.natCast_add, Int.add_mul]
    simp only [Int.natCast_one, Int.one_mul]
    omega
abbrev q28 (v1 v2 v3 v4 v5 v6 v7 v8 v9 va vb vc vd ve vf vg vh : Option Val) : Slots := [some (.l 0), v1, v2, v3, v4, v5, v6, v7, v8, v9, va, vb, vc, vd, ve, vf, vg, vh]
theorem Sd.big {ns : List Int} (h : Sd ns) : (∀ m ∈ ns, 0 ≤ m ∧ m ≤ 6) ∧ (0 ≤ (B ns).1.1 ∧ 0 ≤ (B ns).1.2 ∧ 0 ≤ (B ns).2.1 ∧ 0 ≤ (B ns).2.2) ∧ (B ns).1.1 + (B ns).2.1 = (SL 0 ns).1 ∧ (B ns).1.2 + (B ns).2.2 = (SL 0 ns).2 ∧ (SL 0 ns).1 + (SL 0 ns).2 ≤ 4194304 ∧ 1 ≤ (SL 0 ns).1 ∧ 1 ≤ (SL 0 ns).2 := by
  have h1 := h.sm.le
  have h2 := h.sm.pos
  have h3 := B_nn h.v.nonneg
  have h4 := B_mid ns
  exact ⟨fun m hm => ⟨h.v.nonneg m hm, h.b m hm⟩, h3, h4.1, h4.2, h1, h2.1, h2.2⟩
/-- what is told of a slope -/
def X28 (ns : List Int) : List PyData := [pr (SL 0 ns), row ns, .int ns.sum, .tuple [pr (B ns).1, pr (B ns).2], .bool true]
theorem X28_ok {ns : List Int} (h : Sd ns) : shownOk (.tuple (X28 ns)) = true := by
  obtain ⟨h1, h3, h4, h5, h6, h7, h8⟩ := h.big
  have hl := h.l
  have hs := sum_le ns h1
  have sh : ShA (X28 ns) _ _ := ShA.cons (Sh.pr (by omega) (by omega)) (ShA.cons (Sh.row ns fun m hm => by have := h1 m hm; omega) (ShA.cons (Sh.int (by omega)) (ShA.cons (Sh.tup (ShA.cons (Sh.pr (by omega) (by omega)) (ShA.cons (Sh.pr (by omega) (by omega)) ShA.nil))) (ShA.cons (Sh.bool true) ShA.nil))))
  exact (Sh.tup sh).ok (by omega) (by decide)
def Y28 (ns : List Int) : List PyData := [pr ((B ns).1.1 + (SL 0 ns).1, (B ns).1.2 + (SL 0 ns).2), pr ((SL 0 ns).1 + (B ns).2.1, (SL 0 ns).2 + (B ns).2.2)]
theorem Y28_ok {ns : List Int} (h : Sd ns) : shownOk (.tuple (Y28 ns)) = true := by
  obtain ⟨h1, h3, h4, h5, h6, h7, h8⟩ := h.big
  have sh : ShA (Y28 ns) _ _ := ShA.cons (Sh.pr (by simp only []; omega) (by simp only []; omega)) (ShA.cons (Sh.pr (by simp only []; omega) (by simp only []; omega)) ShA.nil)
  exact (Sh.tup sh).ok (by decide) (by decide)
section
variable {ns : List Int} (h : Sd ns) (μ : Store)
include h
theorem t28_1 : evS (RK 10) CC WH (sAt 1 b28) (q28 (D (row ns)) none none none none none none none none none none none none none none none none) μ =
    some (.nx, q28 (D (row ns)) none none none none none none none none (D (pr (B ns).1)) (D (pr (SL 0 ns))) (D (pr (B ns).2)) none none none none none, μ) := by
  obtain ⟨h1, _⟩ := h.big
  exact z_asgt (ds := [pr (B ns).1, pr (SL 0 ns), pr (B ns).2]) (e_call0 (e_cons (e_var rfl) e_nil) (r25 9 ns (fun m hm => by have := h1 m hm; omega) (by have := h.l; omega) μ)) rfl
theorem t28_2 : evS (RK 10) CC WH (sAt 2 b28) (q28 (D (row ns)) none none none none none none none none (D (pr (B ns).1)) (D (pr (SL 0 ns))) (D (pr (B ns).2)) none none none none none) μ =
    some (.nx, q28 (D (row ns)) (D (.tuple (X28 ns))) none none none none none none none (D (pr (B ns).1)) (D (pr (SL 0 ns))) (D (pr (B ns).2)) none none none none none, μ) := by
  have ok := h.sm.ok2
  have e2 := r2 8 (pr (SL 0 ns)) μ
  rw [isS_SL ok] at e2
  exact z_asg0 (e_tup0 (ws := [.d (pr (SL 0 ns)), .d (row ns), .d (.int ns.sum), .d (.tuple [pr (B ns).1, pr (B ns).2]), .d (.bool true)]) (e_cons (e_call0 (e_cons (e_var rfl) e_nil) (r12 7 ok.o μ)) (e_cons (e_call0 (e_cons (e_var rfl) e_nil) (r11 6 ok μ)) (e_cons (e_call0 (e_cons (e_var rfl) e_nil) (r13 6 ok μ)) (e_cons (e_call0 (e_cons (e_var rfl) e_nil) (r14 6 ok μ)) (e_cons (e_call0 (e_cons (e_var rfl) e_nil) e2) e_nil))))) rfl (Nat.le_of_ble_eq_true rfl))
theorem t28_3 : evS (RK 10) CC WH (sAt 3 b28) (q28 (D (row ns)) (D (.tuple (X28 ns))) none none none none none none none (D (pr (B ns).1)) (D (pr (SL 0 ns))) (D (pr (B ns).2)) none none none none none) μ =
    some (.nx, q28 (D (row ns)) (D (.tuple (X28 ns))) none none none none none none none (D (pr (B ns).1)) (D (pr (SL 0 ns))) (D (pr (B ns).2)) none none none none none, μ) := by
  refine z_ifs0 false (ne_repr (repr_tup (X28_ok h)) (e_var rfl) (e_tup0 (ws := [.d (pr (SL 0 ns)), .d (row ns), .d (.int ns.sum), .d (.tuple [pr (B ns).1, pr (B ns).2]), .d (.bool true)]) ?_ rfl (Nat.le_of_ble_eq_true rfl))) (fun z => by cases z) fun _ => z_nil
  exact e_cons (e_var rfl) (e_cons (e_var rfl) (e_cons (e_op0 (ws := [.d (row ns)]) (e_cons (e_var rfl) e_nil) rfl (run_sum_row ns)) (e_cons (e_tup0 (ws := [.d (pr (B ns).1), .d (pr (B ns).2)]) (e_cons (e_var rfl) (e_cons (e_var rfl) e_nil)) rfl (Nat.le_of_ble_eq_true rfl)) (e_cons e_k e_nil))))
theorem t28_4 (v2 : Option Val) : evS (RK 10) CC WH (sAt 4 b28) (q28 (D (row ns)) v2 none none none none none none none (D (pr (B ns).1)) (D (pr (SL 0 ns))) (D (pr (B ns).2)) none none none none none) μ =
    some (.nx, q28 (D (row ns)) v2 none none none none none none none (D (pr (B ns).1)) (D (pr (SL 0 ns))) (D (pr (B ns).2)) none none none none none, μ) := by
  refine z_ifs0 false (ne_repr (repr_tup (Y28_ok h)) (e_call0 (e_cons (e_var rfl) e_nil) (r15 6 h.sm.ok2 μ)) ?_) (fun z => by cases z) fun _ => z_nil
  unfold Y28
  rw [Int.add_comm (B ns).1.1, Int.add_comm (B ns).1.2]
  trivial
def rhs5 : E := match sAt 5 b28 with
  | .ifs (.op _ (.cons _ (.cons r _))) _ _ => r
  | _ => .nil
omit h in
theorem t28_5' (v2 : Option Val) {ch : List Int} (ok : Ok2 ns) (h1 : SL 0 ch = ((B ns).1.1 + (SL 0 ns).1, (B ns).1.2 + (SL 0 ns).2)) (h2 : Ok2 ch) (hr : evE (RK 10) CC rhs5 (q28 (D (row ns)) v2 none none none none none none none (D (pr (B ns).1)) (D (pr (SL 0 ns))) (D (pr (B ns).2)) none none none none none) μ = some ([.d (row ch)], μ)) : evS (RK 10) CC WH (sAt 5 b28) (q28 (D (row ns)) v2 none none none none none none none (D (pr (B ns).1)) (D (pr (SL 0 ns))) (D (pr (B ns).2)) none none none none none) μ =
    some (.nx, q28 (D (row ns)) v2 none none none none none none none (D (pr (B ns).1)) (D (pr (SL 0 ns))) (D (pr (B ns).2)) none none none none none, μ) := by
  have e11 := r11 6 h2 μ
  rw [h1] at e11
  have ne := run_ne_row ch ch
  rw [decide_eq_true rfl] at ne
  refine z_ifs0 false (e_op0 (ws := [.d (row ch), .d (row ch)]) (e_cons (e_call0 (e_cons (e_op0 (ws := [.d (.tuple (Y28 ns)), .d (.int 0)]) (e_cons (e_call0 (e_cons (e_var rfl) e_nil) (r15 6 ok μ)) (e_cons e_k e_nil)) rfl rfl) e_nil) e11) (e_cons hr e_nil)) rfl ne) (fun z => by cases z) fun _ => z_nil
theorem t28_5 (v2 : Option Val) : evS (RK 10) CC WH (sAt 5 b28) (q28 (D (row ns)) v2 none none none none none none none (D (pr (B ns).1)) (D (pr (SL 0 ns))) (D (pr (B ns).2)) none none none none none) μ =
    some (.nx, q28 (D (row ns)) v2 none none none none none none none (D (pr (B ns).1)) (D (pr (SL 0 ns))) (D (pr (B ns).2)) none none none none none, μ) := by
  have ok := h.sm.ok2
  have ng : ∀ ρ, evE (RK 10) CC (.op .neg (.cons (.k (.int 1)) .nil)) ρ μ = some ([.d (.int (-1))], μ) := fun ρ => e_op0 (e_cons e_k e_nil) rfl rfl
  have ln : Op.len.run [row ns] = some (.d (.int (ns.length : Int))) := by
    show some (Res.d (.int ((ns.map PyData.int).length : Int))) = _
    rw [List.length_map]
  have c1 : ∀ ρ : Slots, ρ[1]? = some (D (row ns)) → evE (RK 10) CC (.op .eq (.cons (.op .md (.cons (.op .int1 (.cons (.op .len (.cons (.var 1) .nil)) .nil)) (.cons (.k (.int 2)) .nil))) (.cons (.k (.int 0)) .nil))) ρ μ = some ([.d (.bool (decide (ns.length % 2 = 0)))], μ) := fun ρ hρ => by
    rw [← par_odd]
    exact e_op0 (ws := [.d (.int ((ns.length : Int) % 2)), .d (.int 0)]) (e_cons (e_op0 (ws := [.d (.int (ns.length : Int)), .d (.int 2)]) (e_cons (e_op0 (ws := [.d (.int (ns.length : Int))]) (e_cons (e_op0 (ws := [.d (row ns)]) (e_cons (e_var hρ) e_nil) rfl ln) e_nil) rfl rfl) (e_cons e_k e_nil)) rfl (run_md (by decide) _)) (e_cons e_k e_nil)) rfl (run_eq_int _ _)
  have c2 : ∀ ρ : Slots, ρ[1]? = some (D (row ns)) → evE (RK 10) CC (.op .ne (.cons (.var 1) (.cons (.tup .nil) .nil))) ρ μ = some ([.d (.bool (!decide (ns = [])))], μ) := fun ρ hρ =>
    e_op0 (ws := [.d (row ns), .d (row [])]) (e_cons (e_var hρ) (e_cons (e_tup0 e_nil rfl (Nat.zero_le _)) e_nil)) rfl (run_ne_row ns [])
  by_cases hn : ns = []
  · subst hn
    refine t28_5' μ v2 ok child0 sm01.ok2 ?_
    have a1 := e_and _ _ (c1 (q28 (D (row [])) v2 none none none none none none none (D (pr (B []).1)) (D (pr (SL 0 []))) (D (pr (B []).2)) none none none none none) rfl) fun _ => c2 _ rfl
    exact e_ite false a1 (fun z => by cases z) fun _ => e_ite false (c2 _ rfl) (fun z => by cases z) fun _ => e_tup0 (ws := [.d (.int 0), .d (.int 1)]) (e_cons e_k (e_cons e_k e_nil)) rfl (Nat.le_of_ble_eq_true rfl)
  · have a1 := e_and _ _ (c1 (q28 (D (row ns)) v2 none none none none none none none (D (pr (B ns).1)) (D (pr (SL 0 ns))) (D (pr (B ns).2)) none none none none none) rfl) fun _ => c2 _ rfl
    have a2 := c2 (q28 (D (row ns)) v2 none none none none none none none (D (pr (B ns).1)) (D (pr (SL 0 ns))) (D (pr (B ns).2)) none none none none none) rfl
    rw [decide_eq_false hn] at a1 a2
    by_cases hp : ns.length % 2 = 0
    · rw [decide_eq_true hp] at a1
      rcases List.eq_nil_or_concat ns with z | ⟨init, m, z⟩
      · exact absurd z hn
      · rw [List.concat_eq_append] at z
        subst z
        have hm : 1 ≤ m := by
          match init, hp, h.v with
          | [], hp, _ => simp at hp
          | x :: r, _, hv => exact (show Pos (r ++ [m]) from hv.tail) m (by simp)
        refine t28_5' μ v2 ok (childE init m hp) (h.even hm).ok2 (e_ite true a1 (fun _ => ?_) fun z => by cases z)
        have sl : Op.sl01.run [row (init ++ [m]), .int (-1)] = some (.d (row init)) := by
          show some (Res.d (.tuple (cutA ((init ++ [m]).map PyData.int) none (some (-1))))) = _
          rw [List.map_append, show [m].map PyData.int = [PyData.int m] from rfl, cut_init]
          rfl
        have ix : Op.ix.run [row (init ++ [m]), .int (-1)] = some (.d (.int m)) := by
          show (atA ((init ++ [m]).map PyData.int) (-1)).map Res.d = _
          rw [List.map_append, show [m].map PyData.int = [PyData.int m] from rfl, at_last]
          rfl
        have hl := h.l
        rw [List.length_append, List.length_singleton] at hl
        exact e_op0 (ws := [.d (row init), .d (row [m + 1])]) (e_cons (e_op0 (ws := [.d (row (init ++ [m])), .d (.int (-1))]) (e_cons (e_var rfl) (e_cons (ng _) e_nil)) rfl sl) (e_cons (e_tup0 (ws := [.d (.int (m + 1))]) (e_cons (e_op0 (ws := [.d (.int m), .d (.int 1)]) (e_cons (e_op0 (ws := [.d (row (init ++ [m])), .d (.int (-1))]) (e_cons (e_var rfl) (e_cons (ng _) e_nil)) rfl ix) (e_cons e_k e_nil)) rfl rfl) e_nil) rfl (Nat.le_of_ble_eq_true rfl)) e_nil)) rfl (add_row init [m + 1] (by simp [sizeMax]; omega))
    · rw [decide_eq_false hp] at a1
      refine t28_5' μ v2 ok (childO ns (by omega)) (h.odd hn).ok2 (e_ite false a1 (fun z => by cases z) fun _ => e_ite true a2 (fun _ => ?_) fun z => by cases z)
      have hl := h.l
      exact e_op0 (ws := [.d (row ns), .d (row [1])]) (e_cons (e_var rfl) (e_cons (e_tup0 (ws := [.d (.int 1)]) (e_cons e_k e_nil) rfl (Nat.le_of_ble_eq_true rfl)) e_nil)) rfl (add_row ns [1] (by simp [sizeMax]; omega))
end
end K83
set_option Elab.async false
set_option linter.all false
set_option maxRecDepth 100000
set_option maxHeartbeats 1000000
namespace K83
open PySem Cz
local macro_rules | `(tactic| trivial) => `(tactic| repeat' (first
  | exact e_nil | exact e_k | exact z_nil | (apply e_var; rfl) | (apply e_glob; rfl) | apply e_cons
  | apply e_op0 | apply e_tup0 | apply e_call0 | apply e_not
  | exact run_mul (by assumption) _ | exact run_mul' (by assumption) _ | exact run_fdiv (by assumption) (by assumption) _ | exact run_md (by assumption) _ | exact run_eq_int _ _ | exact run_ne_int _ _
  | apply z_par | apply z_asg | apply z_asgt | apply z_ret | (apply z_consr; apply z_ret) | apply z_cons | rfl | (apply e_chain) | (apply e_and) | (apply e_or) | (intro _) | exact Nat.le_of_ble_eq_true rfl))

theorem val_pre {ns : List Int} {x : Int} (h : Val0 ns) (hx : 1 ≤ x) (n : Nat) : Val0 (ns.take n ++ [x]) := by
  match ns, n, h with
  | [], n, _ =>
    rw [List.take_nil]
    exact hx
  | a :: r, 0, _ => exact hx
  | a :: r, n + 1, h =>
    have hp := h.tail
    have h0 := h.nonneg a List.mem_cons_self
    rw [List.take_succ_cons]
    have e : a :: r.take n ++ [x] = a :: (r.take n ++ [x]) := rfl
    rw [e]
    have pp : Pos (r.take n ++ [x]) := fun m hm => by
      rcases List.mem_append.mp hm with z | z
      · exact hp m (List.mem_of_mem_take z)
      · have : m = x := by simpa using z
        omega
    match hr : r.take n ++ [x], pp with
    | [], _ => simp at hr
    | y :: t, pp => exact ⟨h0, pp⟩
theorem sl_row {ns : List Int} {c : Int} (h0 : 0 ≤ c) : Op.sl01.run [row ns, .int c] = some (.d (row (ns.take c.toNat))) := by
  show some (Res.d (.tuple (cutA (ns.map PyData.int) none (some c)))) = _
  unfold cutA
  rw [show HT.sIx (ns.map PyData.int).length 0 none = 0 from rfl]
  have e : HT.sIx (ns.map PyData.int).length (ns.map PyData.int).length (some c) = min c.toNat ns.length := by
    have := HT.sIx_nat (ns.map PyData.int).length (ns.map PyData.int).length c.toNat
    rw [Int.toNat_of_nonneg h0] at this
    rw [this, List.length_map]
  rw [e]
  unfold row
  rw [List.map_take, Nat.sub_zero, List.drop_zero]
  congr 3
  by_cases h : c.toNat ≤ ns.length
  · rw [Nat.min_eq_left h]
  · rw [Nat.min_eq_right (by omega), List.take_of_length_le (by simp), List.take_of_length_le (by simp; omega)]
theorem t28_6 {a b : Int} (c : Cup a b) {ns : List Int} (h : Sd ns) (v2 va vb vc : Option Val) : ∃ (ms : List Int) (a' b' : Int), Cup a' b' ∧ Sd ms ∧
    evS (RK 10) CC WH (sAt 6 b28) (q28 (D (row ns)) v2 none none none none none none none va vb vc none none none none none) [C2 a b] =
      some (.nx, q28 (D (row ns)) v2 (D (pr (SL 0 ms))) none none none none none none va vb vc none none none none none, [C2 a' b']) := by
  obtain ⟨m1, a1, b1, c1, v1, w1, l1, e1⟩ := r24 8 c 5 6 (by decide) (by decide) (by decide) (by decide)
  obtain ⟨r, a2, b2, r0, r1, c2, e2⟩ := r20 9 c1 (m := 4) (by decide) (by decide) []
  obtain ⟨s, a3, b3, s0, s1, c3, e3⟩ := r20 9 c2 (m := 3) (by decide) (by decide) []
  have d1 : Sd m1 := ⟨v1, w1, by omega⟩
  have d2 : Sd (ns.take r.toNat ++ [1 + s]) := by
    refine ⟨val_pre h.v (by omega) _, fun m hm => ?_, ?_⟩
    · rcases List.mem_append.mp hm with z | z
      · exact h.b m (List.mem_of_mem_take z)
      · have : m = 1 + s := by simpa using z
        omega
    · rw [List.length_append, List.length_singleton, List.length_take]
      omega
  generalize hm2 : ns.take r.toNat ++ [1 + s] = m2 at d2
  have ρ : ∃ ρ : Slots, ρ = q28 (D (row ns)) v2 none none none none none none none va vb vc none none none none none := ⟨_, rfl⟩
  obtain ⟨ρ, hρ⟩ := ρ
  have g0 : ρ[0]? = some (some (.l 0)) := by rw [hρ]; rfl
  have g1 : ρ[1]? = some (D (row ns)) := by rw [hρ]; rfl
  have f3 : evE (RK 10) CC (.op .sl01 (.cons (.var 1) (.cons (.call 20 (.cons (.var 0) (.cons (.k (.int 4)) .nil))) .nil))) ρ [C2 a1 b1] = some ([.d (row (ns.take r.toNat))], [C2 a2 b2]) :=
    e_opx (ws := [.d (row ns), .d (.int r)]) (e_cons (e_var g1) (e_cons (e_call (e_cons (e_var g0) (e_cons e_k e_nil)) e2 rfl) e_nil)) rfl rfl (sl_row r0)
  have f4 : evE (RK 10) CC (.tup (.cons (.op .add (.cons (.k (.int 1)) (.cons (.call 20 (.cons (.var 0) (.cons (.k (.int 3)) .nil))) .nil))) .nil)) ρ [C2 a2 b2] = some ([.d (row [1 + s])], [C2 a3 b3]) :=
    e_tupx (ws := [.d (.int (1 + s))]) (e_cons (e_opx (ws := [.d (.int 1), .d (.int s)]) (e_cons e_k (e_cons (e_call (e_cons (e_var g0) (e_cons e_k e_nil)) e3 rfl) e_nil)) rfl rfl rfl) e_nil) rfl rfl (Nat.le_of_ble_eq_true rfl)
  have hl := h.l
  have f2 : evE (RK 10) CC (.op .add (.cons (.op .sl01 (.cons (.var 1) (.cons (.call 20 (.cons (.var 0) (.cons (.k (.int 4)) .nil))) .nil))) (.cons (.tup (.cons (.op .add (.cons (.k (.int 1)) (.cons (.call 20 (.cons (.var 0) (.cons (.k (.int 3)) .nil))) .nil))) .nil)) .nil))) ρ [C2 a1 b1] = some ([.d (row m2)], [C2 a3 b3]) := by
    have ad := add_row (ns.take r.toNat) [1 + s] (by rw [List.length_take]; simp [sizeMax]; omega)
    rw [hm2] at ad
    exact e_opx (ws := [.d (row (ns.take r.toNat)), .d (row [1 + s])]) (e_cons f3 (e_cons f4 e_nil)) rfl rfl ad
  have f1 : evE (RK 10) CC (.lst (.cons (.call 24 (.cons (.var 0) (.cons (.k (.int 5)) (.cons (.k (.int 6)) .nil)))) (.cons (.op .add (.cons (.op .sl01 (.cons (.var 1) (.cons (.call 20 (.cons (.var 0) (.cons (.k (.int 4)) .nil))) .nil))) (.cons (.tup (.cons (.op .add (.cons (.k (.int 1)) (.cons (.call 20 (.cons (.var 0) (.cons (.k (.int 3)) .nil))) .nil))) .nil)) .nil))) .nil))) ρ [C2 a b] = some ([.l 1], [C2 a3 b3, [row m1, row m2]]) :=
    e_lstx (ws := [.d (row m1), .d (row m2)]) (e_cons (e_call (e_cons (e_var g0) (e_cons e_k (e_cons e_k e_nil))) e1 rfl) (e_cons f2 e_nil)) rfl rfl (Nat.le_of_ble_eq_true rfl)
  obtain ⟨x, a4, b4, hx, c4, e4⟩ := r21 8 c3 [row m1, row m2] (Nat.lt_of_lt_of_le Nat.zero_lt_one (Nat.le_of_ble_eq_true rfl)) (Nat.le_of_ble_eq_true rfl) []
  have hms : ∃ ms, Sd ms ∧ x = row ms := by
    rcases List.mem_cons.mp hx with z | z
    · exact ⟨m1, d1, z⟩
    · have : x = row m2 := by simpa using z
      exact ⟨m2, d2, this⟩
  obtain ⟨ms, d3, rfl⟩ := hms
  refine ⟨ms, a4, b4, c4, d3, ?_⟩
  obtain ⟨h1, _⟩ := d3.big
  have e5 := r25 9 ms (fun m hm => by have := h1 m hm; omega) (by have := d3.l; omega) [C2 a4 b4]
  have f0 : evE (RK 10) CC (.call 21 (.cons (.var 0) (.cons (.lst (.cons (.call 24 (.cons (.var 0) (.cons (.k (.int 5)) (.cons (.k (.int 6)) .nil)))) (.cons (.op .add (.cons (.op .sl01 (.cons (.var 1) (.cons (.call 20 (.cons (.var 0) (.cons (.k (.int 4)) .nil))) .nil))) (.cons (.tup (.cons (.op .add (.cons (.k (.int 1)) (.cons (.call 20 (.cons (.var 0) (.cons (.k (.int 3)) .nil))) .nil))) .nil)) .nil))) .nil))) .nil))) ρ [C2 a b] = some ([.d (row ms)], [C2 a4 b4]) :=
    e_call (e_cons (e_var g0) (e_cons f1 e_nil)) e4 rfl
  rw [hρ] at f0
  exact z_asg (e_opx (ws := [.d (.tuple [pr (B ms).1, pr (SL 0 ms), pr (B ms).2]), .d (.int 1)]) (e_cons (e_call (e_cons f0 e_nil) e5 rfl) (e_cons e_k e_nil)) rfl rfl rfl)
/-! ### the letters -/
theorem com_len : ∀ ns ms : List Int, (com ns ms).length ≤ ns.length
  | [], [] => Nat.le_refl _
  | [], _ :: _ => Nat.le_refl _
  | _ :: _, [] => Nat.zero_le _
  | a :: r, b :: s => by
    rw [com]
    have := com_len r s
    split <;> simp <;> omega
section
variable {ns ms : List Int} (h : Sd ns) (h' : Sd ms) (μ : Store)
include h
theorem pl_len : (K83p.plL 0 ns).length ≤ 36 := by
  have h1 := K83p.plL_len ns 0 6 fun m hm => by have := h.b m hm; omega
  have := h.l
  omega
include h'
theorem com_big : (∀ m ∈ com ns ms, 0 ≤ m ∧ m ≤ 7) ∧ (com ns ms).length ≤ 6 := by
  refine ⟨fun m hm => ?_, Nat.le_trans (com_len ns ms) h.l⟩
  rcases com_mem ns ms m hm with z | z
  · have := h.v.nonneg m z
    have := h.b m z
    omega
  · have := h'.v.nonneg m z
    have := h'.b m z
    omega
theorem cp_com : K83p.plL 0 (com ns ms) = K83p.cp (K83p.plL 0 ns) (K83p.plL 0 ms) := by
  rw [com_eq]
  refine K83p.com_cp ns ms 0 h.v.nonneg h'.v.nonneg ?_ ?_
  · intro m hm
    cases ns with
    | nil => cases hm
    | cons a r => exact h.v.tail m hm
  · intro m hm
    cases ms with
    | nil => cases hm
    | cons a r => exact h'.v.tail m hm
theorem fold_com : (K83p.cp (K83p.plL 0 ns) (K83p.plL 0 ms)).foldl K83p.stp ((0, 1), (1, 0)) = B (com ns ms) := by
  rw [← cp_com h h', K83p.fold_plL _ _ _ fun m hm => ((com_big h h').1 m hm).1, ← bnd_eq]
  rfl
theorem com_shown : ∃ z, Op.repr.run [pr (SL 0 (com ns ms))] = some (.d (.str z)) := by
  obtain ⟨h1, h2⟩ := com_big h h'
  have h3 := SL_le8 (com ns ms) 0 h1
  have h4 := SL_pos (com ns ms) 0 fun m hm => (h1 m hm).1
  have h5 : (8 : Int) ^ (com ns ms).length ≤ 8 ^ 6 := by
    have : 8 ^ (com ns ms).length ≤ 8 ^ 6 := Nat.pow_le_pow_right (by decide) h2
    exact_mod_cast this
  have h6 : (8 : Int) ^ 6 = 262144 := by decide
  have sh := Sh.pr (p := SL 0 (com ns ms)) (by omega) (by omega)
  exact ⟨_, repr_tup (sh.ok (by decide) (by decide))⟩
end
theorem fold_SL {ns : List Int} (h : Sd ns) : K83p.mid ((K83p.plL 0 ns).foldl K83p.stp ((0, 1), (1, 0))) = SL 0 ns := by
  rw [K83p.fold_plL _ _ _ h.v.nonneg, ← bnd_eq, ← mid_B]
  rfl
end K83
set_option Elab.async false
set_option linter.all false
set_option maxRecDepth 100000
set_option maxHeartbeats 1000000
namespace K83
open PySem Cz
local macro_rules | `(tactic| trivial) => `(tactic| repeat' (first
  | exact e_nil | exact e_k | exact z_nil | (apply e_var; rfl) | (apply e_glob; rfl) | apply e_cons
  | apply e_op0 | apply e_tup0 | apply e_call0 | apply e_not
  | exact run_mul (by assumption) _ | exact run_mul' (by assumption) _ | exact run_fdiv (by assumption) (by assumption) _ | exact run_md (by assumption) _ | exact run_eq_int _ _ | exact run_ne_int _ _
  | apply z_par | apply z_asg | apply z_asgt | apply z_ret | (apply z_consr; apply z_ret) | apply z_cons | rfl | (apply e_chain) | (apply e_and) | (apply e_or) | (intro _) | exact Nat.le_of_ble_eq_true rfl))

section
variable {ns ms : List Int} (h : Sd ns) (h' : Sd ms) (μ : Store) (v2 va vb vc : Option Val)
include h h'
theorem t28_7 : evS (RK 10) CC WH (sAt 7 b28) (q28 (D (row ns)) v2 (D (pr (SL 0 ms))) none none none none none none va vb vc none none none none none) μ =
    some (.nx, q28 (D (row ns)) v2 (D (pr (SL 0 ms))) none none none none none none va vb vc (D (.str (tx (K83p.plL 0 ns)))) (D (.str (tx (K83p.plL 0 ms)))) (D (.int 0)) none none, μ) := by
  obtain ⟨h1, _⟩ := h.big
  obtain ⟨h2, _⟩ := h'.big
  have hl := h.l
  have hl' := h'.l
  have e1 := r26 9 ns (fun m hm => by have := h1 m hm; omega) (by omega) μ
  have e2 := r26 9 ms (fun m hm => by have := h2 m hm; omega) (by omega) μ
  rw [path_tx] at e1 e2
  exact z_par0 (ws := [.d (.str (tx (K83p.plL 0 ns))), .d (.str (tx (K83p.plL 0 ms))), .d (.int 0)]) (e_cons (e_call0 (e_cons (e_var rfl) e_nil) e1) (e_cons (e_call0 (e_cons (e_call0 (e_cons (e_var rfl) e_nil) (r11 6 h'.sm.ok2 μ)) e_nil) e2) (e_cons e_k e_nil))) rfl
theorem t28_8 (v3 : Option Val) : ∃ y4, evS (RK 10) CC WH (sAt 8 b28) (q28 (D (row ns)) v2 v3 none none none none none none va vb vc (D (.str (tx (K83p.plL 0 ns)))) (D (.str (tx (K83p.plL 0 ms)))) (D (.int 0)) none none) μ =
    some (.nx, q28 (D (row ns)) v2 v3 y4 none none none none none va vb vc (D (.str (tx (K83p.plL 0 ns)))) (D (.str (tx (K83p.plL 0 ms)))) (D (.int (((K83p.cp (K83p.plL 0 ns) (K83p.plL 0 ms)).length : Nat) : Int))) none none, μ) := by
  have l1 := pl_len h
  have l2 := pl_len h'
  have lc := K83p.cp_le (K83p.plL 0 ns) (K83p.plL 0 ms)
  generalize K83p.plL 0 ns = l at *
  generalize K83p.plL 0 ms = r at *
  obtain ⟨y4, e⟩ := l28b 10 l r (by omega) (by omega) (some (.l 0)) (D (row ns)) v2 v3 none none none none none va vb vc none none μ (min l.length r.length) 0 none (by omega) (by omega)
  have u : K83p.upto (K83p.cp l r).length (0 + min l.length r.length) = (K83p.cp l r).length := by
    unfold K83p.upto
    split <;> omega
  rw [u] at e
  refine ⟨y4, ?_⟩
  have mi : Op.min2.run [.int (l.length : Int), .int (r.length : Int)] = some (.d (.int ((min l.length r.length : Nat) : Int))) := by
    show some (Res.d (.int (if (r.length : Int) < (l.length : Int) then (r.length : Int) else (l.length : Int)))) = _
    congr 3
    split <;> omega
  refine z_for (cs := [.int ((min l.length r.length : Nat) : Int)]) (xs := rangeD 0 (min l.length r.length)) (e_cons (e_op0 (ws := [.d (.int (l.length : Int)), .d (.int (r.length : Int))]) (e_cons (e_op0 (ws := [.d (.str (tx l))]) (e_cons (e_var rfl) e_nil) rfl (len_tx (by unfold sizeMax; omega))) (e_cons (e_op0 (ws := [.d (.str (tx r))]) (e_cons (e_var rfl) e_nil) rfl (len_tx (by unfold sizeMax; omega))) e_nil)) rfl mi) e_nil) ?_ e
  show (if bound62 ((min l.length r.length : Nat) : Int) = true then some (rangeD 0 (((min l.length r.length : Nat) : Int)).toNat) else none) = _
  rw [if_pos (by unfold bound62; exact decide_eq_true ⟨by omega, by omega⟩), Int.toNat_natCast]
omit h h' in
theorem t28_9 (v1 v3 v4 vd ve vf : Option Val) : evS (RK 10) CC WH (sAt 9 b28) (q28 v1 v2 v3 v4 none none none none none va vb vc vd ve vf none none) μ =
    some (.nx, q28 v1 v2 v3 v4 (D (T3 ((0, 1), (1, 0)))) none none none none va vb vc vd ve vf none none, μ) := by
  refine z_asg0 (w := .d (.tuple [pr (0, 1), pr (1, 1), pr (1, 0)])) ?_
  trivial
theorem t28_10 (v1 v3 v4 ve : Option Val) : ∃ y6 ya yb yc, evS (RK 10) CC WH (sAt 10 b28) (q28 v1 v2 v3 v4 (D (T3 ((0, 1), (1, 0)))) none none none none va vb vc (D (.str (tx (K83p.plL 0 ns)))) ve (D (.int (((K83p.cp (K83p.plL 0 ns) (K83p.plL 0 ms)).length : Nat) : Int))) none none) μ =
    some (.nx, q28 v1 v2 v3 v4 (D (T3 (B (com ns ms)))) y6 none none none ya yb yc (D (.str (tx (K83p.plL 0 ns)))) ve (D (.int (((K83p.cp (K83p.plL 0 ns) (K83p.plL 0 ms)).length : Nat) : Int))) none none, μ) := by
  have l1 := pl_len h
  have lc := K83p.cp_le (K83p.plL 0 ns) (K83p.plL 0 ms)
  have ct := K83p.cp_take (K83p.plL 0 ns) (K83p.plL 0 ms)
  have fc := fold_com h h'
  have mem : ∀ c ∈ K83p.cp (K83p.plL 0 ns) (K83p.plL 0 ms), c = 117 ∨ c = 100 := fun c hc => by
    rw [← ct] at hc
    exact K83p.plL_mem ns 0 c (List.mem_of_mem_take hc)
  generalize K83p.plL 0 ns = l at *
  generalize K83p.plL 0 ms = r at *
  obtain ⟨y6, ya, yb, yc, e⟩ := l28a 10 (some (.l 0)) v1 v2 v3 v4 none none none (D (.str (tx l))) ve (D (.int (((K83p.cp l r).length : Nat) : Int))) none none μ (K83p.cp l r) ((0, 1), (1, 0)) none va vb vc mem
  rw [fc] at e
  refine ⟨y6, ya, yb, yc, ?_⟩
  have sl := sl_tx (l := l) (c := (K83p.cp l r).length) lc.1 (by unfold sizeMax; omega)
  rw [ct] at sl
  refine z_for (cs := [.str (tx (K83p.cp l r))]) (xs := (K83p.cp l r).map fun c => .str (tx [c])) (e_cons (e_op0 (ws := [.d (.str (tx l)), .d (.int (((K83p.cp l r).length : Nat) : Int))]) (e_cons (e_var rfl) (e_cons (e_var rfl) e_nil)) rfl sl) e_nil) ?_ e
  show (if (tx (K83p.cp l r)).length ≤ sizeMax then some (chars (tx (K83p.cp l r))) else none) = _
  rw [tx_len, if_pos (by unfold sizeMax; omega)]
  unfold chars
  rw [tx_cps]
  rfl
omit h' in
theorem t28_11 (v3 v4 v5 v6 vd ve vf : Option Val) : evS (RK 10) CC WH (sAt 11 b28) (q28 (D (row ns)) v2 v3 v4 v5 v6 none none none va vb vc vd ve vf none none) μ =
    some (.nx, q28 (D (row ns)) v2 v3 v4 v5 v6 (D (pr (SL 0 ns))) none none va vb vc vd ve vf none none, μ) :=
  z_asg0 (e_call0 (e_cons (e_var rfl) e_nil) (r12 7 h.sm.ok2.o μ))
theorem t28_12 (v1 v4 v6 vd ve vf : Option Val) : evS (RK 10) CC WH (sAt 12 b28) (q28 v1 v2 (D (pr (SL 0 ms))) v4 (D (T3 (B (com ns ms)))) v6 (D (pr (SL 0 ns))) none none va vb vc vd ve vf none none) μ =
    some (.nx, q28 v1 v2 (D (pr (SL 0 ms))) v4 (D (T3 (B (com ns ms)))) v6 (D (pr (SL 0 ns))) none none va vb vc vd ve vf none none, μ) := by
  obtain ⟨z, hz⟩ := com_shown h h'
  have e1 := r16 6 h.sm.ok2 h'.sm.ok2 μ
  have e2 := r16 6 h'.sm.ok2 h.sm.ok2 μ
  have cc : com ms ns = com ns ms := by rw [com_eq, com_eq, K83p.com_comm]
  rw [cc] at e2
  have ixr : Op.ix.run [T3 (B (com ns ms)), .int 1] = some (.d (pr (SL 0 (com ns ms)))) := by
    rw [← mid_B]
    rfl
  have ne := run_ne_pr (SL 0 (com ns ms)) (SL 0 (com ns ms))
  rw [decide_eq_true rfl] at ne
  have ix : evE (RK 10) CC (.op .ix (.cons (.var 5) (.cons (.k (.int 1)) .nil))) (q28 v1 v2 (D (pr (SL 0 ms))) v4 (D (T3 (B (com ns ms)))) v6 (D (pr (SL 0 ns))) none none va vb vc vd ve vf none none) μ = some ([.d (pr (SL 0 (com ns ms)))], μ) :=
    e_op0 (ws := [.d (T3 (B (com ns ms))), .d (.int 1)]) (e_cons (e_var rfl) (e_cons e_k e_nil)) rfl ixr
  have n1 := ne_repr (F := RK 10) (C := CC) hz (e_call0 (es := .cons (.var 7) (.cons (.var 3) .nil)) (ws := [.d (pr (SL 0 ns)), .d (pr (SL 0 ms))]) (e_cons (e_var rfl) (e_cons (e_var rfl) e_nil)) e1) ix
  exact z_ifs0 false (e_or false false n1 fun _ => e_op0 (ws := [.d (pr (SL 0 (com ns ms))), .d (pr (SL 0 (com ns ms)))]) (e_cons (e_call0 (e_cons (e_var rfl) (e_cons (e_var rfl) e_nil)) e2) (e_cons ix e_nil)) rfl ne) (fun z => by cases z) fun _ => z_nil
end
/-- the letter behind -/
def lt' (l r : List Nat) : PyData := .str (tx [K83p.hd l (K83p.cp l r).length])
theorem ix_hd {l r : List Nat} (h1 : l.length ≤ 36) (hm : ∀ c ∈ l, c = 117 ∨ c = 100) {c : Nat} (hc : c ≤ l.length) (ρ : Slots) (μ : Store) {i : Nat} (g : ρ[i]? = some (D (.str (tx l)))) (g2 : ρ[15]? = some (D (.int (c : Int)))) :
    evE (RK 10) CC (.op .ix (.cons (.op .add (.cons (.var i) (.cons (.k (.str "m")) .nil))) (.cons (.var 15) .nil))) ρ μ = some ([.d (.str (tx [K83p.hd l c]))], μ) := by
  have h := K83p.hd_or l hm c hc
  have e1 : evE (RK 10) CC (.op .add (.cons (.var i) (.cons (.k (.str "m")) .nil))) ρ μ = some ([.d (.str (tx (l ++ [109])))], μ) :=
    e_op0 (ws := [.d (.str (tx l)), .d (.str (tx [109]))]) (e_cons (e_var g) (e_cons e_k e_nil)) rfl (add_tx (by simp [sizeMax]; omega))
  exact e_op0 (ws := [.d (.str (tx (l ++ [109]))), .d (.int (c : Int))]) (e_cons e1 (e_cons (e_var g2) e_nil)) rfl (ix_tx h.1 (by simp [sizeMax]; omega))
section
variable {ns ms : List Int} (h : Sd ns) (h' : Sd ms) (μ : Store) (v1 v2 v4 v5 v6 va vb vc : Option Val)
include h h'
theorem t28_13 (v3 v7 : Option Val) : evS (RK 10) CC WH (sAt 13 b28) (q28 v1 v2 v3 v4 v5 v6 v7 none none va vb vc (D (.str (tx (K83p.plL 0 ns)))) (D (.str (tx (K83p.plL 0 ms)))) (D (.int (((K83p.cp (K83p.plL 0 ns) (K83p.plL 0 ms)).length : Nat) : Int))) none none) μ =
    some (.nx, q28 v1 v2 v3 v4 v5 v6 v7 none none va vb vc (D (.str (tx (K83p.plL 0 ns)))) (D (.str (tx (K83p.plL 0 ms)))) (D (.int (((K83p.cp (K83p.plL 0 ns) (K83p.plL 0 ms)).length : Nat) : Int))) (D (.str (tx [K83p.hd (K83p.plL 0 ns) (K83p.cp (K83p.plL 0 ns) (K83p.plL 0 ms)).length]))) (D (.str (tx [K83p.hd (K83p.plL 0 ms) (K83p.cp (K83p.plL 0 ns) (K83p.plL 0 ms)).length]))), μ) := by
  have lc := K83p.cp_le (K83p.plL 0 ns) (K83p.plL 0 ms)
  exact z_par0 (ws := [.d (.str (tx [K83p.hd (K83p.plL 0 ns) (K83p.cp (K83p.plL 0 ns) (K83p.plL 0 ms)).length])), .d (.str (tx [K83p.hd (K83p.plL 0 ms) (K83p.cp (K83p.plL 0 ns) (K83p.plL 0 ms)).length]))]) (e_cons (ix_hd (r := []) (pl_len h) (K83p.plL_mem ns 0) lc.1 _ _ rfl rfl) (e_cons (ix_hd (r := []) (pl_len h') (K83p.plL_mem ms 0) lc.2 _ _ rfl rfl) e_nil)) rfl
theorem t28_14 (v3 v7 vd ve vf : Option Val) : evS (RK 10) CC WH (sAt 14 b28) (q28 v1 v2 v3 v4 v5 v6 v7 none none va vb vc vd ve vf (D (.str (tx [K83p.hd (K83p.plL 0 ns) (K83p.cp (K83p.plL 0 ns) (K83p.plL 0 ms)).length]))) (D (.str (tx [K83p.hd (K83p.plL 0 ms) (K83p.cp (K83p.plL 0 ns) (K83p.plL 0 ms)).length])))) μ =
    some (.nx, q28 v1 v2 v3 v4 v5 v6 v7 (D (.int (K83p.ordo (K83p.plL 0 ns) (K83p.plL 0 ms)))) none va vb vc vd ve vf (D (.str (tx [K83p.hd (K83p.plL 0 ns) (K83p.cp (K83p.plL 0 ns) (K83p.plL 0 ms)).length]))) (D (.str (tx [K83p.hd (K83p.plL 0 ms) (K83p.cp (K83p.plL 0 ns) (K83p.plL 0 ms)).length]))), μ) := by
  have lc := K83p.cp_le (K83p.plL 0 ns) (K83p.plL 0 ms)
  have o1 := (K83p.hd_or _ (K83p.plL_mem ns 0) _ lc.1).2
  have o2 := (K83p.hd_or _ (K83p.plL_mem ms 0) _ lc.2).2
  unfold K83p.ordo
  generalize K83p.hd (K83p.plL 0 ns) (K83p.cp (K83p.plL 0 ns) (K83p.plL 0 ms)).length = x at *
  generalize K83p.hd (K83p.plL 0 ms) (K83p.cp (K83p.plL 0 ns) (K83p.plL 0 ms)).length = y at *
  exact z_asg0 (e_op0 (ws := [.d (.int (K83p.ixl x)), .d (.int (K83p.ixl y))]) (e_cons (e_op0 (ws := [.d (.str "dmu"), .d (.str (tx [x]))]) (e_cons e_k (e_cons (e_var rfl) e_nil)) rfl (idx_tx o1)) (e_cons (e_op0 (ws := [.d (.str "dmu"), .d (.str (tx [y]))]) (e_cons e_k (e_cons (e_var rfl) e_nil)) rfl (idx_tx o2)) e_nil)) rfl rfl)
theorem t28_15 (v8 vd ve vf vg vh : Option Val) : evS (RK 10) CC WH (sAt 15 b28) (q28 v1 v2 (D (pr (SL 0 ms))) v4 v5 v6 (D (pr (SL 0 ns))) v8 none va vb vc vd ve vf vg vh) μ =
    some (.nx, q28 v1 v2 (D (pr (SL 0 ms))) v4 v5 v6 (D (pr (SL 0 ns))) v8 (D (.int (K83p.det (SL 0 ns) (SL 0 ms)))) va vb vc vd ve vf vg vh, μ) := by
  obtain ⟨_, _, _, _, h6, h7, h8⟩ := h.big
  obtain ⟨_, _, _, _, h6', h7', h8'⟩ := h'.big
  have k1 : -(2 ^ 64) < (SL 0 ns).1 ∧ (SL 0 ns).1 < 2 ^ 64 := ⟨by omega, by omega⟩
  have k2 : -(2 ^ 64) < (SL 0 ms).1 ∧ (SL 0 ms).1 < 2 ^ 64 := ⟨by omega, by omega⟩
  refine z_asg0 (w := .d (.int ((SL 0 ns).1 * (SL 0 ms).2 - (SL 0 ms).1 * (SL 0 ns).2))) ?_
  trivial
theorem t28_16 (v3 v7 vd ve vf vg vh : Option Val) : evS (RK 10) CC WH (sAt 16 b28) (q28 v1 v2 v3 v4 v5 v6 v7 (D (.int (K83p.ordo (K83p.plL 0 ns) (K83p.plL 0 ms)))) (D (.int (K83p.det (SL 0 ns) (SL 0 ms)))) va vb vc vd ve vf vg vh) μ =
    some (.rt (.d (.bool true)), q28 v1 v2 v3 v4 v5 v6 v7 (D (.int (K83p.ordo (K83p.plL 0 ns) (K83p.plL 0 ms)))) (D (.int (K83p.det (SL 0 ns) (SL 0 ms)))) va vb vc vd ve vf vg vh, μ) := by
  have o := K83p.order (K83p.plL 0 ns) (K83p.plL 0 ms) ((0, 1), (1, 0)) (K83p.plL_mem ns 0) (K83p.plL_mem ms 0) (by decide)
  rw [fold_SL h, fold_SL h'] at o
  generalize K83p.ordo (K83p.plL 0 ns) (K83p.plL 0 ms) = x at *
  generalize K83p.det (SL 0 ns) (SL 0 ms) = y at *
  have b1 := run_eq_bool (decide (x < 0)) (decide (y < 0))
  have b2 := run_eq_bool (decide (x = 0)) (decide (y = 0))
  have d1 : (decide (x < 0) == decide (y < 0)) = true := by
    rw [decide_eq_decide.mpr o.1]
    exact beq_self_eq_true _
  have d2 : (decide (x = 0) == decide (y = 0)) = true := by
    rw [decide_eq_decide.mpr o.2]
    exact beq_self_eq_true _
  rw [d1] at b1
  rw [d2] at b2
  exact z_ret0 (e_and true true (e_op0 (ws := [.d (.bool (decide (x < 0))), .d (.bool (decide (y < 0)))]) (e_cons (e_op0 (ws := [.d (.int x), .d (.int 0)]) (e_cons (e_var rfl) (e_cons e_k e_nil)) rfl rfl) (e_cons (e_op0 (ws := [.d (.int y), .d (.int 0)]) (e_cons (e_var rfl) (e_cons e_k e_nil)) rfl rfl) e_nil)) rfl b1) fun _ =>
    e_op0 (ws := [.d (.bool (decide (x = 0))), .d (.bool (decide (y = 0)))]) (e_cons (e_op0 (ws := [.d (.int x), .d (.int 0)]) (e_cons (e_var rfl) (e_cons e_k e_nil)) rfl (run_eq_int _ _)) (e_cons (e_op0 (ws := [.d (.int y), .d (.int 0)]) (e_cons (e_var rfl) (e_cons e_k e_nil)) rfl (run_eq_int _ _)) e_nil)) rfl b2)
end
theorem r28 {a b : Int} (c : Cup a b) : ∃ a' b', Cup a' b' ∧ RK 11 28 [.l 0] [C2 a b] = some (.d (.bool true), [C2 a' b']) := by
  obtain ⟨ns, a1, b1, c1, hv, hb, hl, e1⟩ := r24 8 c 5 6 (by decide) (by decide) (by decide) (by decide)
  have h : Sd ns := ⟨hv, hb, by omega⟩
  have s0 : evS (RK 10) CC WH (sAt 0 b28) (q28 none none none none none none none none none none none none none none none none none) [C2 a b] = some (.nx, q28 (D (row ns)) none none none none none none none none none none none none none none none none, [C2 a1 b1]) :=
    z_asg (e_call (e_cons (e_var rfl) (e_cons e_k (e_cons e_k e_nil))) e1 rfl)
  have s1 := t28_1 h [C2 a1 b1]
  have s2 := t28_2 h [C2 a1 b1]
  have s3 := t28_3 h [C2 a1 b1]
  have s4 := t28_4 h [C2 a1 b1] (D (.tuple (X28 ns)))
  have s5 := t28_5 h [C2 a1 b1] (D (.tuple (X28 ns)))
  obtain ⟨ms, a2, b2, c2, h', s6⟩ := t28_6 c1 h (D (.tuple (X28 ns))) (D (pr (B ns).1)) (D (pr (SL 0 ns))) (D (pr (B ns).2))
  have s7 := t28_7 h h' [C2 a2 b2] (D (.tuple (X28 ns))) (D (pr (B ns).1)) (D (pr (SL 0 ns))) (D (pr (B ns).2))
  obtain ⟨y4, s8⟩ := t28_8 h h' [C2 a2 b2] (D (.tuple (X28 ns))) (D (pr (B ns).1)) (D (pr (SL 0 ns))) (D (pr (B ns).2)) (D (pr (SL 0 ms)))
  have s9 := t28_9 [C2 a2 b2] (D (.tuple (X28 ns))) (D (pr (B ns).1)) (D (pr (SL 0 ns))) (D (pr (B ns).2)) (D (row ns)) (D (pr (SL 0 ms))) y4 (D (.str (tx (K83p.plL 0 ns)))) (D (.str (tx (K83p.plL 0 ms)))) (D (.int (((K83p.cp (K83p.plL 0 ns) (K83p.plL 0 ms)).length : Nat) : Int)))
  obtain ⟨y6, ya, yb, yc, s10⟩ := t28_10 h h' [C2 a2 b2] (D (.tuple (X28 ns))) (D (pr (B ns).1)) (D (pr (SL 0 ns))) (D (pr (B ns).2)) (D (row ns)) (D (pr (SL 0 ms))) y4 (D (.str (tx (K83p.plL 0 ms))))
  have s11 := t28_11 h [C2 a2 b2] (D (.tuple (X28 ns))) ya yb yc (D (pr (SL 0 ms))) y4 (D (T3 (B (com ns ms)))) y6 (D (.str (tx (K83p.plL 0 ns)))) (D (.str (tx (K83p.plL 0 ms)))) (D (.int (((K83p.cp (K83p.plL 0 ns) (K83p.plL 0 ms)).length : Nat) : Int)))
  have s12 := t28_12 h h' [C2 a2 b2] (D (.tuple (X28 ns))) ya yb yc (D (row ns)) y4 y6 (D (.str (tx (K83p.plL 0 ns)))) (D (.str (tx (K83p.plL 0 ms)))) (D (.int (((K83p.cp (K83p.plL 0 ns) (K83p.plL 0 ms)).length : Nat) : Int)))
  have s13 := t28_13 h h' [C2 a2 b2] (D (row ns)) (D (.tuple (X28 ns))) y4 (D (T3 (B (com ns ms)))) y6 ya yb yc (D (pr (SL 0 ms))) (D (pr (SL 0 ns)))
  have s14 := t28_14 h h' [C2 a2 b2] (D (row ns)) (D (.tuple (X28 ns))) y4 (D (T3 (B (com ns ms)))) y6 ya yb yc (D (pr (SL 0 ms))) (D (pr (SL 0 ns))) (D (.str (tx (K83p.plL 0 ns)))) (D (.str (tx (K83p.plL 0 ms)))) (D (.int (((K83p.cp (K83p.plL 0 ns) (K83p.plL 0 ms)).length : Nat) : Int)))
  have s15 := t28_15 h h' [C2 a2 b2] (D (row ns)) (D (.tuple (X28 ns))) y4 (D (T3 (B (com ns ms)))) y6 ya yb yc (D (.int (K83p.ordo (K83p.plL 0 ns) (K83p.plL 0 ms)))) (D (.str (tx (K83p.plL 0 ns)))) (D (.str (tx (K83p.plL 0 ms)))) (D (.int (((K83p.cp (K83p.plL 0 ns) (K83p.plL 0 ms)).length : Nat) : Int))) (D (.str (tx [K83p.hd (K83p.plL 0 ns) (K83p.cp (K83p.plL 0 ns) (K83p.plL 0 ms)).length]))) (D (.str (tx [K83p.hd (K83p.plL 0 ms) (K83p.cp (K83p.plL 0 ns) (K83p.plL 0 ms)).length])))
  have s16 := t28_16 h h' [C2 a2 b2] (D (row ns)) (D (.tuple (X28 ns))) y4 (D (T3 (B (com ns ms)))) y6 ya yb yc (D (pr (SL 0 ms))) (D (pr (SL 0 ns))) (D (.str (tx (K83p.plL 0 ns)))) (D (.str (tx (K83p.plL 0 ms)))) (D (.int (((K83p.cp (K83p.plL 0 ns) (K83p.plL 0 ms)).length : Nat) : Int))) (D (.str (tx [K83p.hd (K83p.plL 0 ns) (K83p.cp (K83p.plL 0 ns) (K83p.plL 0 ms)).length]))) (D (.str (tx [K83p.hd (K83p.plL 0 ms) (K83p.cp (K83p.plL 0 ns) (K83p.plL 0 ms)).length])))
  refine ⟨a2, b2, c2, ?_⟩
  exact rk_st ⟨p28.length, n28.length, b28⟩ rfl rfl (z_cons s0 (z_cons s1 (z_cons s2 (z_cons s3 (z_cons s4 (z_cons s5 (z_cons s6 (z_cons s7 (z_cons s8 (z_cons s9 (z_cons s10 (z_cons s11 (z_cons s12 (z_cons s13 (z_cons s14 (z_cons s15 (z_consr (s2 := .nil) s16))))))))))))))))) rfl
end K83
set_option Elab.async false
set_option linter.all false
set_option maxRecDepth 100000
set_option maxHeartbeats 1000000
namespace K83
open PySem Cz
/-! ### the great test: the mathematics -/
theorem eu_tail_pos : ∀ (n : Nat) (a b : Int), b ≤ a → ∀ m ∈ eu n a b, 1 ≤ m
  | 0, _, _, _, m, h => by cases h
  | n + 1, a, b, hab, m, h => by
    by_cases hb : 0 < b
    · rw [eu_pos hb] at h
      rcases List.mem_cons.mp h with e | h
      · rw [e]
        exact (Int.le_ediv_iff_mul_le hb).mpr (by omega)
      · have := Int.emod_lt_of_pos a hb
        exact eu_tail_pos n b (a % b) (by omega) m h
    · have : eu (n + 1) a b = [] := by
        show (if 0 < b then _ else []) = _
        rw [if_neg hb]
      rw [this] at h
      cases h
/-- the slope is told of its quotients -/
theorem told_eu : ∀ (n : Nat) (a b : Int), 0 < b → b < n → Nat.gcd a.natAbs b.natAbs = 1 → 0 ≤ a → told (eu n a b) = (a, b)
  | 0, a, b, h, hn, _, _ => by omega
  | n + 1, a, b, h, hn, hg, ha => by
    rw [eu_pos h]
    have r0 := Int.emod_nonneg a (show b ≠ 0 by omega)
    have r1 := Int.emod_lt_of_pos a h
    have hq := Int.mul_ediv_add_emod a b
    have hg2 := gcd_step (a := a) (b := b) ha h
    rw [hg] at hg2
    by_cases hr : a % b = 0
    · rw [hr] at hg2
      rw [Int.natAbs_zero, Nat.gcd_zero_right] at hg2
      have hb1 : b = 1 := by omega
      subst hb1
      rw [hr, eu_zero, Int.ediv_one]
      rfl
    · rw [told_cons _ (eu_ne (by omega) (by omega)), told_eu n b (a % b) (by omega) (by omega) hg2 (by omega)]
      refine Prod.ext ?_ rfl
      show a / b * b + a % b = a
      rw [Int.mul_comm]
      omega
def nn (p : I2) : Prop := 0 ≤ p.1 ∧ 0 ≤ p.2
theorem fw_ge : ∀ (ns : List Int) (ah he : I2), nn ah → nn he → (∀ m ∈ ns, 1 ≤ m) → he.1 ≤ (fw ns ah he).1 ∧ he.2 ≤ (fw ns ah he).2
  | [], _, he, _, _, _ => ⟨Int.le_refl _, Int.le_refl _⟩
  | m :: r, ah, he, h1, h2, hm => by
    have h0 := hm m List.mem_cons_self
    have p1 : he.1 ≤ m * he.1 := by have := Int.mul_le_mul_of_nonneg_right h0 h2.1; omega
    have p2 : he.2 ≤ m * he.2 := by have := Int.mul_le_mul_of_nonneg_right h0 h2.2; omega
    obtain ⟨a1, a2⟩ := h1
    obtain ⟨b1, b2⟩ := h2
    have g := fw_ge r he (ah.1 + m * he.1, ah.2 + m * he.2) ⟨b1, b2⟩ ⟨by show 0 ≤ _ + _; omega, by show 0 ≤ _ + _; omega⟩ fun x hx => hm x (List.mem_cons_of_mem _ hx)
    show he.1 ≤ (fw r he (ah.1 + m * he.1, ah.2 + m * he.2)).1 ∧ he.2 ≤ (fw r he (ah.1 + m * he.1, ah.2 + m * he.2)).2
    obtain ⟨g1, g2⟩ := g
    simp only [] at g1 g2
    omega
theorem ch_le : ∀ (ns : List Int) (ah he : I2), nn ah → nn he → (∀ m ∈ ns, 0 ≤ m) → (∀ m ∈ ns.tail, 1 ≤ m) → ∀ c ∈ ch ns ah he, nn c ∧ c.1 ≤ (fw ns ah he).1 ∧ c.2 ≤ (fw ns ah he).2
  | [], _, _, _, _, _, _, c, h => by cases h
  | m :: r, ah, he, h1, h2, hm, ht, c, hc => by
    have h0 := hm m List.mem_cons_self
    have p1 : 0 ≤ m * he.1 := Int.mul_nonneg h0 h2.1
    have p2 : 0 ≤ m * he.2 := Int.mul_nonneg h0 h2.2
    obtain ⟨a1, a2⟩ := h1
    have n3 : nn (ah.1 + m * he.1, ah.2 + m * he.2) := ⟨by show 0 ≤ _ + _; omega, by show 0 ≤ _ + _; omega⟩
    have ht : ∀ m ∈ r, 1 ≤ m := ht
    rcases List.mem_cons.mp hc with e | hc
    · rw [e]
      exact ⟨n3, fw_ge r he _ h2 n3 ht⟩
    · exact ch_le r he _ h2 n3 (fun x hx => hm x (List.mem_cons_of_mem _ hx)) (fun x hx => ht x (List.mem_of_mem_tail hx)) c hc
/-- how far a convergent is off -/
def off (p c : I2) : Int := p.1 * c.2 - c.1 * p.2
/-- what the law asks of two convergents, one behind the other -/
def Nx (p c d : I2) : Prop := off p d * off p c ≤ 0 ∧ (if off p d < 0 then -off p d else off p d) * c.2 < (if off p c < 0 then -off p c else off p c) * d.2
def Chn (p : I2) : I2 → List I2 → Prop
  | _, [] => True
  | c, d :: r => Nx p c d ∧ Chn p d r
theorem chn_eu (p : I2) : ∀ (n : Nat) (x y σ : Int) (ah he : I2), 0 ≤ x → (σ = 1 ∨ σ = -1) → off p ah = σ * x → off p he = -(σ * y) → 0 ≤ ah.2 → 0 ≤ he.2 → 1 ≤ ah.2 + he.2 → (he.2 = 0 ∨ y ≤ x) → Chn p he (ch (eu n x y) ah he)
  | 0, _, _, _, _, _, _, _, _, _, _, _, _, _ => True.intro
  | n + 1, x, y, σ, ah, he, hx, hs, e1, e2, n1, n2, n3, n4 => by
    by_cases hy : 0 < y
    · rw [eu_pos hy]
      have r0 := Int.emod_nonneg x (show y ≠ 0 by omega)
      have r1 := Int.emod_lt_of_pos x hy
      have hq := Int.mul_ediv_add_emod x y
      have q0 : 0 ≤ x / y := Int.ediv_nonneg hx (by omega)
      have q1 : y ≤ x → 1 ≤ x / y := fun h => (Int.le_ediv_iff_mul_le hy).mpr (by omega)
      generalize x / y = m at *
      generalize x % y = r at *
      have e3 : off p (ah.1 + m * he.1, ah.2 + m * he.2) = σ * r := by
        have : off p (ah.1 + m * he.1, ah.2 + m * he.2) = off p ah + m * off p he := by
          unfold off
          simp only []
          grind
        rw [this, e1, e2, ← hq]
        grind
      have p2 : he.2 = 0 ∨ he.2 ≤ m * he.2 := by
        rcases n4 with h | h
        · exact .inl h
        · right
          have := Int.mul_le_mul_of_nonneg_right (q1 h) n2
          omega
      have p0 : 0 ≤ m * he.2 := Int.mul_nonneg q0 n2
      have z1 : he.2 ≤ ah.2 + m * he.2 := by omega
      have z2 : 1 ≤ ah.2 + m * he.2 := by
        rcases p2 with h | h
        · omega
        · omega
      rw [ch]
      refine ⟨⟨?_, ?_⟩, ?_⟩
      · rw [e3, e2]
        have : σ * r * -(σ * y) = -(r * y) := by
          rcases hs with h | h <;> subst h <;> grind
        rw [this]
        have := Int.mul_nonneg r0 (show 0 ≤ y by omega)
        omega
      · have a1 : (if off p (ah.1 + m * he.1, ah.2 + m * he.2) < 0 then -off p (ah.1 + m * he.1, ah.2 + m * he.2) else off p (ah.1 + m * he.1, ah.2 + m * he.2)) = r := by
          rw [e3]
          rcases hs with h | h <;> subst h <;> split <;> omega
        have a2 : (if off p he < 0 then -off p he else off p he) = y := by
          rw [e2]
          rcases hs with h | h <;> subst h <;> split <;> omega
        rw [a1, a2]
        show r * he.2 < y * (ah.2 + m * he.2)
        generalize ah.2 + m * he.2 = w at *
        have b1 : r * he.2 ≤ r * w := Int.mul_le_mul_of_nonneg_left z1 r0
        have b2 : (r + 1) * w ≤ y * w := Int.mul_le_mul_of_nonneg_right (by omega) (by omega)
        rw [Int.add_mul] at b2
        omega
      · refine chn_eu p n y r (-σ) he _ (by omega) (by omega) (by rw [e2, Int.neg_mul]) (by rw [e3, Int.neg_mul, Int.neg_neg]) n2 (by show 0 ≤ _ + _; omega) (by show 1 ≤ _ + (_ + _); omega) (.inr (by omega))
    · have : eu (n + 1) x y = [] := by
        show (if 0 < y then _ else []) = _
        rw [if_neg hy]
      rw [this]
      exact True.intro
theorem less_snoc : ∀ (xs : List Int) (q : Int), less (xs ++ [q]) = xs ++ (if 1 < q then [q - 1] else [])
  | [], q => rfl
  | x :: xs, q => by
    have e : x :: xs ++ [q] = x :: (xs ++ [q]) := rfl
    rw [e, less_cons x (by simp), less_snoc xs q]
    rfl
end K83
set_option Elab.async false
set_option linter.all false
set_option maxRecDepth 100000
set_option maxHeartbeats 1000000
namespace K83
open PySem Cz
local macro_rules | `(tactic| trivial) => `(tactic| repeat' (first
  | exact e_nil | exact e_k | exact z_nil | (apply e_var; rfl) | (apply e_glob; rfl) | apply e_cons
  | apply e_op0 | apply e_tup0 | apply e_call0 | apply e_not
  | exact run_mul (by assumption) _ | exact run_mul' (by assumption) _ | exact run_fdiv (by assumption) (by assumption) _ | exact run_md (by assumption) _ | exact run_eq_int _ _ | exact run_ne_int _ _
  | apply z_par | apply z_asg | apply z_asgt | apply z_ret | (apply z_consr; apply z_ret) | apply z_cons | rfl | (apply e_chain) | (apply e_and) | (apply e_or) | (intro _) | exact Nat.le_of_ble_eq_true rfl))
abbrev q29 (v1 v2 v3 v4 v5 v6 v7 v8 v9 va vb vc vd : Option Val) : Slots := [some (.l 0), v1, v2, v3, v4, v5, v6, v7, v8, v9, va, vb, vc, vd]
theorem t29_0 {a b : Int} (c : Cup a b) : ∃ (p : I2) (a' b' : Int), Sl p ∧ ((Nat.gcd p.1.natAbs p.2.natAbs : Nat) : Int) = 1 ∧ Cup a' b' ∧
    evS (RK 10) CC WH (sAt 0 b29) (q29 none none none none none none none none none none none none none) [C2 a b] = some (.nx, q29 (D (pr p)) none none none none none none none none none none none none, [C2 a' b']) := by
  obtain ⟨x, a1, b1, hx, c1, e1⟩ := r21 8 c [.int 12, .int 1000, .int 1000000000, .int 1000000000000000000] (by decide) (by decide) []
  have hm : ∃ m : Int, 1 ≤ m ∧ m ≤ GR ∧ x = .int m := by
    rcases List.mem_cons.mp hx with z | hx
    · exact ⟨12, by decide, by decide, z⟩
    rcases List.mem_cons.mp hx with z | hx
    · exact ⟨1000, by decide, by decide, z⟩
    rcases List.mem_cons.mp hx with z | hx
    · exact ⟨1000000000, by decide, by decide, z⟩
    · have : x = .int 1000000000000000000 := by simpa using hx
      exact ⟨1000000000000000000, by decide, by decide, this⟩
  obtain ⟨m, m1, m2, rfl⟩ := hm
  obtain ⟨p, a2, b2, sl, hg, c2, e2⟩ := r23 8 c1 m1 m2 []
  refine ⟨p, a2, b2, sl, hg, c2, ?_⟩
  have f1 : evE (RK 10) CC (.lst (.cons (.k (.int 12)) (.cons (.k (.int 1000)) (.cons (.op .pow (.cons (.k (.int 10)) (.cons (.k (.int 9)) .nil))) (.cons (.op .pow (.cons (.k (.int 10)) (.cons (.k (.int 18)) .nil))) .nil))))) (q29 none none none none none none none none none none none none none) [C2 a b] = some ([.l 1], [C2 a b, [.int 12, .int 1000, .int 1000000000, .int 1000000000000000000]]) := by
    refine e_lstx (ws := [.d (.int 12), .d (.int 1000), .d (.int 1000000000), .d (.int 1000000000000000000)]) ?_ rfl rfl (Nat.le_of_ble_eq_true rfl)
    trivial
  have f2 := e_call (F := RK 10) (C := CC) (f := 21) (es := .cons (.var 0) (.cons (.lst (.cons (.k (.int 12)) (.cons (.k (.int 1000)) (.cons (.op .pow (.cons (.k (.int 10)) (.cons (.k (.int 9)) .nil))) (.cons (.op .pow (.cons (.k (.int 10)) (.cons (.k (.int 18)) .nil))) .nil))))) .nil)) (e_cons (w := .l 0) (e_var rfl) (e_cons f1 e_nil)) e1 (μ3 := [C2 a1 b1]) rfl
  exact z_asg (e_call (e_cons (w := .l 0) (e_var rfl) (e_cons f2 e_nil)) e2 rfl)
theorem t29_1 (p : I2) (μ : Store) : evS (RK 10) CC WH (sAt 1 b29) (q29 (D (pr p)) none none none none none none none none none none none none) μ = some (.nx, q29 (D (pr p)) none none none none (D (.int p.1)) (D (.int p.2)) (D (row [])) none none none none none, μ) := by
  refine z_par0 (ws := [.d (.int p.1), .d (.int p.2), .d (row [])]) ?_ rfl
  trivial
theorem w29 (k : Nat) (v1 : Option Val) (μ : Store) : ∀ (n : Nat) (a b : Int) (found : List Int) (fu : Nat), 0 ≤ b → b < 2 ^ 64 → b < n → n ≤ fu → found.length + (eu n a b).length ≤ 1000 →
    ∃ g, whileN (fun ρ μ => (evE (RK k) CC (.op .ne (.cons (.var 7) (.cons (.k (.int 0)) .nil))) ρ μ).bind bool1) (evS (RK k) CC WH b29l1) fu (q29 v1 none none none none (D (.int a)) (D (.int b)) (D (row found)) none none none none none) μ =
      some (.nx, q29 v1 none none none none (D (.int g)) (D (.int 0)) (D (row (found ++ eu n a b))) none none none none none, μ)
  | 0, a, b, found, fu, h, _, hn, _, _ => by omega
  | n + 1, a, b, found, 0, h, _, hn, hf, _ => by omega
  | n + 1, a, b, found, fu + 1, h, h64, hn, hf, hl => by
    have cn : evE (RK k) CC (.op .ne (.cons (.var 7) (.cons (.k (.int 0)) .nil))) (q29 v1 none none none none (D (.int a)) (D (.int b)) (D (row found)) none none none none none) μ = some ([.d (.bool (!decide (b = 0)))], μ) := by trivial
    by_cases hb : b = 0
    · subst hb
      rw [decide_eq_true rfl] at cn
      rw [eu_zero, List.append_nil]
      exact ⟨a, w_stop (c_bool false cn)⟩
    · rw [decide_eq_false hb] at cn
      have hb0 : 0 < b := by omega
      rw [eu_pos hb0] at hl ⊢
      rw [List.length_cons] at hl
      have r0 := Int.emod_nonneg a (show b ≠ 0 by omega)
      have r1 := Int.emod_lt_of_pos a hb0
      obtain ⟨g, e⟩ := w29 k v1 μ n b (a % b) (found ++ [a / b]) fu r0 (by omega) (by omega) (by omega) (by rw [List.length_append, List.length_singleton]; omega)
      refine ⟨g, ?_⟩
      rw [List.append_assoc] at e
      have ad := add_row found [a / b] (by simp [sizeMax]; omega)
      have f1 : evE (RK k) CC (.op .md (.cons (.op .int1 (.cons (.var 6) .nil)) (.cons (.op .int1 (.cons (.var 7) .nil)) .nil))) (q29 v1 none none none none (D (.int a)) (D (.int b)) (D (row found)) none none none none none) μ = some ([.d (.int (a % b))], μ) :=
        e_op0 (ws := [.d (.int a), .d (.int b)]) (e_cons (e_op0 (ws := [.d (.int a)]) (e_cons (e_var rfl) e_nil) rfl rfl) (e_cons (e_op0 (ws := [.d (.int b)]) (e_cons (e_var rfl) e_nil) rfl rfl) e_nil)) rfl (run_md hb0 _)
      have f2 : evE (RK k) CC (.op .add (.cons (.var 8) (.cons (.tup (.cons (.op .fdiv (.cons (.var 6) (.cons (.var 7) .nil))) .nil)) .nil))) (q29 v1 none none none none (D (.int a)) (D (.int b)) (D (row found)) none none none none none) μ = some ([.d (row (found ++ [a / b]))], μ) :=
        e_op0 (ws := [.d (row found), .d (row [a / b])]) (e_cons (e_var rfl) (e_cons (e_tup0 (ws := [.d (.int (a / b))]) (e_cons (e_op0 (ws := [.d (.int a), .d (.int b)]) (e_cons (e_var rfl) (e_cons (e_var rfl) e_nil)) rfl (run_fdiv hb0 h64 _)) e_nil) rfl (Nat.le_of_ble_eq_true rfl)) e_nil)) rfl ad
      have b1 : evS (RK k) CC WH b29l1 (q29 v1 none none none none (D (.int a)) (D (.int b)) (D (row found)) none none none none none) μ = some (.nx, q29 v1 none none none none (D (.int b)) (D (.int (a % b))) (D (row (found ++ [a / b]))) none none none none none, μ) :=
        z_cons (z_par0 (ws := [.d (.int b), .d (.int (a % b)), .d (row (found ++ [a / b]))]) (e_cons (e_var rfl) (e_cons f1 (e_cons f2 e_nil))) rfl) z_nil
      exact w_go (c_bool true cn) b1 e
theorem rangeD_eq : ∀ (n : Nat) (lo : Int), rangeD lo n = (List.range n).map fun (j : Nat) => PyData.int (lo + (j : Int))
  | 0, _ => rfl
  | n + 1, lo => by
    rw [List.range_succ_eq_map, List.map_cons, List.map_map]
    show PyData.int lo :: rangeD (lo + 1) n = _
    rw [rangeD_eq n (lo + 1)]
    congr 1
    · congr 1
      simp
    · refine List.map_congr_left fun j _ => ?_
      show PyData.int (lo + 1 + (j : Int)) = PyData.int (lo + ((j + 1 : Nat) : Int))
      congr 1
      omega
section
variable {p : I2} (h : Sl p) (hg : ((Nat.gcd p.1.natAbs p.2.natAbs : Nat) : Int) = 1) (μ : Store)
include h
theorem t29_2 : ∃ g, evS (RK 10) CC WH (sAt 2 b29) (q29 (D (pr p)) none none none none (D (.int p.1)) (D (.int p.2)) (D (row [])) none none none none none) μ =
    some (.nx, q29 (D (pr p)) none none none none (D (.int g)) (D (.int 0)) (D (row (Q p))) none none none none none, μ) := by
  have hgr := nq_gr
  have hl := h.len
  have hb2 : p.2 ≤ 1000000000000000000 := h.b2
  obtain ⟨g, e⟩ := w29 10 (D (pr p)) μ NQ p.1 p.2 [] WH (by have := h.b1; omega) (by omega) (by have := h.b2; omega) nq_wh (by rw [List.length_nil]; show 0 + (Q p).length ≤ 1000; omega)
  rw [List.nil_append] at e
  exact ⟨g, e⟩
def g29 (E : List Int) : PyData → PyData := fun x => match x with
  | .int i => pr (told (E.take i.toNat))
  | _ => .none
omit h in
theorem g29_map (E : List Int) : (rangeD 1 E.length).map (g29 E) = (ch E (0, 1) (1, 0)).map pr := by
  rw [ch_told, rangeD_eq, List.map_map, List.map_map]
  refine List.map_congr_left fun j _ => ?_
  show pr (told (E.take (1 + (j : Int)).toNat)) = pr (told (E.take (j + 1)))
  have : (1 + (j : Int)).toNat = j + 1 := by omega
  rw [this]
theorem t29_3 (v6 v7 : Option Val) : evS (RK 10) CC WH (sAt 3 b29) (q29 (D (pr p)) none none none none v6 v7 (D (row (Q p))) none none none none none) μ =
    some (.nx, q29 (D (pr p)) (D (.tuple ((ch0 p).map pr))) none none none v6 v7 (D (row (Q p))) none none none none none, μ) := by
  have hl := h.len
  have ln : Op.len.run [row (Q p)] = some (.d (.int ((Q p).length : Int))) := by
    show some (Res.d (.int (((Q p).map PyData.int).length : Int))) = _
    rw [List.length_map]
  have d1 : evE (RK 10) CC (.comp (.call 27 (.cons (.op .sl01 (.cons (.var 8) (.cons (.var 13) .nil))) .nil)) (.nm 13) .range2 (.cons (.k (.int 1)) (.cons (.op .add (.cons (.op .len (.cons (.var 8) .nil)) (.cons (.k (.int 1)) .nil))) .nil)) .nil) (q29 (D (pr p)) none none none none v6 v7 (D (row (Q p))) none none none none none) μ = some ([.l μ.length], μ ++ [(rangeD 1 (Q p).length).map (g29 (Q p))]) := by
    refine e_compM (cs := [.int 1, .int ((Q p).length + 1 : Int)]) (xs := rangeD 1 (Q p).length) (g29 (Q p)) (e_cons e_k (e_cons (e_op0 (ws := [.d (.int ((Q p).length : Int)), .d (.int 1)]) (e_cons (e_op0 (ws := [.d (row (Q p))]) (e_cons (e_var rfl) e_nil) rfl ln) (e_cons e_k e_nil)) rfl rfl) e_nil)) ?_ (by rw [rangeD_len]; unfold sizeMax; omega) fun x hx => ?_
    · show (if (bound62 1 && bound62 ((Q p).length + 1 : Int)) = true then some (rangeD 1 (((Q p).length + 1 : Int) - 1).toNat) else none) = _
      have e1 : bound62 1 = true := by decide
      have e2 : bound62 ((Q p).length + 1 : Int) = true := by unfold bound62; exact decide_eq_true ⟨by omega, by omega⟩
      rw [e1, e2, if_pos (show (true && true) = true from rfl)]
      have : (((Q p).length + 1 : Int) - 1).toNat = (Q p).length := by omega
      rw [this]
    · obtain ⟨j, hj, rfl⟩ := rangeD_mem _ _ _ hx
      refine turn_map (ρ' := q29 (D (pr p)) none none none none v6 v7 (D (row (Q p))) none none none none (D (.int (1 + (j : Int))))) rfl ?_
      have hget : (Q p)[j]? = some (Q p)[j] := List.getElem?_eq_getElem hj
      have ht : (Q p).take (j + 1) = (Q p).take j ++ [(Q p)[j]] := by
        rw [List.take_succ, hget]
        rfl
      have ej : (1 + (j : Int)).toNat = j + 1 := by omega
      have e1 := sl_row (ns := Q p) (c := 1 + (j : Int)) (by omega)
      rw [ej, ht] at e1
      have e2 := r27 9 ((Q p).take j) (Q p)[j] (fun x hx => (Q_b64 h x (List.mem_of_mem_take hx)).1) (by rw [List.length_take]; omega) μ
      show evE _ _ _ _ _ = some ([.d (pr (told ((Q p).take (1 + (j : Int)).toNat)))], μ)
      rw [ej, ht]
      exact e_call0 (ws := [.d (row ((Q p).take j ++ [(Q p)[j]]))]) (e_cons (e_op0 (ws := [.d (row (Q p)), .d (.int (1 + (j : Int)))]) (e_cons (e_var rfl) (e_cons (e_var rfl) e_nil)) rfl e1) e_nil) e2
  rw [g29_map] at d1
  exact z_asg0 (e_op _ (e_cons d1 e_nil) (conts_new μ _) rfl)
/-- the convergents end with the slope -/
theorem ch0_snoc (hg : ((Nat.gcd p.1.natAbs p.2.natAbs : Nat) : Int) = 1) : ∃ cs, ch0 p = cs ++ [p] := by
  have hgr := nq_gr
  have a1 := h.a1
  have b1 := h.b1
  have b2 := h.b2
  have hN : 0 < NQ := by decide +kernel
  have ne : Q p ≠ [] := eu_ne (by omega) hN
  have te : told (Q p) = p := told_eu NQ p.1 p.2 (by omega) (by omega) (by omega) (by omega)
  unfold ch0
  rw [ch_told]
  obtain ⟨k, hk⟩ : ∃ k, (Q p).length = k + 1 := ⟨(Q p).length - 1, by
    have := List.length_pos_iff.mpr ne
    omega⟩
  rw [hk, List.range_succ, List.map_append]
  refine ⟨(List.range k).map fun i => told ((Q p).take (i + 1)), ?_⟩
  congr 1
  show [told ((Q p).take (k + 1))] = [p]
  rw [← hk, List.take_length, te]
theorem ch0_b (hg : ((Nat.gcd p.1.natAbs p.2.natAbs : Nat) : Int) = 1) : ∀ c ∈ ch0 p, nn c ∧ c.1 ≤ GR ∧ c.2 ≤ GR := by
  intro c hc
  have hgr := nq_gr
  have a1 := h.a1
  have a2 := h.a2
  have b1 := h.b1
  have b2 := h.b2
  have hN : 0 < NQ := by decide +kernel
  have ne : Q p ≠ [] := eu_ne (by omega) hN
  have te : told (Q p) = p := told_eu NQ p.1 p.2 (by omega) (by omega) (by omega) (by omega)
  have tl : ∀ m ∈ (Q p).tail, 1 ≤ m := by
    obtain ⟨n, hn⟩ : ∃ n, NQ = n + 1 := ⟨NQ - 1, by omega⟩
    unfold Q
    rw [hn, eu_pos (by omega)]
    have := Int.emod_lt_of_pos p.1 (show 0 < p.2 by omega)
    exact eu_tail_pos n p.2 (p.1 % p.2) (by omega)
  have l := ch_le (Q p) (0, 1) (1, 0) ⟨by decide, by decide⟩ ⟨by decide, by decide⟩ (fun m hm => (Q_b64 h m hm).2) tl c hc
  rw [fw0 _ ne, te] at l
  exact ⟨l.1, by omega, by omega⟩
theorem ch0_chn : ∃ c r, ch0 p = c :: r ∧ Chn p c r := by
  have hgr := nq_gr
  have a1 := h.a1
  have b1 := h.b1
  have b2 := h.b2
  have hN : 0 < NQ := by decide +kernel
  have hc := chn_eu p NQ p.1 p.2 1 (0, 1) (1, 0) (by omega) (.inl rfl) (by unfold off; simp) (by unfold off; simp) (by decide) (by decide) (by decide) (.inl rfl)
  have hc : Chn p (1, 0) (ch0 p) := hc
  have hl : (ch0 p).length = (Q p).length := ch_len _ _ _
  have ne : Q p ≠ [] := eu_ne (by omega) hN
  cases hq : ch0 p with
  | nil =>
    rw [hq] at hl
    exact absurd (List.length_eq_zero_iff.mp hl.symm) ne
  | cons c r =>
    rw [hq] at hc
    exact ⟨c, r, rfl, hc.2⟩
end
end K83
set_option Elab.async false
set_option linter.all false
set_option maxRecDepth 100000
set_option maxHeartbeats 1000000
namespace K83
open PySem Cz
local macro_rules | `(tactic| trivial) => `(tactic| repeat' (first
  | exact e_nil | exact e_k | exact z_nil | (apply e_var; rfl) | (apply e_glob; rfl) | apply e_cons
  | apply e_op0 | apply e_tup0 | apply e_call0 | apply e_not
  | exact run_mul (by assumption) _ | exact run_mul' (by assumption) _ | exact run_fdiv (by assumption) (by assumption) _ | exact run_md (by assumption) _ | exact run_eq_int _ _ | exact run_ne_int _ _
  | apply z_par | apply z_asg | apply z_asgt | apply z_ret | (apply z_consr; apply z_ret) | apply z_cons | rfl | (apply e_chain) | (apply e_and) | (apply e_or) | (intro _) | exact Nat.le_of_ble_eq_true rfl))
theorem run_mul3 {i j : Int} (h1 : i.natAbs < 2 ^ 200) (h2 : j.natAbs < 2 ^ 200) : Op.mul.run [.int i, .int j] = some (.d (.int (i * j))) := by
  have lg : ∀ n : Nat, n < 2 ^ 200 → n.log2 < 200 := fun n hn => by
    by_cases h0 : n = 0
    · rw [h0]; decide
    · exact (Nat.log2_lt h0).mpr hn
  have a1 := lg _ h1
  have a2 := lg _ h2
  show (if mulOk i j = true then some (Res.d (.int (i * j))) else none) = _
  rw [if_pos (by unfold mulOk; simp only [Bool.or_eq_true, decide_eq_true_eq]; exact .inr (by omega))]
theorem ix_prs {cs : List I2} {i : Nat} {c : I2} (h : cs[i]? = some c) : Op.ix.run [.tuple (cs.map pr), .int (i : Int)] = some (.d (pr c)) := by
  have hi := (List.getElem?_eq_some_iff.mp h).1
  show (atA (cs.map pr) (i : Int)).map Res.d = _
  unfold atA L2.ixN
  rw [if_pos (by omega), List.length_map, if_pos (by omega), Int.toNat_natCast]
  show ((cs.map pr)[i]?).map Res.d = _
  rw [List.getElem?_map, h]
  rfl
section
variable {p : I2} (h : Sl p) (hg : ((Nat.gcd p.1.natAbs p.2.natAbs : Nat) : Int) = 1) (μ : Store)
include h hg
theorem t29_4 (v6 v7 : Option Val) : evS (RK 10) CC WH (sAt 4 b29) (q29 (D (pr p)) (D (.tuple ((ch0 p).map pr))) none none none v6 v7 (D (row (Q p))) none none none none none) μ =
    some (.nx, q29 (D (pr p)) (D (.tuple ((ch0 p).map pr))) none none none v6 v7 (D (row (Q p))) none none none none none, μ) := by
  have hl := h.len
  have hb := ch0_b h hg
  have hcl : (ch0 p).length = (Q p).length := ch_len _ _ _
  obtain ⟨cs, hcs⟩ := ch0_snoc h hg
  have hgr : GR < 10 ^ 20 := by decide
  have qb : ∀ m ∈ Q p, 0 ≤ m ∧ m ≤ GR := fun m hm => ⟨(Q_b64 h m hm).2, eu_le NQ p.1 p.2 (by have := h.a1; omega) h.a2 h.b2 m hm⟩
  have sh := Sh.tup (ShA.cons (Sh.row (Q p) fun m hm => by have := qb m hm; omega) (ShA.cons (Sh.tup (ShA.prs (ch0 p) fun c hc => by
    obtain ⟨⟨n1, n2⟩, l1, l2⟩ := hb c hc
    omega)) ShA.nil))
  have ok := sh.ok (by omega) (by decide)
  have ne := run_ne_pr p p
  rw [decide_eq_true rfl] at ne
  have ixl : Op.ix.run [.tuple ((ch0 p).map pr), .int (-1)] = some (.d (pr p)) := by
    show (atA ((ch0 p).map pr) (-1)).map Res.d = _
    rw [hcs, List.map_append, show [p].map pr = [pr p] from rfl, at_last]
    rfl
  have ng : ∀ ρ, evE (RK 10) CC (.op .neg (.cons (.k (.int 1)) .nil)) ρ μ = some ([.d (.int (-1))], μ) := fun ρ => e_op0 (e_cons e_k e_nil) rfl rfl
  have n1 := ne_repr (F := RK 10) (C := CC) (ρ := q29 (D (pr p)) (D (.tuple ((ch0 p).map pr))) none none none v6 v7 (D (row (Q p))) none none none none none) (repr_tup ok) (e_tup0 (μ := μ) (ws := [.d (row (Q p)), .d (.tuple ((ch0 p).map pr))]) (e_cons (e_call0 (es := .cons (.var 1) .nil) (e_cons (e_var rfl) e_nil) (r17 6 h hg μ)) (e_cons (e_call0 (es := .cons (.var 1) .nil) (e_cons (e_var rfl) e_nil) (r18 6 h hg μ)) e_nil)) rfl (Nat.le_of_ble_eq_true rfl))
    (e_tup0 (es := .cons (.var 8) (.cons (.var 2) .nil)) (ws := [.d (row (Q p)), .d (.tuple ((ch0 p).map pr))]) (e_cons (e_var rfl) (e_cons (e_var rfl) e_nil)) rfl (Nat.le_of_ble_eq_true rfl))
  exact z_ifs0 false (e_or false false n1 fun _ => e_op0 (ws := [.d (pr p), .d (pr p)]) (e_cons (e_op0 (ws := [.d (.tuple ((ch0 p).map pr)), .d (.int (-1))]) (e_cons (e_var rfl) (e_cons (ng _) e_nil)) rfl ixl) (e_cons (e_var rfl) e_nil)) rfl ne) (fun z => by cases z) fun _ => z_nil
theorem t29_5 (v2 v6 v7 v8 : Option Val) : evS (RK 10) CC WH (sAt 5 b29) (q29 (D (pr p)) v2 none none none v6 v7 v8 none none none none none) μ =
    some (.nx, q29 (D (pr p)) v2 (D (row (less (Q p)))) none none v6 v7 v8 none none none none none, μ) := by
  obtain ⟨ok, hs⟩ := okQ h hg
  have e := r11 6 ok μ
  rw [hs] at e
  exact z_asg0 (e_call0 (e_cons (e_var rfl) e_nil) e)
theorem Q_snoc : ∃ init q, Q p = init ++ [q] ∧ (init ≠ [] → 1 ≤ q) := by
  have hgr := nq_gr
  have a1 := h.a1
  have b1 := h.b1
  have b2 := h.b2
  have hN : 0 < NQ := by decide +kernel
  have ne : Q p ≠ [] := eu_ne (by omega) hN
  rcases List.eq_nil_or_concat (Q p) with z | ⟨init, q, z⟩
  · exact absurd z ne
  · rw [List.concat_eq_append] at z
    refine ⟨init, q, z, fun hi => ?_⟩
    have tl : ∀ m ∈ (Q p).tail, 1 ≤ m := by
      obtain ⟨n, hn⟩ : ∃ n, NQ = n + 1 := ⟨NQ - 1, by omega⟩
      unfold Q
      rw [hn, eu_pos (by omega)]
      have := Int.emod_lt_of_pos p.1 (show 0 < p.2 by omega)
      exact eu_tail_pos n p.2 (p.1 % p.2) (by omega)
    rw [z] at tl
    match init, hi with
    | x :: r, _ => exact tl q (by simp)
theorem t29_6 (v2 v3 v6 v7 : Option Val) : evS (RK 10) CC WH (sAt 6 b29) (q29 (D (pr p)) v2 v3 none none v6 v7 (D (row (Q p))) none none none none none) μ =
    some (.nx, q29 (D (pr p)) v2 v3 (D (row (less (Q p)))) none v6 v7 (D (row (Q p))) none none none none none, μ) := by
  obtain ⟨init, q, hq, hq1⟩ := Q_snoc h hg
  have hl := h.len
  rw [hq] at hl ⊢
  rw [List.length_append, List.length_singleton] at hl
  have sl : Op.sl01.run [row (init ++ [q]), .int (-1)] = some (.d (row init)) := by
    show some (Res.d (.tuple (cutA ((init ++ [q]).map PyData.int) none (some (-1))))) = _
    rw [List.map_append, show [q].map PyData.int = [PyData.int q] from rfl, cut_init]
    rfl
  have ix : Op.ix.run [row (init ++ [q]), .int (-1)] = some (.d (.int q)) := by
    show (atA ((init ++ [q]).map PyData.int) (-1)).map Res.d = _
    rw [List.map_append, show [q].map PyData.int = [PyData.int q] from rfl, at_last]
    rfl
  have ln : Op.len.run [row (init ++ [q])] = some (.d (.int ((init.length + 1 : Nat) : Int))) := by
    show some (Res.d (.int (((init ++ [q]).map PyData.int).length : Int))) = _
    rw [List.length_map, List.length_append, List.length_singleton]
  obtain ⟨ρ, hρ⟩ : ∃ ρ, ρ = q29 (D (pr p)) v2 v3 none none v6 v7 (D (row (init ++ [q]))) none none none none none := ⟨_, rfl⟩
  have g8 : ρ[8]? = some (D (row (init ++ [q]))) := by rw [hρ]; rfl
  have ng : evE (RK 10) CC (.op .neg (.cons (.k (.int 1)) .nil)) ρ μ = some ([.d (.int (-1))], μ) := e_op0 (e_cons e_k e_nil) rfl rfl
  have f1 : evE (RK 10) CC (.op .ix (.cons (.var 8) (.cons (.op .neg (.cons (.k (.int 1)) .nil)) .nil))) ρ μ = some ([.d (.int q)], μ) := e_op0 (ws := [.d (row (init ++ [q])), .d (.int (-1))]) (e_cons (e_var g8) (e_cons ng e_nil)) rfl ix
  have f2 : evE (RK 10) CC (.op .sl01 (.cons (.var 8) (.cons (.op .neg (.cons (.k (.int 1)) .nil)) .nil))) ρ μ = some ([.d (row init)], μ) := e_op0 (ws := [.d (row (init ++ [q])), .d (.int (-1))]) (e_cons (e_var g8) (e_cons ng e_nil)) rfl sl
  have f3 : evE (RK 10) CC (.op .len (.cons (.var 8) .nil)) ρ μ = some ([.d (.int ((init.length + 1 : Nat) : Int))], μ) := e_op0 (ws := [.d (row (init ++ [q]))]) (e_cons (e_var g8) e_nil) rfl ln
  have c1 : evE (RK 10) CC (.op .gt (.cons (.op .ix (.cons (.var 8) (.cons (.op .neg (.cons (.k (.int 1)) .nil)) .nil))) (.cons (.k (.int 1)) .nil))) ρ μ = some ([.d (.bool (decide (1 < q)))], μ) := e_op0 (ws := [.d (.int q), .d (.int 1)]) (e_cons f1 (e_cons e_k e_nil)) rfl rfl
  have c2 : evE (RK 10) CC (.op .gt (.cons (.op .len (.cons (.var 8) .nil)) (.cons (.k (.int 1)) .nil))) ρ μ = some ([.d (.bool (decide (1 < ((init.length + 1 : Nat) : Int))))], μ) := e_op0 (ws := [.d (.int ((init.length + 1 : Nat) : Int)), .d (.int 1)]) (e_cons f3 (e_cons e_k e_nil)) rfl rfl
  have c3 : evE (RK 10) CC (.op .ne (.cons (.op .ix (.cons (.var 8) (.cons (.op .neg (.cons (.k (.int 1)) .nil)) .nil))) (.cons (.k (.int 1)) .nil))) ρ μ = some ([.d (.bool (!decide (q = 1)))], μ) := e_op0 (ws := [.d (.int q), .d (.int 1)]) (e_cons f1 (e_cons e_k e_nil)) rfl (run_ne_int _ _)
  have c4 := e_or _ _ c1 fun _ => e_and _ _ c2 fun _ => c3
  have f4 : evE (RK 10) CC (.ite (.or (.op .gt (.cons (.op .ix (.cons (.var 8) (.cons (.op .neg (.cons (.k (.int 1)) .nil)) .nil))) (.cons (.k (.int 1)) .nil))) (.and (.op .gt (.cons (.op .len (.cons (.var 8) .nil)) (.cons (.k (.int 1)) .nil))) (.op .ne (.cons (.op .ix (.cons (.var 8) (.cons (.op .neg (.cons (.k (.int 1)) .nil)) .nil))) (.cons (.k (.int 1)) .nil))))) (.tup (.cons (.op .sub (.cons (.op .ix (.cons (.var 8) (.cons (.op .neg (.cons (.k (.int 1)) .nil)) .nil))) (.cons (.k (.int 1)) .nil))) .nil)) (.tup .nil)) ρ μ = some ([.d (row (if 1 < q then [q - 1] else []))], μ) := by
    by_cases h1 : 1 < q
    · rw [decide_eq_true h1, Bool.true_or] at c4
      rw [if_pos h1]
      exact e_ite true c4 (fun _ => e_tup0 (ws := [.d (.int (q - 1))]) (e_cons (e_op0 (ws := [.d (.int q), .d (.int 1)]) (e_cons f1 (e_cons e_k e_nil)) rfl rfl) e_nil) rfl (Nat.le_of_ble_eq_true rfl)) fun z => by cases z
    · rw [if_neg h1]
      have hf : (decide (1 < ((init.length + 1 : Nat) : Int)) && !decide (q = 1)) = false := by
        by_cases hi : init = []
        · subst hi
          rfl
        · have := hq1 hi
          rw [decide_eq_true (show q = 1 by omega), Bool.not_true, Bool.and_false]
      rw [decide_eq_false h1, hf, Bool.false_or] at c4
      exact e_ite false c4 (fun z => by cases z) fun _ => e_tup0 e_nil rfl (Nat.zero_le _)
  rw [less_snoc]
  have ad := add_row init (if 1 < q then [q - 1] else []) (by
    have : (if 1 < q then [q - 1] else []).length ≤ 1 := by split <;> simp
    unfold sizeMax
    omega)
  have f5 := e_op0 (o := .add) (ws := [.d (row init), .d (row (if 1 < q then [q - 1] else []))]) (e_cons f2 (e_cons f4 e_nil)) rfl ad
  rw [hρ] at f5
  exact z_asg0 f5
theorem t29_7 (v2 v6 v7 : Option Val) : evS (RK 10) CC WH (sAt 7 b29) (q29 (D (pr p)) v2 (D (row (less (Q p)))) (D (row (less (Q p)))) none v6 v7 (D (row (Q p))) none none none none none) μ =
    some (.nx, q29 (D (pr p)) v2 (D (row (less (Q p)))) (D (row (less (Q p)))) none v6 v7 (D (row (Q p))) none none none none none, μ) := by
  have hl := h.len
  obtain ⟨ok, hs⟩ := okQ h hg
  have a1 := h.a1
  have b1 := h.b1
  have a2 := h.a2
  have b2 := h.b2
  have hgr := nq_gr
  have hN : ((NQ : Nat) : Int) = 10000000000000000000 := by decide +kernel
  have G : GR = 1000000000000000000 := rfl
  have qb : ∀ m ∈ Q p, 0 ≤ m ∧ m ≤ GR := fun m hm => ⟨(Q_b64 h m hm).2, eu_le NQ p.1 p.2 (by omega) a2 b2 m hm⟩
  have lb : ∀ m ∈ less (Q p), 0 ≤ m ∧ m ≤ GR := fun m hm => ⟨ok.o.v.nonneg m hm, ok.o.b m hm⟩
  have sm := less_sum NQ p.1 p.2 a1 b1 (by omega) (by omega)
  have sm : (less (Q p)).sum = (Q p).sum - 1 := sm
  have sb := sum_le (Q p) qb
  have sb2 : ((Q p).length : Int) * GR ≤ 87 * GR := Int.mul_le_mul_of_nonneg_right (by omega) (by decide)
  have sl0 := sum_le (less (Q p)) lb
  have k1 := repr_tup ((Sh.row (less (Q p)) fun m hm => by have := lb m hm; omega).ok (by have := less_len (Q p); omega) (by decide))
  have k2 := repr_tup ((Sh.pr (p := p) (by omega) (by omega)).ok (by decide) (by decide))
  have k3 := repr_int (i := (Q p).sum - 1) (by omega)
  have e12 := r12 7 ok.o μ
  have e13 := r13 6 ok μ
  rw [hs] at e12 e13
  rw [sm] at e13
  have n1 := ne_repr (F := RK 10) (C := CC) (ea := .var 3) (eb := .var 4) (μ := μ) (ρ := q29 (D (pr p)) v2 (D (row (less (Q p)))) (D (row (less (Q p)))) none v6 v7 (D (row (Q p))) none none none none none) k1 (e_var rfl) (e_var rfl)
  have n2 := ne_repr (F := RK 10) (C := CC) (ea := .call 12 (.cons (.var 3) .nil)) (eb := .var 1) (μ := μ) (ρ := q29 (D (pr p)) v2 (D (row (less (Q p)))) (D (row (less (Q p)))) none v6 v7 (D (row (Q p))) none none none none none) k2 (e_call0 (e_cons (e_var rfl) e_nil) e12) (e_var rfl)
  have n3 := ne_repr (F := RK 10) (C := CC) (ea := .call 13 (.cons (.var 1) .nil)) (eb := .op .sub (.cons (.op .sum (.cons (.var 8) .nil)) (.cons (.k (.int 1)) .nil))) (μ := μ) (ρ := q29 (D (pr p)) v2 (D (row (less (Q p)))) (D (row (less (Q p)))) none v6 v7 (D (row (Q p))) none none none none none) k3 (e_call0 (e_cons (e_var rfl) e_nil) e13) (e_op0 (ws := [.d (.int (Q p).sum), .d (.int 1)]) (e_cons (e_op0 (ws := [.d (row (Q p))]) (e_cons (e_var rfl) e_nil) rfl (run_sum_row _)) (e_cons e_k e_nil)) rfl rfl)
  exact z_ifs0 false (e_or false false n1 fun _ => e_or false false n2 fun _ => n3) (fun z => by cases z) fun _ => z_nil
theorem t29_8 (v2 v3 v4 v6 v7 v8 : Option Val) : evS (RK 10) CC WH (sAt 8 b29) (q29 (D (pr p)) v2 v3 v4 none v6 v7 v8 none none none none none) μ =
    some (.nx, q29 (D (pr p)) v2 v3 v4 none v6 v7 v8 (D (pr (B (less (Q p))).1)) (D (pr (B (less (Q p))).2)) none none none, μ) := by
  obtain ⟨ok, hs⟩ := okQ h hg
  have e := r14 6 ok μ
  rw [hs] at e
  exact z_asgt (ds := [pr (B (less (Q p))).1, pr (B (less (Q p))).2]) (e_call0 (e_cons (e_var rfl) e_nil) e) rfl
theorem t29_9 (v2 v3 v4 v6 v7 v8 : Option Val) : evS (RK 10) CC WH (sAt 9 b29) (q29 (D (pr p)) v2 v3 v4 none v6 v7 v8 (D (pr (B (less (Q p))).1)) (D (pr (B (less (Q p))).2)) none none none) μ =
    some (.nx, q29 (D (pr p)) v2 v3 v4 none v6 v7 v8 (D (pr (B (less (Q p))).1)) (D (pr (B (less (Q p))).2)) none none none, μ) := by
  obtain ⟨ok, hs⟩ := okQ h hg
  have G : GR = 1000000000000000000 := rfl
  have a2 := h.a2
  have b2 := h.b2
  have nn := B_nn ok.o.v.nonneg
  have md := B_mid (less (Q p))
  have dt := det_B (less (Q p))
  rw [hs] at md
  generalize B (less (Q p)) = s at *
  have k1 : -(2 ^ 64) < s.1.1 ∧ s.1.1 < 2 ^ 64 := ⟨by omega, by omega⟩
  have k2 : -(2 ^ 64) < s.2.1 ∧ s.2.1 < 2 ^ 64 := ⟨by omega, by omega⟩
  have ne := run_ne_pr p p
  rw [decide_eq_true rfl] at ne
  have f1 : evE (RK 10) CC (.tup (.cons (.op .add (.cons (.op .ix (.cons (.var 9) (.cons (.k (.int 0)) .nil))) (.cons (.op .ix (.cons (.var 10) (.cons (.k (.int 0)) .nil))) .nil))) (.cons (.op .add (.cons (.op .ix (.cons (.var 9) (.cons (.k (.int 1)) .nil))) (.cons (.op .ix (.cons (.var 10) (.cons (.k (.int 1)) .nil))) .nil))) .nil))) (q29 (D (pr p)) v2 v3 v4 none v6 v7 v8 (D (pr s.1)) (D (pr s.2)) none none none) μ = some ([.d (pr p)], μ) := by
    have e : pr p = .tuple [.int (s.1.1 + s.2.1), .int (s.1.2 + s.2.2)] := by
      rw [md.1, md.2]
      rfl
    rw [e]
    trivial
  have f2 : evE (RK 10) CC (.op .sub (.cons (.op .mul (.cons (.op .ix (.cons (.var 10) (.cons (.k (.int 0)) .nil))) (.cons (.op .ix (.cons (.var 9) (.cons (.k (.int 1)) .nil))) .nil))) (.cons (.op .mul (.cons (.op .ix (.cons (.var 9) (.cons (.k (.int 0)) .nil))) (.cons (.op .ix (.cons (.var 10) (.cons (.k (.int 1)) .nil))) .nil))) .nil))) (q29 (D (pr p)) v2 v3 v4 none v6 v7 v8 (D (pr s.1)) (D (pr s.2)) none none none) μ = some ([.d (.int (s.2.1 * s.1.2 - s.1.1 * s.2.2))], μ) := by
    trivial
  rw [dt] at f2
  exact z_ifs0 false (e_or false false (e_op0 (ws := [.d (pr p), .d (pr p)]) (e_cons f1 (e_cons (e_var rfl) e_nil)) rfl ne) fun _ => e_op0 (ws := [.d (.int 1), .d (.int 1)]) (e_cons f2 (e_cons e_k e_nil)) rfl rfl) (fun z => by cases z) fun _ => z_nil
end
end K83
set_option Elab.async false
set_option linter.all false
set_option maxRecDepth 100000
set_option maxHeartbeats 1000000
namespace K83
open PySem Cz
theorem off_b {p c : I2} (h : Sl p) (hc : nn c ∧ c.1 ≤ GR ∧ c.2 ≤ GR) : (off p c).natAbs < 2 ^ 200 := by
  have G : GR = 1000000000000000000 := rfl
  obtain ⟨⟨n1, n2⟩, c1, c2⟩ := hc
  have a1 := h.a1
  have b1 := h.b1
  have x1 : p.1 * c.2 ≤ GR * GR := Int.mul_le_mul h.a2 c2 n2 (by decide)
  have x2 : c.1 * p.2 ≤ GR * GR := Int.mul_le_mul c1 h.b2 (by omega) (by decide)
  have y1 : 0 ≤ p.1 * c.2 := Int.mul_nonneg (by omega) n2
  have y2 : 0 ≤ c.1 * p.2 := Int.mul_nonneg n1 (by omega)
  have e : GR * GR = 1000000000000000000000000000000000000 := by decide
  unfold off
  have k : (2 : Nat) ^ 200 = 1606938044258990275541962092341162602522202993782792835301376 := by decide +kernel
  omega
section
variable {p : I2} (h : Sl p) (μ : Store)
include h
theorem off_e {c : I2} (hc : nn c ∧ c.1 ≤ GR ∧ c.2 ≤ GR) {ρ : Slots} {ix : E} (g1 : ρ[1]? = some (D (pr p))) (hix : evE (RK 10) CC (.op .ix (.cons (.var 2) (.cons ix .nil))) ρ μ = some ([.d (pr c)], μ)) :
    evE (RK 10) CC (.op .sub (.cons (.op .mul (.cons (.op .ix (.cons (.var 1) (.cons (.k (.int 0)) .nil))) (.cons (.op .ix (.cons (.op .ix (.cons (.var 2) (.cons ix .nil))) (.cons (.k (.int 1)) .nil))) .nil))) (.cons (.op .mul (.cons (.op .ix (.cons (.op .ix (.cons (.var 2) (.cons ix .nil))) (.cons (.k (.int 0)) .nil))) (.cons (.op .ix (.cons (.var 1) (.cons (.k (.int 1)) .nil))) .nil))) .nil))) ρ μ = some ([.d (.int (off p c))], μ) := by
  have G : GR = 1000000000000000000 := rfl
  have a1 := h.a1
  have a2 := h.a2
  have b1 := h.b1
  have b2 := h.b2
  have k1 : -(2 ^ 64) < p.1 ∧ p.1 < 2 ^ 64 := ⟨by omega, by omega⟩
  have k2 : -(2 ^ 64) < p.2 ∧ p.2 < 2 ^ 64 := ⟨by omega, by omega⟩
  have s0 : evE (RK 10) CC (.op .ix (.cons (.var 1) (.cons (.k (.int 0)) .nil))) ρ μ = some ([.d (.int p.1)], μ) := e_op0 (ws := [.d (pr p), .d (.int 0)]) (e_cons (e_var g1) (e_cons e_k e_nil)) rfl rfl
  have s1 : evE (RK 10) CC (.op .ix (.cons (.var 1) (.cons (.k (.int 1)) .nil))) ρ μ = some ([.d (.int p.2)], μ) := e_op0 (ws := [.d (pr p), .d (.int 1)]) (e_cons (e_var g1) (e_cons e_k e_nil)) rfl rfl
  have t0 : evE (RK 10) CC (.op .ix (.cons (.op .ix (.cons (.var 2) (.cons ix .nil))) (.cons (.k (.int 0)) .nil))) ρ μ = some ([.d (.int c.1)], μ) := e_op0 (ws := [.d (pr c), .d (.int 0)]) (e_cons hix (e_cons e_k e_nil)) rfl rfl
  have t1 : evE (RK 10) CC (.op .ix (.cons (.op .ix (.cons (.var 2) (.cons ix .nil))) (.cons (.k (.int 1)) .nil))) ρ μ = some ([.d (.int c.2)], μ) := e_op0 (ws := [.d (pr c), .d (.int 1)]) (e_cons hix (e_cons e_k e_nil)) rfl rfl
  exact e_op0 (ws := [.d (.int (p.1 * c.2)), .d (.int (c.1 * p.2))]) (e_cons (e_op0 (ws := [.d (.int p.1), .d (.int c.2)]) (e_cons s0 (e_cons t1 e_nil)) rfl (run_mul k1 _)) (e_cons (e_op0 (ws := [.d (.int c.1), .d (.int p.2)]) (e_cons t0 (e_cons s1 e_nil)) rfl (run_mul' k2 _)) e_nil)) rfl rfl
theorem l29 (all : List I2) (hb : ∀ c ∈ all, nn c ∧ c.1 ≤ GR ∧ c.2 ≤ GR) (v3 v4 v6 v7 v8 v9 va vd : Option Val) : ∀ (r pre : List I2) (c : I2) (x5 xb xc : Option Val), all = pre ++ c :: r → Chn p c r →
    ∃ y5 yb yc, forL (.nm 5) (evS (RK 10) CC WH b29l0) (fun _ => true) (rangeD ((pre.length + 1 : Nat) : Int) r.length) (q29 (D (pr p)) (D (.tuple (all.map pr))) v3 v4 x5 v6 v7 v8 v9 va xb xc vd) μ =
      some (.nx, q29 (D (pr p)) (D (.tuple (all.map pr))) v3 v4 y5 v6 v7 v8 v9 va yb yc vd, μ)
  | [], pre, c, x5, xb, xc, _, _ => ⟨x5, xb, xc, l_done rfl⟩
  | d :: r, pre, c, x5, xb, xc, ha, hc => by
    obtain ⟨y5, yb, yc, e⟩ := l29 all hb v3 v4 v6 v7 v8 v9 va vd r (pre ++ [c]) d (D (.int ((pre.length + 1 : Nat) : Int))) (D (.int (off p d))) (D (.int (off p c))) (by rw [ha, List.append_assoc]; rfl) hc.2
    rw [List.length_append, List.length_singleton] at e
    refine ⟨y5, yb, yc, ?_⟩
    have gc : all[pre.length]? = some c := by rw [ha]; simp
    have gd : all[pre.length + 1]? = some d := by rw [ha]; simp
    have hbc := hb c (List.mem_of_getElem? gc)
    have hbd := hb d (List.mem_of_getElem? gd)
    obtain ⟨nx1, nx2⟩ := hc.1
    have mk : ∀ ρ : Slots, ρ[2]? = some (D (.tuple (all.map pr))) → ρ[5]? = some (D (.int ((pre.length + 1 : Nat) : Int))) →
        evE (RK 10) CC (.op .ix (.cons (.var 2) (.cons (.var 5) .nil))) ρ μ = some ([.d (pr d)], μ) ∧ evE (RK 10) CC (.op .ix (.cons (.var 2) (.cons (.op .sub (.cons (.var 5) (.cons (.k (.int 1)) .nil))) .nil))) ρ μ = some ([.d (pr c)], μ) := fun ρ g2 g5 => by
      refine ⟨e_op0 (ws := [.d (.tuple (all.map pr)), .d (.int ((pre.length + 1 : Nat) : Int))]) (e_cons (e_var g2) (e_cons (e_var g5) e_nil)) rfl (ix_prs gd), ?_⟩
      have ee : ((pre.length + 1 : Nat) : Int) - 1 = (pre.length : Int) := by omega
      refine e_op0 (ws := [.d (.tuple (all.map pr)), .d (.int (pre.length : Int))]) (e_cons (e_var g2) (e_cons (e_op0 (ws := [.d (.int ((pre.length + 1 : Nat) : Int)), .d (.int 1)]) (e_cons (e_var g5) (e_cons e_k e_nil)) rfl ?_) e_nil)) rfl (ix_prs gc)
      show some (Res.d (.int (((pre.length + 1 : Nat) : Int) - 1))) = _
      rw [ee]
    obtain ⟨i1, i2⟩ := mk (q29 (D (pr p)) (D (.tuple (all.map pr))) v3 v4 (D (.int ((pre.length + 1 : Nat) : Int))) v6 v7 v8 v9 va xb xc vd) rfl rfl
    obtain ⟨j1, j2⟩ := mk (q29 (D (pr p)) (D (.tuple (all.map pr))) v3 v4 (D (.int ((pre.length + 1 : Nat) : Int))) v6 v7 v8 v9 va (D (.int (off p d))) (D (.int (off p c))) vd) rfl rfl
    have s1 : evS (RK 10) CC WH (sAt 0 b29l0) (q29 (D (pr p)) (D (.tuple (all.map pr))) v3 v4 (D (.int ((pre.length + 1 : Nat) : Int))) v6 v7 v8 v9 va xb xc vd) μ = some (.nx, q29 (D (pr p)) (D (.tuple (all.map pr))) v3 v4 (D (.int ((pre.length + 1 : Nat) : Int))) v6 v7 v8 v9 va (D (.int (off p d))) (D (.int (off p c))) vd, μ) :=
      z_par0 (ws := [.d (.int (off p d)), .d (.int (off p c))]) (e_cons (off_e h μ hbd rfl i1) (e_cons (off_e h μ hbc rfl i2) e_nil)) rfl
    have G : GR = 1000000000000000000 := rfl
    have kc : -(2 ^ 64) < c.2 ∧ c.2 < 2 ^ 64 := ⟨by have := hbc.1.2; omega, by have := hbc.2.2; omega⟩
    have kd : -(2 ^ 64) < d.2 ∧ d.2 < 2 ^ 64 := ⟨by have := hbd.1.2; omega, by have := hbd.2.2; omega⟩
    have f1 : evE (RK 10) CC (.op .gt (.cons (.op .mul (.cons (.var 11) (.cons (.var 12) .nil))) (.cons (.k (.int 0)) .nil))) (q29 (D (pr p)) (D (.tuple (all.map pr))) v3 v4 (D (.int ((pre.length + 1 : Nat) : Int))) v6 v7 v8 v9 va (D (.int (off p d))) (D (.int (off p c))) vd) μ = some ([.d (.bool (decide (0 < off p d * off p c)))], μ) :=
      e_op0 (ws := [.d (.int (off p d * off p c)), .d (.int 0)]) (e_cons (e_op0 (ws := [.d (.int (off p d)), .d (.int (off p c))]) (e_cons (e_var rfl) (e_cons (e_var rfl) e_nil)) rfl (run_mul3 (off_b h hbd) (off_b h hbc))) (e_cons e_k e_nil)) rfl rfl
    have f2 : evE (RK 10) CC (.op .ge (.cons (.op .mul (.cons (.op .abs (.cons (.var 11) .nil)) (.cons (.op .ix (.cons (.op .ix (.cons (.var 2) (.cons (.op .sub (.cons (.var 5) (.cons (.k (.int 1)) .nil))) .nil))) (.cons (.k (.int 1)) .nil))) .nil))) (.cons (.op .mul (.cons (.op .abs (.cons (.var 12) .nil)) (.cons (.op .ix (.cons (.op .ix (.cons (.var 2) (.cons (.var 5) .nil))) (.cons (.k (.int 1)) .nil))) .nil))) .nil))) (q29 (D (pr p)) (D (.tuple (all.map pr))) v3 v4 (D (.int ((pre.length + 1 : Nat) : Int))) v6 v7 v8 v9 va (D (.int (off p d))) (D (.int (off p c))) vd) μ = some ([.d (.bool (decide ((if off p c < 0 then -off p c else off p c) * d.2 ≤ (if off p d < 0 then -off p d else off p d) * c.2)))], μ) :=
      e_op0 (ws := [.d (.int ((if off p d < 0 then -off p d else off p d) * c.2)), .d (.int ((if off p c < 0 then -off p c else off p c) * d.2))]) (e_cons (e_op0 (ws := [.d (.int (if off p d < 0 then -off p d else off p d)), .d (.int c.2)]) (e_cons (e_op0 (ws := [.d (.int (off p d))]) (e_cons (e_var rfl) e_nil) rfl rfl) (e_cons (e_op0 (ws := [.d (pr c), .d (.int 1)]) (e_cons j2 (e_cons e_k e_nil)) rfl rfl) e_nil)) rfl (run_mul' kc _)) (e_cons (e_op0 (ws := [.d (.int (if off p c < 0 then -off p c else off p c)), .d (.int d.2)]) (e_cons (e_op0 (ws := [.d (.int (off p c))]) (e_cons (e_var rfl) e_nil) rfl rfl) (e_cons (e_op0 (ws := [.d (pr d), .d (.int 1)]) (e_cons j1 (e_cons e_k e_nil)) rfl rfl) e_nil)) rfl (run_mul' kd _)) e_nil)) rfl rfl
    rw [decide_eq_false (show ¬ 0 < off p d * off p c by omega)] at f1
    rw [decide_eq_false (Int.not_le.mpr nx2)] at f2
    have s2 : evS (RK 10) CC WH (sAt 1 b29l0) (q29 (D (pr p)) (D (.tuple (all.map pr))) v3 v4 (D (.int ((pre.length + 1 : Nat) : Int))) v6 v7 v8 v9 va (D (.int (off p d))) (D (.int (off p c))) vd) μ = some (.nx, q29 (D (pr p)) (D (.tuple (all.map pr))) v3 v4 (D (.int ((pre.length + 1 : Nat) : Int))) v6 v7 v8 v9 va (D (.int (off p d))) (D (.int (off p c))) vd, μ) :=
      z_ifs0 false (e_or false false f1 fun _ => f2) (fun z => by cases z) fun _ => z_nil
    exact l_nx (ρ2 := q29 (D (pr p)) (D (.tuple (all.map pr))) v3 v4 (D (.int ((pre.length + 1 : Nat) : Int))) v6 v7 v8 v9 va xb xc vd) rfl rfl (z_cons s1 (z_cons s2 z_nil)) e
theorem t29_10 (hg : ((Nat.gcd p.1.natAbs p.2.natAbs : Nat) : Int) = 1) (v3 v4 v6 v7 v8 v9 va : Option Val) : ∃ y5 yb yc, evS (RK 10) CC WH (sAt 10 b29) (q29 (D (pr p)) (D (.tuple ((ch0 p).map pr))) v3 v4 none v6 v7 v8 v9 va none none none) μ =
    some (.nx, q29 (D (pr p)) (D (.tuple ((ch0 p).map pr))) v3 v4 y5 v6 v7 v8 v9 va yb yc none, μ) := by
  have hl := h.len
  have hcl : (ch0 p).length = (Q p).length := ch_len _ _ _
  have hb := ch0_b h hg
  obtain ⟨c, r, hc, ch⟩ := ch0_chn h
  obtain ⟨y5, yb, yc, e⟩ := l29 h μ (ch0 p) hb v3 v4 v6 v7 v8 v9 va none r [] c none none none hc ch
  refine ⟨y5, yb, yc, ?_⟩
  have ln : Op.len.run [.tuple ((ch0 p).map pr)] = some (.d (.int ((ch0 p).length : Int))) := by
    show some (Res.d (.int (((ch0 p).map pr).length : Int))) = _
    rw [List.length_map]
  have hlr : (ch0 p).length = r.length + 1 := by rw [hc]; rfl
  refine z_for (cs := [.int 1, .int ((ch0 p).length : Int)]) (xs := rangeD 1 r.length) (e_cons e_k (e_cons (e_op0 (ws := [.d (.tuple ((ch0 p).map pr))]) (e_cons (e_var rfl) e_nil) rfl ln) e_nil)) ?_ e
  show (if (bound62 1 && bound62 ((ch0 p).length : Int)) = true then some (rangeD 1 (((ch0 p).length : Int) - 1).toNat) else none) = _
  have e1 : bound62 1 = true := by decide
  have e2 : bound62 ((ch0 p).length : Int) = true := by unfold bound62; exact decide_eq_true ⟨by omega, by omega⟩
  rw [e1, e2, if_pos (show (true && true) = true from rfl)]
  have : (((ch0 p).length : Int) - 1).toNat = r.length := by omega
  rw [this]
end
theorem r29 {a b : Int} (c : Cup a b) : ∃ a' b', Cup a' b' ∧ RK 11 29 [.l 0] [C2 a b] = some (.d (.bool true), [C2 a' b']) := by
  obtain ⟨p, a1, b1, h, hg, c1, s0⟩ := t29_0 c
  have s1 := t29_1 p [C2 a1 b1]
  obtain ⟨g, s2⟩ := t29_2 h [C2 a1 b1]
  have s3 := t29_3 h [C2 a1 b1] (D (.int g)) (D (.int 0))
  have s4 := t29_4 h hg [C2 a1 b1] (D (.int g)) (D (.int 0))
  have s5 := t29_5 h hg [C2 a1 b1] (D (.tuple ((ch0 p).map pr))) (D (.int g)) (D (.int 0)) (D (row (Q p)))
  have s6 := t29_6 h hg [C2 a1 b1] (D (.tuple ((ch0 p).map pr))) (D (row (less (Q p)))) (D (.int g)) (D (.int 0))
  have s7 := t29_7 h hg [C2 a1 b1] (D (.tuple ((ch0 p).map pr))) (D (.int g)) (D (.int 0))
  have s8 := t29_8 h hg [C2 a1 b1] (D (.tuple ((ch0 p).map pr))) (D (row (less (Q p)))) (D (row (less (Q p)))) (D (.int g)) (D (.int 0)) (D (row (Q p)))
  have s9 := t29_9 h hg [C2 a1 b1] (D (.tuple ((ch0 p).map pr))) (D (row (less (Q p)))) (D (row (less (Q p)))) (D (.int g)) (D (.int 0)) (D (row (Q p)))
  obtain ⟨y5, yb, yc, s10⟩ := t29_10 h [C2 a1 b1] hg (D (row (less (Q p)))) (D (row (less (Q p)))) (D (.int g)) (D (.int 0)) (D (row (Q p))) (D (pr (B (less (Q p))).1)) (D (pr (B (less (Q p))).2))
  refine ⟨a1, b1, c1, ?_⟩
  exact rk_st ⟨p29.length, n29.length, b29⟩ rfl rfl (z_cons s0 (z_cons s1 (z_cons s2 (z_cons s3 (z_cons s4 (z_cons s5 (z_cons s6 (z_cons s7 (z_cons s8 (z_cons s9 (z_cons s10 (z_consr (s2 := .nil) (z_ret0 e_k)))))))))))))  rfl
theorem law_all (ns : List Int) (hl : ns.length ≤ 63) : Cz.run ds CC WH 12 31 [.d (.list (ns.map .int))] [] = some (.d (.bool true), []) :=
  law_of (fun _ _ c => r28 c) (fun _ _ c => r29 c) ns hl
end K83
set_option Elab.async false
set_option linter.all false
set_option maxRecDepth 100000
namespace K83
open PySem PySem.Spec PyProof.Rows L2 Cz
theorem rp_ints {K : PySem.W.Frag} {L : List Addr} {H : Hp} : ∀ ns : List Int, RpAll K L H (ns.map V.int) (ns.map .int)
  | [] => .nil
  | n :: ns => .cons (.int n) (rp_ints ns)
theorem sp_run {K : PySem.W.Frag} {H : Hp} {a : Addr} {ns : List Int} (hl : ns.length ≤ 63) (h : LsR K H a (ns.map V.int)) : spL K [.ref a] H (fun v _ => v = .bl true) := by
  refine ⟨[], [], [], [.d (.list (ns.map .int))], .d (.bool true), [], ⟨by simp, rfl, fun i a q => by simp at q, fun a m => by cases m⟩, .cons ?_ .nil, law_all ns hl, fun v H' as' _ _ _ rv => ?_⟩
  · rcases h with h | h
    · exact .lst (by simp) h (rp_ints ns)
    · exact .kl h (rp_ints ns)
  · have rv : Rp K ([] ++ as') H' v (.bool true) := rv
    cases rv
    rfl
end K83
open PySem PySem.W PyProof.Rows
set_option maxHeartbeats 0 in
theorem PySem.Challenge.cw_countrealm_k83_whole_steps_of_slopes_holds : PySem.Challenge.rw_countrealm_k83_whole_steps_of_slopes.Holds := by
  w_on; o_law; k_head; (case hw => w_witness2)
  k_fill
  refine Cz.walk_ofG (l := PySem.Challenge.rw_countrealm_k83_whole_steps_of_slopes) (n := 63) (k := 12) (x := "script") (sp := fun w => K83.spL _) rfl (by decide) rfl ⟨rfl, by decide, by decide⟩ (fun w h Y => PySem.W.kIn_of Y) ?F (fun w H a ns hl _ h => K83.sp_run hl h)
  case F =>
    intro w mg fa h KX G hmg
    refine K83.all_mk KX G hmg ?c ?g
    (case g => k_is)
    (case c => show He.obsD K83.faL K83.fnL _ = He.valD K83.fnL; kernel_rfl)
