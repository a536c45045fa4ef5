import PyProof.Rows.All
import Wide.All
import OpenK.AllK
import Wide.FinOn
import HandS.ForMost
import HandS.Wide
import HandS.TupAny
import HandS.Deep
import HandS.DictComp
import HandS.IsInst
import HandS.Zip
import HandS.Strs
import HandS.Walk
import HandS.Conv
import HandS.Exc
import KE.GoesEnum
import PyProof.Draws
import PyProof.EnumIter
import HandS.HeadWalk
import HandS.More
import HandS.WordsExc
import HandS.Style
import HandS.SetFor
import HandS.Head0
import HandS.Head1
import HandS.Head2
import HandS.HeadEnd
import HandS.HeadHook1
import HandS.HeadHook2
import HandS.HeadHook4
import PySem.Challenge.RW_safecase_k23_whole_the_turn_of_marks
set_option Elab.async false
set_option linter.all false
set_option maxRecDepth 100000
section
/-! Texts, each once. -/
namespace Cr
open PySem
/-- one text more, if it is new -/
def addS (l : List Str) (x : Str) : List Str := if l.any (· == x) then l else l ++ [x]
def uniq (xs : List Str) : List Str := xs.foldl addS []
end Cr
end

section
/-! The core language: values as trees, slots, its evaluator. -/
namespace Cr
open PySem L2

/-- a value that stands still -/
inductive D where
  | non | bl (b : Bool) | int (i : Int) | str (s : Str)
  | tup (l : List D) | lst (l : List D) | dic (l : List (Key × D)) | ins (c : Nat) (l : List (Str × D)) | scr (l : List Int) | bad
  deriving Inhabited
/-- a value that one slot owns: fr is a leaf that stands still -/
inductive O where
  | fr (d : D) | ol (l : List O) | ot (l : List O) | od (l : List (Key × O)) | oi (c : Nat) (l : List (Str × O))
  deriving Inhabited

mutual
def O.frz : O → D
  | .fr d => d
  | .ol l => .lst (frzL l)
  | .ot l => .tup (frzL l)
  | .od l => .dic (frzK l)
  | .oi c l => .ins c (frzF l)
def frzL : List O → List D
  | [] => []
  | o :: l => o.frz :: frzL l
def frzK : List (Key × O) → List (Key × D)
  | [] => []
  | (k, o) :: l => (k, o.frz) :: frzK l
def frzF : List (Str × O) → List (Str × D)
  | [] => []
  | (k, o) :: l => (k, o.frz) :: frzF l
end
/-! no list, dict or instance within -/
mutual
def D.imm : D → Bool
  | .lst _ => false
  | .dic _ => false
  | .ins _ _ => false
  | .scr _ => false
  | .tup l => immL l
  | _ => true
def immL : List D → Bool
  | [] => true
  | d :: l => d.imm && immL l
end
/-! each leaf stands still wherever it goes -/
mutual
def O.clean : O → Bool
  | .fr d => d.imm
  | .ol l => cleanL l
  | .ot l => cleanL l
  | .od l => cleanK l
  | .oi _ l => cleanF l
def cleanL : List O → Bool
  | [] => true
  | o :: l => o.clean && cleanL l
def cleanK : List (Key × O) → Bool
  | [] => true
  | (_, o) :: l => o.clean && cleanK l
def cleanF : List (Str × O) → Bool
  | [] => true
  | (_, o) :: l => o.clean && cleanF l
end
def leafs : List O → Option (List D)
  | [] => some []
  | .fr d :: l => (leafs l).map (d :: ·)
  | _ :: _ => none
/-- the items of a list or a tuple, where each stands still; whether it is a tuple -/
def O.items : O → Option (Bool × List D)
  | .fr (.lst l) => some (false, l)
  | .fr (.tup l) => some (true, l)
  | .ol l => (leafs l).map fun x => (false, x)
  | .ot l => (leafs l).map fun x => (true, x)
  | _ => none
/-- .. where a loop goes over it -/
def O.walk : O → Option (Bool × List D)
  | .fr (.scr l) => some (false, l.map .int)
  | o => o.items
def O.isFr : O → Bool
  | .fr _ => true
  | _ => false
/-- a tuple of values -/
def mkT (os : List O) : O := match leafs os with
  | some ds => .fr (.tup ds)
  | none => .ot os

/-! may be told apart by == -/
mutual
def shp : Nat → D → Bool
  | _, .non => true
  | _, .bl _ => true
  | _, .int _ => true
  | _, .str _ => true
  | 0, .tup _ => false
  | 0, .lst _ => false
  | n + 1, .tup l => shpL n l
  | n + 1, .lst l => shpL n l
  | _, _ => false
def shpL : Nat → List D → Bool
  | _, [] => true
  | n, d :: l => shp n d && shpL n l
end
mutual
def eqD : D → D → Bool
  | .non, .non => true
  | .bl a, .bl b => a == b
  | .bl a, .int j => (if a then 1 else 0) == j
  | .int i, .bl b => i == (if b then 1 else 0)
  | .int i, .int j => i == j
  | .str x, .str y => x == y
  | .lst xs, .lst ys => eqDL xs ys
  | .tup xs, .tup ys => eqDL xs ys
  | _, _ => false
def eqDL : List D → List D → Bool
  | [], [] => true
  | x :: xs, y :: ys => eqD x y && eqDL xs ys
  | _, _ => false
end

/-! dicts and fields, by what they hold -/
def keyD : D → Option Key
  | .int i => some (.inl i)
  | .str s => some (.inr s)
  | _ => none
def kget {α : Type} (l : List (Key × α)) (k : Key) : Option α := (l.find? fun p => decide (p.1 = k)).map (·.2)
def kput {α : Type} (l : List (Key × α)) (k : Key) (a : α) : List (Key × α) :=
  if (l.any fun p => decide (p.1 = k)) = true then l.map (fun p => if p.1 = k then (p.1, a) else p) else l ++ [(k, a)]
def fput {α : Type} (f : Str) (a : α) : List (Str × α) → List (Str × α)
  | [] => [(f, a)]
  | (g, x) :: r => if g = f then (g, a) :: r else (g, x) :: fput f a r
def kmerge {α : Type} (l more : List (Key × α)) : List (Key × α) := more.foldl (fun acc p => kput acc p.1 p.2) l
def flatD : D → Bool
  | .non => true
  | .bl _ => true
  | .int _ => true
  | .str _ => true
  | _ => false
/-- x in y -/
def inD (x y : D) : Option Bool := match y with
  | .lst l => if shp 62 x && shpL 62 l then some (l.any fun z => eqD z x) else none
  | .tup l => if flatD x && l.all flatD then some (l.any fun z => eqD z x) else none
  | .str s => match x with
    | .str c => match c.cps.toList with
      | [n] => some (decide (n ∈ s.cps.toList))
      | _ => none
    | _ => none
  | .dic kvs => (keyD x).map fun k => (kget kvs k).isSome
  | _ => none
def isN : D → Option Bool
  | .bad => none
  | .non => some true
  | _ => some false
/-- dicts, one of them empty -/
def eqK0 : D → D → Option Bool
  | .dic a, .dic [] => some a.isEmpty
  | _, _ => none

/-- an operand: one that stands still; a new one of its own; a slot's; within a slot's; a slot's that a call may change -/
inductive Hd where
  | p (d : D) | t (o : O) | n (i : Nat) | q (o : O) | io (i : Nat)
  deriving Inhabited
abbrev Env := List (Option O)
inductive Res (α : Type) where
  | ok (a : α) | ex (c : Nat) (d : D) (env : Env) | er
inductive CRes where
  | ok (r : O) (outs : List O) | ex (c : Nat) (d : D) (outs : List O) | er
inductive Fl where
  | next | ret (o : O) | brk | cont
@[simp] def Res.bind {α β : Type} : Res α → (α → Res β) → Res β
  | .ok a, f => f a
  | .ex c d e, _ => .ex c d e
  | .er, _ => .er
@[simp] def Res.noEx {α : Type} : Res α → Res α
  | .ok a => .ok a
  | _ => .er
def Res.of {α : Type} : Option α → Res α
  | some a => .ok a
  | none => .er
def Hd.get : Hd → Env → Option O
  | .p d, _ => some (.fr d)
  | .t o, _ => some o
  | .n i, e => (e[i]?).join
  | .q o, _ => some o
  | .io i, e => (e[i]?).join
def Hd.view (h : Hd) (e : Env) : Option D := (h.get e).map O.frz
/-- as a value that may be kept -/
def Hd.val : Hd → Option O
  | .p d => some (.fr d)
  | .t o => some o
  | _ => none
def Hd.isTr : Hd → Bool
  | .p _ => false
  | .t _ => false
  | _ => true
def Hd.isQ : Hd → Bool
  | .q _ => true
  | _ => false
/-- a part of an operand -/
def Hd.part (h : Hd) (o : O) : Hd := match o with
  | .fr d => .p d
  | o => match h with
    | .t _ => .t o
    | _ => .q o
/-- a new value -/
def mkH : O → Hd
  | .fr d => .p d
  | o => .t o

def bigOk (i j : Int) : Bool := decide (i.natAbs < 18446744073709551616) || decide (j.natAbs < 18446744073709551616) || decide (i.natAbs.log2 + j.natAbs.log2 < 1000000)
def lineOk (n : Nat) : Bool := decide (n ≤ 16777216)
/-- binary operators -/
def binO (op : Operator) (a b : O) : Option O :=
  match op, a, b with
  | .Add, .fr (.int i), .fr (.int j) => some (.fr (.int (i + j)))
  | .Sub, .fr (.int i), .fr (.int j) => some (.fr (.int (i - j)))
  | .Mult, .fr (.int i), .fr (.int j) => if bigOk i j then some (.fr (.int (i * j))) else none
  | .FloorDiv, .fr (.int i), .fr (.int j) => if decide (0 < j) && decide (j.natAbs.log2 < 9000) then some (.fr (.int (i / j))) else none
  | .Mod, .fr (.int i), .fr (.int j) => if decide (0 < j) then some (.fr (.int (i % j))) else none
  | .Pow, .fr (.int i), .fr (.int j) => if decide (0 ≤ j) && decide (j ≤ 1000000) && decide (i.natAbs < 18446744073709551616) then some (.fr (.int (i ^ j.toNat))) else none
  | .Add, .fr (.str x), .fr (.str y) => if lineOk (x.length + y.length) then some (.fr (.str (x ++ y))) else none
  | .Add, a, b => match a.items, b.items with
    | some (false, xs), some (false, ys) => if lineOk (xs.length + ys.length) then some (.ol ((xs ++ ys).map .fr)) else none
    | some (true, xs), some (true, ys) => if lineOk (xs.length + ys.length) then some (.fr (.tup (xs ++ ys))) else none
    | _, _ => none
  | .Mult, a, .fr (.int k) => match a.items with
    | some (false, xs) => if decide (-(2 ^ 62) ≤ k) && decide (k < 2 ^ 62) && lineOk (xs.length * k.toNat) then some (.ol (((List.replicate k.toNat xs).flatten).map .fr)) else none
    | _ => none
  | _, _, _ => none
def intB (p : Int → Int → Bool) : D → D → Option Bool
  | .int i, .int j => some (p i j)
  | _, _ => none
/-- comparisons -/
def cmpD (op : CmpOp) (a b : D) : Option Bool :=
  match op with
  | .Eq => if shp 64 a && shp 64 b then some (eqD a b) else eqK0 a b
  | .NotEq => if shp 64 a && shp 64 b then some (!eqD a b) else none
  | .In => inD a b
  | .NotIn => (inD a b).map fun k => !k
  | .Is => match b with
    | .non => isN a
    | _ => none
  | .IsNot => match b with
    | .non => (isN a).map fun k => !k
    | _ => none
  | .Lt => intB (fun i j => decide (i < j)) a b
  | .LtE => intB (fun i j => decide (i ≤ j)) a b
  | .Gt => intB (fun i j => decide (j < i)) a b
  | .GtE => intB (fun i j => decide (j ≤ i)) a b
/-- a place, from the end where it is below nought -/
def ixOf (n : Nat) (i : Int) : Option Nat := ixN n i
/-- a[i] -/
def atO (a : O) (i : D) : Option O :=
  match a, i with
  | .fr (.lst l), .int k => (atI l k).map .fr
  | .fr (.tup l), .int k => (atI l k).map .fr
  | .ol l, .int k => atI l k
  | .ot l, .int k => atI l k
  | .fr (.str s), .int k => (atI s.cps.toList k).map fun c => .fr (.str ⟨#[c]⟩)
  | .fr (.dic l), x => (keyD x).bind fun k => (kget l k).map .fr
  | .od l, x => (keyD x).bind fun k => kget l k
  | _, _ => none
/-- a.f -/
def fldO (a : O) (f : Str) : Option O := match a with
  | .fr (.ins _ l) => (l.lookup f).map .fr
  | .oi _ l => l.lookup f
  | _ => none
def clsO (a : O) : Option Nat := match a with
  | .fr (.ins c _) => some c
  | .oi c _ => some c
  | _ => none
def cutD (l : List D) (lo hi : Option Int) : List D := (l.drop (HT.sIx l.length 0 lo)).take (HT.sIx l.length l.length hi - HT.sIx l.length 0 lo)
/-- a[lo:hi] -/
def cutO (a : O) (lo hi : Option Int) : Option O := match a.items with
  | some (false, l) => some (.ol ((cutD l lo hi).map .fr))
  | some (true, l) => some (.fr (.tup (cutD l lo hi)))
  | none => none

/-- built-in functions -/
inductive Bi where
  | len | list | sum | max2 | min2 | tuple | all | any | int1 | dictP
  deriving DecidableEq
def boolsD : List D → Option (List Bool)
  | [] => some []
  | .bl b :: l => (boolsD l).map (b :: ·)
  | _ => none
def pairsD : List D → Option (List (Key × D))
  | [] => some []
  | .tup [k, v] :: l => match keyD k with
    | some k => (pairsD l).map ((k, v) :: ·)
    | none => none
  | _ => none
def strsD : List D → Option (List Str)
  | [] => some []
  | .str s :: l => (strsD l).map (s :: ·)
  | _ => none
def sumI : List D → Option Int
  | [] => some 0
  | .int i :: l => (sumI l).map (i + ·)
  | _ => none
def biO (b : Bi) (as : List O) : Option O :=
  match b, as with
  | .len, [a] => match a.frz with
    | .lst l => some (.fr (.int l.length))
    | .tup l => some (.fr (.int l.length))
    | .str s => some (.fr (.int s.length))
    | _ => none
  | .list, [a] => a.walk.map fun x => .ol (x.2.map .fr)
  | .tuple, [a] => a.items.map fun x => .fr (.tup x.2)
  | .sum, [a] => match a.items with
    | some (false, l) => (sumI l).map fun i => .fr (.int i)
    | _ => none
  | .max2, [.fr (.int i), .fr (.int j)] => some (.fr (.int (if j > i then j else i)))
  | .min2, [.fr (.int i), .fr (.int j)] => some (.fr (.int (if j < i then j else i)))
  | .all, [a] => match a.items with
    | some (false, l) => (boolsD l).map fun bs => .fr (.bl (bs.all id))
    | _ => none
  | .any, [a] => match a.items with
    | some (false, l) => (boolsD l).map fun bs => .fr (.bl (bs.any id))
    | _ => none
  | .int1, [.fr (.int i)] => some (.fr (.int i))
  | .int1, [.fr (.bl b)] => some (.fr (.int (if b then 1 else 0)))
  | .dictP, [a] => match a.items with
    | some (false, l) => (pairsD l).map fun kvs => .od ((kmerge [] kvs).map fun p => (p.1, .fr p.2))
    | _ => none
  | _, _ => none
/-- methods that look -/
inductive Bm where
  | get | count | index
  deriving DecidableEq
def bmO (m : Bm) (a : O) (y : D) : Option O :=
  match m with
  | .get => match a with
    | .fr (.dic l) => (keyD y).map fun k => .fr ((kget l k).getD .non)
    | .od l => (keyD y).bind fun k => match kget l k with
      | none => some (.fr .non)
      | some (.fr d) => some (.fr d)
      | some _ => none
    | _ => none
  | .count => match a.items with
    | some (false, ds) => if flatD y && ds.all flatD then some (.fr (.int (ds.countP fun z => eqD z y : Nat))) else none
    | _ => none
  | .index => match a.items with
    | some (false, ds) => if flatD y && ds.all flatD && decide (ds.length ≤ 16777216) then (ds.findIdx? fun z => eqD z y).map fun j => .fr (.int (j : Nat)) else none
    | _ => none
def bmOk (m : Bm) (a : O) : Bool :=
  match m with
  | .get => match a with
    | .fr (.dic _) => true
    | .od _ => true
    | _ => false
  | _ => match a.items with
    | some (false, _) => true
    | _ => false
/-- whole numbers in order -/
def insI (i : Int) : List Int → List Int
  | [] => [i]
  | j :: l => if i ≤ j then i :: j :: l else j :: insI i l
def srtI : List Int → List Int
  | [] => []
  | i :: l => insI i (srtI l)
def intKs {α : Type} : List (Key × α) → Option (List Int)
  | [] => some []
  | (.inl i, _) :: l => (intKs l).map (i :: ·)
  | _ => none
/-- sorted(d) -/
def srtO : O → Option O
  | .fr (.dic l) => match intKs l with
    | some ks => if decide (ks.length < 64) then some (.ol ((srtI ks).map fun i => .fr (.int i))) else none
    | none => none
  | .od l => match intKs l with
    | some ks => if decide (ks.length < 64) then some (.ol ((srtI ks).map fun i => .fr (.int i))) else none
    | none => none
  | _ => none
/-- isinstance -/
def isiD (t : Str) : D → Option Bool
  | .non => some (t == ("NoneType" : Str))
  | .bl _ => some (t == ("bool" : Str) || t == ("int" : Str))
  | .int _ => some (t == ("int" : Str))
  | .str _ => some (t == ("str" : Str))
  | _ => none
def rngOk (i j c : Int) : Bool := (c == -1 || (decide (0 < c) && decide (c < 1000000000))) && decide (-(2 ^ 60) ≤ i) && decide (i < 2 ^ 60) && decide (-(2 ^ 60) ≤ j) && decide (j < 2 ^ 60)
def rngN (i j c : Int) : Nat := if c == -1 then (i - j).toNat else ((j - i + c - 1) / c).toNat
def rngL (i j c : Int) : List D := (List.range (rngN i j c)).map fun (k : Nat) => D.int (i + k * c)

/-- targets -/
inductive Tg where
  | v (i : Nat) | tup (l : List Tg)
mutual
inductive CE where
  | lit (d : D)
  | glob (g : Str) (d : D)
  | var (i : Nat)
  | io (i : Nat)
  | mv (i : Nat)
  | fz (i : Nat)
  | tup (es : List CE)
  | lst (es : List CE)
  | bin (op : Operator) (a b : CE)
  | cmp (op : CmpOp) (a b : CE)
  | cmp2 (o1 o2 : CmpOp) (a b c : CE)
  | and (es : List CE)
  | or (es : List CE)
  | not (a : CE)
  | ife (c a b : CE)
  | sub (a i : CE)
  | slice (a : CE) (lo hi : Option CE)
  | call (f : Nat) (io : List Nat) (args : List CE)
  | bi (b : Bi) (args : List CE)
  | lc (own : List Nat) (tg : Tg) (src : Sr) (cs : List CE) (e : CE)
  | listR (src : Sr)
  | no
  | fld (a : CE) (f : Str)
  | lens (a : CE)
  | isi (t : Str) (a : CE)
  | mk (c f : Nat) (args : List CE)
  | mcall (m : Str) (c f : Nat) (io : List Nat) (a : CE) (args : List CE)
  | popi (i : Nat) (ix : CE)
  | fzt (a : CE)
  | dict0
  | bm (m : Bm) (a b : CE)
  | srtD (a : CE)
  | dc (own : List Nat) (tg : Tg) (src : Sr) (k v : CE)
  | lcK (fz : Bool) (i : Nat) (f : Option Str) (own : List Nat) (tg : Tg) (cs : List CE) (x : CE)
  | dcK (fz : Bool) (i : Nat) (f : Option Str) (own : List Nat) (tg : Tg) (k v : CE)
inductive Sr where
  | seq (e : CE)
  | rng (as : List CE)
  | enum (e : CE)
end
/-- methods that change a list -/
inductive Mu where
  | app | ext | ins
  deriving DecidableEq
mutual
inductive CS where
  | expr (e : CE)
  | set (i : Nat) (e : CE)
  | par (i j : Nat) (a b : CE)
  | par3 (i j l : Nat) (a b c : CE)
  | unp (t : Tg) (e : CE)
  | seti (i : Nat) (pr : Option CE) (ix e : CE)
  | augi (i : Nat) (op : Operator) (ix e : CE)
  | aug (i : Nat) (op : Operator) (e : CE)
  | setf (i : Nat) (f : Str) (e : CE)
  | dput (i : Nat) (f : Option Str) (k e : CE)
  | mut (i : Nat) (f : Option Str) (m : Mu) (as : List CE)
  | forI (fz : Bool) (i : Nat) (f : Option Str) (t : Tg) (b : List CS)
  | if_ (c : CE) (a b : List CS)
  | while_ (c : CE) (b : List CS)
  | for_ (t : Tg) (s : Sr) (b : List CS)
  | ret (e : CE)
  | brk | cont | pass | never
end

mutual
def Tg.bind : Tg → D → Env → Option Env
  | .v i, d, e => if i < e.length then some (e.set i (some (.fr d))) else none
  | .tup ts, .tup ds, e => bindL ts ds e
  | _, _, _ => none
def bindL : List Tg → List D → Env → Option Env
  | [], [], e => some e
  | t :: ts, d :: ds, e => (t.bind d e).bind (bindL ts ds)
  | _, _, _ => none
end
/-! evaluating leaves the slots and what they own as they are -/
mutual
def CE.quiet : CE → Bool
  | .lit _ => true
  | .glob _ _ => true
  | .var _ => true
  | .io _ => false
  | .mv _ => false
  | .fz _ => false
  | .tup es => quietL es
  | .lst es => quietL es
  | .bin _ a b => a.quiet && b.quiet
  | .cmp _ a b => a.quiet && b.quiet
  | .cmp2 _ _ a b c => a.quiet && b.quiet && c.quiet
  | .and es => quietL es
  | .or es => quietL es
  | .not a => a.quiet
  | .ife c a b => c.quiet && a.quiet && b.quiet
  | .sub a i => a.quiet && i.quiet
  | .slice a lo hi => a.quiet && quietO lo && quietO hi
  | .call _ io as => io.isEmpty && quietL as
  | .bi _ as => quietL as
  | .lc _ _ s cs e => s.quiet && quietL cs && e.quiet
  | .listR s => s.quiet
  | .no => true
  | .fld a _ => a.quiet
  | .lens a => a.quiet
  | .isi _ a => a.quiet
  | .mk _ _ as => quietL as
  | .mcall _ _ _ io a as => io.isEmpty && a.quiet && quietL as
  | .popi _ _ => false
  | .fzt a => a.quiet
  | .dict0 => true
  | .bm _ a b => a.quiet && b.quiet
  | .srtD a => a.quiet
  | .dc _ _ s k v => s.quiet && k.quiet && v.quiet
  | .lcK fz _ _ _ _ cs x => !fz && quietL cs && x.quiet
  | .dcK fz _ _ _ _ k v => !fz && k.quiet && v.quiet
def quietL : List CE → Bool
  | [] => true
  | e :: es => e.quiet && quietL es
def quietO : Option CE → Bool
  | none => true
  | some e => e.quiet
def Sr.quiet : Sr → Bool
  | .seq e => e.quiet
  | .rng as => quietL as
  | .enum e => e.quiet
end

def lcL (f : D → Env → Res (Option O × Env)) : List D → Env → Res (List O × Env)
  | [], e => .ok ([], e)
  | d :: ds, e => (f d e).bind fun (o, e) => (lcL f ds e).bind fun (os, e) => .ok ((match o with | some o => o :: os | none => os), e)
def forL (f : D → Env → Res (Fl × Env)) : List D → Env → Res (Fl × Env)
  | [], e => .ok (.next, e)
  | d :: ds, e => (f d e).bind fun (fl, e) => match fl with
    | .next => forL f ds e
    | .cont => forL f ds e
    | .brk => .ok (.next, e)
    | .ret o => .ok (.ret o, e)
def whL (c : Env → Res (Bool × Env)) (f : Env → Res (Fl × Env)) : Nat → Env → Res (Fl × Env)
  | 0, _ => .er
  | n + 1, e => (c e).bind fun (b, e) => if b then (f e).bind fun (fl, e) => match fl with
      | .next => whL c f n e
      | .cont => whL c f n e
      | .brk => .ok (.next, e)
      | .ret o => .ok (.ret o, e)
    else .ok (.next, e)
def setS (e : Env) (i : Nat) (o : O) : Option Env := if i < e.length then some (e.set i (some o)) else none
def boolH : Hd → Option Bool
  | .p (.bl b) => some b
  | _ => none
/-- the operands ahead are to be there yet when those behind have come -/
def stayOk : List Hd → List CE → Bool
  | [], _ => true
  | h :: hs, e :: es => (!h.isQ || quietL es) && stayOk hs es
  | _, _ => false
/-- how an argument comes into a callee's slot -/
def Hd.arg (h : Hd) (e : Env) : Option O := match h with
  | .io i => match (e[i]?).join with
    | some (.fr _) => none
    | some o => some o
    | none => none
  | h => (h.view e).map .fr
def allSome {α : Type} : List (Option α) → Option (List α)
  | [] => some []
  | some a :: l => (allSome l).map (a :: ·)
  | none :: _ => none
def ioSlots : List Hd → List Nat
  | [] => []
  | .io i :: hs => i :: ioSlots hs
  | _ :: hs => ioSlots hs
def ioPos : List Hd → Nat → List Nat
  | [], _ => []
  | .io _ :: hs, k => k :: ioPos hs (k + 1)
  | _ :: hs, k => ioPos hs (k + 1)
def nmSlots : List Hd → List Nat
  | [] => []
  | .n i :: hs => i :: nmSlots hs
  | _ :: hs => nmSlots hs
def hasQ : List Hd → Bool
  | [] => false
  | h :: hs => h.isQ || hasQ hs
/-- the slots that a call may change are each one's own -/
def ioOk (hs : List Hd) : Bool := match ioSlots hs with
  | [] => true
  | [i] => (nmSlots hs).all (fun j => j != i) && !hasQ hs
  | _ => false
def putOuts : List Nat → List O → Env → Option Env
  | [], [], e => some e
  | i :: is, o :: os, e => (setS e i o).bind (putOuts is os)
  | _, _, _ => none
def wipeE (e : Env) : List Nat → Env
  | [] => e
  | i :: is => (wipeE e is).set i none
def leafOrNone : Option O → Bool
  | none => true
  | some o => o.isFr
def backE (e0 e1 : Env) : List Nat → Env
  | [] => e1
  | i :: is => (backE e0 e1 is).set i ((e0[i]?).join)
def wipeOk (own : List Nat) (e : Env) : Bool := own.all fun i => decide (i < e.length) && leafOrNone ((e[i]?).join)
/-- a turn of a list comprehension -/
def lcF (fc : Env → Res (Bool × Env)) (fx : Env → Res (Hd × Env)) (tg : Tg) (own : List Nat) (d : D) (e : Env) : Res (Option O × Env) := match tg.bind d e with
  | some e => (fc e).bind fun (k, e) => if k then (fx e).bind fun (h, e) => match h.val with
      | some o => if wipeOk own e then .ok (some o, wipeE e own) else .er
      | none => .er
    else if wipeOk own e then .ok (none, wipeE e own) else .er
  | none => .er
/-- a dict comprehension's turns; its parts change nothing -/
def dcL (fk fv : Env → Res (Hd × Env)) (tg : Tg) (e : Env) : List D → List (Key × D) → Option (List (Key × D))
  | [], acc => some acc
  | d :: ds, acc => match tg.bind d e with
    | some eb => match fk eb, fv eb with
      | .ok (.p dk, _), .ok (.p dv, _) => match keyD dk with
        | some q => dcL fk fv tg e ds (kput acc q dv)
        | none => none
      | _, _ => none
    | none => none
def allInt : List D → Option (List Int)
  | [] => some []
  | .int i :: l => (allInt l).map (i :: ·)
  | _ => none
def rngOf : List D → Option (List D)
  | [.int j] => if rngOk 0 j 1 then some (rngL 0 j 1) else none
  | [.int i, .int j] => if rngOk i j 1 then some (rngL i j 1) else none
  | [.int i, .int j, .int c] => if rngOk i j c then some (rngL i j c) else none
  | _ => none
def numd (k : Nat) : List D → List D
  | [] => []
  | d :: ds => .tup [.int k, d] :: numd (k + 1) ds
/-- xs[ix] = o -/
def setAt (a : O) (ix : D) (o : O) : Option O := match a, ix with
  | .ol l, .int k => (ixN l.length k).map fun j => .ol (l.set j o)
  | _, _ => none

/-- a call, its operands being there -/
def callF (cal : Nat → List O → CRes) (f : Nat) (io : List Nat) (as : List CE) (hs : List Hd) (e : Env) : Res (Hd × Env) := if stayOk hs as && ioOk hs && ioPos hs 0 == io then
    match allSome (hs.map fun h => h.arg e) with
    | some os => match cal f os with
      | .ok r outs => match putOuts (ioSlots hs) outs e with
        | some e => if r.clean && cleanL outs then .ok (mkH r, e) else .er
        | none => .er
      | .ex c d outs => match putOuts (ioSlots hs) outs e with
        | some e => if d.imm && cleanL outs then .ex c d e else .er
        | none => .er
      | .er => .er
    | none => .er
  else .er
/-- a new instance -/
def mkF (cal : Nat → List O → CRes) (c f : Nat) (as : List CE) (hs : List Hd) (e : Env) : Res (Hd × Env) := if stayOk hs as && (ioSlots hs).isEmpty then
    match allSome (hs.map fun h => h.arg e) with
    | some os => match cal f (.oi c [] :: os) with
      | .ok (.fr .non) [.oi c' l] => if c' == c && (O.oi c' l).clean then .ok (.t (.oi c' l), e) else .er
      | .ex c d [o] => if d.imm && o.clean then .ex c d e else .er
      | _ => .er
    | none => .er
  else .er
/-- what a slot, or a field of it, holds -/
def place (e : Env) (i : Nat) (f : Option Str) : Option O := match (e[i]?).join, f with
  | some o, none => some o
  | some (.oi _ l), some f => l.lookup f
  | _, _ => none
def putPlace (e : Env) (i : Nat) (f : Option Str) (o : O) : Option Env := match f with
  | none => setS e i o
  | some f => match (e[i]?).join with
    | some (.oi c l) => setS e i (.oi c (fput f o l))
    | _ => none
/-- a[k] = o, a dict -/
def putAt (a : O) (k : D) (o : O) : Option O := match a with
  | .od l => match keyD k with
    | some k => if lineOk (l.length + 1) && o.isFr then some (.od (kput l k o)) else none
    | none => none
  | _ => none
def muO (m : Mu) (a : O) (os : List O) : Option O := match m, a, os with
  | .app, .ol xs, [o] => if lineOk (xs.length + 1) then some (.ol (xs ++ [o])) else none
  | .ins, .ol xs, [.fr (.int i), o] => if lineOk (xs.length + 1) && decide (0 ≤ i) && decide (i < 2 ^ 62) then some (.ol (xs.take i.toNat ++ o :: xs.drop i.toNat)) else none
  | .ext, .ol xs, [.ol ys] => if lineOk (xs.length + ys.length) then some (.ol (xs ++ ys)) else none
  | _, _, _ => none
/-- a slot's dict that stands still, for a walk: its pairs -/
def itemsOf (e : Env) (i : Nat) (f : Option Str) : Option (List (Key × D)) := match (e[i]?).join, f with
  | some (.fr (.dic l)), none => some l
  | some (.fr (.ins _ fs)), some f => match fs.lookup f with
    | some (.dic l) => some l
    | _ => none
  | _, _ => none
def keyB : Key → D
  | .inl i => .int i
  | .inr s => .str s
def itemD (p : Key × D) : D := .tup [keyB p.1, p.2]
/-- keys that may be told -/
def keyOk : Key → Bool
  | .inl _ => true
  | .inr s => lineOk s.length && PyData.canLay0 (.str s)
def keysOk {α : Type} (l : List (Key × α)) : Bool := l.all fun p => keyOk p.1
def frzS (e : Env) (i : Nat) : Option Env := match (e[i]?).join with
  | some o => some (e.set i (some (.fr o.frz)))
  | none => none
def signs (s : Str) : List D := s.cps.toList.map fun c => D.str ⟨#[c]⟩
section
variable (cal : Nat → List O → CRes) (W : Nat)
mutual
def ev : CE → Env → Res (Hd × Env)
  | .lit d, e => .ok (.p d, e)
  | .glob _ d, e => .ok (.p d, e)
  | .var i, e => match (e[i]?).join with
    | some (.fr d) => .ok (.p d, e)
    | some _ => .ok (.n i, e)
    | none => .er
  | .io i, e => match (e[i]?).join with
    | some (.fr _) => .er
    | some _ => .ok (.io i, e)
    | none => .er
  | .mv i, e => match (e[i]?).join with
    | some o => .ok (mkH o, e.set i none)
    | none => .er
  | .fz i, e => match (e[i]?).join with
    | some o => .ok (.p o.frz, e.set i (some (.fr o.frz)))
    | none => .er
  | .tup es, e => (evs es e).bind fun (hs, e) => match allSome (hs.map Hd.val) with
    | some os => if lineOk os.length then .ok (mkH (mkT os), e) else .er
    | none => .er
  | .lst es, e => (evs es e).bind fun (hs, e) => match allSome (hs.map Hd.val) with
    | some os => if lineOk os.length then .ok (.t (.ol os), e) else .er
    | none => .er
  | .bin op a b, e => (ev a e).bind fun (ha, e) => (ev b e).bind fun (hb, e) => if !ha.isQ || b.quiet then
      match ha.get e, hb.get e with
      | some x, some y => match binO op x y with
        | some o => .ok (mkH o, e)
        | none => .er
      | _, _ => .er
    else .er
  | .cmp op a b, e => (ev a e).bind fun (ha, e) => (ev b e).bind fun (hb, e) => if !ha.isQ || b.quiet then
      match ha.view e, hb.view e with
      | some x, some y => match cmpD op x y with
        | some k => .ok (.p (.bl k), e)
        | none => .er
      | _, _ => .er
    else .er
  | .cmp2 o1 o2 a b c, e => (ev a e).bind fun (ha, e) => (ev b e).bind fun (hb, e) =>
      match ha, hb with
      | .p x, .p y => match cmpD o1 x y with
        | some true => (ev c e).bind fun (hc, e) => match hc with
          | .p z => match cmpD o2 y z with
            | some k => .ok (.p (.bl k), e)
            | none => .er
          | _ => .er
        | some false => .ok (.p (.bl false), e)
        | none => .er
      | _, _ => .er
  | .and es, e => evAnd es e
  | .or es, e => evOr es e
  | .not a, e => (ev a e).bind fun (ha, e) => match boolH ha with
    | some k => .ok (.p (.bl (!k)), e)
    | none => .er
  | .ife c a b, e => (ev c e).bind fun (hc, e) => match boolH hc with
    | some true => ev a e
    | some false => ev b e
    | none => .er
  | .sub a i, e => (ev a e).bind fun (ha, e) => (ev i e).bind fun (hi, e) => if !ha.isQ || i.quiet then
      match ha.get e, hi with
      | some x, .p y => match atO x y with
        | some o => .ok (ha.part o, e)
        | none => .er
      | _, _ => .er
    else .er
  | .slice a lo hi, e => (ev a e).bind fun (ha, e) => (evO lo e).bind fun (l, e) => (evO hi e).bind fun (u, e) => if !ha.isQ || (quietO lo && quietO hi) then
      match ha.get e with
      | some x => match cutO x l u with
        | some o => .ok (mkH o, e)
        | none => .er
      | none => .er
    else .er
  | .call f io as, e => (evs as e).bind fun (hs, e) => callF cal f io as hs e
  | .bi b as, e => (evs as e).bind fun (hs, e) => if stayOk hs as then
      match allSome (hs.map fun h => h.get e) with
      | some os => match biO b os with
        | some o => .ok (mkH o, e)
        | none => .er
      | none => .er
    else .er
  | .lc own tg src cs x, e => (evSr src e).bind fun (ds, tr, e) =>
      if wipeOk own e && (!tr || (quietL cs && x.quiet)) then
        (Res.noEx (lcL (lcF (fun e => evC cs e) (fun e => ev x e) tg own) ds (wipeE e own))).bind fun (os, e1) => if lineOk ds.length then .ok (.t (.ol os), backE e e1 own) else .er
      else .er
  | .listR src, e => (evSr src e).bind fun (ds, _, e) => if lineOk ds.length then .ok (.t (.ol (ds.map .fr)), e) else .er
  | .no, _ => .er
  | .fld a f, e => (ev a e).bind fun (h, e) => match h.get e with
    | some o => match fldO o f with
      | some o => .ok (h.part o, e)
      | none => .er
    | none => .er
  | .lens a, e => (ev a e).bind fun (h, e) => match h.get e with
    | some o => match o.items with
      | some (_, ds) => match strsD ds with
        | some ss => if decide (ss.length < 4000) then .ok (.p (.int (uniq ss).length), e) else .er
        | none => .er
      | none => .er
    | none => .er
  | .isi t a, e => (ev a e).bind fun (h, e) => match h.view e with
    | some d => match isiD t d with
      | some b => .ok (.p (.bl b), e)
      | none => .er
    | none => .er
  | .mk c f as, e => (evs as e).bind fun (hs, e) => mkF cal c f as hs e
  | .mcall m c f io a as, e => (ev a e).bind fun (h, e) => match h.get e with
    | some o => if clsO o == some c && (fldO o m).isNone then (evs as e).bind fun (hs, e) => callF cal f io (a :: as) (h :: hs) e else .er
    | none => .er
  | .popi i ix, e => match (e[i]?).join with
    | some (.ol _) => (ev ix e).bind fun (h, e) => match h, (e[i]?).join with
      | .p (.int k), some (.ol xs) => match ixN xs.length k with
        | some j => match xs[j]? with
          | some o => match setS e i (.ol (xs.eraseIdx j)) with
            | some e => if decide (-(2 ^ 62) ≤ k) && decide (k < 2 ^ 62) then .ok (mkH o, e) else .er
            | none => .er
          | none => .er
        | none => .er
      | _, _ => .er
    | _ => .er
  | .fzt a, e => (ev a e).bind fun (h, e) => match h.val with
    | some o => .ok (.p o.frz, e)
    | none => .er
  | .dict0, e => .ok (.t (.od []), e)
  | .bm m a b, e => (ev a e).bind fun (ha, e) => match ha.get e with
    | some x => if bmOk m x && b.quiet then (ev b e).bind fun (hb, e) => match hb with
        | .p y => match bmO m x y with
          | some o => .ok (mkH o, e)
          | none => .er
        | _ => .er
      else .er
    | none => .er
  | .srtD a, e => (ev a e).bind fun (h, e) => match h.get e with
    | some x => match srtO x with
      | some o => .ok (mkH o, e)
      | none => .er
    | none => .er
  | .dc own tg src k v, e => (evSr src e).bind fun (ds, _, e) =>
      if wipeOk own e && k.quiet && v.quiet && lineOk ds.length then
        match dcL (fun e => ev k e) (fun e => ev v e) tg (wipeE e own) ds [] with
        | some kvs => .ok (.t (.od (kvs.map fun p => (p.1, .fr p.2))), e)
        | none => .er
      else .er
  | .lcK fz i f own tg cs x, e => match (if fz then frzS e i else some e) with
    | some e => match itemsOf e i f with
      | some kvs => if keysOk kvs && wipeOk own e then
          (Res.noEx (lcL (lcF (fun e => evC cs e) (fun e => ev x e) tg own) (kvs.map fun p => keyB p.1) (wipeE e own))).bind fun (os, e1) => if lineOk (kvs.map fun p => keyB p.1).length then .ok (.t (.ol os), backE e e1 own) else .er
        else .er
      | none => .er
    | none => .er
  | .dcK fz i f own tg k v, e => match (if fz then frzS e i else some e) with
    | some e => match itemsOf e i f with
      | some kvs => if keysOk kvs && (wipeOk own e && k.quiet && v.quiet && lineOk (kvs.map fun p => keyB p.1).length) then
          match dcL (fun e => ev k e) (fun e => ev v e) tg (wipeE e own) (kvs.map fun p => keyB p.1) [] with
          | some kvs => .ok (.t (.od (kvs.map fun p => (p.1, .fr p.2))), e)
          | none => .er
        else .er
      | none => .er
    | none => .er
def evs : List CE → Env → Res (List Hd × Env)
  | [], e => .ok ([], e)
  | x :: xs, e => (ev x e).bind fun (h, e) => (evs xs e).bind fun (hs, e) => .ok (h :: hs, e)
def evAnd : List CE → Env → Res (Hd × Env)
  | [], _ => .er
  | [x], e => ev x e
  | x :: y :: r, e => (ev x e).bind fun (h, e) => match boolH h with
    | some true => evAnd (y :: r) e
    | some false => .ok (.p (.bl false), e)
    | none => .er
def evOr : List CE → Env → Res (Hd × Env)
  | [], _ => .er
  | [x], e => ev x e
  | x :: y :: r, e => (ev x e).bind fun (h, e) => match boolH h with
    | some false => evOr (y :: r) e
    | some true => .ok (.p (.bl true), e)
    | none => .er
def evO : Option CE → Env → Res (Option Int × Env)
  | none, e => .ok (none, e)
  | some x, e => (ev x e).bind fun (h, e) => match h with
    | .p (.int i) => .ok (some i, e)
    | _ => .er
def evC : List CE → Env → Res (Bool × Env)
  | [], e => .ok (true, e)
  | x :: xs, e => (ev x e).bind fun (h, e) => match boolH h with
    | some true => evC xs e
    | some false => .ok (false, e)
    | none => .er
def evSr : Sr → Env → Res (List D × Bool × Env)
  | .seq x, e => (ev x e).bind fun (h, e) => match h.get e with
    | some (.fr (.str s)) => .ok (signs s, false, e)
    | some o => match o.walk with
      | some (_, ds) => .ok (ds, h.isTr, e)
      | none => .er
    | none => .er
  | .rng as, e => (evs as e).bind fun (hs, e) => match allSome (hs.map Hd.val) with
    | some os => match (leafs os).bind rngOf with
      | some ds => .ok (ds, false, e)
      | none => .er
    | none => .er
  | .enum x, e => (ev x e).bind fun (h, e) => match h.get e with
    | some o => match o.items with
      | some (_, ds) => .ok (numd 0 ds, h.isTr, e)
      | _ => .er
    | none => .er
end

mutual
def Tg.bindO : Tg → O → Env → Option Env
  | .v i, o, e => setS e i o
  | .tup ts, .fr (.tup ds), e => bindL ts ds e
  | .tup ts, .ot os, e => bindOL ts os e
  | _, _, _ => none
def bindOL : List Tg → List O → Env → Option Env
  | [], [], e => some e
  | t :: ts, o :: os, e => (t.bindO o e).bind (bindOL ts os)
  | _, _, _ => none
end
mutual
def evS : CS → Env → Res (Fl × Env)
  | .expr x, e => (ev cal x e).bind fun (_, e) => .ok (.next, e)
  | .set i x, e => (ev cal x e).bind fun (h, e) => match h.val with
    | some o => match setS e i o with
      | some e => .ok (.next, e)
      | none => .er
    | none => .er
  | .par i j a b, e => (ev cal a e).bind fun (ha, e) => (ev cal b e).bind fun (hb, e) => match ha.val, hb.val with
    | some x, some y => match (setS e i x).bind fun e => setS e j y with
      | some e => .ok (.next, e)
      | none => .er
    | _, _ => .er
  | .par3 i j l a b c, e => (ev cal a e).bind fun (ha, e) => (ev cal b e).bind fun (hb, e) => (ev cal c e).bind fun (hc, e) => match ha.val, hb.val, hc.val with
    | some x, some y, some z => match (setS e i x).bind fun e => (setS e j y).bind fun e => setS e l z with
      | some e => .ok (.next, e)
      | none => .er
    | _, _, _ => .er
  | .unp t x, e => (ev cal x e).bind fun (h, e) => match h.val with
    | some o => match t.bindO o e with
      | some e => .ok (.next, e)
      | none => .er
    | none => .er
  | .seti i pr ix x, e => (ev cal x e).bind fun (h, e) => match h.val, (e[i]?).join with
    | some o, some _ => match pr with
      | none => (ev cal ix e).bind fun (hi, e) => match hi, (e[i]?).join with
        | .p k, some a => match (setAt a k o).bind fun a => setS e i a with
          | some e => .ok (.next, e)
          | none => .er
        | _, _ => .er
      | some p => (ev cal p e).bind fun (hp, e) => match hp, (e[i]?).join with
        | .p (.int pk), some (.ol xs) => match atI xs pk with
          | some b => (ev cal ix e).bind fun (hi, e) => if ix.quiet then match hi with
              | .p k => match ((setAt b k o).bind fun b => setAt (.ol xs) (.int pk) b).bind fun a => setS e i a with
                | some e => .ok (.next, e)
                | none => .er
              | _ => .er
            else .er
          | none => .er
        | _, _ => .er
    | _, _ => .er
  | .augi i op ix x, e => match (e[i]?).join with
    | some _ => (ev cal ix e).bind fun (hi, e) => match hi, (e[i]?).join with
      | .p (.int k), some (.ol xs) => match atI xs k with
        | some (.fr (.int old)) => (ev cal x e).bind fun (h, e) => match h, (e[i]?).join with
          | .p (.int d), some (.ol ys) => match op with
            | .Add => match (setAt (.ol ys) (.int k) (.fr (.int (old + d)))).bind fun a => setS e i a with
              | some e => .ok (.next, e)
              | none => .er
            | .Sub => match (setAt (.ol ys) (.int k) (.fr (.int (old - d)))).bind fun a => setS e i a with
              | some e => .ok (.next, e)
              | none => .er
            | _ => .er
          | _, _ => .er
        | _ => .er
      | _, _ => .er
    | none => .er
  | .aug i op x, e => match (e[i]?).join with
    | some (.fr (.int a)) => (ev cal x e).bind fun (h, e) => match h with
      | .p (.int b) => match op with
        | .Add => match setS e i (.fr (.int (a + b))) with
          | some e => .ok (.next, e)
          | none => .er
        | .Sub => match setS e i (.fr (.int (a - b))) with
          | some e => .ok (.next, e)
          | none => .er
        | _ => .er
      | _ => .er
    | _ => .er
  | .setf i f x, e => (ev cal x e).bind fun (h, e) => match h.val, (e[i]?).join with
    | some o, some (.oi c l) => if decide (l.length < 1000) then match setS e i (.oi c (fput f o l)) with
        | some e => .ok (.next, e)
        | none => .er
      else .er
    | _, _ => .er
  | .dput i f k x, e => (ev cal x e).bind fun (h, e) => match h.val, place e i f with
    | some o, some _ => if k.quiet then (ev cal k e).bind fun (hk, e) => match hk, place e i f with
        | .p k, some a => match (putAt a k o).bind fun a => putPlace e i f a with
          | some e => .ok (.next, e)
          | none => .er
        | _, _ => .er
      else .er
    | _, _ => .er
  | .mut i f m as, e => match place e i f with
    | some (.ol _) => if f.isNone || quietL as then (evs cal as e).bind fun (hs, e) => match allSome (hs.map Hd.val), place e i f with
        | some os, some a => match (muO m a os).bind fun a => putPlace e i f a with
          | some e => .ok (.next, e)
          | none => .er
        | _, _ => .er
      else .er
    | _ => .er
  | .forI fz i f t b, e => match (if fz then frzS e i else some e) with
    | some e => match itemsOf e i f with
      | some kvs => if keysOk kvs then forL (fun d e => match t.bind d e with
          | some e => evSs b e
          | none => .er) (kvs.map itemD) e else .er
      | none => .er
    | none => .er
  | .if_ c a b, e => (ev cal c e).bind fun (h, e) => match boolH h with
    | some true => evSs a e
    | some false => evSs b e
    | none => .er
  | .while_ c b, e => whL (fun e => (ev cal c e).bind fun (h, e) => match boolH h with
      | some k => .ok (k, e)
      | none => .er) (fun e => evSs b e) W e
  | .for_ t s b, e => (evSr cal s e).bind fun (ds, tr, e) => if tr then .er else forL (fun d e => match t.bind d e with
      | some e => evSs b e
      | none => .er) ds e
  | .ret x, e => (ev cal x e).bind fun (h, e) => match h.val with
    | some o => .ok (.ret o, e)
    | none => .er
  | .brk, e => .ok (.brk, e)
  | .cont, e => .ok (.cont, e)
  | .pass, e => .ok (.next, e)
  | .never, _ => .er
def evSs : List CS → Env → Res (Fl × Env)
  | [], e => .ok (.next, e)
  | s :: ss, e => (evS s e).bind fun (fl, e) => match fl with
    | .next => evSs ss e
    | fl => .ok (fl, e)
end
end

/-- a def: how many parameters, how many slots, which parameters it may change, its body -/
structure Fn where
  np : Nat
  ns : Nat
  io : List Nat
  body : List CS
def outsOf (e : Env) (io : List Nat) : Option (List O) := allSome (io.map fun i => (e[i]?).join)
def runB (cal : Nat → List O → CRes) (W : Nat) (f : Fn) (os : List O) : CRes :=
  if os.length == f.np then
    match evSs cal W f.body (os.map some ++ List.replicate (f.ns - f.np) none) with
    | .ok (.next, e) => match outsOf e f.io with
      | some outs => .ok (.fr .non) outs
      | none => .er
    | .ok (.ret o, e) => match outsOf e f.io with
      | some outs => .ok o outs
      | none => .er
    | .ex c d e => match outsOf e f.io with
      | some outs => .ex c d outs
      | none => .er
    | _ => .er
  else .er
def run (P : List Fn) (W : Nat) : Nat → Nat → List O → CRes
  | 0, _, _ => .er
  | k + 1, f, os => match P[f]? with
    | some fn => runB (run P W k) W fn os
    | none => .er
end Cr
end

section
/-! What stands in the heap for a tree. -/
namespace Cr
open PySem L2

abbrev Sub (F F' : Hp) : Prop := ∀ a u, F a = some u → F' a = some u
theorem Sub.refl (F : Hp) : Sub F F := fun _ _ h => h
theorem Sub.trans {F F1 F2 : Hp} (h : Sub F F1) (h1 : Sub F1 F2) : Sub F F2 := fun a u e => h1 a u (h a u e)
/-- what stands still is there; a dict may be locked -/
def Le (F H : Hp) : Prop := ∀ a u, F a = some u → H a = some u ∨ ((∃ kvs, u = .dK kvs) ∧ ∃ o, H a = some (.frz o u))

section
variable (C : Nat → Addr) (K : PySem.W.Frag)
mutual
def RepS (F : Hp) : D → V → Prop
  | .non, v => v = .non
  | .bl b, v => v = .bl b
  | .int i, v => v = .int i
  | .str s, v => v = .str s ∧ s.length ≤ sizeLine ∧ PyData.canLay0 (.str s) = true
  | .tup l, v => ∃ a vs, v = .ref a ∧ SqT K F a vs ∧ RepSL F l vs
  | .lst l, v => ∃ a vs, v = .ref a ∧ F a = some (.lst vs) ∧ RepSL F l vs
  | .dic l, v => ∃ a kvs, v = .ref a ∧ Rd F a (.dK kvs) ∧ RepSK F l kvs
  | .ins c l, v => ∃ a dx fs, v = .ref a ∧ F a = some (.ins (C c) dx fs) ∧ RepSF F l fs
  | .scr l, v => ∃ a, v = .ref a ∧ SqL K F a (l.map V.int)
  | .bad, _ => True
def RepSL (F : Hp) : List D → List V → Prop
  | [], vs => vs = []
  | d :: l, vs => ∃ v r, vs = v :: r ∧ RepS F d v ∧ RepSL F l r
def RepSK (F : Hp) : List (Key × D) → List (Key × V) → Prop
  | [], vs => vs = []
  | (k, d) :: l, vs => ∃ v r, vs = (k, v) :: r ∧ RepS F d v ∧ RepSK F l r
def RepSF (F : Hp) : List (Str × D) → List (Str × V) → Prop
  | [], vs => vs = []
  | (k, d) :: l, vs => ∃ v r, vs = (k, v) :: r ∧ RepS F d v ∧ RepSF F l r
end
mutual
def RepO (F H : Hp) : O → V → List Addr → Prop
  | .fr d, v, l => l = [] ∧ RepS C K F d v
  | .ol os, v, l => ∃ a vs r, v = .ref a ∧ H a = some (.lst vs) ∧ RepOL F H os vs r ∧ l = a :: r
  | .ot os, v, l => ∃ a vs, v = .ref a ∧ F a = some (.tup vs) ∧ RepOL F H os vs l
  | .od os, v, l => ∃ a kvs r, v = .ref a ∧ H a = some (.dK kvs) ∧ RepOK F H os kvs r ∧ l = a :: r
  | .oi c os, v, l => ∃ a dx fs r, v = .ref a ∧ H a = some (.ins (C c) dx fs) ∧ RepOF F H os fs r ∧ l = a :: r
def RepOL (F H : Hp) : List O → List V → List Addr → Prop
  | [], vs, l => vs = [] ∧ l = []
  | o :: os, vs, l => ∃ v r l1 l2, vs = v :: r ∧ RepO F H o v l1 ∧ RepOL F H os r l2 ∧ l = l1 ++ l2
def RepOK (F H : Hp) : List (Key × O) → List (Key × V) → List Addr → Prop
  | [], vs, l => vs = [] ∧ l = []
  | (k, o) :: os, vs, l => ∃ v r l1 l2, vs = (k, v) :: r ∧ RepO F H o v l1 ∧ RepOK F H os r l2 ∧ l = l1 ++ l2
def RepOF (F H : Hp) : List (Str × O) → List (Str × V) → List Addr → Prop
  | [], vs, l => vs = [] ∧ l = []
  | (k, o) :: os, vs, l => ∃ v r l1 l2, vs = (k, v) :: r ∧ RepO F H o v l1 ∧ RepOF F H os r l2 ∧ l = l1 ++ l2
end
def RepE (F H : Hp) : Env → St → List Addr → Prop
  | [], σ, L => σ = [] ∧ L = []
  | none :: e, σ, L => ∃ x r, σ = x :: r ∧ RepE F H e r L
  | some o :: e, σ, L => ∃ v r l1 l2, σ = some v :: r ∧ RepO C K F H o v l1 ∧ RepE F H e r l2 ∧ L = l1 ++ l2
end

section
variable {C : Nat → Addr} {K : PySem.W.Frag} {F F' H H' : Hp}
theorem Sub.le (h : Sub F F') : Le F F' := fun a u e => .inl (h a u e)
theorem Le.refl (F : Hp) : Le F F := (Sub.refl F).le
theorem Le.at {u : HO} (h : Le F F') {a : Addr} (e : F a = some u) (n : ∀ kvs, u ≠ .dK kvs) : F' a = some u := by
  rcases h a u e with q | ⟨⟨kvs, q⟩, _⟩
  · exact q
  · exact absurd q (n kvs)
theorem Rd.le (h : Le F F') {a : Addr} {u : HO} (r : Rd F a u) : Rd F' a u := by
  rcases r with r | ⟨o, r⟩
  · rcases h _ _ r with q | ⟨_, o, q⟩
    · exact .inl q
    · exact .inr ⟨o, q⟩
  · exact .inr ⟨o, h.at r (fun kvs z => by cases z)⟩
theorem SqL.le (h : Le F F') {a : Addr} {xs : List V} (r : SqL K F a xs) : SqL K F' a xs := by
  rcases r with r | r
  · exact .inl (Rd.le h r)
  · exact .inr r
theorem SqT.le (h : Le F F') {a : Addr} {xs : List V} (r : SqT K F a xs) : SqT K F' a xs := by
  rcases r with r | r
  · exact .inl (Rd.le h r)
  · exact .inr r
mutual
theorem RepS.le (h : Le F F') : ∀ (d : D) (v : V), RepS C K F d v → RepS C K F' d v
  | .non, _, r => by simpa [RepS] using r
  | .bl _, _, r => by simpa [RepS] using r
  | .int _, _, r => by simpa [RepS] using r
  | .str _, _, r => by simpa [RepS] using r
  | .tup l, v, r => by
    simp only [RepS] at r ⊢
    obtain ⟨a, vs, e, q, t⟩ := r
    exact ⟨a, vs, e, SqT.le h q, RepSL.le h l vs t⟩
  | .lst l, v, r => by
    simp only [RepS] at r ⊢
    obtain ⟨a, vs, e, q, t⟩ := r
    exact ⟨a, vs, e, h.at q (fun kvs z => by cases z), RepSL.le h l vs t⟩
  | .dic l, v, r => by
    simp only [RepS] at r ⊢
    obtain ⟨a, vs, e, q, t⟩ := r
    exact ⟨a, vs, e, Rd.le h q, RepSK.le h l vs t⟩
  | .ins c l, v, r => by
    simp only [RepS] at r ⊢
    obtain ⟨a, dx, vs, e, q, t⟩ := r
    exact ⟨a, dx, vs, e, h.at q (fun kvs z => by cases z), RepSF.le h l vs t⟩
  | .scr l, v, r => by
    simp only [RepS] at r ⊢
    obtain ⟨a, e, q⟩ := r
    exact ⟨a, e, SqL.le h q⟩
  | .bad, _, _ => by simp [RepS]
theorem RepSL.le (h : Le F F') : ∀ (l : List D) (vs : List V), RepSL C K F l vs → RepSL C K F' l vs
  | [], _, r => by simpa [RepSL] using r
  | d :: l, vs, r => by
    simp only [RepSL] at r ⊢
    obtain ⟨v, s, e, q, t⟩ := r
    exact ⟨v, s, e, RepS.le h d v q, RepSL.le h l s t⟩
theorem RepSK.le (h : Le F F') : ∀ (l : List (Key × D)) (vs : List (Key × V)), RepSK C K F l vs → RepSK C K F' l vs
  | [], _, r => by simpa [RepSK] using r
  | (k, d) :: l, vs, r => by
    simp only [RepSK] at r ⊢
    obtain ⟨v, s, e, q, t⟩ := r
    exact ⟨v, s, e, RepS.le h d v q, RepSK.le h l s t⟩
theorem RepSF.le (h : Le F F') : ∀ (l : List (Str × D)) (vs : List (Str × V)), RepSF C K F l vs → RepSF C K F' l vs
  | [], _, r => by simpa [RepSF] using r
  | (k, d) :: l, vs, r => by
    simp only [RepSF] at r ⊢
    obtain ⟨v, s, e, q, t⟩ := r
    exact ⟨v, s, e, RepS.le h d v q, RepSF.le h l s t⟩
end
mutual
theorem RepO.keep (h : Le F F') : ∀ (o : O) (v : V) (l : List Addr), (∀ a ∈ l, H' a = H a) → RepO C K F H o v l → RepO C K F' H' o v l
  | .fr d, v, l, k, r => by
    simp only [RepO] at r ⊢
    exact ⟨r.1, RepS.le h d v r.2⟩
  | .ol os, v, l, k, r => by
    simp only [RepO] at r ⊢
    obtain ⟨a, vs, r', e, q, t, rfl⟩ := r
    exact ⟨a, vs, r', e, by rw [k a (by simp)]; exact q, RepOL.keep h os vs r' (fun b hb => k b (by simp [hb])) t, rfl⟩
  | .ot os, v, l, k, r => by
    simp only [RepO] at r ⊢
    obtain ⟨a, vs, e, q, t⟩ := r
    exact ⟨a, vs, e, h.at q (fun kvs z => by cases z), RepOL.keep h os vs l k t⟩
  | .od os, v, l, k, r => by
    simp only [RepO] at r ⊢
    obtain ⟨a, vs, r', e, q, t, rfl⟩ := r
    exact ⟨a, vs, r', e, by rw [k a (by simp)]; exact q, RepOK.keep h os vs r' (fun b hb => k b (by simp [hb])) t, rfl⟩
  | .oi c os, v, l, k, r => by
    simp only [RepO] at r ⊢
    obtain ⟨a, dx, vs, r', e, q, t, rfl⟩ := r
    exact ⟨a, dx, vs, r', e, by rw [k a (by simp)]; exact q, RepOF.keep h os vs r' (fun b hb => k b (by simp [hb])) t, rfl⟩
theorem RepOL.keep (h : Le F F') : ∀ (os : List O) (vs : List V) (l : List Addr), (∀ a ∈ l, H' a = H a) → RepOL C K F H os vs l → RepOL C K F' H' os vs l
  | [], _, _, _, r => by simpa [RepOL] using r
  | o :: os, vs, l, k, r => by
    simp only [RepOL] at r ⊢
    obtain ⟨v, s, l1, l2, e, q, t, rfl⟩ := r
    exact ⟨v, s, l1, l2, e, RepO.keep h o v l1 (fun a ha => k a (by simp [ha])) q, RepOL.keep h os s l2 (fun a ha => k a (by simp [ha])) t, rfl⟩
theorem RepOK.keep (h : Le F F') : ∀ (os : List (Key × O)) (vs : List (Key × V)) (l : List Addr), (∀ a ∈ l, H' a = H a) → RepOK C K F H os vs l → RepOK C K F' H' os vs l
  | [], _, _, _, r => by simpa [RepOK] using r
  | (k0, o) :: os, vs, l, k, r => by
    simp only [RepOK] at r ⊢
    obtain ⟨v, s, l1, l2, e, q, t, rfl⟩ := r
    exact ⟨v, s, l1, l2, e, RepO.keep h o v l1 (fun a ha => k a (by simp [ha])) q, RepOK.keep h os s l2 (fun a ha => k a (by simp [ha])) t, rfl⟩
theorem RepOF.keep (h : Le F F') : ∀ (os : List (Str × O)) (vs : List (Str × V)) (l : List Addr), (∀ a ∈ l, H' a = H a) → RepOF C K F H os vs l → RepOF C K F' H' os vs l
  | [], _, _, _, r => by simpa [RepOF] using r
  | (k0, o) :: os, vs, l, k, r => by
    simp only [RepOF] at r ⊢
    obtain ⟨v, s, l1, l2, e, q, t, rfl⟩ := r
    exact ⟨v, s, l1, l2, e, RepO.keep h o v l1 (fun a ha => k a (by simp [ha])) q, RepOF.keep h os s l2 (fun a ha => k a (by simp [ha])) t, rfl⟩
end
mutual

theorem RepO.frz (h : Le F F') : ∀ (o : O) (v : V) (l : List Addr), (∀ a ∈ l, F' a = H a) → RepO C K F H o v l → RepS C K F' o.frz v
  | .fr d, v, l, k, r => by
    simp only [RepO] at r
    simp only [O.frz]
    exact RepS.le h d v r.2
  | .ol os, v, l, k, r => by
    simp only [RepO] at r
    simp only [O.frz, RepS]
    obtain ⟨a, vs, r', e, q, t, rfl⟩ := r
    exact ⟨a, vs, e, (by rw [k a (by simp)]; exact q), RepOL.frz h os vs r' (fun b hb => k b (by simp [hb])) t⟩
  | .ot os, v, l, k, r => by
    simp only [RepO] at r
    simp only [O.frz, RepS]
    obtain ⟨a, vs, e, q, t⟩ := r
    exact ⟨a, vs, e, .inl (.inl (h.at q (fun kvs z => by cases z))), RepOL.frz h os vs l k t⟩
  | .od os, v, l, k, r => by
    simp only [RepO] at r
    simp only [O.frz, RepS]
    obtain ⟨a, vs, r', e, q, t, rfl⟩ := r
    exact ⟨a, vs, e, .inl (by rw [k a (by simp)]; exact q), RepOK.frz h os vs r' (fun b hb => k b (by simp [hb])) t⟩
  | .oi c os, v, l, k, r => by
    simp only [RepO] at r
    simp only [O.frz, RepS]
    obtain ⟨a, dx, vs, r', e, q, t, rfl⟩ := r
    exact ⟨a, dx, vs, e, (by rw [k a (by simp)]; exact q), RepOF.frz h os vs r' (fun b hb => k b (by simp [hb])) t⟩
theorem RepOL.frz (h : Le F F') : ∀ (os : List O) (vs : List V) (l : List Addr), (∀ a ∈ l, F' a = H a) → RepOL C K F H os vs l → RepSL C K F' (frzL os) vs
  | [], _, _, _, r => by
    simp only [RepOL] at r
    simpa [RepSL, frzL] using r.1
  | o :: os, vs, l, k, r => by
    simp only [RepOL] at r
    simp only [frzL, RepSL]
    obtain ⟨v, s, l1, l2, e, q, t, rfl⟩ := r
    exact ⟨v, s, e, RepO.frz h o v l1 (fun a ha => k a (by simp [ha])) q, RepOL.frz h os s l2 (fun a ha => k a (by simp [ha])) t⟩
theorem RepOK.frz (h : Le F F') : ∀ (os : List (Key × O)) (vs : List (Key × V)) (l : List Addr), (∀ a ∈ l, F' a = H a) → RepOK C K F H os vs l → RepSK C K F' (frzK os) vs
  | [], _, _, _, r => by
    simp only [RepOK] at r
    simpa [RepSK, frzK] using r.1
  | (k0, o) :: os, vs, l, k, r => by
    simp only [RepOK] at r
    simp only [frzK, RepSK]
    obtain ⟨v, s, l1, l2, e, q, t, rfl⟩ := r
    exact ⟨v, s, e, RepO.frz h o v l1 (fun a ha => k a (by simp [ha])) q, RepOK.frz h os s l2 (fun a ha => k a (by simp [ha])) t⟩
theorem RepOF.frz (h : Le F F') : ∀ (os : List (Str × O)) (vs : List (Str × V)) (l : List Addr), (∀ a ∈ l, F' a = H a) → RepOF C K F H os vs l → RepSF C K F' (frzF os) vs
  | [], _, _, _, r => by
    simp only [RepOF] at r
    simpa [RepSF, frzF] using r.1
  | (k0, o) :: os, vs, l, k, r => by
    simp only [RepOF] at r
    simp only [frzF, RepSF]
    obtain ⟨v, s, l1, l2, e, q, t, rfl⟩ := r
    exact ⟨v, s, e, RepO.frz h o v l1 (fun a ha => k a (by simp [ha])) q, RepOF.frz h os s l2 (fun a ha => k a (by simp [ha])) t⟩
end

def Own : Option HO → Prop
  | some (.lst _) => True
  | some (.dK _) => True
  | some (.ins _ _ _) => True
  | _ => False
mutual
theorem RepO.own : ∀ (o : O) (v : V) (l : List Addr), RepO C K F H o v l → ∀ a ∈ l, Own (H a)
  | .fr d, v, l, r => by
    simp only [RepO] at r
    intro a ha; rw [r.1] at ha; simp at ha
  | .ol os, v, l, r => by
    simp only [RepO] at r
    obtain ⟨a, vs, r', e, q, t, rfl⟩ := r
    intro b hb
    rcases List.mem_cons.mp hb with rfl | hb
    · rw [q]; trivial
    · exact RepOL.own os vs r' t b hb
  | .ot os, v, l, r => by
    simp only [RepO] at r
    obtain ⟨a, vs, e, q, t⟩ := r
    exact RepOL.own os vs l t
  | .od os, v, l, r => by
    simp only [RepO] at r
    obtain ⟨a, vs, r', e, q, t, rfl⟩ := r
    intro b hb
    rcases List.mem_cons.mp hb with rfl | hb
    · rw [q]; trivial
    · exact RepOK.own os vs r' t b hb
  | .oi c os, v, l, r => by
    simp only [RepO] at r
    obtain ⟨a, dx, vs, r', e, q, t, rfl⟩ := r
    intro b hb
    rcases List.mem_cons.mp hb with rfl | hb
    · rw [q]; trivial
    · exact RepOF.own os vs r' t b hb
theorem RepOL.own : ∀ (os : List O) (vs : List V) (l : List Addr), RepOL C K F H os vs l → ∀ a ∈ l, Own (H a)
  | [], _, _, r => by
    simp only [RepOL] at r
    intro a ha; rw [r.2] at ha; simp at ha
  | o :: os, vs, l, r => by
    simp only [RepOL] at r
    obtain ⟨v, s, l1, l2, e, q, t, rfl⟩ := r
    intro b hb
    rcases List.mem_append.mp hb with hb | hb
    · exact RepO.own o v l1 q b hb
    · exact RepOL.own os s l2 t b hb
theorem RepOK.own : ∀ (os : List (Key × O)) (vs : List (Key × V)) (l : List Addr), RepOK C K F H os vs l → ∀ a ∈ l, Own (H a)
  | [], _, _, r => by
    simp only [RepOK] at r
    intro a ha; rw [r.2] at ha; simp at ha
  | (k0, o) :: os, vs, l, r => by
    simp only [RepOK] at r
    obtain ⟨v, s, l1, l2, e, q, t, rfl⟩ := r
    intro b hb
    rcases List.mem_append.mp hb with hb | hb
    · exact RepO.own o v l1 q b hb
    · exact RepOK.own os s l2 t b hb
theorem RepOF.own : ∀ (os : List (Str × O)) (vs : List (Str × V)) (l : List Addr), RepOF C K F H os vs l → ∀ a ∈ l, Own (H a)
  | [], _, _, r => by
    simp only [RepOF] at r
    intro a ha; rw [r.2] at ha; simp at ha
  | (k0, o) :: os, vs, l, r => by
    simp only [RepOF] at r
    obtain ⟨v, s, l1, l2, e, q, t, rfl⟩ := r
    intro b hb
    rcases List.mem_append.mp hb with hb | hb
    · exact RepO.own o v l1 q b hb
    · exact RepOF.own os s l2 t b hb
end

theorem RepO.there {o : O} {v : V} {l : List Addr} (r : RepO C K F H o v l) : ∀ a ∈ l, H a ≠ none := fun a ha z => by
  have := RepO.own o v l r a ha
  rw [z] at this; exact this
end
end Cr
end

section
/-! The state between the heap and the slots. -/
namespace Cr
open PySem L2

section
variable (C : Nat → Addr) (K : PySem.W.Frag)
/-- F: what stands still; L: what the slots own; R: what others own -/
structure SR (F H : Hp) (σ : St) (env : Env) (L R : List Addr) : Prop where
  le : Le F H
  rep : RepE C K F H env σ L
  nd : (L ++ R).Nodup
  fn : ∀ a ∈ L ++ R, F a = none ∧ H a ≠ none
/-- a step that only makes new things, T2 owned -/
structure New (F H F' H' : Hp) (T : List Addr) : Prop where
  fe : Sub F F'
  le : Le F' H'
  same : ∀ a, H a ≠ none → H' a = H a
  fresh : ∀ a ∈ T, H a = none ∧ F' a = none ∧ H' a ≠ none
  nd : T.Nodup
  nf : ∀ a, H a ≠ none → F a = none → F' a = none
/-- an operand's value; T: what it owns -/
def HX (F H : Hp) (σ : St) (L T : List Addr) : Hd → V → Prop
  | .p d, v => T = [] ∧ RepS C K F d v
  | .t o, v => RepO C K F H o v T
  | .n i, v => T = [] ∧ σ[i]? = some (some v)
  | .io i, v => T = [] ∧ σ[i]? = some (some v)
  | .q o, v => T = [] ∧ ∃ l, (∀ a ∈ l, a ∈ L) ∧ RepO C K F H o v l
/-- behind a step -/
structure Pst (F H : Hp) (σ : St) (env : Env) (L R : List Addr) (F' H' : Hp) (env' : Env) (L' T : List Addr) (q : Bool) : Prop where
  sr : SR C K F' H' σ env' L' (T ++ R)
  fe : Sub F F'
  kp : ∀ a, (F a ≠ none ∨ a ∈ R) → H' a = H a
  qt : q = true → env' = env ∧ L' = L ∧ ∀ a ∈ L, H' a = H a
abbrev XP := Nat → D → Hp → Prop
/-- what an evaluation asks of what is wanted -/
def Out (XE : XP) (F H : Hp) (σ : St) (env : Env) (L R : List Addr) (q : Bool) (res : Res (Hd × Env)) (Q : VK) : Prop := match res with
  | .ok (h, env') => ∀ v F' H' L' T, Pst C K F H σ env L R F' H' env' L' T q → HX C K F' H' σ L' T h v → Q v H'
  | .ex c d env' => ∀ F' H' L', Pst C K F H σ env L R F' H' env' L' [] false → XE c d H'
  | .er => False
end

section
variable {C : Nat → Addr} {K : PySem.W.Frag} {F F' F1 F2 H H' H1 H2 : Hp} {σ : St} {env env1 env2 : Env} {L L1 L2 R T T1 T2 : List Addr} {q q1 q2 : Bool}

theorem RepE.len : ∀ {env : Env} {σ : St} {L : List Addr}, RepE C K F H env σ L → σ.length = env.length
  | [], σ, L, r => by
    simp only [RepE] at r
    simp [r.1]
  | none :: e, σ, L, r => by
    simp only [RepE] at r
    obtain ⟨x, s, rfl, t⟩ := r
    simp [RepE.len t]
  | some o :: e, σ, L, r => by
    simp only [RepE] at r
    obtain ⟨v, s, l1, l2, rfl, _, t, rfl⟩ := r
    simp [RepE.len t]
theorem RepE.keep (h : Le F F') : ∀ {env : Env} {σ : St} {L : List Addr}, (∀ a ∈ L, H' a = H a) → RepE C K F H env σ L → RepE C K F' H' env σ L
  | [], σ, L, k, r => by simpa [RepE] using r
  | none :: e, σ, L, k, r => by
    simp only [RepE] at r ⊢
    obtain ⟨x, s, e1, t⟩ := r
    exact ⟨x, s, e1, RepE.keep h k t⟩
  | some o :: e, σ, L, k, r => by
    simp only [RepE] at r ⊢
    obtain ⟨v, s, l1, l2, e1, q, t, rfl⟩ := r
    exact ⟨v, s, l1, l2, e1, RepO.keep h o v l1 (fun a ha => k a (by simp [ha])) q, RepE.keep h (fun a ha => k a (by simp [ha])) t, rfl⟩
theorem RepE.own : ∀ {env : Env} {σ : St} {L : List Addr}, RepE C K F H env σ L → ∀ a ∈ L, Own (H a)
  | [], σ, L, r => by
    simp only [RepE] at r
    intro a ha; rw [r.2] at ha; simp at ha
  | none :: e, σ, L, r => by
    simp only [RepE] at r
    obtain ⟨x, s, e1, t⟩ := r
    exact RepE.own t
  | some o :: e, σ, L, r => by
    simp only [RepE] at r
    obtain ⟨v, s, l1, l2, e1, q, t, rfl⟩ := r
    intro b hb
    rcases List.mem_append.mp hb with hb | hb
    · exact RepO.own o v l1 q b hb
    · exact RepE.own t b hb
/-- one slot, what it owns, and what may be put in its place -/
structure Cut (C : Nat → Addr) (K : PySem.W.Frag) (F H : Hp) (env : Env) (σ : St) (L : List Addr) (i : Nat) (La l Lb : List Addr) : Prop where
  eq : L = La ++ (l ++ Lb)
  non : env[i]? = some none → l = []
  at_ : ∀ o, env[i]? = some (some o) → ∃ v, σ[i]? = some (some v) ∧ RepO C K F H o v l
  put : ∀ (F' H' : Hp) (o : O) (v : V) (l' : List Addr), Le F F' → (∀ a ∈ La ++ Lb, H' a = H a) → RepO C K F' H' o v l' → RepE C K F' H' (env.set i (some o)) (σ.set i (some v)) (La ++ (l' ++ Lb))
  del : ∀ (F' H' : Hp), Le F F' → (∀ a ∈ La ++ Lb, H' a = H a) → RepE C K F' H' (env.set i none) σ (La ++ Lb)
theorem RepE.cut : ∀ {env : Env} {σ : St} {L : List Addr} {i : Nat}, RepE C K F H env σ L → i < env.length → ∃ La l Lb, Cut C K F H env σ L i La l Lb
  | [], σ, L, i, r, h => absurd h (by simp)
  | none :: e, σ, L, 0, r, h => by
    simp only [RepE] at r
    obtain ⟨x, s, rfl, t⟩ := r
    refine ⟨[], [], L, rfl, fun _ => rfl, fun o z => by simp at z, fun F' H' o v l' le k ro => ?_, fun F' H' le k => ?_⟩
    · simp only [List.set_cons_zero, RepE]
      exact ⟨v, s, l', L, rfl, ro, RepE.keep le (fun a ha => k a (by simpa using ha)) t, rfl⟩
    · simp only [List.set_cons_zero, RepE]
      exact ⟨x, s, rfl, RepE.keep le (fun a ha => k a (by simpa using ha)) t⟩
  | some o :: e, σ, L, 0, r, h => by
    simp only [RepE] at r
    obtain ⟨v, s, l1, l2, rfl, ro, t, rfl⟩ := r
    refine ⟨[], l1, l2, rfl, fun z => by simp at z, fun o' z => ?_, fun F' H' o' v' l' le k ro' => ?_, fun F' H' le k => ?_⟩
    · simp only [List.getElem?_cons_zero, Option.some.injEq] at z
      subst z
      exact ⟨v, rfl, ro⟩
    · simp only [List.set_cons_zero, RepE]
      exact ⟨v', s, l', l2, rfl, ro', RepE.keep le (fun a ha => k a (by simpa using ha)) t, rfl⟩
    · simp only [List.set_cons_zero, RepE]
      exact ⟨_, s, rfl, RepE.keep le (fun a ha => k a (by simpa using ha)) t⟩
  | none :: e, σ, L, i + 1, r, h => by
    simp only [RepE] at r
    obtain ⟨x, s, rfl, t⟩ := r
    obtain ⟨La, l, Lb, c⟩ := RepE.cut (i := i) t (by simpa using h)
    refine ⟨La, l, Lb, c.eq, fun z => c.non (by simpa using z), fun o z => ?_, fun F' H' o v l' le k ro => ?_, fun F' H' le k => ?_⟩
    · obtain ⟨v, hv, ro⟩ := c.at_ o (by simpa using z)
      exact ⟨v, by simpa using hv, ro⟩
    · simp only [List.set_cons_succ, RepE]
      exact ⟨x, _, rfl, c.put F' H' o v l' le k ro⟩
    · simp only [List.set_cons_succ, RepE]
      exact ⟨x, _, rfl, c.del F' H' le k⟩
  | some o :: e, σ, L, i + 1, r, h => by
    simp only [RepE] at r
    obtain ⟨v, s, l1, l2, rfl, ro, t, rfl⟩ := r
    obtain ⟨La, l, Lb, c⟩ := RepE.cut (i := i) t (by simpa using h)
    refine ⟨l1 ++ La, l, Lb, by rw [c.eq]; simp, fun z => c.non (by simpa using z), fun o' z => ?_, fun F' H' o' v' l' le k ro' => ?_, fun F' H' le k => ?_⟩
    · obtain ⟨v, hv, ro⟩ := c.at_ o' (by simpa using z)
      exact ⟨v, by simpa using hv, ro⟩
    · simp only [List.set_cons_succ, RepE]
      exact ⟨v, _, l1, _, rfl, RepO.keep le o v l1 (fun a ha => k a (by simp [ha])) ro, c.put F' H' o' v' l' le (fun a ha => k a (by simp only [List.append_assoc, List.mem_append] at ha ⊢; exact .inr ha)) ro', by simp⟩
    · simp only [List.set_cons_succ, RepE]
      exact ⟨v, _, l1, _, rfl, RepO.keep le o v l1 (fun a ha => k a (by simp [ha])) ro, c.del F' H' le (fun a ha => k a (by simp only [List.append_assoc, List.mem_append] at ha ⊢; exact .inr ha)), by simp⟩

theorem SR.len (s : SR C K F H σ env L R) : σ.length = env.length := s.rep.len
/-- others own less -/
theorem SR.less (s : SR C K F H σ env L R) (h : List.Sublist T R) : SR C K F H σ env L T :=
  ⟨s.le, s.rep, s.nd.sublist (List.Sublist.append_left h L), fun a ha => s.fn a (by
    rcases List.mem_append.mp ha with q | q
    · exact List.mem_append_left _ q
    · exact List.mem_append_right _ (h.subset q))⟩
theorem SR.cut (s : SR C K F H σ env L R) {i : Nat} (h : i < env.length) : ∃ La l Lb, Cut C K F H env σ L i La l Lb := s.rep.cut h
theorem New.refl (h : Le F H) : New F H F H [] := ⟨Sub.refl F, h, fun _ _ => rfl, fun _ z => by simp at z, List.nodup_nil, fun _ _ z => z⟩
theorem SR.new (s : SR C K F H σ env L R) (n : New F H F' H' T) : SR C K F' H' σ env L (T ++ R) := by
  refine ⟨n.le, RepE.keep n.fe.le (fun a ha => n.same a (s.fn a (List.mem_append_left _ ha)).2) s.rep, ?_, fun a ha => ?_⟩
  · have hd : ∀ a ∈ T, a ∉ L ++ R := fun a ha hb => (s.fn a hb).2 (n.fresh a ha).1
    have h1 : (T ++ (L ++ R)).Nodup := List.nodup_append.mpr ⟨n.nd, s.nd, fun a ha b hb e => hd a ha (e ▸ hb)⟩
    refine (List.Perm.nodup_iff ?_).mp h1
    rw [← List.append_assoc, ← List.append_assoc]
    exact List.Perm.append_right R List.perm_append_comm
  · rcases List.mem_append.mp ha with q | q
    · have := s.fn a (List.mem_append_left _ q)
      exact ⟨n.nf a this.2 this.1, by rw [n.same a this.2]; exact this.2⟩
    · rcases List.mem_append.mp q with q | q
      · exact ⟨(n.fresh a q).2.1, (n.fresh a q).2.2⟩
      · have := s.fn a (List.mem_append_right _ q)
        exact ⟨n.nf a this.2 this.1, by rw [n.same a this.2]; exact this.2⟩
theorem Pst.refl (s : SR C K F H σ env L R) : Pst C K F H σ env L R F H env L [] true := ⟨s, Sub.refl F, fun _ _ => rfl, fun _ => ⟨rfl, rfl, fun _ _ => rfl⟩⟩
theorem Pst.trans (p : Pst C K F H σ env L R F1 H1 env1 L1 T1 q1) (p2 : Pst C K F1 H1 σ env1 L1 (T1 ++ R) F2 H2 env2 L2 T2 q2) : Pst C K F H σ env L R F2 H2 env2 L2 (T2 ++ T1) (q1 && q2) := by
  refine ⟨by rw [List.append_assoc]; exact p2.sr, p.fe.trans p2.fe, fun a ha => ?_, fun hq => ?_⟩
  · rw [p2.kp a, p.kp a ha]
    rcases ha with ha | ha
    · left
      cases e : F a with
      | none => exact absurd e ha
      | some u => rw [p.fe a u e]; simp
    · right; simp [ha]
  · obtain ⟨h1, h2⟩ := (Bool.and_eq_true_iff).mp hq
    obtain ⟨a1, a2, a3⟩ := p.qt h1
    obtain ⟨b1, b2, b3⟩ := p2.qt h2
    exact ⟨b1.trans a1, b2.trans a2, fun a ha => by rw [b3 a (by rw [a2]; exact ha), a3 a ha]⟩
theorem Pst.less (p : Pst C K F H σ env L R F1 H1 env1 L1 T q) (h : List.Sublist T1 T) : Pst C K F H σ env L R F1 H1 env1 L1 T1 q :=
  ⟨p.sr.less (List.Sublist.append_right h R), p.fe, p.kp, p.qt⟩
theorem Pst.nil (p : Pst C K F H σ env L R F1 H1 env1 L1 T q) : Pst C K F H σ env L R F1 H1 env1 L1 [] q := p.less (List.nil_sublist _)
theorem Pst.qf (p : Pst C K F H σ env L R F1 H1 env1 L1 T q) : Pst C K F H σ env L R F1 H1 env1 L1 T false := ⟨p.sr, p.fe, p.kp, fun z => by cases z⟩
theorem Pst.q_of (p : Pst C K F H σ env L R F1 H1 env1 L1 T q) (h : q1 = true → q = true) : Pst C K F H σ env L R F1 H1 env1 L1 T q1 := ⟨p.sr, p.fe, p.kp, fun z => p.qt (h z)⟩
theorem Pst.new (p : Pst C K F H σ env L R F1 H1 env1 L1 T q) (n : New F1 H1 F2 H2 T2) : Pst C K F H σ env L R F2 H2 env1 L1 (T2 ++ T) q := by
  refine ⟨by rw [List.append_assoc]; exact p.sr.new n, p.fe.trans n.fe, fun a ha => ?_, fun hq => ?_⟩
  · have hn : H1 a ≠ none := by
      rcases ha with ha | ha
      · cases e : F a with
        | none => exact absurd e ha
        | some u => rcases p.sr.le a u (p.fe a u e) with z | ⟨_, o, z⟩ <;> rw [z] <;> simp
      · exact (p.sr.fn a (by simp [ha])).2
    rw [n.same a hn, p.kp a ha]
  · obtain ⟨a1, a2, a3⟩ := p.qt hq
    exact ⟨a1, a2, fun a ha => by rw [n.same a (p.sr.fn a (by rw [a2]; simp [ha])).2, a3 a ha]⟩
theorem Pst.newT (p : Pst C K F H σ env L R F1 H1 env1 L1 T q) (n : New F1 H1 F2 H2 T2) : Pst C K F H σ env L R F2 H2 env1 L1 T2 q := (p.new n).less (List.sublist_append_left _ _)
theorem HX.keep {h : Hd} {v : V} {L' : List Addr} (x : HX C K F H σ L T h v) (fe : Le F F') (k : ∀ a ∈ T, H' a = H a) (kq : h.isQ = true → L' = L ∧ ∀ a ∈ L, H' a = H a) : HX C K F' H' σ L' T h v := by
  cases h with
  | p d => exact ⟨x.1, RepS.le fe d v x.2⟩
  | t o => exact RepO.keep fe o v T k x
  | n i => exact x
  | io i => exact x
  | q o =>
    obtain ⟨e, l, hl, r⟩ := x
    obtain ⟨eL, kL⟩ := kq rfl
    exact ⟨e, l, by rw [eL]; exact hl, RepO.keep fe o v l (fun a ha => kL a (hl a ha)) r⟩
/-- an operand stays while a later one comes -/
theorem HX.next {h : Hd} {v : V} (x : HX C K F1 H1 σ L1 T1 h v) (p : Pst C K F1 H1 σ env1 L1 (T1 ++ R) F2 H2 env2 L2 T2 q) (hq : h.isQ = true → q = true) : HX C K F2 H2 σ L2 T1 h v :=
  x.keep p.fe.le (fun a ha => p.kp a (.inr (by simp [ha]))) fun z => (p.qt (hq z)).2
theorem getE {i : Nat} {o : O} (h : (env[i]?).join = some o) : env[i]? = some (some o) := by
  cases e : env[i]? with
  | none => rw [e] at h; cases h
  | some x =>
    rw [e] at h
    cases x with
    | none => cases h
    | some y => cases h; rfl
theorem SR.slot (s : SR C K F H σ env L R) {i : Nat} {o : O} (h : (env[i]?).join = some o) : ∃ v La l Lb, Cut C K F H env σ L i La l Lb ∧ σ[i]? = some (some v) ∧ RepO C K F H o v l := by
  have h1 := getE h
  obtain ⟨La, l, Lb, c⟩ := s.cut (List.getElem?_eq_some_iff.mp h1).1
  obtain ⟨v, hv, r⟩ := c.at_ o h1
  exact ⟨v, La, l, Lb, c, hv, r⟩
theorem Cut.mem {i : Nat} {La l Lb : List Addr} (c : Cut C K F H env σ L i La l Lb) : ∀ a ∈ l, a ∈ L := fun a ha => by
  rw [c.eq]; simp [ha]
/-- what an operand is -/
theorem HX.get {h : Hd} {v : V} {o : O} (x : HX C K F H σ L T h v) (s : SR C K F H σ env L R) (g : h.get env = some o) : ∃ l, RepO C K F H o v l ∧ ∀ a ∈ l, a ∈ L ∨ a ∈ T := by
  cases h with
  | p d =>
    cases g
    exact ⟨[], ⟨rfl, x.2⟩, fun a z => by simp at z⟩
  | t o' =>
    cases g
    exact ⟨T, x, fun a z => .inr z⟩
  | n i =>
    obtain ⟨v', La, l, Lb, c, hv, r⟩ := s.slot (show (env[i]?).join = some o from g)
    have e : v' = v := by
      have := hv.symm.trans x.2
      simpa using this
    subst e
    exact ⟨l, r, fun a z => .inl (c.mem a z)⟩
  | io i =>
    obtain ⟨v', La, l, Lb, c, hv, r⟩ := s.slot (show (env[i]?).join = some o from g)
    have e : v' = v := by
      have := hv.symm.trans x.2
      simpa using this
    subst e
    exact ⟨l, r, fun a z => .inl (c.mem a z)⟩
  | q o' =>
    cases g
    obtain ⟨_, l, hl, r⟩ := x
    exact ⟨l, r, fun a z => .inl (hl a z)⟩
/-- read off the heap -/
theorem RepO.read {o : O} {v : V} {l : List Addr} (le : Le F H) (r : RepO C K F H o v l) : RepS C K H o.frz v := RepO.frz le o v l (fun _ _ => rfl) r
end
end Cr
end

section
/-! Built-in operators on trees. -/
namespace Cr
open PySem L2

section
variable {C : Nat → Addr} {K : PySem.W.Frag} {F F' H H' : Hp}
theorem le_none (h : Le F H) {a : Addr} (n : H a = none) : F a = none := by
  cases e : F a with
  | none => rfl
  | some u =>
    rcases h a u e with q | ⟨_, o, q⟩
    · rw [n] at q; cases q
    · rw [n] at q; cases q
theorem RepSL.len : ∀ {ds : List D} {vs : List V}, RepSL C K F ds vs → vs.length = ds.length
  | [], vs, r => by simp only [RepSL] at r; simp [r]
  | d :: ds, vs, r => by
    simp only [RepSL] at r
    obtain ⟨v, s, rfl, _, t⟩ := r
    simp [RepSL.len t]
theorem RepSL.app : ∀ {ds es : List D} {vs ws : List V}, RepSL C K F ds vs → RepSL C K F es ws → RepSL C K F (ds ++ es) (vs ++ ws)
  | [], es, vs, ws, r, r2 => by simp only [RepSL] at r; simpa [r] using r2
  | d :: ds, es, vs, ws, r, r2 => by
    simp only [RepSL] at r
    obtain ⟨v, s, rfl, q, t⟩ := r
    simp only [List.cons_append, RepSL]
    exact ⟨v, s ++ ws, rfl, q, RepSL.app t r2⟩
theorem RepSL.nth : ∀ {ds : List D} {vs : List V} {i : Nat} {d : D}, RepSL C K F ds vs → ds[i]? = some d → ∃ v, vs[i]? = some v ∧ RepS C K F d v
  | [], vs, i, d, r, h => by simp at h
  | d0 :: ds, vs, 0, d, r, h => by
    simp only [RepSL] at r
    obtain ⟨v, s, rfl, q, t⟩ := r
    simp at h; subst h
    exact ⟨v, rfl, q⟩
  | d0 :: ds, vs, i + 1, d, r, h => by
    simp only [RepSL] at r
    obtain ⟨v, s, rfl, q, t⟩ := r
    obtain ⟨w, h1, h2⟩ := RepSL.nth (i := i) t (by simpa using h)
    exact ⟨w, by simpa using h1, h2⟩
theorem RepSL.drop : ∀ {ds : List D} {vs : List V} (n : Nat), RepSL C K F ds vs → RepSL C K F (ds.drop n) (vs.drop n)
  | ds, vs, 0, r => by simpa using r
  | [], vs, n + 1, r => by simp only [RepSL] at r; subst r; simp [RepSL]
  | d :: ds, vs, n + 1, r => by
    simp only [RepSL] at r
    obtain ⟨v, s, rfl, q, t⟩ := r
    simpa using RepSL.drop n t
theorem RepSL.take : ∀ {ds : List D} {vs : List V} (n : Nat), RepSL C K F ds vs → RepSL C K F (ds.take n) (vs.take n)
  | ds, vs, 0, r => by simp [RepSL]
  | [], vs, n + 1, r => by simp only [RepSL] at r; subst r; simp [RepSL]
  | d :: ds, vs, n + 1, r => by
    simp only [RepSL] at r
    obtain ⟨v, s, rfl, q, t⟩ := r
    simp only [List.take_succ_cons, RepSL]
    exact ⟨v, _, rfl, q, RepSL.take n t⟩
theorem RepSL.rep {ds : List D} {vs : List V} (r : RepSL C K F ds vs) : ∀ n : Nat, RepSL C K F (List.replicate n ds).flatten (List.replicate n vs).flatten
  | 0 => by simp [RepSL]
  | n + 1 => by
    simp only [List.replicate_succ, List.flatten_cons]
    exact r.app (RepSL.rep r n)
theorem RepSL.set : ∀ {ds : List D} {vs : List V} {d : D} {v : V} (i : Nat), RepSL C K F ds vs → RepS C K F d v → RepSL C K F (ds.set i d) (vs.set i v)
  | [], vs, d, v, i, r, h => by simp only [RepSL] at r; subst r; simp [RepSL]
  | d0 :: ds, vs, d, v, 0, r, h => by
    simp only [RepSL] at r
    obtain ⟨w, s, rfl, q, t⟩ := r
    simp only [List.set_cons_zero, RepSL]
    exact ⟨v, s, rfl, h, t⟩
  | d0 :: ds, vs, d, v, i + 1, r, h => by
    simp only [RepSL] at r
    obtain ⟨w, s, rfl, q, t⟩ := r
    simp only [List.set_cons_succ, RepSL]
    exact ⟨w, _, rfl, q, RepSL.set i t h⟩
theorem RepOL.leafs : ∀ {os : List O} {vs : List V} {l : List Addr} {ds : List D}, RepOL C K F H os vs l → leafs os = some ds → l = [] ∧ RepSL C K F ds vs
  | [], vs, l, ds, r, h => by
    simp only [RepOL] at r
    simp only [Cr.leafs, Option.some.injEq] at h
    subst h
    exact ⟨r.2, by simp only [RepSL]; exact r.1⟩
  | o :: os, vs, l, ds, r, h => by
    simp only [RepOL] at r
    obtain ⟨v, s, l1, l2, rfl, q, t, rfl⟩ := r
    cases o with
    | fr d =>
      simp only [Cr.leafs] at h
      cases e : Cr.leafs os with
      | none => rw [e] at h; cases h
      | some es =>
        rw [e] at h
        simp only [Option.map_some, Option.some.injEq] at h
        subst h
        obtain ⟨e2, t2⟩ := RepOL.leafs t e
        simp only [RepO] at q
        exact ⟨by rw [q.1, e2]; rfl, by simp only [RepSL]; exact ⟨v, s, rfl, q.2, t2⟩⟩
    | _ => cases h
theorem leafs_map : ∀ ds : List D, leafs (ds.map .fr) = some ds
  | [] => rfl
  | d :: ds => by simp [leafs, leafs_map ds]
theorem RepSL.own (H : Hp) : ∀ {ds : List D} {vs : List V}, RepSL C K F ds vs → RepOL C K F H (ds.map .fr) vs []
  | [], vs, r => by
    simp only [RepSL] at r
    simp [RepOL, r]
  | d :: ds, vs, r => by
    simp only [RepSL] at r
    obtain ⟨v, s, rfl, q, t⟩ := r
    simp only [List.map_cons, RepOL]
    exact ⟨v, s, [], [], rfl, ⟨rfl, q⟩, RepSL.own H t, rfl⟩
/-- a list or a tuple whose items stand still -/
theorem RepO.items {o : O} {v : V} {l : List Addr} {b : Bool} {ds : List D} (le : Le F H) (r : RepO C K F H o v l) (h : o.items = some (b, ds)) :
    ∃ a vs, v = .ref a ∧ RepSL C K F ds vs ∧ ((b = false ∧ H a = some (.lst vs)) ∨ (b = true ∧ SqT K H a vs)) := by
  unfold O.items at h
  split at h
  · simp only [Option.some.injEq, Prod.mk.injEq] at h
    obtain ⟨rfl, rfl⟩ := h
    simp only [RepO, RepS] at r
    obtain ⟨_, a, vs, e, q, t⟩ := r
    exact ⟨a, vs, e, t, .inl ⟨rfl, le.at q (fun _ z => by cases z)⟩⟩
  · simp only [Option.some.injEq, Prod.mk.injEq] at h
    obtain ⟨rfl, rfl⟩ := h
    simp only [RepO, RepS] at r
    obtain ⟨_, a, vs, e, q, t⟩ := r
    exact ⟨a, vs, e, t, .inr ⟨rfl, SqT.le le q⟩⟩
  · rename_i os
    cases e : leafs os with
    | none => rw [e] at h; cases h
    | some es =>
      rw [e] at h
      simp only [Option.map_some, Option.some.injEq, Prod.mk.injEq] at h
      obtain ⟨rfl, rfl⟩ := h
      simp only [RepO] at r
      obtain ⟨a, vs, r', e1, q, t, _⟩ := r
      exact ⟨a, vs, e1, (t.leafs e).2, .inl ⟨rfl, q⟩⟩
  · rename_i os
    cases e : leafs os with
    | none => rw [e] at h; cases h
    | some es =>
      rw [e] at h
      simp only [Option.map_some, Option.some.injEq, Prod.mk.injEq] at h
      obtain ⟨rfl, rfl⟩ := h
      simp only [RepO] at r
      obtain ⟨a, vs, e1, q, t⟩ := r
      exact ⟨a, vs, e1, (t.leafs e).2, .inr ⟨rfl, .inl (.inl (le.at q (fun _ z => by cases z)))⟩⟩
  · cases h
theorem RepSL_ints : ∀ l : List Int, RepSL C K F (l.map .int) (l.map V.int)
  | [] => by simp [RepSL]
  | i :: l => by
    simp only [List.map_cons, RepSL]
    exact ⟨_, _, rfl, by simp [RepS], RepSL_ints l⟩
theorem RepSL.ints : ∀ {ds : List D} {vs : List V} {l : List Int}, RepSL C K F ds vs → ds = l.map .int → vs = l.map V.int
  | [], vs, l, r, h => by
    simp only [RepSL] at r
    subst r
    cases l with
    | nil => rfl
    | cons => cases h
  | d :: ds, vs, l, r, h => by
    simp only [RepSL] at r
    obtain ⟨v, s, rfl, q, t⟩ := r
    cases l with
    | nil => cases h
    | cons i l =>
      simp only [List.map_cons, List.cons.injEq] at h
      obtain ⟨rfl, h⟩ := h
      simp only [RepS] at q
      rw [q, RepSL.ints t h]
      rfl
/-- .. or the script -/
theorem RepO.walk {o : O} {v : V} {l : List Addr} {b : Bool} {ds : List D} (le : Le F H) (r : RepO C K F H o v l) (h : o.walk = some (b, ds)) :
    ∃ a vs, v = .ref a ∧ RepSL C K F ds vs ∧ ((b = false ∧ SqL K H a vs) ∨ (b = true ∧ SqT K H a vs)) := by
  unfold O.walk at h
  split at h
  · simp only [Option.some.injEq, Prod.mk.injEq] at h
    obtain ⟨rfl, rfl⟩ := h
    simp only [RepO, RepS] at r
    obtain ⟨_, a, e, q⟩ := r
    exact ⟨a, _, e, RepSL_ints _, .inl ⟨rfl, SqL.le le q⟩⟩
  · obtain ⟨a, vs, e, t, q⟩ := RepO.items le r h
    refine ⟨a, vs, e, t, ?_⟩
    rcases q with ⟨q1, q2⟩ | q
    · exact .inl ⟨q1, .inl (.inl q2)⟩
    · exact .inr q
/-- what an operator's answer asks -/
def Fin (C : Nat → Addr) (K : PySem.W.Frag) (F H : Hp) (o : O) (Q : VK) : Prop := ∀ v F' H' T, New F H F' H' T → RepO C K F' H' o v T → Q v H'
theorem Fin.d {d : D} {Q : VK} {v : V} (f : Fin C K F H (.fr d) Q) (le : Le F H) (r : RepS C K F d v) : Q v H := f v F H [] (New.refl le) ⟨rfl, r⟩
theorem New.lst {p : Addr} {vs : List V} (le : Le F H) (hp : H p = none) : New F H F (upd H p (.lst vs)) [p] := by
  refine ⟨Sub.refl F, fun a u e => ?_, fun a ha => upd_ne (fun z => ha (z ▸ hp)), fun a ha => ?_, by simp, fun a _ h => h⟩
  · have hne : a ≠ p := fun z => by rw [z, le_none le hp] at e; cases e
    rw [upd_ne hne]; exact le a u e
  · have e : a = p := by simpa using ha
    subst e
    exact ⟨hp, le_none le hp, by rw [upd_same]; simp⟩
theorem New.tup {p : Addr} {vs : List V} (le : Le F H) (hp : H p = none) : New F H (upd F p (.tup vs)) (upd H p (.tup vs)) [] := by
  have hF := le_none le hp
  refine ⟨fun a u e => ?_, fun a u e => ?_, fun a ha => upd_ne (fun z => ha (z ▸ hp)), fun a ha => by simp at ha, by simp, fun a h1 h2 => ?_⟩
  · rw [upd_ne (fun z => by rw [z, hF] at e; cases e)]; exact e
  · by_cases hz : a = p
    · subst hz
      rw [upd_same] at e ⊢
      exact .inl e
    · rw [upd_ne hz] at e ⊢
      exact le a u e
  · rw [upd_ne (fun z => h1 (by rw [z]; exact hp))]; exact h2
theorem Fin.lst {ds : List D} {vs : List V} {Q : VK} (f : Fin C K F H (.ol (ds.map .fr)) Q) (le : Le F H) (r : RepSL C K F ds vs) : ∀ p, H p = none → Q (.ref p) (upd H p (.lst vs)) := fun p hp =>
  f (.ref p) F _ [p] (New.lst le hp) (by
    simp only [RepO]
    exact ⟨p, vs, [], rfl, upd_same, r.own _, rfl⟩)
theorem Fin.tup {ds : List D} {vs : List V} {Q : VK} (f : Fin C K F H (.fr (.tup ds)) Q) (le : Le F H) (r : RepSL C K F ds vs) : ∀ p, H p = none → Q (.ref p) (upd H p (.tup vs)) := fun p hp =>
  f (.ref p) _ _ [] (New.tup (vs := vs) le hp) (by
    simp only [RepO, RepS]
    exact ⟨trivial, p, vs, rfl, .inl (.inl upd_same), RepSL.le (New.tup (vs := vs) le hp).fe.le _ _ r⟩)
theorem Fin.tupAt {ds : List D} {vs : List V} {Q : VK} {a : Addr} (f : Fin C K F H (.fr (.tup ds)) Q) (le : Le F H) (r : RepSL C K F ds vs) (h : SqT K F a vs) : Q (.ref a) H :=
  f.d le (by simp only [RepS]; exact ⟨a, vs, rfl, h, r⟩)
/-- a tuple of things that stand still stands still -/
theorem RepO.tupF {o : O} {v : V} {l : List Addr} {ds : List D} (r : RepO C K F H o v l) (h : o.items = some (true, ds)) : RepS C K F (.tup ds) v := by
  unfold O.items at h
  split at h
  · cases h
  · simp only [Option.some.injEq, Prod.mk.injEq] at h
    obtain ⟨_, rfl⟩ := h
    exact r.2
  · rename_i os
    cases e : leafs os with
    | none => rw [e] at h; cases h
    | some es => rw [e] at h; cases h
  · rename_i os
    cases e : leafs os with
    | none => rw [e] at h; cases h
    | some es =>
      rw [e] at h
      simp only [Option.map_some, Option.some.injEq, Prod.mk.injEq] at h
      obtain ⟨_, rfl⟩ := h
      simp only [RepO] at r
      obtain ⟨a, vs, e1, q, t⟩ := r
      simp only [RepS]
      exact ⟨a, vs, e1, .inl (.inl q), (t.leafs e).2⟩
  · cases h
end

section
variable {X : Cx} {C : Nat → Addr}
def rBin (C : Nat → Addr) (K : PySem.W.Frag) (op : Operator) : R2 := fun x y H Q => ∃ F ox oy o lx ly, Le F H ∧ RepO C K F H ox x lx ∧ RepO C K F H oy y ly ∧ binO op ox oy = some o ∧ Fin C K F H o Q
theorem str_len (a b : Str) : (a ++ b).length = a.length + b.length := by
  show (a.cps ++ b.cps).size = _
  rw [Array.size_append]; rfl
theorem str_ok {a b : Str} (h : PyData.canLay0 (.str a) = true) (h' : PyData.canLay0 (.str b) = true) : PyData.canLay0 (.str (a ++ b)) = true := by
  simp only [PyData.canLay0, PyData.strOk, Array.all_eq_true_iff_forall_mem] at h h' ⊢
  intro x hx
  rcases Array.mem_append.mp (show x ∈ a.cps ++ b.cps from hx) with q | q
  · exact h x q
  · exact h' x q
theorem line_eq : sizeLine = 16777216 := sizeLine_eq
theorem op_mulB : OpR X (binaryOp .Mult) (fun x y H Q => ∃ i j, x = .int i ∧ y = .int j ∧ bigOk i j = true ∧ Q (.int (i * j)) H) := by
  intro pins s σ H x y v u Q I rx ry h
  obtain ⟨i, j, rfl, rfl, hb, q⟩ := h
  unfold bigOk at hb
  simp only [Bool.or_eq_true, decide_eq_true_eq] at hb
  rcases hb with (hb | hb) | hb
  · exact op_mul pins s σ H _ _ v u Q I rx ry ⟨i, j, rfl, rfl, .inl ⟨by omega, by omega⟩, q⟩
  · exact op_mul pins s σ H _ _ v u Q I rx ry ⟨i, j, rfl, rfl, .inr ⟨by omega, by omega⟩, q⟩
  · exact op_mulW pins s σ H _ _ v u Q I rx ry ⟨i, j, rfl, rfl, hb, q⟩
theorem int_of {C : Nat → Addr} {K : PySem.W.Frag} {F H : Hp} {i : Int} {v : V} {l : List Addr} (r : RepO C K F H (.fr (.int i)) v l) : v = .int i := by
  simpa [RepO, RepS] using r.2
theorem op_bin {op : Operator} : OpR X (binaryOp op) (rBin C X.K op) := by
  intro pins s σ H x y v u Q I rx ry h
  obtain ⟨F, ox, oy, o, lx, ly, le, r1, r2, hb, f⟩ := h
  unfold binO at hb
  split at hb
  · cases hb
    have e1 := int_of r1
    have e2 := int_of r2
    subst e1 e2
    exact op_add pins s σ H _ _ v u Q I rx ry ⟨_, _, rfl, rfl, f.d le (by simp [RepS])⟩
  · cases hb
    have e1 := int_of r1
    have e2 := int_of r2
    subst e1 e2
    exact op_sub pins s σ H _ _ v u Q I rx ry ⟨_, _, rfl, rfl, f.d le (by simp [RepS])⟩
  · split at hb
    · rename_i hk
      cases hb
      have e1 := int_of r1
      have e2 := int_of r2
      subst e1 e2
      exact op_mulB pins s σ H _ _ v u Q I rx ry ⟨_, _, rfl, rfl, hk, f.d le (by simp [RepS])⟩
    · cases hb
  · split at hb
    · rename_i hk
      cases hb
      simp only [Bool.and_eq_true, decide_eq_true_eq] at hk
      have e1 := int_of r1
      have e2 := int_of r2
      subst e1 e2
      exact op_fdivW pins s σ H _ _ v u Q I rx ry ⟨_, _, rfl, rfl, ⟨hk.1, hk.2⟩, f.d le (by simp [RepS])⟩
    · cases hb
  · split at hb
    · rename_i hk
      cases hb
      simp only [decide_eq_true_eq] at hk
      have e1 := int_of r1
      have e2 := int_of r2
      subst e1 e2
      exact op_mod pins s σ H _ _ v u Q I rx ry ⟨_, _, rfl, rfl, hk, f.d le (by simp [RepS])⟩
    · cases hb
  · split at hb
    · rename_i hk
      cases hb
      simp only [Bool.and_eq_true, decide_eq_true_eq] at hk
      have e1 := int_of r1
      have e2 := int_of r2
      subst e1 e2
      exact op_pow pins s σ H _ _ v u Q I rx ry ⟨_, _, rfl, rfl, ⟨hk.1.1, hk.1.2, by have := hk.2; omega⟩, f.d le (by simp [RepS])⟩
    · cases hb
  · split at hb
    · rename_i hk
      cases hb
      have hk := of_decide_eq_true hk
      simp only [RepO, RepS] at r1 r2
      obtain ⟨_, rfl, _, z1⟩ := r1
      obtain ⟨_, rfl, _, z2⟩ := r2
      refine op_add_str pins s σ H _ _ v u Q I rx ry ⟨_, _, rfl, rfl, by rw [line_eq]; exact hk, f.d le ?_⟩
      simp only [RepS]
      exact ⟨trivial, by rw [str_len, line_eq]; exact hk, str_ok z1 z2⟩
    · cases hb
  · split at hb
    · rename_i e1 e2
      split at hb
      · rename_i hk
        cases hb
        have hk := of_decide_eq_true hk
        obtain ⟨a, vs, rfl, t1, q1⟩ := r1.items le e1
        obtain ⟨b, ws, rfl, t2, q2⟩ := r2.items le e2
        simp only [true_and, Bool.false_eq_true, false_and, or_false] at q1 q2
        exact op_cat pins s σ H _ _ v u Q I rx ry ⟨a, b, vs, ws, rfl, rfl, q1, q2, by rw [t1.len, t2.len, line_eq]; exact hk, f.lst le (t1.app t2)⟩
      · cases hb
    · rename_i e1 e2
      split at hb
      · rename_i hk
        cases hb
        have hk := of_decide_eq_true hk
        have s1 := r1.tupF e1
        have s2 := r2.tupF e2
        simp only [RepS] at s1 s2
        obtain ⟨a, vs, rfl, p1, t1⟩ := s1
        obtain ⟨b, ws, rfl, p2, t2⟩ := s2
        refine op_catA pins s σ H _ _ v u Q I rx ry ⟨a, b, vs, ws, rfl, rfl, SqT.le le p1, SqT.le le p2, by rw [t1.len, t2.len, line_eq]; exact hk, fun z => ?_, fun _ z => ?_, fun _ _ => f.tup le (t1.app t2)⟩
        · refine f.tupAt le ?_ p2
          have := t1.app t2
          rw [z] at this
          simpa using this
        · refine f.tupAt le ?_ p1
          have := t1.app t2
          rw [z] at this
          simpa using this
      · cases hb
    · cases hb
  · split at hb
    · rename_i e1
      split at hb
      · rename_i hk
        cases hb
        simp only [Bool.and_eq_true, decide_eq_true_eq] at hk
        obtain ⟨⟨h1, h2⟩, h3⟩ := hk
        have h3 := of_decide_eq_true h3
        obtain ⟨a, vs, rfl, t1, q1⟩ := r1.items le e1
        have e2 := int_of r2
        subst e2
        simp only [true_and, Bool.false_eq_true, false_and, or_false] at q1
        exact op_rep pins s σ H _ _ v u Q I rx ry ⟨a, _, vs, rfl, rfl, q1, by omega, by omega, by rw [t1.len, line_eq]; exact h3, f.lst le (t1.rep _)⟩
      · cases hb
    · cases hb
  · cases hb
end
end Cr
end

section
/-! Comparisons, places, built-in functions on trees. -/
namespace Cr
open PySem L2

mutual
def toP : D → PyData
  | .non => .none
  | .bl b => .bool b
  | .int i => .int i
  | .str s => .str s
  | .tup l => .tuple (toPL l)
  | .lst l => .list (toPL l)
  | _ => .none
def toPL : List D → List PyData
  | [] => []
  | d :: l => toP d :: toPL l
end
mutual
theorem eqv_toP : ∀ (n m : Nat) (a b : D), shp n a = true → shp m b = true → PyData.eqv (toP a) (toP b) = eqD a b
  | n, m, .non, b, ha, hb => by cases b <;> first | (simp [toP, PyData.eqv, eqD]; done) | (simp [shp] at hb)
  | n, m, .bl _, b, ha, hb => by cases b <;> first | (simp [toP, PyData.eqv, eqD]; done) | (simp [shp] at hb)
  | n, m, .int _, b, ha, hb => by cases b <;> first | (simp [toP, PyData.eqv, eqD]; done) | (simp [shp] at hb)
  | n, m, .str _, b, ha, hb => by cases b <;> first | (simp [toP, PyData.eqv, eqD]; done) | (simp [shp] at hb)
  | n, m, .tup l, b, ha, hb => by
    cases n with
    | zero => simp [shp] at ha
    | succ n =>
      cases b <;> first | (simp [toP, PyData.eqv, eqD]; done) | (simp [shp] at hb; done) | skip
      cases m with
      | zero => simp [shp] at hb
      | succ m =>
        simp only [shp] at ha hb
        simp only [toP, PyData.eqv, eqD]
        exact eqv_toPL n m l _ ha hb
  | n, m, .lst l, b, ha, hb => by
    cases n with
    | zero => simp [shp] at ha
    | succ n =>
      cases b <;> first | (simp [toP, PyData.eqv, eqD]; done) | (simp [shp] at hb; done) | skip
      cases m with
      | zero => simp [shp] at hb
      | succ m =>
        simp only [shp] at ha hb
        simp only [toP, PyData.eqv, eqD]
        exact eqv_toPL n m l _ ha hb
  | n, m, .dic _, b, ha, hb => by cases n <;> simp [shp] at ha
  | n, m, .ins _ _, b, ha, hb => by cases n <;> simp [shp] at ha
  | n, m, .scr _, b, ha, hb => by cases n <;> simp [shp] at ha
  | n, m, .bad, b, ha, hb => by cases n <;> simp [shp] at ha
theorem eqv_toPL : ∀ (n m : Nat) (a b : List D), shpL n a = true → shpL m b = true → PyData.eqvAll (toPL a) (toPL b) = eqDL a b
  | n, m, [], [], _, _ => by simp [toPL, PyData.eqvAll, eqDL]
  | n, m, [], b :: bs, _, _ => by simp [toPL, PyData.eqvAll, eqDL]
  | n, m, a :: as, [], _, _ => by simp [toPL, PyData.eqvAll, eqDL]
  | n, m, a :: as, b :: bs, ha, hb => by
    simp only [shpL, Bool.and_eq_true] at ha hb
    simp only [toPL, PyData.eqvAll, eqDL]
    rw [eqv_toP n m a b ha.1 hb.1, eqv_toPL n m as bs ha.2 hb.2]
end
mutual
theorem depth_toP : ∀ (n : Nat) (a : D), shp n a = true → (toP a).depth ≤ n
  | n, .non, _ => by simp [toP, PyData.depth]
  | n, .bl _, _ => by simp [toP, PyData.depth]
  | n, .int _, _ => by simp [toP, PyData.depth]
  | n, .str _, _ => by simp [toP, PyData.depth]
  | 0, .tup l, h => by simp [shp] at h
  | n + 1, .tup l, h => by
    simp only [shp] at h
    simp only [toP, PyData.depth]
    exact Nat.succ_le_succ (depth_toPL n l h)
  | 0, .lst l, h => by simp [shp] at h
  | n + 1, .lst l, h => by
    simp only [shp] at h
    simp only [toP, PyData.depth]
    exact Nat.succ_le_succ (depth_toPL n l h)
  | n, .dic _, h => by cases n <;> simp [shp] at h
  | n, .ins _ _, h => by cases n <;> simp [shp] at h
  | n, .scr _, h => by cases n <;> simp [shp] at h
  | n, .bad, h => by cases n <;> simp [shp] at h
theorem depth_toPL : ∀ (n : Nat) (a : List D), shpL n a = true → PyData.depthAll (toPL a) ≤ n
  | n, [], _ => by simp [toPL, PyData.depthAll]
  | n, a :: as, h => by
    simp only [shpL, Bool.and_eq_true] at h
    simp only [toPL, PyData.depthAll]
    exact Nat.max_le.mpr ⟨depth_toP n a h.1, depth_toPL n as h.2⟩
end
section
variable {C : Nat → Addr} {K : PySem.W.Frag} {H : Hp}
mutual
theorem dp_of : ∀ (n : Nat) (d : D) (v : V), shp n d = true → RepS C K H d v → Dp K H v (toP d) ∧ (toP d).canLay0 = true
  | n, .non, v, h, r => by simp only [RepS] at r; subst r; exact ⟨.non, by simp [toP, PyData.canLay0]⟩
  | n, .bl _, v, h, r => by simp only [RepS] at r; subst r; exact ⟨.bl _, by simp [toP, PyData.canLay0]⟩
  | n, .int _, v, h, r => by simp only [RepS] at r; subst r; exact ⟨.int _, by simp [toP, PyData.canLay0]⟩
  | n, .str _, v, h, r => by simp only [RepS] at r; obtain ⟨rfl, _, z⟩ := r; exact ⟨.str _, by simp only [toP]; exact z⟩
  | 0, .tup l, v, h, r => by simp [shp] at h
  | n + 1, .tup l, v, h, r => by
    simp only [shp] at h
    simp only [RepS] at r
    obtain ⟨a, vs, rfl, q, t⟩ := r
    obtain ⟨t1, t2⟩ := dpL_of n l vs h t
    exact ⟨.tup q t1, by simp only [toP, PyData.canLay0]; exact t2⟩
  | 0, .lst l, v, h, r => by simp [shp] at h
  | n + 1, .lst l, v, h, r => by
    simp only [shp] at h
    simp only [RepS] at r
    obtain ⟨a, vs, rfl, q, t⟩ := r
    obtain ⟨t1, t2⟩ := dpL_of n l vs h t
    exact ⟨.lst (SqL.of q) t1, by simp only [toP, PyData.canLay0]; exact t2⟩
  | n, .dic _, v, h, r => by cases n <;> simp [shp] at h
  | n, .ins _ _, v, h, r => by cases n <;> simp [shp] at h
  | n, .scr _, v, h, r => by cases n <;> simp [shp] at h
  | n, .bad, v, h, r => by cases n <;> simp [shp] at h
theorem dpL_of : ∀ (n : Nat) (d : List D) (v : List V), shpL n d = true → RepSL C K H d v → DpAll K H v (toPL d) ∧ PyData.canLayAll0 (toPL d) = true
  | n, [], v, h, r => by simp only [RepSL] at r; subst r; exact ⟨.nil, by simp [toPL, PyData.canLayAll0]⟩
  | n, d :: ds, v, h, r => by
    simp only [shpL, Bool.and_eq_true] at h
    simp only [RepSL] at r
    obtain ⟨w, s, rfl, q, t⟩ := r
    obtain ⟨a1, a2⟩ := dp_of n d w h.1 q
    obtain ⟨b1, b2⟩ := dpL_of n ds s h.2 t
    exact ⟨.cons a1 b1, by simp only [toPL, PyData.canLayAll0, a2, b2, Bool.and_self]⟩
end
theorem shaped_of {d : D} {v : V} (h : shp 64 d = true) (r : RepS C K H d v) : Dp K H v (toP d) ∧ SeqAt.shaped (toP d) = true := by
  obtain ⟨a, b⟩ := dp_of 64 d v h r
  refine ⟨a, ?_⟩
  unfold SeqAt.shaped
  rw [b, Bool.true_and]
  exact decide_eq_true (depth_toP 64 d h)
end
section
variable {X : Cx} {C : Nat → Addr}
def rCmp (C : Nat → Addr) (K : PySem.W.Frag) (op : CmpOp) : R2 := fun x y H Q => ∃ dx dy k, RepS C K H dx x ∧ RepS C K H dy y ∧ cmpD op dx dy = some k ∧ Q (.bl k) H
theorem intB_of {p : Int → Int → Bool} {a b : D} {k : Bool} (h : intB p a b = some k) : ∃ i j, a = .int i ∧ b = .int j ∧ k = p i j := by
  unfold intB at h
  split at h
  · cases h; exact ⟨_, _, rfl, rfl, rfl⟩
  · cases h
theorem keyD_of {C : Nat → Addr} {K : PySem.W.Frag} {F : Hp} {d : D} {k : Key} {v : V} (h : keyD d = some k) (r : RepS C K F d v) : v = kV k := by
  cases d with
  | int i => cases h; simp only [RepS] at r; exact r
  | str x => cases h; simp only [RepS] at r; exact r.1
  | _ => cases h
theorem RepS.dicLen {C : Nat → Addr} {K : PySem.W.Frag} {F : Hp} : ∀ {l : List (Key × D)} {vs : List (Key × V)}, RepSK C K F l vs → vs.length = l.length
  | [], vs, r => by simp only [RepSK] at r; subst r; rfl
  | (k, d) :: l, vs, r => by
    simp only [RepSK] at r
    obtain ⟨v, s, rfl, rd, t⟩ := r
    simp [RepS.dicLen t]
theorem shaped_le {C : Nat → Addr} {K : PySem.W.Frag} {H : Hp} {n : Nat} (hn : n ≤ 64) {d : D} {v : V} (h : shp n d = true) (r : RepS C K H d v) : Dp K H v (toP d) ∧ SeqAt.shaped (toP d) = true := by
  obtain ⟨a, b⟩ := dp_of n d v h r
  refine ⟨a, ?_⟩
  unfold SeqAt.shaped
  rw [b, Bool.true_and]
  exact decide_eq_true (Nat.le_trans (depth_toP n d h) hn)
theorem flat_v {C : Nat → Addr} {K : PySem.W.Frag} {F : Hp} {d : D} {v : V} (h : flatD d = true) (r : RepS C K F d v) : flatV v = true := by
  cases d with
  | non => simp only [RepS] at r; subst r; rfl
  | bl b => simp only [RepS] at r; subst r; rfl
  | int i => simp only [RepS] at r; subst r; rfl
  | str x => simp only [RepS] at r; obtain ⟨rfl, _⟩ := r; rfl
  | _ => cases h
theorem flat_eq {C : Nat → Addr} {K : PySem.W.Frag} {F F' : Hp} {d e : D} {v w : V} (h : flatD d = true) (h' : flatD e = true) (r : RepS C K F d v) (r' : RepS C K F' e w) : eqV v w = eqD d e := by
  cases d with
  | non => simp only [RepS] at r; subst r; cases e <;> first | (cases h'; done) | skip
           all_goals (simp only [RepS] at r'; first | subst r' | (obtain ⟨rfl, _⟩ := r')); all_goals rfl
  | bl b => simp only [RepS] at r; subst r; cases e <;> first | (cases h'; done) | skip
            all_goals (simp only [RepS] at r'; first | subst r' | (obtain ⟨rfl, _⟩ := r')); all_goals simp [eqV, eqD]
  | int i => simp only [RepS] at r; subst r; cases e <;> first | (cases h'; done) | skip
             all_goals (simp only [RepS] at r'; first | subst r' | (obtain ⟨rfl, _⟩ := r')); all_goals simp [eqV, eqD]
  | str x => simp only [RepS] at r; obtain ⟨rfl, _⟩ := r; cases e <;> first | (cases h'; done) | skip
             all_goals (simp only [RepS] at r'; first | subst r' | (obtain ⟨rfl, _⟩ := r')); all_goals simp [eqV, eqD]
  | _ => cases h
theorem flat_any {C : Nat → Addr} {K : PySem.W.Frag} {F F' : Hp} {x : D} {v : V} (hx : flatD x = true) (r : RepS C K F x v) : ∀ {l : List D} {vs : List V}, l.all flatD = true → RepSL C K F' l vs → vs.all flatV = true ∧ inV v vs = (l.any fun z => eqD z x)
  | [], vs, _, t => by simp only [RepSL] at t; subst t; exact ⟨rfl, rfl⟩
  | d :: l, vs, h, t => by
    simp only [List.all_cons, Bool.and_eq_true] at h
    simp only [RepSL] at t
    obtain ⟨w, s, rfl, q, t⟩ := t
    obtain ⟨a, b⟩ := flat_any hx r h.2 t
    refine ⟨by simp only [List.all_cons, flat_v h.1 q, a, Bool.and_self], ?_⟩
    unfold inV at b ⊢
    simp only [List.any_cons, b, flat_eq h.1 hx q r]
theorem toPL_map : ∀ l : List D, toPL l = l.map toP
  | [] => by simp [toPL]
  | d :: l => by simp [toPL, toPL_map l]
theorem isN_of {C : Nat → Addr} {K : PySem.W.Frag} {F : Hp} {d : D} {v : V} {k : Bool} (h : isN d = some k) (r : RepS C K F d v) : decide (v = .non) = k := by
  cases d with
  | non => simp only [RepS] at r; subst r; cases h; rfl
  | bl b => simp only [RepS] at r; subst r; cases h; rfl
  | int i => simp only [RepS] at r; subst r; cases h; rfl
  | str x => simp only [RepS] at r; obtain ⟨rfl, _⟩ := r; cases h; rfl
  | tup l => simp only [RepS] at r; obtain ⟨a, vs, rfl, _⟩ := r; cases h; rfl
  | lst l => simp only [RepS] at r; obtain ⟨a, vs, rfl, _⟩ := r; cases h; rfl
  | dic l => simp only [RepS] at r; obtain ⟨a, vs, rfl, _⟩ := r; cases h; rfl
  | ins c l => simp only [RepS] at r; obtain ⟨a, dx, vs, rfl, _⟩ := r; cases h; rfl
  | scr l => simp only [RepS] at r; obtain ⟨a, rfl, _⟩ := r; cases h; rfl
  | bad => cases h
theorem RepSK.val {C : Nat → Addr} {K : PySem.W.Frag} {F : Hp} {k : Key} : ∀ {l : List (Key × D)} {vs : List (Key × V)}, RepSK C K F l vs → match kget l k with | some d => ∃ v, valV vs k = some v ∧ RepS C K F d v | none => valV vs k = none
  | [], vs, r => by simp only [RepSK] at r; subst r; rfl
  | (k0, d) :: l, vs, r => by
    simp only [RepSK] at r
    obtain ⟨v, s, rfl, rd, t⟩ := r
    by_cases e : k0 = k
    · have e1 : kget ((k0, d) :: l) k = some d := by simp [kget, List.find?_cons, e]
      rw [e1, valV_pos (p := (k0, v)) e]
      exact ⟨v, rfl, rd⟩
    · have e1 : kget ((k0, d) :: l) k = kget l k := by simp [kget, List.find?_cons, e]
      rw [e1, valV_neg (p := (k0, v)) e]
      exact RepSK.val t
/-- x in y -/
theorem op_inB (hu : X.A.units + 65 < cLine) (neg : Bool) : OpR X (compareOp (if neg then .NotIn else .In)) (fun x y H Q => ∃ dx dy k, RepS C X.K H dx x ∧ RepS C X.K H dy y ∧ inD dx dy = some k ∧ Q (.bl (if neg then !k else k)) H) := by
  intro pins s σ H x y v u Q I rx ry h
  obtain ⟨dx, dy, k, r1, r2, hk, q⟩ := h
  unfold inD at hk
  split at hk
  · split at hk
    · rename_i l hs
      obtain ⟨h1, h2⟩ := Bool.and_eq_true_iff.mp hs
      cases hk
      obtain ⟨p1, s1⟩ := shaped_le (n := 62) (by decide) h1 r1
      obtain ⟨p2, s2⟩ := shaped_le (n := 63) (d := .lst l) (by decide) (by simp only [shp]; exact h2) r2
      have e : (toPL l).any (fun z => PyData.eqv z (toP dx)) = l.any fun z => eqD z dx := by
        rw [toPL_map, List.any_map]
        have hall : ∀ z ∈ l, shp 62 z = true := by
          clear p2 s2 r2 hs q
          induction l with
          | nil => intro z hz; simp at hz
          | cons a l ih =>
            intro z hz
            simp only [shpL, Bool.and_eq_true] at h2
            rcases List.mem_cons.mp hz with rfl | hz
            · exact h2.1
            · exact ih h2.2 z hz
        have : ∀ (m : List D), (∀ z ∈ m, shp 62 z = true) → m.any ((fun z => PyData.eqv z (toP dx)) ∘ toP) = m.any fun z => eqD z dx := fun m => by
          induction m with
          | nil => intro _; rfl
          | cons a m ih =>
            intro hm
            simp only [List.any_cons, Function.comp]
            rw [eqv_toP 62 62 _ _ (hm a (by simp)) h1]
            congr 1
            exact ih fun z hz => hm z (by simp [hz])
        exact this l hall
      cases neg with
      | false => exact op_inD hu pins s σ H _ _ v u Q I rx ry ⟨_, _, p1, by simpa only [toP] using p2, s1, by simpa only [toP] using s2, by rw [e]; simpa using q⟩
      | true => exact op_notInD hu pins s σ H _ _ v u Q I rx ry ⟨_, _, p1, by simpa only [toP] using p2, s1, by simpa only [toP] using s2, by rw [e]; simpa using q⟩
    · cases hk
  · split at hk
    · rename_i l hs
      obtain ⟨h1, h2⟩ := Bool.and_eq_true_iff.mp hs
      cases hk
      simp only [RepS] at r2
      obtain ⟨a, vs, rfl, hq, t⟩ := r2
      obtain ⟨f1, f2⟩ := flat_any h1 r1 h2 t
      cases neg with
      | false => exact op_in_seq pins s σ H _ _ v u Q I rx ry ⟨a, vs, rfl, .inr hq, flat_v h1 r1, f1, by rw [f2]; simpa using q⟩
      | true => exact op_notIn_seq pins s σ H _ _ v u Q I rx ry ⟨a, vs, rfl, .inr hq, flat_v h1 r1, f1, by rw [f2]; simpa using q⟩
    · cases hk
  · rename_i z
    split at hk
    · rename_i c
      split at hk
      · rename_i n en
        cases hk
        simp only [RepS] at r1 r2
        obtain ⟨rfl, _⟩ := r1
        obtain ⟨rfl, _⟩ := r2
        have ec : c = ⟨#[n]⟩ := by
          cases c with
          | mk a =>
            have : a = #[n] := by
              apply Array.ext'
              simpa using en
            rw [this]
        subst ec
        cases neg with
        | false => exact op_in_sign pins s σ H _ _ v u Q I rx ry ⟨n, z, rfl, rfl, by simpa using q⟩
        | true => exact op_notIn_sign pins s σ H _ _ v u Q I rx ry ⟨n, z, rfl, rfl, by simpa using q⟩
      · cases hk
    · cases hk
  · rename_i kvs
    obtain ⟨key, ek, rfl⟩ := Option.map_eq_some_iff.mp hk
    simp only [RepS] at r2
    obtain ⟨a, ws, rfl, hq, t⟩ := r2
    have e0 := keyD_of ek r1
    subst e0
    have hv := t.val (k := key)
    obtain rfl : u = Value.ref a := ry
    have e : (valV ws key).isSome = (kget kvs key).isSome := by
      cases eg : kget kvs key with
      | none => rw [eg] at hv; simp [hv]
      | some d => rw [eg] at hv; obtain ⟨w, hw, _⟩ := hv; rw [hw]; rfl
    have g : DGet H a (kV key) (valV ws key) := .inl ⟨ws, key, hq, rfl, rfl⟩
    cases neg with
    | false => exact d_in (by omega) I g rx fun s3 I3 => ⟨.bl (valV ws key).isSome, H, I3, rfl, by rw [e]; simpa using q⟩
    | true => exact d_notIn (by omega) I g rx fun s3 I3 => ⟨.bl (!(valV ws key).isSome), H, I3, rfl, by rw [e]; simpa using q⟩
  · cases hk
/-- == of dicts, the right one empty -/
theorem op_eqK0 (hu : X.A.units + 65 < cLine) : OpR X (compareOp .Eq) (fun x y H Q => ∃ dx dy k, RepS C X.K H dx x ∧ RepS C X.K H dy y ∧ eqK0 dx dy = some k ∧ Q (.bl k) H) := by
  intro pins s σ H x y v u Q I rx ry h
  obtain ⟨dx, dy, k, r1, r2, hk, q⟩ := h
  unfold eqK0 at hk
  split at hk
  · rename_i l
    cases hk
    simp only [RepS] at r1 r2
    obtain ⟨a, ws, rfl, ha, t⟩ := r1
    obtain ⟨b, ws2, rfl, hb, t2⟩ := r2
    simp only [RepSK] at t2
    subst t2
    obtain rfl : v = Value.ref a := rx
    obtain rfl : u = Value.ref b := ry
    obtain ⟨_, ya, va, ra, da⟩ := dk_rd I.hok ha
    obtain ⟨_, yb, vb, rb, db⟩ := dk_rd I.hok hb
    have lb : vb.length = 0 := by
      have := Paired.length rb
      simpa using this.symm
    have la : va.length = l.length := by
      rw [← RepS.dicLen t]
      exact (Paired.length ra).symm
    refine PySem.W.keq_eq (knd := mixKind X.prog X.w) (r := true) ya yb da db (by omega) (fun z => ?_) (fin_bl I q (by
      rw [lb, la]
      cases l <;> rfl))
    have e1 : va = [] := List.length_eq_zero_iff.mp (z.trans lb)
    subst e1
    exact .nil
  · cases hk
theorem op_cmp (hu : X.A.units + 65 < cLine) {op : CmpOp} : OpR X (compareOp op) (rCmp C X.K op) := by
  intro pins s σ H x y v u Q I rx ry h
  obtain ⟨dx, dy, k, r1, r2, hk, q⟩ := h
  unfold cmpD at hk
  split at hk
  · split at hk
    · rename_i hs
      cases hk
      obtain ⟨h1, h2⟩ := Bool.and_eq_true_iff.mp hs
      obtain ⟨p1, s1⟩ := shaped_of h1 r1
      obtain ⟨p2, s2⟩ := shaped_of h2 r2
      exact op_eqD (by omega) pins s σ H _ _ v u Q I rx ry ⟨_, _, p1, p2, s1, s2, by rw [eqv_toP 64 64 _ _ h1 h2]; exact q⟩
    · exact op_eqK0 (C := C) hu pins s σ H _ _ v u Q I rx ry ⟨_, _, _, r1, r2, hk, q⟩
  · split at hk
    · rename_i hs
      cases hk
      obtain ⟨h1, h2⟩ := Bool.and_eq_true_iff.mp hs
      obtain ⟨p1, s1⟩ := shaped_of h1 r1
      obtain ⟨p2, s2⟩ := shaped_of h2 r2
      exact op_neD (by omega) pins s σ H _ _ v u Q I rx ry ⟨_, _, p1, p2, s1, s2, by rw [eqv_toP 64 64 _ _ h1 h2]; exact q⟩
    · cases hk
  · exact op_inB (C := C) hu false pins s σ H _ _ v u Q I rx ry ⟨_, _, _, r1, r2, hk, by simpa using q⟩
  · obtain ⟨k', hk', rfl⟩ := Option.map_eq_some_iff.mp hk
    exact op_inB (C := C) hu true pins s σ H _ _ v u Q I rx ry ⟨_, _, _, r1, r2, hk', by simpa using q⟩
  · split at hk
    · simp only [RepS] at r2
      exact op_isN pins s σ H _ _ v u Q I rx ry ⟨r2, by rw [isN_of hk r1]; exact q⟩
    · cases hk
  · split at hk
    · obtain ⟨k', hk', rfl⟩ := Option.map_eq_some_iff.mp hk
      simp only [RepS] at r2
      exact op_notN pins s σ H _ _ v u Q I rx ry ⟨r2, by rw [isN_of hk' r1]; exact q⟩
    · cases hk
  · obtain ⟨i, j, rfl, rfl, rfl⟩ := intB_of hk
    simp only [RepS] at r1 r2
    exact op_lt pins s σ H _ _ v u Q I rx ry ⟨i, j, r1, r2, q⟩
  · obtain ⟨i, j, rfl, rfl, rfl⟩ := intB_of hk
    simp only [RepS] at r1 r2
    exact op_le pins s σ H _ _ v u Q I rx ry ⟨i, j, r1, r2, q⟩
  · obtain ⟨i, j, rfl, rfl, rfl⟩ := intB_of hk
    simp only [RepS] at r1 r2
    exact op_gt pins s σ H _ _ v u Q I rx ry ⟨i, j, r1, r2, q⟩
  · obtain ⟨i, j, rfl, rfl, rfl⟩ := intB_of hk
    simp only [RepS] at r1 r2
    exact op_ge pins s σ H _ _ v u Q I rx ry ⟨i, j, r1, r2, q⟩
end
section
variable {C : Nat → Addr} {K : PySem.W.Frag} {F H : Hp}
theorem RepOL.nth : ∀ {os : List O} {vs : List V} {l : List Addr} {i : Nat} {o : O}, RepOL C K F H os vs l → os[i]? = some o → ∃ v l', vs[i]? = some v ∧ RepO C K F H o v l' ∧ ∀ a ∈ l', a ∈ l
  | [], vs, l, i, o, r, h => by simp at h
  | o0 :: os, vs, l, 0, o, r, h => by
    simp only [RepOL] at r
    obtain ⟨v, s, l1, l2, rfl, q, t, rfl⟩ := r
    simp at h; subst h
    exact ⟨v, l1, rfl, q, fun a ha => by simp [ha]⟩
  | o0 :: os, vs, l, i + 1, o, r, h => by
    simp only [RepOL] at r
    obtain ⟨v, s, l1, l2, rfl, q, t, rfl⟩ := r
    obtain ⟨w, l', h1, h2, h3⟩ := RepOL.nth (i := i) t (by simpa using h)
    exact ⟨w, l', by simpa using h1, h2, fun a ha => by simp [h3 a ha]⟩
theorem RepOL.len : ∀ {os : List O} {vs : List V} {l : List Addr}, RepOL C K F H os vs l → vs.length = os.length
  | [], vs, l, r => by simp only [RepOL] at r; simp [r.1]
  | o :: os, vs, l, r => by
    simp only [RepOL] at r
    obtain ⟨v, s, l1, l2, rfl, _, t, _⟩ := r
    simp [RepOL.len t]
theorem atI_map {α β : Type} {xs : List α} {ys : List β} {i : Int} {a : α} (hl : ys.length = xs.length) (h : atI xs i = some a) : ∃ j : Nat, xs[j]? = some a ∧ ∀ b, ys[j]? = some b → atI ys i = some b := by
  unfold atI at h ⊢
  cases e : ixN xs.length i with
  | none => rw [e] at h; cases h
  | some j =>
    rw [e] at h
    refine ⟨j, h, fun b hb => ?_⟩
    rw [hl, e]
    exact hb
end
section
variable {X : Cx} {C : Nat → Addr}
theorem cut_rep {C : Nat → Addr} {K : PySem.W.Frag} {F : Hp} {ds : List D} {vs : List V} (r : RepSL C K F ds vs) (lo hi : Option Int) : RepSL C K F (cutD ds lo hi) (cutV vs lo hi) := by
  unfold cutD cutV
  rw [r.len]
  exact (r.drop _).take _
def rCut (C : Nat → Addr) (K : PySem.W.Frag) : V → Option Int → Option Int → Hp → VK → Prop := fun x lo hi H Q => ∃ F o o' l, Le F H ∧ RepO C K F H o x l ∧ cutO o lo hi = some o' ∧ Fin C K F H o' Q
theorem sl_cut : SlR X (rCut C X.K) := by
  intro pins s σ H x v vl vu lo hi sl Q I rx hs pl pu h
  obtain ⟨F, o, o', l, le, r, hc, f⟩ := h
  unfold cutO at hc
  split at hc
  · rename_i e
    cases hc
    obtain ⟨a, vs, rfl, t, hq⟩ := r.items le e
    simp only [true_and, Bool.false_eq_true, false_and, or_false] at hq
    exact sl_list pins s σ H _ v vl vu lo hi sl Q I rx hs pl pu ⟨a, vs, rfl, SqL.of hq, f.lst le (cut_rep t lo hi)⟩
  · rename_i e
    cases hc
    have s1 := r.tupF e
    simp only [RepS] at s1
    obtain ⟨a, vs, rfl, p1, t⟩ := s1
    refine sl_tupA pins s σ H _ v vl vu lo hi sl Q I rx hs pl pu ⟨a, vs, rfl, SqT.le le p1, fun z => ?_, fun _ => f.tup le (cut_rep t lo hi)⟩
    refine f.tupAt le (cut_rep t lo hi) ?_
    have e : cutV vs lo hi = vs := by
      unfold cutV
      rw [z.1, z.2]
      simp
    rw [e]; exact p1
  · cases hc
def RepAs (C : Nat → Addr) (K : PySem.W.Frag) (F H : Hp) : List O → List V → Prop
  | [], vs => vs = []
  | o :: os, vs => ∃ v r l, vs = v :: r ∧ RepO C K F H o v l ∧ RepAs C K F H os r
def rBi (C : Nat → Addr) (K : PySem.W.Frag) (b : Bi) : List V → Hp → VK → Prop := fun xs H Q => ∃ F os o, Le F H ∧ RepAs C K F H os xs ∧ biO b os = some o ∧ Fin C K F H o Q
def Bi.val : Bi → Value
  | .len => .builtin "len"
  | .list => .type "list"
  | .sum => .builtin "sum"
  | .max2 => .builtin "max"
  | .min2 => .builtin "min"
  | .tuple => .type "tuple"
  | .all => .builtin "all"
  | .any => .builtin "any"
  | .int1 => .type "int"
  | .dictP => .type "dict"
theorem RepAs.one {C : Nat → Addr} {K : PySem.W.Frag} {F H : Hp} {o : O} {xs : List V} (r : RepAs C K F H [o] xs) : ∃ v l, xs = [v] ∧ RepO C K F H o v l := by
  simp only [RepAs] at r
  obtain ⟨v, s, l, rfl, q, rfl⟩ := r
  exact ⟨v, l, rfl, q⟩
theorem RepAs.two {C : Nat → Addr} {K : PySem.W.Frag} {F H : Hp} {o o2 : O} {xs : List V} (r : RepAs C K F H [o, o2] xs) : ∃ v l v2 l2, xs = [v, v2] ∧ RepO C K F H o v l ∧ RepO C K F H o2 v2 l2 := by
  simp only [RepAs] at r
  obtain ⟨v, s, l, rfl, q, v2, s2, l2, rfl, q2, rfl⟩ := r
  exact ⟨v, l, v2, l2, rfl, q, q2⟩
theorem sumI_of : ∀ {l : List D} {i : Int}, sumI l = some i → ∃ ns : List Int, l = ns.map .int ∧ i = ns.sum
  | [], i, h => by simp only [sumI, Option.some.injEq] at h; exact ⟨[], rfl, h ▸ rfl⟩
  | .int k :: l, i, h => by
    simp only [sumI] at h
    cases e : sumI l with
    | none => rw [e] at h; cases h
    | some j =>
      rw [e] at h
      simp only [Option.map_some, Option.some.injEq] at h
      obtain ⟨ns, rfl, rfl⟩ := sumI_of e
      exact ⟨k :: ns, rfl, by rw [List.sum_cons]; exact h.symm⟩
  | .non :: l, i, h => by cases h
  | .bl _ :: l, i, h => by cases h
  | .str _ :: l, i, h => by cases h
  | .tup _ :: l, i, h => by cases h
  | .lst _ :: l, i, h => by cases h
  | .dic _ :: l, i, h => by cases h
  | .ins _ _ :: l, i, h => by cases h
  | .scr _ :: l, i, h => by cases h
  | .bad :: l, i, h => by cases h
theorem boolsD_of : ∀ {l : List D} {bs : List Bool}, boolsD l = some bs → l = bs.map .bl
  | [], bs, h => by simp only [boolsD, Option.some.injEq] at h; subst h; rfl
  | d :: l, bs, h => by
    cases d with
    | bl b =>
      simp only [boolsD] at h
      obtain ⟨cs, e, rfl⟩ := Option.map_eq_some_iff.mp h
      rw [boolsD_of e]; rfl
    | _ => cases h
theorem RepSL.bools {C : Nat → Addr} {K : PySem.W.Frag} {F : Hp} : ∀ {bs : List Bool} {vs : List V}, RepSL C K F (bs.map .bl) vs → vs = bs.map V.bl
  | [], vs, r => by simpa only [List.map_nil, RepSL] using r
  | b :: bs, vs, r => by
    simp only [List.map_cons, RepSL, RepS] at r
    obtain ⟨v, s, rfl, rfl, t⟩ := r
    rw [RepSL.bools t]; rfl
theorem pairs_of {C : Nat → Addr} {K : PySem.W.Frag} {F : Hp} : ∀ {l : List D} {vs : List V} {kvs : List (Key × D)}, RepSL C K F l vs → pairsD l = some kvs →
    ∃ (ps : List Addr) (ws : List (Key × V)), vs = ps.map V.ref ∧ Paired (fun p kv => SqT K F p [kV kv.1, kv.2]) ps ws ∧ RepSK C K F kvs ws
  | [], vs, kvs, r, h => by
    simp only [pairsD, Option.some.injEq] at h
    subst h
    simp only [RepSL] at r
    exact ⟨[], [], r, .nil, by simp only [RepSK]⟩
  | d :: l, vs, kvs, r, h => by
    cases d with
    | tup xs =>
      cases xs with
      | nil => cases h
      | cons dk xs =>
        cases xs with
        | nil => cases h
        | cons dv xs =>
          cases xs with
          | cons _ _ => cases h
          | nil =>
            simp only [pairsD] at h
            cases ek : keyD dk with
            | none => rw [ek] at h; cases h
            | some k =>
              rw [ek] at h
              obtain ⟨kvs', e, rfl⟩ := Option.map_eq_some_iff.mp h
              simp only [RepSL, RepS] at r
              obtain ⟨v, s, rfl, ⟨a, ys, rfl, q, v1, s1, rfl, r1, v2, s2, rfl, r2, rfl⟩, t⟩ := r
              obtain ⟨ps, ws, e1, pp, rk⟩ := pairs_of t e
              have e0 := keyD_of ek r1
              subst e0
              refine ⟨a :: ps, (k, v2) :: ws, by rw [e1]; rfl, .cons q pp, ?_⟩
              simp only [RepSK]
              exact ⟨v2, ws, rfl, r2, rk⟩
    | _ => cases h
theorem RepSK.any {C : Nat → Addr} {K : PySem.W.Frag} {F : Hp} {k : Key} : ∀ {l : List (Key × D)} {vs : List (Key × V)}, RepSK C K F l vs → (vs.any fun p => decide (p.1 = k)) = (l.any fun p => decide (p.1 = k))
  | [], vs, r => by simp only [RepSK] at r; subst r; rfl
  | (k0, d) :: l, vs, r => by
    simp only [RepSK] at r
    obtain ⟨v, s, rfl, q, t⟩ := r
    simp only [List.any_cons, RepSK.any t]
theorem RepSK.put {C : Nat → Addr} {K : PySem.W.Frag} {F : Hp} {k : Key} {d : D} {v : V} (rd : RepS C K F d v) : ∀ {l : List (Key × D)} {vs : List (Key × V)}, RepSK C K F l vs → RepSK C K F (kput l k d) (putK vs k v) := fun {l vs} r => by
  unfold kput putK
  rw [r.any]
  have app : ∀ {l : List (Key × D)} {vs : List (Key × V)}, RepSK C K F l vs → RepSK C K F (l ++ [(k, d)]) (vs ++ [(k, v)]) := fun {l} => by
    induction l with
    | nil =>
      intro vs r
      simp only [RepSK] at r
      subst r
      simp only [List.nil_append, RepSK]
      exact ⟨v, [], rfl, rd, rfl⟩
    | cons p l ih =>
      intro vs r
      obtain ⟨k0, d0⟩ := p
      simp only [RepSK] at r
      obtain ⟨w, s, rfl, q, t⟩ := r
      simp only [List.cons_append, RepSK]
      exact ⟨w, _, rfl, q, ih t⟩
  have mp : ∀ {l : List (Key × D)} {vs : List (Key × V)}, RepSK C K F l vs → RepSK C K F (l.map fun p => if p.1 = k then (p.1, d) else p) (vs.map fun p => if p.1 = k then (p.1, v) else p) := fun {l} => by
    induction l with
    | nil => intro vs r; simp only [RepSK] at r; subst r; simp only [List.map_nil, RepSK]
    | cons p l ih =>
      intro vs r
      obtain ⟨k0, d0⟩ := p
      simp only [RepSK] at r
      obtain ⟨w, s, rfl, q, t⟩ := r
      simp only [List.map_cons]
      by_cases e : k0 = k
      · simp only [if_pos e, RepSK]
        exact ⟨v, _, rfl, rd, ih t⟩
      · simp only [if_neg e, RepSK]
        exact ⟨w, _, rfl, q, ih t⟩
  split
  · exact mp r
  · exact app r
theorem RepSK.merge {C : Nat → Addr} {K : PySem.W.Frag} {F : Hp} : ∀ {m : List (Key × D)} {ms : List (Key × V)} {l : List (Key × D)} {vs : List (Key × V)}, RepSK C K F m ms → RepSK C K F l vs → RepSK C K F (kmerge l m) (mergeK vs ms)
  | [], ms, l, vs, r, q => by
    simp only [RepSK] at r
    subst r
    exact q
  | (k, d) :: m, ms, l, vs, r, q => by
    simp only [RepSK] at r
    obtain ⟨v, s, rfl, rd, t⟩ := r
    show RepSK C K F (kmerge (kput l k d) m) (mergeK (putK vs k v) s)
    exact RepSK.merge t (q.put rd)
theorem RepSK.ownK {C : Nat → Addr} {K : PySem.W.Frag} {F H : Hp} : ∀ {l : List (Key × D)} {vs : List (Key × V)}, RepSK C K F l vs → RepOK C K F H (l.map fun p => (p.1, O.fr p.2)) vs []
  | [], vs, r => by simp only [RepSK] at r; subst r; simp [RepOK]
  | (k, d) :: l, vs, r => by
    simp only [RepSK] at r
    obtain ⟨v, s, rfl, rd, t⟩ := r
    simp only [List.map_cons, RepOK, RepO]
    exact ⟨v, s, [], [], rfl, ⟨rfl, rd⟩, RepSK.ownK t, rfl⟩
theorem New.dic {F H : Hp} {p : Addr} {kvs : List (Key × V)} (le : Le F H) (hp : H p = none) : New F H F (upd H p (.dK kvs)) [p] := by
  refine ⟨Sub.refl F, fun a u e => ?_, fun a ha => upd_ne (fun z => ha (z ▸ hp)), fun a ha => ?_, by simp, fun a _ h => h⟩
  · have hne : a ≠ p := fun z => by rw [z, le_none le hp] at e; cases e
    rw [upd_ne hne]; exact le a u e
  · have e : a = p := by simpa using ha
    subst e
    exact ⟨hp, le_none le hp, by rw [upd_same]; simp⟩
theorem call_bi (hc : X.calm = true) (b : Bi) : CallR X b.val (rBi C X.K b) := by
  intro pins s σ H xs us Q I r h
  obtain ⟨F, os, o, le, ra, hb, f⟩ := h
  unfold biO at hb
  split at hb
  · obtain ⟨v, l, rfl, ro⟩ := ra.one
    have rd := ro.read le
    split at hb
    · rename_i e
      cases hb
      rw [e] at rd
      simp only [RepS] at rd
      obtain ⟨a, vs, rfl, q, t⟩ := rd
      exact call_len pins s σ H _ us Q I r ⟨_, _, rfl, .inl ⟨vs, SqL.of q, rfl⟩, by rw [t.len]; exact f.d le (by simp [RepS])⟩
    · rename_i e
      cases hb
      rw [e] at rd
      simp only [RepS] at rd
      obtain ⟨a, vs, rfl, q, t⟩ := rd
      exact call_len pins s σ H _ us Q I r ⟨_, _, rfl, .inr ⟨vs, q, rfl⟩, by rw [t.len]; exact f.d le (by simp [RepS])⟩
    · rename_i e
      cases hb
      rw [e] at rd
      simp only [RepS] at rd
      obtain ⟨rfl, z, _⟩ := rd
      exact call_len pins s σ H _ us Q I r ⟨_, _, rfl, ⟨z, rfl⟩, f.d le (by simp [RepS])⟩
    · cases hb
  · obtain ⟨v, l, rfl, ro⟩ := ra.one
    rename_i a0
    cases e : a0.walk with
    | none => rw [e] at hb; cases hb
    | some x =>
      obtain ⟨b, ds⟩ := x
      rw [e] at hb
      simp only [Option.map_some, Option.some.injEq] at hb
      subst hb
      obtain ⟨a, vs, rfl, t, hq⟩ := ro.walk le e
      refine call_list_of pins s σ H _ us Q I r ⟨a, vs, rfl, ?_, f.lst le t⟩
      rcases hq with ⟨_, hq⟩ | ⟨_, hq⟩
      · exact .inl hq
      · exact .inr hq
  · obtain ⟨v, l, rfl, ro⟩ := ra.one
    rename_i a0
    cases e : a0.items with
    | none => rw [e] at hb; cases hb
    | some x =>
      obtain ⟨b, ds⟩ := x
      rw [e] at hb
      simp only [Option.map_some, Option.some.injEq] at hb
      subst hb
      cases b with
      | false =>
        obtain ⟨a, vs, rfl, t, hq⟩ := ro.items le e
        simp only [true_and, Bool.false_eq_true, false_and, or_false] at hq
        exact call_tuple_of pins s σ H _ us Q I r ⟨a, vs, rfl, .inl ⟨SqL.of hq, f.tup le t⟩⟩
      | true =>
        have s1 := ro.tupF e
        simp only [RepS] at s1
        obtain ⟨a, vs, rfl, p1, t⟩ := s1
        exact call_tuple_of pins s σ H _ us Q I r ⟨a, vs, rfl, .inr ⟨SqT.le le p1, f.tupAt le t p1⟩⟩
  · obtain ⟨v, l, rfl, ro⟩ := ra.one
    split at hb
    · rename_i e
      rename_i ds
      cases es : sumI ds with
      | none => rw [es] at hb; cases hb
      | some i =>
        rw [es] at hb
        simp only [Option.map_some, Option.some.injEq] at hb
        subst hb
        obtain ⟨ns, rfl, rfl⟩ := sumI_of es
        obtain ⟨a, vs, rfl, t, hq⟩ := ro.items le e
        simp only [true_and, Bool.false_eq_true, false_and, or_false] at hq
        have ev := t.ints rfl
        subst ev
        exact cr_sum hc pins s σ H _ us Q I r ⟨a, ns, rfl, SqL.of hq, f.d le (by simp [RepS])⟩
    · cases hb
  · cases hb
    obtain ⟨v, l, v2, l2, rfl, r1, r2⟩ := ra.two
    have e1 := int_of r1
    have e2 := int_of r2
    subst e1 e2
    exact call_max2 hc pins s σ H _ us Q I r ⟨_, _, rfl, f.d le (by simp [RepS])⟩
  · cases hb
    obtain ⟨v, l, v2, l2, rfl, r1, r2⟩ := ra.two
    have e1 := int_of r1
    have e2 := int_of r2
    subst e1 e2
    exact call_min2 hc pins s σ H _ us Q I r ⟨_, _, rfl, f.d le (by simp [RepS])⟩
  · obtain ⟨v, l, rfl, ro⟩ := ra.one
    split at hb
    · rename_i e
      obtain ⟨bs, eb, rfl⟩ := Option.map_eq_some_iff.mp hb
      obtain ⟨a, vs, rfl, t, hq⟩ := ro.items le e
      simp only [true_and, Bool.false_eq_true, false_and, or_false] at hq
      have e1 := boolsD_of eb
      subst e1
      have ev := t.bools
      subst ev
      exact cr_all hc pins s σ H _ us Q I r ⟨a, bs, rfl, SqL.of hq, f.d le (by simp [RepS])⟩
    · cases hb
  · obtain ⟨v, l, rfl, ro⟩ := ra.one
    split at hb
    · rename_i e
      obtain ⟨bs, eb, rfl⟩ := Option.map_eq_some_iff.mp hb
      obtain ⟨a, vs, rfl, t, hq⟩ := ro.items le e
      simp only [true_and, Bool.false_eq_true, false_and, or_false] at hq
      have e1 := boolsD_of eb
      subst e1
      have ev := t.bools
      subst ev
      exact cr_any hc pins s σ H _ us Q I r ⟨a, bs, rfl, SqL.of hq, f.d le (by simp [RepS])⟩
    · cases hb
  · cases hb
    obtain ⟨v, l, rfl, ro⟩ := ra.one
    have e1 := int_of ro
    subst e1
    exact call_int1 pins s σ H _ us Q I r (.inl ⟨_, rfl, f.d le (by simp [RepS])⟩)
  · cases hb
    obtain ⟨v, l, rfl, ro⟩ := ra.one
    have e1 := ro.2
    simp only [RepS] at e1
    subst e1
    exact call_int1 pins s σ H _ us Q I r (.inr ⟨_, rfl, f.d le (by simp [RepS])⟩)
  · obtain ⟨v, l, rfl, ro⟩ := ra.one
    split at hb
    · rename_i e
      obtain ⟨kvs, ek, rfl⟩ := Option.map_eq_some_iff.mp hb
      obtain ⟨a, vs, rfl, t, hq⟩ := ro.items le e
      simp only [true_and, Bool.false_eq_true, false_and, or_false] at hq
      obtain ⟨ps, ws, rfl, pp, rk⟩ := pairs_of t ek
      refine call_dictP hc pins s σ H _ us Q I r ⟨a, ps, ws, rfl, SqL.of hq, L2.Paired.mapP pp (fun a b z => SqT.le le z), fun p hp => ?_⟩
      refine f (.ref p) F _ [p] (New.dic le hp) ?_
      simp only [RepO]
      exact ⟨p, _, [], rfl, upd_same, RepSK.ownK (RepSK.merge rk (by simp only [RepSK])), rfl⟩
    · cases hb
  · cases hb
end
end Cr
end

section
/-! Readings: what an expression asks. -/
namespace Cr
open PySem L2

theorem PE.imp {X : Cx} {e : Expr} {t t' : TE} (h : PE X e t) (i : ∀ σ H Q, t' σ H Q → t σ H Q) : PE X e t' := ⟨fun pins s σ H Q I q => h.run pins s σ H Q I (i σ H Q q)⟩
theorem PT.imp {X : Cx} {e : Expr} {t t' : TT} (h : PT X e t) (i : ∀ σ H Q, t' σ H Q → t σ H Q) : PT X e t' := ⟨fun pins s σ H Q I q => h.run pins s σ H Q I (i σ H Q q)⟩
theorem PW.imp {X : Cx} {e : Expr} {t t' : TT} (h : PW X e t) (i : ∀ σ H Q, t' σ H Q → t σ H Q) : PW X e t' := ⟨fun w pins s σ H Q I q => h.run w pins s σ H Q I (i σ H Q q)⟩
theorem PA.imp {X : Cx} {e : List Expr} {t t' : TA} (h : PA X e t) (i : ∀ σ H Q, t' σ H Q → t σ H Q) : PA X e t' := ⟨fun pos pins s σ H Q I q => h.run pos pins s σ H Q I (i σ H Q q)⟩

section
variable (C : Nat → Addr) (K : PySem.W.Frag) (cal : Nat → List O → CRes) (XE : XP)
def tV (ce : CE) : TE := fun σ H Q => ∃ F env L R, SR C K F H σ env L R ∧ Out C K XE F H σ env L R ce.quiet (ev cal ce env) Q
def HXs (F H : Hp) (σ : St) (L : List Addr) : List Addr → List Hd → List CE → List V → Prop
  | T, [], [], vs => vs = [] ∧ T = []
  | T, h :: hs, _ :: es, vs => ∃ v r T0 Tr, vs = v :: r ∧ T = T0 ++ Tr ∧ ((!h.isQ || quietL es) = true → HX C K F H σ L T0 h v) ∧ HXs F H σ L Tr hs es r
  | _, _, _, _ => False
def OutL (F H : Hp) (σ : St) (env : Env) (L R : List Addr) (es : List CE) (res : Res (List Hd × Env)) (Q : List V → Hp → Prop) : Prop := match res with
  | .ok (hs, env') => ∀ vs F' H' L' T, Pst C K F H σ env L R F' H' env' L' T (quietL es) → HXs C K F' H' σ L' T hs es vs → Q vs H'
  | .ex c d env' => ∀ F' H' L', Pst C K F H σ env L R F' H' env' L' [] false → XE c d H'
  | .er => False
def tVs (es : List CE) : TA := fun σ H Q => ∃ F env L R, SR C K F H σ env L R ∧ OutL C K XE F H σ env L R es (evs cal es env) Q
end

section
variable {C : Nat → Addr} {K : PySem.W.Frag} {cal : Nat → List O → CRes} {XE : XP} {F F' F1 F2 H H' H1 H2 : Hp} {σ : St} {env env1 env2 : Env} {L L1 L2 R T T1 T2 : List Addr} {q q1 q2 : Bool}
theorem Out.exT {c : Nat} {d : D} {e2 : Env} {Q : VK} {qq : Bool} (h : Out C K XE F H σ env L R qq (.ex c d e2) Q) (p : Pst C K F H σ env L R F1 H1 env1 L1 T1 q1) {Q' : VK} {q'} : Out C K XE F1 H1 σ env1 L1 (T1 ++ R) q' (.ex c d e2) Q' :=
  fun F' H' L' p2 => h F' H' L' (p.trans p2).nil.qf
/-- an operand alone -/
theorem one {a : CE} {k : Hd × Env → Res (Hd × Env)} {Q : VK} {Q1 : V → Hp → Prop} (sr : SR C K F H σ env L R)
    (hout : Out C K XE F H σ env L R q ((ev cal a env).bind k) Q)
    (fin : ∀ x F1 H1 e1 L1 T ha, Pst C K F H σ env L R F1 H1 e1 L1 T a.quiet → HX C K F1 H1 σ L1 T ha x → Out C K XE F H σ env L R q (k (ha, e1)) Q → Q1 x H1) : tV C K cal XE a σ H Q1 := by
  refine ⟨F, env, L, R, sr, ?_⟩
  cases ha : ev cal a env with
  | ok x =>
    rw [ha] at hout
    intro v F1 H1 L1 T p hx
    exact fin v F1 H1 x.2 L1 T x.1 p hx hout
  | ex c d e => rw [ha] at hout; exact hout
  | er => rw [ha] at hout; exact hout
/-- two operands -/
theorem two {a b : CE} {k : Hd → Hd → Env → Res (Hd × Env)} {Q : VK} {Q2 : V → V → Hp → Prop} (hq : q = true → a.quiet = true ∧ b.quiet = true) (sr : SR C K F H σ env L R)
    (hout : Out C K XE F H σ env L R q ((ev cal a env).bind fun x => (ev cal b x.2).bind fun y => k x.1 y.1 y.2) Q)
    (fin : ∀ x y F2 H2 e2 L2 Ta Tb ha hb, Pst C K F H σ env L R F2 H2 e2 L2 (Tb ++ Ta) (a.quiet && b.quiet) → ((!ha.isQ || b.quiet) = true → HX C K F2 H2 σ L2 Ta ha x) → HX C K F2 H2 σ L2 Tb hb y → Out C K XE F H σ env L R q (k ha hb e2) Q → Q2 x y H2) :
    tV C K cal XE a σ H fun x H1 => tV C K cal XE b σ H1 fun y H2 => Q2 x y H2 := by
  refine ⟨F, env, L, R, sr, ?_⟩
  cases ha : ev cal a env with
  | ok x =>
    rw [ha] at hout
    intro v F1 H1 L1 T1 p hx
    refine ⟨F1, x.2, L1, T1 ++ R, p.sr, ?_⟩
    simp only [Res.bind] at hout
    cases hb : ev cal b x.2 with
    | ok y =>
      rw [hb] at hout
      intro w F2 H2 L2 T2 p2 hy
      exact fin v w F2 H2 y.2 L2 T1 T2 x.1 y.1 (p.trans p2) (fun hk => hx.next p2 fun z => by
        rw [z] at hk
        simpa using hk) hy hout
    | ex c d e =>
      rw [hb] at hout
      exact Out.exT (Q := Q) hout p
    | er => rw [hb] at hout; exact hout
  | ex c d e => rw [ha] at hout; exact hout
  | er => rw [ha] at hout; exact hout
theorem Out.ok_of {h : Hd} {e : Env} {Q : VK} {o : O} {v : V} (hout : Out C K XE F H σ env L R q (.ok (mkH o, e)) Q) (p : Pst C K F H σ env L R F1 H1 e L1 T q1) (hq : q = true → q1 = true) (n : New F1 H1 F2 H2 T2) (r : RepO C K F2 H2 o v T2) : Q v H2 := by
  refine hout v F2 H2 L1 T2 ((p.newT n).q_of hq) ?_
  cases o with
  | fr d => exact ⟨r.1, r.2⟩
  | _ => exact r
/-- a built-in's answer -/
theorem Out.fin {e : Env} {Q : VK} {o : O} (hout : Out C K XE F H σ env L R q (.ok (mkH o, e)) Q) (p : Pst C K F H σ env L R F1 H1 e L1 T q1) (hq : q = true → q1 = true) : Fin C K F1 H1 o Q := fun v F' H' T' n r => Out.ok_of (h := .p .bad) hout p hq n r
/-- an answer that stands still -/
theorem Out.pd {e : Env} {Q : VK} {d : D} {v : V} (hout : Out C K XE F H σ env L R q (.ok (.p d, e)) Q) (p : Pst C K F H σ env L R F1 H1 e L1 T q1) (hq : q = true → q1 = true) (r : RepS C K F1 d v) : Q v H1 :=
  hout v F1 H1 L1 [] (p.nil.q_of hq) ⟨rfl, r⟩
theorem boolH_of {h : Hd} {k : Bool} {v : V} (e : boolH h = some k) (x : HX C K F H σ L T h v) : v = .bl k ∧ h = .p (.bl k) ∧ T = [] := by
  unfold boolH at e
  split at e
  · cases e
    exact ⟨by simpa [RepS] using x.2, rfl, x.1⟩
  · cases e
end
end Cr
end

section
/-! Expressions, one by one. -/
namespace Cr
open PySem L2

section
variable {X : Cx} {C : Nat → Addr} {cal : Nat → List O → CRes} {XE : XP}
abbrev EV (X : Cx) (C : Nat → Addr) (cal : Nat → List O → CRes) (XE : XP) (e : Expr) (ce : CE) : Prop := PE X e (tV C X.K cal XE ce)
abbrev ET (X : Cx) (C : Nat → Addr) (cal : Nat → List O → CRes) (XE : XP) (e : Expr) (ce : CE) : Prop := PT X e (tB (tV C X.K cal XE ce))
theorem s_pd {e : Expr} {ce : CE} {v : V} {d : D} (h : PE X e (tC v)) (he : ∀ env, ev cal ce env = .ok (.p d, env)) (r : ∀ F, RepS C X.K F d v) : EV X C cal XE e ce := by
  refine PE.imp h fun σ H Q hq => ?_
  obtain ⟨F, env, L, R, sr, hout⟩ := hq
  rw [he] at hout
  exact Out.pd hout (Pst.refl sr) (fun _ => rfl) (r F)
theorem s_neg {i : Int} {j : Nat} {p p' : Pos} : PE X (.UnaryOp .USub (.Constant (.int i) j p) p') (tC (.int (-i))) := PE.imp (pe_un un_neg pe_int) fun σ H Q h => ⟨i, rfl, h⟩
theorem s_var {i : Nat} {x : Str} {pos : Pos} (hN : X.N[i]? = some x) (hv : Vis X.env.scope x) (hd : (x == ("__debug__" : Str)) = false) (hcd : (x == ("__classdict__" : Str)) = false) : EV X C cal XE (.Name x pos) (.var i) := by
  refine PE.imp (pe_var hN hv hd hcd) fun σ H Q hq => ?_
  obtain ⟨F, env, L, R, sr, hout⟩ := hq
  simp only [ev] at hout
  split at hout
  · rename_i d hd
    obtain ⟨v, La, l, Lb, c, hs, r⟩ := sr.slot hd
    exact ⟨v, hs, Out.pd hout (Pst.refl sr) (fun _ => rfl) r.2⟩
  · rename_i o _ hd
    obtain ⟨v, La, l, Lb, c, hs, r⟩ := sr.slot hd
    exact ⟨v, hs, hout v F H L [] (Pst.refl sr) ⟨rfl, hs⟩⟩
  · exact hout.elim
theorem s_io {i : Nat} {x : Str} {pos : Pos} (hN : X.N[i]? = some x) (hv : Vis X.env.scope x) (hd : (x == ("__debug__" : Str)) = false) (hcd : (x == ("__classdict__" : Str)) = false) : EV X C cal XE (.Name x pos) (.io i) := by
  refine PE.imp (pe_var hN hv hd hcd) fun σ H Q hq => ?_
  obtain ⟨F, env, L, R, sr, hout⟩ := hq
  simp only [ev] at hout
  split at hout
  · exact hout.elim
  · rename_i o _ hd
    obtain ⟨v, La, l, Lb, c, hs, r⟩ := sr.slot hd
    exact ⟨v, hs, hout v F H L [] ((Pst.refl sr).qf) ⟨rfl, hs⟩⟩
  · exact hout.elim
/-- a slot given away -/
theorem SR.give {K : PySem.W.Frag} {F H : Hp} {σ : St} {env : Env} {L R : List Addr} {i : Nat} {o : O} (sr : SR C K F H σ env L R) (h : (env[i]?).join = some o) :
    ∃ v l L', σ[i]? = some (some v) ∧ RepO C K F H o v l ∧ Pst C K F H σ env L R F H (env.set i none) L' l false := by
  obtain ⟨v, La, l, Lb, c, hs, r⟩ := sr.slot h
  refine ⟨v, l, La ++ Lb, hs, r, ⟨⟨sr.le, c.del F H (Le.refl F) (fun _ _ => rfl), ?_, fun a ha => sr.fn a ?_⟩, Sub.refl F, fun _ _ => rfl, fun z => by cases z⟩⟩
  · have := sr.nd
    rw [c.eq] at this
    refine (List.Perm.nodup_iff ?_).mp this
    simp only [List.append_assoc]
    refine List.Perm.append_left La ?_
    rw [← List.append_assoc, ← List.append_assoc]
    exact List.Perm.append_right R List.perm_append_comm
  · rw [c.eq]
    simp only [List.mem_append] at ha ⊢
    rcases ha with (h | h) | h | h
    · exact .inl (.inl h)
    · exact .inl (.inr (.inr h))
    · exact .inl (.inr (.inl h))
    · exact .inr h
theorem s_mv {i : Nat} {x : Str} {pos : Pos} (hN : X.N[i]? = some x) (hv : Vis X.env.scope x) (hd : (x == ("__debug__" : Str)) = false) (hcd : (x == ("__classdict__" : Str)) = false) : EV X C cal XE (.Name x pos) (.mv i) := by
  refine PE.imp (pe_var hN hv hd hcd) fun σ H Q hq => ?_
  obtain ⟨F, env, L, R, sr, hout⟩ := hq
  simp only [ev] at hout
  split at hout
  · rename_i o hd
    obtain ⟨v, l, L', hs, r, p⟩ := sr.give hd
    refine ⟨v, hs, hout v F H L' l p ?_⟩
    cases o with
    | fr d => exact ⟨r.1, r.2⟩
    | _ => exact r
  · exact hout.elim
/-- what stands still, with more of the heap -/
def frzH (S : List Addr) (F H : Hp) : Hp := fun a => if a ∈ S then H a else F a
theorem frzH_sub {S : List Addr} {F H : Hp} (h : ∀ a ∈ S, F a = none) : Sub F (frzH S F H) := fun a u e => by
  unfold frzH
  rw [if_neg (fun z => by rw [h a z] at e; cases e)]
  exact e
theorem frzH_le {S : List Addr} {F H : Hp} (h : Le F H) : Le (frzH S F H) H := fun a u e => by
  unfold frzH at e
  split at e
  · exact .inl e
  · exact h a u e
theorem frzH_in {S : List Addr} {F H : Hp} {a : Addr} (h : a ∈ S) : frzH S F H a = H a := by unfold frzH; rw [if_pos h]
theorem frzH_out {S : List Addr} {F H : Hp} {a : Addr} (h : a ∉ S) : frzH S F H a = F a := by unfold frzH; rw [if_neg h]
theorem set_same {α : Type} : ∀ {l : List α} {i : Nat} {a : α}, l[i]? = some a → l.set i a = l
  | [], i, a, h => by simp
  | b :: l, 0, a, h => by simp at h; subst h; rfl
  | b :: l, i + 1, a, h => by
    simp only [List.set_cons_succ]
    rw [set_same (by simpa using h)]
theorem SR.freeze {K : PySem.W.Frag} {F H : Hp} {σ : St} {env : Env} {L R : List Addr} {i : Nat} {o : O} (sr : SR C K F H σ env L R) (h : (env[i]?).join = some o) :
    ∃ v F' L', σ[i]? = some (some v) ∧ RepS C K F' o.frz v ∧ Pst C K F H σ env L R F' H (env.set i (some (.fr o.frz))) L' [] false := by
  obtain ⟨v, La, l, Lb, c, hs, r⟩ := sr.slot h
  have nd := sr.nd
  rw [c.eq] at nd
  have fn := sr.fn
  rw [c.eq] at fn
  have hl : ∀ a ∈ l, F a = none := fun a ha => (fn a (by simp [ha])).1
  have hsub : Sub F (frzH l F H) := frzH_sub hl
  have rs : RepS C K (frzH l F H) o.frz v := RepO.frz hsub.le o v l (fun a ha => frzH_in ha) r
  have hd : ∀ a ∈ La ++ (Lb ++ R), a ∉ l := by
    intro a ha hb
    have nd' : (l ++ (La ++ (Lb ++ R))).Nodup := (List.Perm.nodup_iff (by
      simp only [List.append_assoc]
      rw [← List.append_assoc, ← List.append_assoc (as := l)]
      exact List.Perm.append_right _ List.perm_append_comm)).mp nd
    exact (List.nodup_append.mp nd').2.2 a hb a ha rfl
  refine ⟨v, frzH l F H, La ++ Lb, hs, rs, ⟨⟨frzH_le sr.le, ?_, ?_, fun a ha => ?_⟩, hsub, fun _ _ => rfl, fun z => by cases z⟩⟩
  · have := c.put (frzH l F H) H (.fr o.frz) v [] hsub.le (fun _ _ => rfl) ⟨rfl, rs⟩
    rw [List.nil_append, set_same hs] at this
    exact this
  · refine nd.sublist ?_
    simp only [List.nil_append, List.append_assoc]
    exact List.Sublist.append_left (List.sublist_append_right _ _) La
  · have hm : a ∈ La ++ (Lb ++ R) := by simpa using ha
    have hm2 : a ∈ La ++ (l ++ Lb) ++ R := by
      simp only [List.mem_append] at hm ⊢
      rcases hm with h | h | h
      · exact .inl (.inl h)
      · exact .inl (.inr (.inr h))
      · exact .inr h
    rw [frzH_out (hd a hm)]
    exact fn a hm2
theorem s_fz {i : Nat} {x : Str} {pos : Pos} (hN : X.N[i]? = some x) (hv : Vis X.env.scope x) (hd : (x == ("__debug__" : Str)) = false) (hcd : (x == ("__classdict__" : Str)) = false) : EV X C cal XE (.Name x pos) (.fz i) := by
  refine PE.imp (pe_var hN hv hd hcd) fun σ H Q hq => ?_
  obtain ⟨F, env, L, R, sr, hout⟩ := hq
  simp only [ev] at hout
  split at hout
  · rename_i o hd
    obtain ⟨v, F', L', hs, r, p⟩ := sr.freeze hd
    exact ⟨v, hs, hout v F' H L' [] p ⟨rfl, r⟩⟩
  · exact hout.elim
/-! operators -/
theorem s_bin {op : Operator} {l r : Expr} {pos : Pos} {a b : CE} (ha : EV X C cal XE l a) (hb : EV X C cal XE r b) : EV X C cal XE (.BinOp l op r pos) (.bin op a b) := by
  refine PE.imp (pe_op (op_bin (C := C)) ha hb) fun σ H Q hq => ?_
  obtain ⟨F, env, L, R, sr, hout⟩ := hq
  simp only [ev] at hout
  refine two (q := (CE.bin op a b).quiet) (k := fun ha hb e => if (!ha.isQ || b.quiet) = true then
      match ha.get e, hb.get e with
      | some x, some y => match binO op x y with
        | some o => .ok (mkH o, e)
        | none => .er
      | _, _ => .er
    else .er) (fun z => by simpa [CE.quiet] using z) sr hout fun x y F2 H2 e2 L2 Ta Tb ha hb p hx hy ho => ?_
  split at ho
  · rename_i hk
    split at ho
    · rename_i ox oy g1 g2
      split at ho
      · rename_i o ho2
        obtain ⟨lx, r1, _⟩ := (hx hk).get p.sr g1
        obtain ⟨ly, r2, _⟩ := hy.get p.sr g2
        exact ⟨F2, ox, oy, o, lx, ly, p.sr.le, r1, r2, ho2, Out.fin ho p (fun z => by simpa [CE.quiet] using z)⟩
      · exact ho.elim
    · exact ho.elim
  · exact ho.elim
theorem s_cmp (hu : X.A.units + 65 < cLine) {op : CmpOp} {l r : Expr} {pos : Pos} {a b : CE} (hm : behindInMarks op r = false) (ha : EV X C cal XE l a) (hb : EV X C cal XE r b) :
    EV X C cal XE (.Compare l [op] [r] pos) (.cmp op a b) ∧ ET X C cal XE (.Compare l [op] [r] pos) (.cmp op a b) := by
  have go : ∀ σ H Q, tV C X.K cal XE (.cmp op a b) σ H Q → tOp (rCmp C X.K op) (tV C X.K cal XE a) (tV C X.K cal XE b) σ H Q := fun σ H Q hq => by
    obtain ⟨F, env, L, R, sr, hout⟩ := hq
    simp only [ev] at hout
    refine two (q := (CE.cmp op a b).quiet) (k := fun ha hb e => if (!ha.isQ || b.quiet) = true then
        match ha.view e, hb.view e with
        | some x, some y => match cmpD op x y with
          | some k => .ok (.p (.bl k), e)
          | none => .er
        | _, _ => .er
      else .er) (fun z => by simpa [CE.quiet] using z) sr hout fun x y F2 H2 e2 L2 Ta Tb ha hb p hx hy ho => ?_
    split at ho
    · rename_i hk
      split at ho
      · rename_i dx dy g1 g2
        split at ho
        · rename_i k ho2
          obtain ⟨ox, e1, rfl⟩ := Option.map_eq_some_iff.mp (show (ha.get e2).map O.frz = some dx from g1)
          obtain ⟨oy, e2', rfl⟩ := Option.map_eq_some_iff.mp (show (hb.get e2).map O.frz = some dy from g2)
          obtain ⟨lx, r1, _⟩ := (hx hk).get p.sr e1
          obtain ⟨ly, r2, _⟩ := hy.get p.sr e2'
          exact ⟨_, _, k, r1.read p.sr.le, r2.read p.sr.le, ho2, Out.pd ho p (fun z => by simpa [CE.quiet] using z) (by simp [RepS])⟩
        · exact ho.elim
      · exact ho.elim
    · exact ho.elim
  exact ⟨PE.imp (pe_cmpR (op_cmp hu) ha hb hm) go, PT.imp (pt_cmpR (op_cmp hu) ha hb hm) fun σ H Q hq => go σ H _ hq⟩
end
end Cr
end

section
/-! Expressions, further. -/
namespace Cr
open PySem L2

section
variable {X : Cx} {C : Nat → Addr} {cal : Nat → List O → CRes} {XE : XP}
theorem cont {K : PySem.W.Frag} {F F1 H H1 : Hp} {σ : St} {env e1 : Env} {L L1 R T : List Addr} {q q1 : Bool} {a : CE} {k : Hd × Env → Res (Hd × Env)} {Q : VK} {Q1 : V → Hp → Prop}
    (p : Pst C K F H σ env L R F1 H1 e1 L1 T q1) (hout : Out C K XE F H σ env L R q ((ev cal a e1).bind k) Q)
    (fin : ∀ x F2 H2 e2 L2 T2 ha, Pst C K F H σ env L R F2 H2 e2 L2 (T2 ++ T) (q1 && a.quiet) → Pst C K F1 H1 σ e1 L1 (T ++ R) F2 H2 e2 L2 T2 a.quiet → HX C K F2 H2 σ L2 T2 ha x → Out C K XE F H σ env L R q (k (ha, e2)) Q → Q1 x H2) :
    tV C K cal XE a σ H1 Q1 := by
  refine ⟨F1, e1, L1, T ++ R, p.sr, ?_⟩
  cases ha : ev cal a e1 with
  | ok x =>
    rw [ha] at hout
    intro v F2 H2 L2 T2 p2 hx
    exact fin v F2 H2 x.2 L2 T2 x.1 (p.trans p2) p2 hx hout
  | ex c d e =>
    rw [ha] at hout
    exact Out.exT (Q := Q) hout p
  | er => rw [ha] at hout; exact hout
theorem HX.pS {K : PySem.W.Frag} {F H : Hp} {σ : St} {L T : List Addr} {d : D} {v : V} (x : HX C K F H σ L T (.p d) v) : RepS C K F d v := x.2
theorem s_cmp2 (hu : X.A.units + 65 < cLine) {o1 o2 : CmpOp} {l m r : Expr} {pos : Pos} {a b c : CE} (hm : lastMarks [o1, o2] [m, r] = false) (ha : EV X C cal XE l a) (hb : EV X C cal XE m b) (hc : EV X C cal XE r c) :
    EV X C cal XE (.Compare l [o1, o2] [m, r] pos) (.cmp2 o1 o2 a b c) ∧ ET X C cal XE (.Compare l [o1, o2] [m, r] pos) (.cmp2 o1 o2 a b c) := by
  have go : ∀ σ H Q, tV C X.K cal XE (.cmp2 o1 o2 a b c) σ H Q → tChain (rCmp C X.K o1) (rCmp C X.K o2) (tV C X.K cal XE a) (tV C X.K cal XE b) (tV C X.K cal XE c) σ H Q := fun σ H Q hq => by
    obtain ⟨F, env, L, R, sr, hout⟩ := hq
    simp only [ev] at hout
    refine two (q := (CE.cmp2 o1 o2 a b c).quiet) (k := fun ha hb e => match ha, hb with
        | .p x, .p y => match cmpD o1 x y with
          | some true => (ev cal c e).bind fun (hc, e) => match hc with
            | .p z => match cmpD o2 y z with
              | some k => .ok (.p (.bl k), e)
              | none => .er
            | _ => .er
          | some false => .ok (.p (.bl false), e)
          | none => .er
        | _, _ => .er) (fun z => by simp only [CE.quiet, Bool.and_eq_true] at z; exact z.1) sr hout fun x y F2 H2 e2 L2 Ta Tb ha hb p hx hy ho => ?_
    split at ho
    · rename_i dx dy
      have rx := RepS.le p.sr.le _ _ (hx rfl).pS
      have ry := RepS.le p.sr.le _ _ hy.pS
      split at ho
      · rename_i hk
        refine ⟨dx, dy, true, rx, ry, hk, true, rfl, ?_⟩
        refine iteT (cont p ho fun z F3 H3 e3 L3 T3 hc p3 p2 hz ho => ?_)
        dsimp only at ho
        split at ho
        · rename_i dz
          split at ho
          · rename_i k hk2
            exact ⟨dy, dz, k, RepS.le p3.sr.le _ _ (RepS.le p2.fe.le _ _ hy.pS), RepS.le p3.sr.le _ _ hz.pS, hk2, Out.pd ho p3 (fun z => by simpa [CE.quiet] using z) (by simp [RepS])⟩
          · exact ho.elim
        · exact ho.elim
      · rename_i hk
        exact ⟨dx, dy, false, rx, ry, hk, false, rfl, iteF (Out.pd ho p (fun z => by simp only [CE.quiet, Bool.and_eq_true] at z ⊢; exact z.1) (by simp [RepS]))⟩
      · exact ho.elim
    · exact ho.elim
  exact ⟨PE.imp (pe_chain (op_cmp hu) (op_cmp hu) ha hb hc hm) go, PT.imp (pt_chain (op_cmp hu) (op_cmp hu) ha hb hc hm) fun σ H Q hq => go σ H _ hq⟩
def EVL (P : Expr → CE → Prop) : List CE → List Expr → Prop
  | [], [] => True
  | c :: cs, x :: xs => P x c ∧ EVL P cs xs
  | _, _ => False
def tW (C : Nat → Addr) (K : PySem.W.Frag) (XE : XP) (q : Bool) (m : Env → Res (Hd × Env)) : TE := fun σ H Q => ∃ F env L R, SR C K F H σ env L R ∧ Out C K XE F H σ env L R q (m env) Q
theorem and_step {x : CE} {y : CE} {r : List CE} (σ : St) (H : Hp) (Q : VK) {K : PySem.W.Frag} (hq : tW C K XE (quietL (x :: y :: r)) (evAnd cal (x :: y :: r)) σ H Q) :
    tV C K cal XE x σ H fun v H1 => ∃ c, v = .bl c ∧ if c = true then tW C K XE (quietL (y :: r)) (evAnd cal (y :: r)) σ H1 Q else Q (.bl false) H1 := by
  obtain ⟨F, env, L, R, sr, hout⟩ := hq
  simp only [evAnd] at hout
  refine cont (Pst.refl sr) hout fun v F1 H1 e1 L1 T1 ha p _ hx ho => ?_
  dsimp only at ho
  split at ho
  · rename_i hb
    obtain ⟨rfl, rfl, rfl⟩ := boolH_of hb hx
    refine ⟨true, rfl, iteT ⟨F1, e1, L1, R, p.sr, ?_⟩⟩
    cases e : evAnd cal (y :: r) e1 with
    | ok z =>
      rw [e] at ho
      intro w F2 H2 L2 T2 p2 hw
      exact ho w F2 H2 L2 T2 (((p.trans p2).less (List.sublist_append_left _ _)).q_of (fun z => by simpa [quietL] using z)) hw
    | ex c d e =>
      rw [e] at ho
      exact Out.exT (Q := Q) ho p
    | er => rw [e] at ho; exact ho
  · rename_i hb
    obtain ⟨rfl, rfl, rfl⟩ := boolH_of hb hx
    exact ⟨false, rfl, iteF (Out.pd ho p (fun z => by simp only [quietL, Bool.and_eq_true] at z ⊢; exact ⟨trivial, z.1⟩) (by simp [RepS]))⟩
  · exact ho.elim
theorem or_step {x : CE} {y : CE} {r : List CE} (σ : St) (H : Hp) (Q : VK) {K : PySem.W.Frag} (hq : tW C K XE (quietL (x :: y :: r)) (evOr cal (x :: y :: r)) σ H Q) :
    tV C K cal XE x σ H fun v H1 => ∃ c, v = .bl c ∧ if c = true then Q (.bl true) H1 else tW C K XE (quietL (y :: r)) (evOr cal (y :: r)) σ H1 Q := by
  obtain ⟨F, env, L, R, sr, hout⟩ := hq
  simp only [evOr] at hout
  refine cont (Pst.refl sr) hout fun v F1 H1 e1 L1 T1 ha p _ hx ho => ?_
  dsimp only at ho
  split at ho
  · rename_i hb
    obtain ⟨rfl, rfl, rfl⟩ := boolH_of hb hx
    refine ⟨false, rfl, iteF ⟨F1, e1, L1, R, p.sr, ?_⟩⟩
    cases e : evOr cal (y :: r) e1 with
    | ok z =>
      rw [e] at ho
      intro w F2 H2 L2 T2 p2 hw
      exact ho w F2 H2 L2 T2 (((p.trans p2).less (List.sublist_append_left _ _)).q_of (fun z => by simpa [quietL] using z)) hw
    | ex c d e =>
      rw [e] at ho
      exact Out.exT (Q := Q) ho p
    | er => rw [e] at ho; exact ho
  · rename_i hb
    obtain ⟨rfl, rfl, rfl⟩ := boolH_of hb hx
    exact ⟨true, rfl, iteT (Out.pd ho p (fun z => by simp only [quietL, Bool.and_eq_true] at z ⊢; exact ⟨trivial, z.1⟩) (by simp [RepS]))⟩
  · exact ho.elim
theorem w_one {x : CE} {K : PySem.W.Frag} (σ : St) (H : Hp) (Q : VK) (hq : tW C K XE (quietL [x]) (evAnd cal [x]) σ H Q) : tV C K cal XE x σ H Q := by
  obtain ⟨F, env, L, R, sr, hout⟩ := hq
  refine ⟨F, env, L, R, sr, ?_⟩
  simpa [quietL, evAnd] using hout
theorem w_oneO {x : CE} {K : PySem.W.Frag} (σ : St) (H : Hp) (Q : VK) (hq : tW C K XE (quietL [x]) (evOr cal [x]) σ H Q) : tV C K cal XE x σ H Q := by
  obtain ⟨F, env, L, R, sr, hout⟩ := hq
  refine ⟨F, env, L, R, sr, ?_⟩
  simpa [quietL, evOr] using hout
theorem s_andL {pos : Pos} : ∀ (es : List CE) (xs : List Expr), es ≠ [] → EVL (EV X C cal XE) es xs → PE X (.BoolOp .And xs pos) (tW C X.K XE (quietL es) (evAnd cal es))
  | [], _, h, _ => absurd rfl h
  | [c], [], _, h => h.elim
  | [c], [x], _, h => PE.imp (pe_one h.1) fun σ H Q q => w_one σ H Q q
  | [c], _ :: _ :: _, _, h => h.2.elim
  | c :: d :: r, [], _, h => h.elim
  | c :: d :: r, [x], _, h => h.2.elim
  | c :: d :: r, x :: y :: z, _, h => PE.imp (pe_and h.1 (s_andL (d :: r) (y :: z) (by simp) h.2)) fun σ H Q q => and_step σ H Q q
theorem s_orL {pos : Pos} : ∀ (es : List CE) (xs : List Expr), es ≠ [] → EVL (EV X C cal XE) es xs → PE X (.BoolOp .Or xs pos) (tW C X.K XE (quietL es) (evOr cal es))
  | [], _, h, _ => absurd rfl h
  | [c], [], _, h => h.elim
  | [c], [x], _, h => PE.imp (pe_one h.1) fun σ H Q q => w_oneO σ H Q q
  | [c], _ :: _ :: _, _, h => h.2.elim
  | c :: d :: r, [], _, h => h.elim
  | c :: d :: r, [x], _, h => h.2.elim
  | c :: d :: r, x :: y :: z, _, h => PE.imp (pe_or h.1 (s_orL (d :: r) (y :: z) (by simp) h.2)) fun σ H Q q => or_step σ H Q q
theorem s_andT {pos : Pos} : ∀ (es : List CE) (xs : List Expr), es ≠ [] → EVL (ET X C cal XE) es xs → PW X (.BoolOp .And xs pos) (tB (tW C X.K XE (quietL es) (evAnd cal es)))
  | [], _, h, _ => absurd rfl h
  | [c], [], _, h => h.elim
  | [c], [x], _, h => PW.imp (pw_and1 h.1) fun σ H Q q => w_one σ H _ q
  | [c], _ :: _ :: _, _, h => h.2.elim
  | c :: d :: r, [], _, h => h.elim
  | c :: d :: r, [x], _, h => h.2.elim
  | c :: d :: r, x :: y :: z, _, h => PW.imp (pw_and h.1 (s_andT (d :: r) (y :: z) (by simp) h.2)) fun σ H Q q => by
    have := and_step σ H _ q
    obtain ⟨F, env, L, R, sr, ho⟩ := this
    refine ⟨F, env, L, R, sr, ?_⟩
    cases e : ev cal c env with
    | ok z0 =>
      rw [e] at ho
      intro v F' H' L' T p hx
      obtain ⟨k, rfl, hk⟩ := ho v F' H' L' T p hx
      refine ⟨k, rfl, ?_⟩
      cases k with
      | true => exact hk
      | false =>
        rw [if_neg (by decide)] at hk ⊢
        obtain ⟨b, e1, e2⟩ := hk
        cases e1; exact e2
    | ex _ _ _ => rw [e] at ho; exact ho
    | er => rw [e] at ho; exact ho
theorem s_orT {pos : Pos} : ∀ (es : List CE) (xs : List Expr), es ≠ [] → EVL (ET X C cal XE) es xs → PW X (.BoolOp .Or xs pos) (tB (tW C X.K XE (quietL es) (evOr cal es)))
  | [], _, h, _ => absurd rfl h
  | [c], [], _, h => h.elim
  | [c], [x], _, h => PW.imp (pw_or1 h.1) fun σ H Q q => w_oneO σ H _ q
  | [c], _ :: _ :: _, _, h => h.2.elim
  | c :: d :: r, [], _, h => h.elim
  | c :: d :: r, [x], _, h => h.2.elim
  | c :: d :: r, x :: y :: z, _, h => PW.imp (pw_or h.1 (s_orT (d :: r) (y :: z) (by simp) h.2)) fun σ H Q q => by
    have := or_step σ H _ q
    obtain ⟨F, env, L, R, sr, ho⟩ := this
    refine ⟨F, env, L, R, sr, ?_⟩
    cases e : ev cal c env with
    | ok z0 =>
      rw [e] at ho
      intro v F' H' L' T p hx
      obtain ⟨k, rfl, hk⟩ := ho v F' H' L' T p hx
      refine ⟨k, rfl, ?_⟩
      cases k with
      | true =>
        rw [if_pos rfl] at hk ⊢
        obtain ⟨b, e1, e2⟩ := hk
        cases e1; exact e2
      | false => exact hk
    | ex _ _ _ => rw [e] at ho; exact ho
    | er => rw [e] at ho; exact ho
theorem s_and {pos : Pos} {es : List CE} {xs : List Expr} (hn : es ≠ []) (h : EVL (EV X C cal XE) es xs) : EV X C cal XE (.BoolOp .And xs pos) (.and es) :=
  PE.imp (s_andL es xs hn h) fun σ H Q hq => by
    obtain ⟨F, env, L, R, sr, ho⟩ := hq
    exact ⟨F, env, L, R, sr, by simpa [ev, CE.quiet] using ho⟩
theorem s_or {pos : Pos} {es : List CE} {xs : List Expr} (hn : es ≠ []) (h : EVL (EV X C cal XE) es xs) : EV X C cal XE (.BoolOp .Or xs pos) (.or es) :=
  PE.imp (s_orL es xs hn h) fun σ H Q hq => by
    obtain ⟨F, env, L, R, sr, ho⟩ := hq
    exact ⟨F, env, L, R, sr, by simpa [ev, CE.quiet] using ho⟩
theorem s_andt {pos : Pos} {es : List CE} {xs : List Expr} (hn : es ≠ []) (h : EVL (ET X C cal XE) es xs) : ET X C cal XE (.BoolOp .And xs pos) (.and es) :=
  PT.imp (s_andT es xs hn h).pt fun σ H Q hq => by
    obtain ⟨F, env, L, R, sr, ho⟩ := hq
    exact ⟨F, env, L, R, sr, by simpa [ev, CE.quiet] using ho⟩
theorem s_ort {pos : Pos} {es : List CE} {xs : List Expr} (hn : es ≠ []) (h : EVL (ET X C cal XE) es xs) : ET X C cal XE (.BoolOp .Or xs pos) (.or es) :=
  PT.imp (s_orT es xs hn h).pt fun σ H Q hq => by
    obtain ⟨F, env, L, R, sr, ho⟩ := hq
    exact ⟨F, env, L, R, sr, by simpa [ev, CE.quiet] using ho⟩
theorem not_step {a : CE} (σ : St) (H : Hp) (Q : VK) {K : PySem.W.Frag} (hq : tV C K cal XE (.not a) σ H Q) : tV C K cal XE a σ H fun v H1 => ∃ c, v = .bl c ∧ Q (.bl (!c)) H1 := by
  obtain ⟨F, env, L, R, sr, hout⟩ := hq
  simp only [ev] at hout
  refine cont (Pst.refl sr) hout fun v F1 H1 e1 L1 T1 ha p _ hx ho => ?_
  dsimp only at ho
  split at ho
  · rename_i k hb
    obtain ⟨rfl, rfl, rfl⟩ := boolH_of hb hx
    exact ⟨k, rfl, Out.pd ho p (fun z => by simpa [CE.quiet] using z) (by simp [RepS])⟩
  · exact ho.elim
theorem s_not {x : Expr} {pos : Pos} {a : CE} (ha : EV X C cal XE x a) : EV X C cal XE (.UnaryOp .Not x pos) (.not a) := PE.imp (pe_not ha) fun σ H Q q => not_step σ H Q q
theorem s_nott {x : Expr} {pos : Pos} {a : CE} (ha : ET X C cal XE x a) : ET X C cal XE (.UnaryOp .Not x pos) (.not a) := PT.imp (pt_not ha) fun σ H Q q => by
  have := not_step σ H _ q
  obtain ⟨F, env, L, R, sr, ho⟩ := this
  refine ⟨F, env, L, R, sr, ?_⟩
  cases e : ev cal a env with
  | ok z0 =>
    rw [e] at ho
    intro v F' H' L' T p hx
    obtain ⟨k, rfl, b, e1, e2⟩ := ho v F' H' L' T p hx
    cases e1
    exact ⟨k, rfl, e2⟩
  | ex _ _ _ => rw [e] at ho; exact ho
  | er => rw [e] at ho; exact ho
theorem s_ife {c x y : Expr} {pos : Pos} {k a b : CE} (hc : ET X C cal XE c k) (ha : EV X C cal XE x a) (hb : EV X C cal XE y b) : EV X C cal XE (.IfExp c x y pos) (.ife k a b) := by
  refine PE.imp (pe_ifExp hc ha hb) fun σ H Q hq => ?_
  obtain ⟨F, env, L, R, sr, hout⟩ := hq
  simp only [ev] at hout
  refine cont (Pst.refl sr) hout fun v F1 H1 e1 L1 T1 hd p _ hx ho => ?_
  dsimp only at ho
  split at ho
  · rename_i hb
    obtain ⟨rfl, rfl, rfl⟩ := boolH_of hb hx
    refine ⟨true, rfl, iteT ⟨F1, e1, L1, R, p.sr, ?_⟩⟩
    cases e : ev cal a e1 with
    | ok z =>
      rw [e] at ho
      intro w F2 H2 L2 T2 p2 hw
      exact ho w F2 H2 L2 T2 (((p.trans p2).less (List.sublist_append_left _ _)).q_of (fun z => by simp only [CE.quiet, Bool.and_eq_true] at z ⊢; exact ⟨⟨trivial, z.1.1⟩, z.1.2⟩)) hw
    | ex c d e =>
      rw [e] at ho
      exact Out.exT (Q := Q) ho p
    | er => rw [e] at ho; exact ho
  · rename_i hb
    obtain ⟨rfl, rfl, rfl⟩ := boolH_of hb hx
    refine ⟨false, rfl, iteF ⟨F1, e1, L1, R, p.sr, ?_⟩⟩
    cases e : ev cal b e1 with
    | ok z =>
      rw [e] at ho
      intro w F2 H2 L2 T2 p2 hw
      exact ho w F2 H2 L2 T2 (((p.trans p2).less (List.sublist_append_left _ _)).q_of (fun z => by simp only [CE.quiet, Bool.and_eq_true] at z ⊢; exact ⟨⟨trivial, z.1.1⟩, z.2⟩)) hw
    | ex c d e =>
      rw [e] at ho
      exact Out.exT (Q := Q) ho p
    | er => rw [e] at ho; exact ho
  · exact ho.elim
end
end Cr
end

section
/-! Places, displays, calls. -/
namespace Cr
open PySem L2

section
variable {C : Nat → Addr} {cal : Nat → List O → CRes} {XE : XP} {K : PySem.W.Frag} {F F' F1 F2 H H' H1 H2 : Hp} {σ : St} {env env1 env2 : Env} {L L1 L2 R T T1 T2 : List Addr} {q q1 q2 : Bool}
/-- a part of an operand -/
theorem HX.part {h : Hd} {v v' : V} {o o' : O} {l' : List Addr} (x : HX C K F H σ L T h v) (s : SR C K F H σ env L R) (g : h.get env = some o) (hl : ∀ l, RepO C K F H o v l → (∀ a ∈ l, a ∈ L ∨ a ∈ T) → True) (r : RepO C K F H o' v' l') (hsub : ∃ l, RepO C K F H o v l ∧ (∀ a ∈ l, a ∈ L ∨ a ∈ T) ∧ (∀ a ∈ l', a ∈ l) ∧ ((∃ o0, h = .t o0) → l = T)) : True := trivial
theorem RepO.frNil {d : D} {v : V} {l : List Addr} (r : RepO C K F H (.fr d) v l) : l = [] ∧ RepS C K F d v := r
theorem Hd.part_fr (h : Hd) (d : D) : h.part (.fr d) = .p d := by unfold Hd.part; rfl
theorem Hd.part_no (h : Hd) (o : O) (n : o.isFr = false) : h.part o = (match h with | .t _ => .t o | _ => .q o) := by
  cases o with
  | fr d => cases n
  | _ => rfl
/-- how an operand's value lies with its whole -/
theorem HX.get2 {h : Hd} {v : V} {o : O} (x : HX C K F H σ L T h v) (s : SR C K F H σ env L R) (g : h.get env = some o) : ∃ l, RepO C K F H o v l ∧ ((∃ o0, h = .t o0 ∧ l = T) ∨ ((∀ o0, h ≠ .t o0) ∧ T = [] ∧ ∀ a ∈ l, a ∈ L)) := by
  cases h with
  | p d =>
    cases g
    exact ⟨[], ⟨rfl, x.2⟩, .inr ⟨(fun _ z => by cases z), x.1, fun a z => by simp at z⟩⟩
  | t o' =>
    cases g
    exact ⟨T, x, .inl ⟨_, rfl, rfl⟩⟩
  | n i =>
    obtain ⟨v', La, l, Lb, c, hv, r⟩ := s.slot (show (env[i]?).join = some o from g)
    have e : v' = v := by
      have := hv.symm.trans x.2
      simpa using this
    subst e
    exact ⟨l, r, .inr ⟨(fun _ z => by cases z), x.1, fun a z => c.mem a z⟩⟩
  | io i =>
    obtain ⟨v', La, l, Lb, c, hv, r⟩ := s.slot (show (env[i]?).join = some o from g)
    have e : v' = v := by
      have := hv.symm.trans x.2
      simpa using this
    subst e
    exact ⟨l, r, .inr ⟨(fun _ z => by cases z), x.1, fun a z => c.mem a z⟩⟩
  | q o' =>
    cases g
    obtain ⟨e, l, hl, r⟩ := x
    exact ⟨l, r, .inr ⟨(fun _ z => by cases z), e, hl⟩⟩
end
section
variable {X : Cx} {C : Nat → Addr} {cal : Nat → List O → CRes} {XE : XP}
theorem RepOL.nthS {C : Nat → Addr} {K : PySem.W.Frag} {F H : Hp} : ∀ {os : List O} {vs : List V} {l : List Addr} {i : Nat} {o : O}, RepOL C K F H os vs l → os[i]? = some o → ∃ v l', vs[i]? = some v ∧ RepO C K F H o v l' ∧ List.Sublist l' l
  | [], vs, l, i, o, r, h => by simp at h
  | o0 :: os, vs, l, 0, o, r, h => by
    simp only [RepOL] at r
    obtain ⟨v, s, l1, l2, rfl, q, t, rfl⟩ := r
    simp at h; subst h
    exact ⟨v, l1, rfl, q, List.sublist_append_left _ _⟩
  | o0 :: os, vs, l, i + 1, o, r, h => by
    simp only [RepOL] at r
    obtain ⟨v, s, l1, l2, rfl, q, t, rfl⟩ := r
    obtain ⟨w, l', h1, h2, h3⟩ := RepOL.nthS (i := i) t (by simpa using h)
    exact ⟨w, l', by simpa using h1, h2, h3.trans (List.sublist_append_right _ _)⟩
theorem RepOK.val {C : Nat → Addr} {K : PySem.W.Frag} {F H : Hp} {k : Key} : ∀ {os : List (Key × O)} {vs : List (Key × V)} {l : List Addr} {o : O}, RepOK C K F H os vs l → kget os k = some o → ∃ v l', valV vs k = some v ∧ RepO C K F H o v l' ∧ List.Sublist l' l
  | [], vs, l, o, r, h => by cases h
  | (k0, o0) :: os, vs, l, o, r, h => by
    simp only [RepOK] at r
    obtain ⟨v, s, l1, l2, rfl, q, t, rfl⟩ := r
    by_cases e : k0 = k
    · have e1 : kget ((k0, o0) :: os) k = some o0 := by simp [kget, List.find?_cons, e]
      rw [e1] at h
      cases h
      exact ⟨v, l1, valV_pos (p := (k0, v)) e, q, List.sublist_append_left _ _⟩
    · have e1 : kget ((k0, o0) :: os) k = kget os k := by simp [kget, List.find?_cons, e]
      rw [e1] at h
      obtain ⟨w, l', h1, h2, h3⟩ := RepOK.val t h
      exact ⟨w, l', (valV_neg (p := (k0, v)) e).trans h1, h2, h3.trans (List.sublist_append_right _ _)⟩
theorem ix_dic (hu : X.A.units + 65 < cLine) : IxR X (fun x y H Q => ∃ (a : Addr) (kvs : List (Key × V)) (k : Key) (v : V), x = .ref a ∧ y = kV k ∧ Rd H a (.dK kvs) ∧ valV kvs k = some v ∧ Q v H) := by
  intro value slice pins s σ H x y v u Q I rx ry h hs
  obtain ⟨a, kvs, k, w, rfl, rfl, hd, hv, q⟩ := h
  obtain rfl : v = Value.ref a := rx
  have g : DGet H a (kV k) (some w) := .inl ⟨kvs, k, hd, rfl, hv.symm⟩
  exact PyProof.Rows.tail_any (dict_typeIs I g) PySem.F.slot_dict_getitem.lookup (d_getItem (by omega) I g ry fun w' s3 I3 rw' => ⟨w, H, I3, rw', q⟩) hs
def rAtS (C : Nat → Addr) (K : PySem.W.Frag) : R2 := fun x y H Q => ∃ F o d o' l, Le F H ∧ RepO C K F H o x l ∧ RepS C K H d y ∧ atO o d = some o' ∧ ∀ v' l', RepO C K F H o' v' l' → List.Sublist l' l → Q v' H
theorem ix_atS (hu : X.A.units + 65 < cLine) : IxR X (rAtS C X.K) := by
  intro value slice pins s σ H x y v u Q I rx ry h hs
  obtain ⟨F, o, d, o', l, le, r, rd, ha, q⟩ := h
  unfold atO at ha
  split at ha
  · rename_i xs k
    simp only [RepO, RepS] at r
    obtain ⟨_, a, vs, rfl, hq, t⟩ := r
    obtain ⟨d', e, rfl⟩ := Option.map_eq_some_iff.mp ha
    obtain ⟨j, hj, hb⟩ := atI_map (ys := vs) t.len e
    obtain ⟨w, hw, rw'⟩ := t.nth hj
    simp only [RepS] at rd
    subst rd
    exact ix_list value slice pins s σ H _ _ v u Q I rx ry ⟨a, vs, k, w, rfl, rfl, SqL.of (le.at hq (fun _ z => by cases z)), hb w hw, q w [] ⟨rfl, rw'⟩ (List.nil_sublist _)⟩ hs
  · rename_i xs k
    simp only [RepO, RepS] at r
    obtain ⟨_, a, vs, rfl, hq, t⟩ := r
    obtain ⟨d', e, rfl⟩ := Option.map_eq_some_iff.mp ha
    obtain ⟨j, hj, hb⟩ := atI_map (ys := vs) t.len e
    obtain ⟨w, hw, rw'⟩ := t.nth hj
    simp only [RepS] at rd
    subst rd
    exact ix_tup value slice pins s σ H _ _ v u Q I rx ry ⟨a, vs, k, w, rfl, rfl, SqT.le le hq, hb w hw, q w [] ⟨rfl, rw'⟩ (List.nil_sublist _)⟩ hs
  · rename_i xs k
    simp only [RepO] at r
    obtain ⟨a, vs, r', rfl, hq, t, rfl⟩ := r
    obtain ⟨j, hj, hb⟩ := atI_map (ys := vs) t.len ha
    obtain ⟨w, l', hw, rw', hl⟩ := t.nthS hj
    simp only [RepS] at rd
    subst rd
    exact ix_list value slice pins s σ H _ _ v u Q I rx ry ⟨a, vs, k, w, rfl, rfl, SqL.of hq, hb w hw, q w l' rw' (hl.trans (List.sublist_cons_self _ _))⟩ hs
  · rename_i xs k
    simp only [RepO] at r
    obtain ⟨a, vs, rfl, hq, t⟩ := r
    obtain ⟨j, hj, hb⟩ := atI_map (ys := vs) t.len ha
    obtain ⟨w, l', hw, rw', hl⟩ := t.nthS hj
    simp only [RepS] at rd
    subst rd
    exact ix_tup value slice pins s σ H _ _ v u Q I rx ry ⟨a, vs, k, w, rfl, rfl, .inl (.inl (le.at hq (fun _ z => by cases z))), hb w hw, q w l' rw' hl⟩ hs
  · rename_i z k
    simp only [RepO, RepS] at r
    obtain ⟨_, rfl, hz, hc⟩ := r
    obtain ⟨c, e, rfl⟩ := Option.map_eq_some_iff.mp ha
    simp only [RepS] at rd
    subst rd
    refine ix_str value slice pins s σ H _ _ v u Q I rx ry ⟨z, k, c, rfl, rfl, hz, e, q (.str ⟨#[c]⟩) [] ⟨rfl, ?_⟩ (List.nil_sublist _)⟩ hs
    simp only [RepS]
    refine ⟨trivial, by rw [line_eq]; show 1 ≤ _; decide, ?_⟩
    obtain ⟨j, _, h2, _⟩ := atI_get e
    have hm : c ∈ z.cps := by
      have := List.mem_of_getElem? h2
      simpa using this
    simp only [PyData.canLay0, PyData.strOk, Array.all_eq_true_iff_forall_mem] at hc ⊢
    intro x hx
    have : x = c := by simpa using hx
    rw [this]
    exact hc c hm
  · rename_i kvs _
    simp only [RepO, RepS] at r
    obtain ⟨_, a, ws, rfl, hd, t⟩ := r
    obtain ⟨key, ek, hb⟩ := Option.bind_eq_some_iff.mp ha
    obtain ⟨d', eg, rfl⟩ := Option.map_eq_some_iff.mp hb
    have e0 := keyD_of ek rd
    subst e0
    have hv := t.val (k := key)
    rw [eg] at hv
    obtain ⟨w, hw, rw'⟩ := hv
    exact ix_dic hu value slice pins s σ H _ _ v u Q I rx ry ⟨a, ws, key, w, rfl, rfl, Rd.le le hd, hw, q w [] ⟨rfl, rw'⟩ (List.nil_sublist _)⟩ hs
  · rename_i kvs _
    simp only [RepO] at r
    obtain ⟨a, ws, r', rfl, hd, t, rfl⟩ := r
    obtain ⟨key, ek, hb⟩ := Option.bind_eq_some_iff.mp ha
    have e0 := keyD_of ek rd
    subst e0
    obtain ⟨w, l', hw, rw', hl⟩ := t.val hb
    exact ix_dic hu value slice pins s σ H _ _ v u Q I rx ry ⟨a, ws, key, w, rfl, rfl, .inl hd, hw, q w l' rw' (hl.trans (List.sublist_cons_self _ _))⟩ hs
  · cases ha
theorem s_sub (hu : X.A.units + 65 < cLine) {l r : Expr} {pos : Pos} {a b : CE} (hs : PlainIx r) (ha : EV X C cal XE l a) (hb : EV X C cal XE r b) : EV X C cal XE (.Subscript l r pos) (.sub a b) := by
  refine PE.imp (pe_ix (ix_atS (C := C) hu) ha hb hs) fun σ H Q hq => ?_
  obtain ⟨F, env, L, R, sr, hout⟩ := hq
  simp only [ev] at hout
  refine two (q := (CE.sub a b).quiet) (k := fun ha hi e => if (!ha.isQ || b.quiet) = true then
      match ha.get e, hi with
      | some x, .p y => match atO x y with
        | some o => .ok (ha.part o, e)
        | none => .er
      | _, _ => .er
    else .er) (fun z => by simpa [CE.quiet] using z) sr hout fun x y F2 H2 e2 L2 Ta Tb ha hb p hx hy ho => ?_
  split at ho
  · rename_i hk
    split at ho
    · rename_i ox dy g1
      split at ho
      · rename_i o ho2
        obtain ⟨lx, r1, hw⟩ := (hx hk).get2 p.sr g1
        refine ⟨F2, ox, dy, o, lx, p.sr.le, r1, RepS.le p.sr.le _ _ hy.pS, ho2, fun v' l' ro hl => ?_⟩
        have hTb : Tb = [] := hy.1
        subst hTb
        rw [List.nil_append] at p
        cases ef : o.isFr with
        | true =>
          cases o with
          | fr d =>
            rw [Hd.part_fr] at ho
            exact Out.pd ho p (fun z => by simpa [CE.quiet] using z) ro.2
          | _ => cases ef
        | false =>
          rw [Hd.part_no _ _ ef] at ho
          rcases hw with ⟨o0, rfl, rfl⟩ | ⟨hn, hT, hL⟩
          · exact ho v' F2 H2 L2 l' ((p.less hl).q_of (fun z => by simpa [CE.quiet] using z)) ro
          · have e : (match ha with | .t _ => Hd.t o | _ => .q o) = .q o := by
              cases ha with
              | t o0 => exact absurd rfl (hn o0)
              | _ => rfl
            rw [e] at ho
            exact ho v' F2 H2 L2 [] (p.nil.q_of (fun z => by simpa [CE.quiet] using z)) ⟨rfl, l', fun a ha => hL a (hl.subset ha), ro⟩
      · exact ho.elim
    · exact ho.elim
  · exact ho.elim
def PVO (X : Cx) (C : Nat → Addr) (cal : Nat → List O → CRes) (XE : XP) (e : Option Expr) (c : Option CE) : Prop := match e, c with
  | none, none => True
  | some x, some a => EV X C cal XE x a
  | _, _ => False
theorem s_slice {l : Expr} {lo hi : Option Expr} {p2 pos : Pos} {a : CE} {cl ch : Option CE} (ha : EV X C cal XE l a) (hl : PVO X C cal XE lo cl) (hh : PVO X C cal XE hi ch) : EV X C cal XE (.Subscript l (.Slice lo hi none p2) pos) (.slice a cl ch) := by
  cases lo with
  | none =>
    cases cl with
    | some _ => exact hl.elim
    | none =>
      cases hi with
      | none =>
        cases ch with
        | some _ => exact hh.elim
        | none =>
          refine PE.imp (pe_slice (sl_cut (C := C)) ha po_none po_none) fun σ H Q hq => ?_
          obtain ⟨F, env, L, R, sr, hout⟩ := hq
          simp only [ev, evO, Res.bind] at hout
          refine one sr hout fun x F1 H1 e1 L1 T1 hd p hx ho => ?_
          dsimp only at ho
          split at ho
          · split at ho
            · rename_i o g
              split at ho
              · rename_i o' hc
                obtain ⟨lx, r1, _⟩ := hx.get p.sr g
                exact ⟨F1, _, o', lx, p.sr.le, r1, hc, Out.fin ho p (fun z => by simpa [CE.quiet, quietO] using z)⟩
              · exact ho.elim
            · exact ho.elim
          · exact ho.elim
      | some y =>
        cases ch with
        | none => exact hh.elim
        | some b =>
          refine PE.imp (pe_slice (sl_cut (C := C)) ha po_none (po_some hh)) fun σ H Q hq => ?_
          obtain ⟨F, env, L, R, sr, hout⟩ := hq
          simp only [ev, evO, Res.bind] at hout
          refine one sr hout fun x F1 H1 e1 L1 T1 hd p hx ho => ?_
          have ho' : Out C X.K XE F H σ env L R (CE.slice a none (some b)).quiet ((ev cal b e1).bind fun z => match z.1 with
              | .p (.int i) => if (!hd.isQ || (quietO none && quietO (some b))) = true then
                  match hd.get z.2 with
                  | some x => match cutO x none (some i) with
                    | some o => .ok (mkH o, z.2)
                    | none => .er
                  | none => .er
                else .er
              | _ => .er) Q := by
            cases e : ev cal b e1 with
            | ok z =>
              rw [e] at ho
              obtain ⟨h, e2⟩ := z
              cases h with
              | p d =>
                cases d with
                | int i =>
                  simp only [Res.bind] at ho ⊢
                  exact ho
                | _ => exact ho.elim
              | _ => exact ho.elim
            | ex _ _ _ => rw [e] at ho; exact ho
            | er => rw [e] at ho; exact ho
          refine cont p ho' fun w F2 H2 e2 L2 T2 hb p3 p2 hy ho => ?_
          dsimp only at ho
          split at ho
          · rename_i i
            split at ho
            · rename_i hk
              split at ho
              · rename_i o g
                split at ho
                · rename_i o' hc
                  have hx2 := hx.next p2 (fun z => by rw [z] at hk; simpa [quietO] using hk)
                  obtain ⟨lx, r1, _⟩ := hx2.get p3.sr g
                  exact ⟨i, by simpa [RepS] using hy.pS, F2, _, o', lx, p3.sr.le, r1, hc, Out.fin ho p3 (fun z => by simpa [CE.quiet, quietO] using z)⟩
                · exact ho.elim
              · exact ho.elim
            · exact ho.elim
          · exact ho.elim
  | some y =>
    cases cl with
    | none => exact hl.elim
    | some b =>
      cases hi with
      | none =>
        cases ch with
        | some _ => exact hh.elim
        | none =>
          refine PE.imp (pe_slice (sl_cut (C := C)) ha (po_some hl) po_none) fun σ H Q hq => ?_
          obtain ⟨F, env, L, R, sr, hout⟩ := hq
          simp only [ev, evO, Res.bind] at hout
          refine one sr hout fun x F1 H1 e1 L1 T1 hd p hx ho => ?_
          have ho' : Out C X.K XE F H σ env L R (CE.slice a (some b) none).quiet ((ev cal b e1).bind fun z => match z.1 with
              | .p (.int i) => if (!hd.isQ || (quietO (some b) && quietO none)) = true then
                  match hd.get z.2 with
                  | some x => match cutO x (some i) none with
                    | some o => .ok (mkH o, z.2)
                    | none => .er
                  | none => .er
                else .er
              | _ => .er) Q := by
            cases e : ev cal b e1 with
            | ok z =>
              rw [e] at ho
              obtain ⟨h, e2⟩ := z
              cases h with
              | p d =>
                cases d with
                | int i =>
                  simp only [Res.bind] at ho ⊢
                  exact ho
                | _ => exact ho.elim
              | _ => exact ho.elim
            | ex _ _ _ => rw [e] at ho; exact ho
            | er => rw [e] at ho; exact ho
          refine cont p ho' fun w F2 H2 e2 L2 T2 hb p3 p2 hy ho => ?_
          dsimp only at ho
          split at ho
          · rename_i i
            split at ho
            · rename_i hk
              split at ho
              · rename_i o g
                split at ho
                · rename_i o' hc
                  have hx2 := hx.next p2 (fun z => by rw [z] at hk; simpa [quietO] using hk)
                  obtain ⟨lx, r1, _⟩ := hx2.get p3.sr g
                  exact ⟨i, by simpa [RepS] using hy.pS, F2, _, o', lx, p3.sr.le, r1, hc, Out.fin ho p3 (fun z => by simpa [CE.quiet, quietO] using z)⟩
                · exact ho.elim
              · exact ho.elim
            · exact ho.elim
          · exact ho.elim
      | some y2 =>
        cases ch with
        | none => exact hh.elim
        | some b2 =>
          refine PE.imp (pe_slice (sl_cut (C := C)) ha (po_some hl) (po_some hh)) fun σ H Q hq => ?_
          obtain ⟨F, env, L, R, sr, hout⟩ := hq
          simp only [ev, evO, Res.bind] at hout
          refine one sr hout fun x F1 H1 e1 L1 T1 hd p hx ho => ?_
          have ho' : Out C X.K XE F H σ env L R (CE.slice a (some b) (some b2)).quiet ((ev cal b e1).bind fun z => match z.1 with
              | .p (.int i) => (ev cal b2 z.2).bind fun z2 => match z2.1 with
                | .p (.int j) => if (!hd.isQ || (quietO (some b) && quietO (some b2))) = true then
                  match hd.get z2.2 with
                  | some x => match cutO x (some i) (some j) with
                    | some o => .ok (mkH o, z2.2)
                    | none => .er
                  | none => .er
                  else .er
                | _ => .er
              | _ => .er) Q := by
            cases e : ev cal b e1 with
            | ok z =>
              rw [e] at ho
              obtain ⟨h, e2⟩ := z
              cases h with
              | p d =>
                cases d with
                | int i =>
                  simp only [Res.bind] at ho ⊢
                  cases e' : ev cal b2 e2 with
                  | ok z2 =>
                    rw [e'] at ho
                    obtain ⟨h2, e3⟩ := z2
                    cases h2 with
                    | p d2 =>
                      cases d2 with
                      | int j =>
                        simp only [Res.bind] at ho ⊢
                        exact ho
                      | _ => exact ho.elim
                    | _ => exact ho.elim
                  | ex _ _ _ => rw [e'] at ho; exact ho
                  | er => rw [e'] at ho; exact ho
                | _ => exact ho.elim
              | _ => exact ho.elim
            | ex _ _ _ => rw [e] at ho; exact ho
            | er => rw [e] at ho; exact ho
          refine cont p ho' fun w F2 H2 e2 L2 T2 hb p3 p2 hy ho => ?_
          dsimp only at ho
          split at ho
          · rename_i i
            have hT2 : T2 = [] := hy.1
            subst hT2
            refine ⟨i, by simpa [RepS] using hy.pS, cont p3 ho fun w2 F3 H3 e3 L3 T3 hb2 p5 p4 hy2 ho => ?_⟩
            dsimp only at ho
            split at ho
            · rename_i j
              split at ho
              · rename_i hk
                split at ho
                · rename_i o g
                  split at ho
                  · rename_i o' hc
                    have hk2 : hd.isQ = true → b.quiet = true ∧ b2.quiet = true := fun z => by rw [z] at hk; simpa [quietO] using hk
                    have hx2 := hx.next p2 (fun z => (hk2 z).1)
                    have hx3 := hx2.next (R := R) (by simpa using p4) (fun z => (hk2 z).2)
                    obtain ⟨lx, r1, _⟩ := hx3.get p5.sr g
                    exact ⟨j, by simpa [RepS] using hy2.pS, F3, _, o', lx, p5.sr.le, r1, hc, Out.fin ho p5 (fun z => by simpa [CE.quiet, quietO, Bool.and_assoc] using z)⟩
                  · exact ho.elim
                · exact ho.elim
              · exact ho.elim
            · exact ho.elim
          · exact ho.elim
end
end Cr
end

section
/-! Argument lists, displays, built-in functions. -/
namespace Cr
open PySem L2

section
variable {X : Cx} {C : Nat → Addr} {cal : Nat → List O → CRes} {XE : XP} {K : PySem.W.Frag} {F F' F1 F2 H H' H1 H2 : Hp} {σ : St} {env env1 env2 : Env} {L L1 L2 R T T1 T2 : List Addr} {q q1 q2 : Bool}
theorem SR.perm (s : SR C K F H σ env L (T ++ R)) (h : T.Perm T1) : SR C K F H σ env L (T1 ++ R) :=
  ⟨s.le, s.rep, (List.Perm.nodup_iff (List.Perm.append_left L (List.Perm.append_right R h))).mp s.nd, fun a ha => s.fn a (by
    rcases List.mem_append.mp ha with z | z
    · exact List.mem_append_left _ z
    · rcases List.mem_append.mp z with z | z
      · exact List.mem_append_right _ (List.mem_append_left _ (h.mem_iff.mpr z))
      · exact List.mem_append_right _ (List.mem_append_right _ z))⟩
theorem Pst.perm (p : Pst C K F H σ env L R F1 H1 env1 L1 T q) (h : T.Perm T1) : Pst C K F H σ env L R F1 H1 env1 L1 T1 q := ⟨p.sr.perm h, p.fe, p.kp, p.qt⟩
theorem a_nil : PA X [] (tVs C X.K cal XE []) := PA.imp pa_nil fun σ H Q hq => by
  obtain ⟨F, env, L, R, sr, ho⟩ := hq
  simp only [evs] at ho
  exact ho [] F H L [] ((Pst.refl sr).q_of fun _ => rfl) ⟨rfl, rfl⟩
theorem a_cons {e : Expr} {es : List Expr} {c : CE} {cs : List CE} (hs : starEach (e :: es) X.env = (false, eval e X.env) :: starEach es X.env) (he : EV X C cal XE e c) (hr : PA X es (tVs C X.K cal XE cs)) : PA X (e :: es) (tVs C X.K cal XE (c :: cs)) := by
  refine PA.imp (pa_cons he hr hs) fun σ H Q hq => ?_
  obtain ⟨F, env, L, R, sr, ho⟩ := hq
  simp only [evs] at ho
  refine ⟨F, env, L, R, sr, ?_⟩
  cases h1 : ev cal c env with
  | ok x =>
    rw [h1] at ho
    intro v F1 H1 L1 T1 p hx
    simp only [Res.bind] at ho
    refine ⟨F1, x.2, L1, T1 ++ R, p.sr, ?_⟩
    cases h2 : evs cal cs x.2 with
    | ok y =>
      rw [h2] at ho
      intro vs F2 H2 L2 T2 p2 hy
      refine ho (v :: vs) F2 H2 L2 (T1 ++ T2) (((p.trans p2).perm List.perm_append_comm).q_of fun z => by simpa [quietL] using z) ?_
      exact ⟨v, vs, T1, T2, rfl, rfl, fun hk => hx.next p2 fun z => by rw [z] at hk; simpa using hk, hy⟩
    | ex a b d =>
      rw [h2] at ho
      exact fun F' H' L' p2 => ho F' H' L' (p.trans p2).nil.qf
    | er => rw [h2] at ho; exact ho
  | ex a b d => rw [h1] at ho; exact ho
  | er => rw [h1] at ho; exact ho
theorem list1 {es : List CE} {k : List Hd × Env → Res (Hd × Env)} {Q : VK} {Q1 : List V → Hp → Prop} (sr : SR C K F H σ env L R) (hout : Out C K XE F H σ env L R q ((evs cal es env).bind k) Q)
    (fin : ∀ xs F1 H1 e1 L1 T hs, Pst C K F H σ env L R F1 H1 e1 L1 T (quietL es) → HXs C K F1 H1 σ L1 T hs es xs → Out C K XE F H σ env L R q (k (hs, e1)) Q → Q1 xs H1) : tVs C K cal XE es σ H Q1 := by
  refine ⟨F, env, L, R, sr, ?_⟩
  cases ha : evs cal es env with
  | ok x =>
    rw [ha] at hout
    intro v F1 H1 L1 T p hx
    exact fin v F1 H1 x.2 L1 T x.1 p hx hout
  | ex c d e => rw [ha] at hout; exact hout
  | er => rw [ha] at hout; exact hout
theorem HX.valO {h : Hd} {o : O} {v : V} (x : HX C K F H σ L T h v) (e : h.val = some o) : RepO C K F H o v T := by
  cases h with
  | p d => cases e; exact ⟨x.1, x.2⟩
  | t o' => cases e; exact x
  | _ => cases e
theorem val_noQ {h : Hd} {o : O} (e : h.val = some o) : h.isQ = false := by cases h <;> first | rfl | cases e
theorem HXs.vals : ∀ {T : List Addr} {hs : List Hd} {es : List CE} {vs : List V} {os : List O}, HXs C K F H σ L T hs es vs → allSome (hs.map Hd.val) = some os → RepOL C K F H os vs T ∧ os.length = hs.length
  | T, [], [], vs, os, x, e => by
    simp only [List.map_nil, allSome, Option.some.injEq] at e
    subst e
    exact ⟨by simp only [RepOL]; exact x, rfl⟩
  | T, [], _ :: _, vs, os, x, e => x.elim
  | T, _ :: _, [], vs, os, x, e => x.elim
  | T, h :: hs, c :: es, vs, os, x, e => by
    obtain ⟨v, r, T0, Tr, rfl, rfl, hx, ht⟩ := x
    simp only [List.map_cons] at e
    cases e1 : h.val with
    | none => rw [e1] at e; cases e
    | some o =>
      rw [e1] at e
      simp only [allSome] at e
      cases e2 : allSome (hs.map Hd.val) with
      | none => rw [e2] at e; cases e
      | some os' =>
        rw [e2] at e
        simp only [Option.map_some, Option.some.injEq] at e
        subst e
        obtain ⟨a, b⟩ := HXs.vals ht e2
        have := (hx (by rw [val_noQ e1]; rfl)).valO e1
        exact ⟨by simp only [RepOL]; exact ⟨v, r, T0, Tr, rfl, this, a, rfl⟩, by simp [b]⟩
theorem HXs.len : ∀ {T : List Addr} {hs : List Hd} {es : List CE} {vs : List V}, HXs C K F H σ L T hs es vs → vs.length = hs.length ∧ es.length = hs.length
  | T, [], [], vs, x => by simp [x.1]
  | T, [], _ :: _, vs, x => x.elim
  | T, _ :: _, [], vs, x => x.elim
  | T, h :: hs, c :: es, vs, x => by
    obtain ⟨v, r, T0, Tr, rfl, rfl, hx, ht⟩ := x
    obtain ⟨a, b⟩ := HXs.len ht
    exact ⟨by simp [a], by simp [b]⟩
/-- .. as they are asked by a built-in -/
theorem HXs.gets : ∀ {T : List Addr} {hs : List Hd} {es : List CE} {vs : List V} {os : List O}, SR C K F H σ env L R → HXs C K F H σ L T hs es vs → stayOk hs es = true → allSome (hs.map fun h => h.get env) = some os → RepAs C K F H os vs
  | T, [], [], vs, os, s, x, k, e => by
    simp only [List.map_nil, allSome, Option.some.injEq] at e
    subst e
    exact x.1
  | T, [], _ :: _, vs, os, s, x, k, e => x.elim
  | T, _ :: _, [], vs, os, s, x, k, e => x.elim
  | T, h :: hs, c :: es, vs, os, s, x, k, e => by
    obtain ⟨v, r, T0, Tr, rfl, rfl, hx, ht⟩ := x
    simp only [stayOk, Bool.and_eq_true] at k
    simp only [List.map_cons] at e
    cases e1 : h.get env with
    | none => rw [e1] at e; cases e
    | some o =>
      rw [e1] at e
      simp only [allSome] at e
      cases e2 : allSome (hs.map fun h => h.get env) with
      | none => rw [e2] at e; cases e
      | some os' =>
        rw [e2] at e
        simp only [Option.map_some, Option.some.injEq] at e
        subst e
        obtain ⟨l, r1, _⟩ := (hx k.1).get s e1
        exact ⟨v, r, l, rfl, r1, HXs.gets s ht k.2 e2⟩
theorem s_tup {es : List Expr} {k : Nat} {pos : Pos} {cs : List CE} (h : PA X es (tVs C X.K cal XE cs)) : EV X C cal XE (.Tuple es k pos) (.tup cs) := by
  refine PE.imp (pe_tup h) fun σ H Q hq => ?_
  obtain ⟨F, env, L, R, sr, hout⟩ := hq
  simp only [ev] at hout
  refine list1 sr hout fun xs F1 H1 e1 L1 T hs p hx ho => ?_
  dsimp only at ho
  split at ho
  · rename_i os ev'
    split at ho
    · rename_i hk
      have hk := of_decide_eq_true hk
      obtain ⟨r, hl⟩ := hx.vals ev'
      obtain ⟨hl2, _⟩ := hx.len
      refine ⟨by rw [hl2, ← hl, line_eq]; exact hk, fun pp hp => ?_⟩
      have n := New.tup (vs := xs) p.sr.le hp
      have p2 := p.new n
      simp only [List.nil_append] at p2
      have r2 := RepOL.keep n.fe.le os xs T (fun a ha => n.same a (p.sr.fn a (by simp [ha])).2) r
      unfold mkT at ho
      cases el : leafs os with
      | some ds =>
        rw [el] at ho
        obtain ⟨rfl, r3⟩ := r2.leafs el
        refine ho (.ref pp) _ _ L1 [] (p2.q_of fun z => by simpa [CE.quiet] using z) ⟨rfl, ?_⟩
        simp only [RepS]
        exact ⟨pp, xs, rfl, .inl (.inl upd_same), r3⟩
      | none =>
        rw [el] at ho
        refine ho (.ref pp) _ _ L1 T (p2.q_of fun z => by simpa [CE.quiet] using z) ?_
        show RepO C X.K _ _ (.ot os) _ _
        simp only [RepO]
        exact ⟨pp, xs, rfl, upd_same, r2⟩
    · exact ho.elim
  · exact ho.elim
theorem s_lst {es : List Expr} {pos : Pos} {cs : List CE} (h : PA X es (tVs C X.K cal XE cs)) : EV X C cal XE (.List es pos) (.lst cs) := by
  refine PE.imp (pe_lst h) fun σ H Q hq => ?_
  obtain ⟨F, env, L, R, sr, hout⟩ := hq
  simp only [ev] at hout
  refine list1 sr hout fun xs F1 H1 e1 L1 T hs p hx ho => ?_
  dsimp only at ho
  split at ho
  · rename_i os ev'
    split at ho
    · rename_i hk
      have hk := of_decide_eq_true hk
      obtain ⟨r, hl⟩ := hx.vals ev'
      obtain ⟨hl2, _⟩ := hx.len
      refine ⟨by rw [hl2, ← hl, line_eq]; exact hk, fun pp hp => ?_⟩
      have n := New.lst (vs := xs) p.sr.le hp
      have r2 := RepOL.keep n.fe.le os xs T (fun a ha => n.same a (p.sr.fn a (by simp [ha])).2) r
      refine ho (.ref pp) _ _ L1 _ ((p.new n).q_of fun z => by simpa [CE.quiet] using z) ?_
      show RepO C X.K _ _ (.ol os) _ _
      simp only [RepO]
      exact ⟨pp, xs, T, rfl, upd_same, r2, rfl⟩
    · exact ho.elim
  · exact ho.elim
def Bi.name : Bi → Str
  | .len => "len"
  | .list => "list"
  | .sum => "sum"
  | .max2 => "max"
  | .min2 => "min"
  | .tuple => "tuple"
  | .all => "all"
  | .any => "any"
  | .int1 => "int"
  | .dictP => "dict"
theorem s_bi (hc : X.calm = true) {b : Bi} {p pos : Pos} {e : Expr} {es : List Expr} {c : CE} {cs : List CE} (hg : Gl X b.name) (hm : X.mg b.name = none) (h : PA X (e :: es) (tVs C X.K cal XE (c :: cs)))
    (he : starEach (e :: es) X.env = (false, eval e X.env) :: starEach es X.env) (hpl : (backTo pos (starEach es X.env)).any (·.1) = false) : EV X C cal XE (.Call (.Name b.name p) (e :: es) [] pos) (.bi b (c :: cs)) := by
  have base : PE X (.Call (.Name b.name p) (e :: es) [] pos) (tCB (rBi C X.K b) (tVs C X.K cal XE (c :: cs))) := by
    have r := call_bi (C := C) hc b
    cases b with
    | len => exact pe_callB r hg hm PySem.boot_len h (by decide) (by decide) he hpl
    | list => exact pe_callTy r hg hm (by decide +kernel) h (by decide) (by decide) he hpl
    | sum => exact pe_callB r hg hm (by decide +kernel) h (by decide) (by decide) he hpl
    | max2 => exact pe_callB r hg hm (by decide +kernel) h (by decide) (by decide) he hpl
    | min2 => exact pe_callB r hg hm (by decide +kernel) h (by decide) (by decide) he hpl
    | tuple => exact pe_callTy r hg hm (by decide +kernel) h (by decide) (by decide) he hpl
    | all => exact pe_callB r hg hm (by decide +kernel) h (by decide) (by decide) he hpl
    | any => exact pe_callB r hg hm (by decide +kernel) h (by decide) (by decide) he hpl
    | int1 => exact pe_callTy r hg hm (by decide +kernel) h (by decide) (by decide) he hpl
    | dictP => exact pe_callTy r hg hm (by decide +kernel) h (by decide) (by decide) he hpl
  refine PE.imp base fun σ H Q hq => ?_
  obtain ⟨F, env, L, R, sr, hout⟩ := hq
  simp only [ev] at hout
  refine list1 sr hout fun xs F1 H1 e1 L1 T hs p hx ho => ?_
  dsimp only at ho
  split at ho
  · rename_i hk
    split at ho
    · rename_i os eg
      split at ho
      · rename_i o hb
        exact ⟨F1, os, o, p.sr.le, hx.gets p.sr hk eg, hb, Out.fin ho p fun z => by simpa [CE.quiet] using z⟩
      · exact ho.elim
    · exact ho.elim
  · exact ho.elim
end
end Cr
end

section
/-! Calls of defs. -/
namespace Cr
open PySem L2

section
variable {X : Cx} {C : Nat → Addr} {cal : Nat → List O → CRes} {XE : XP} {K : PySem.W.Frag} {F F' F1 F2 H H' H1 H2 : Hp} {σ : St} {env env1 env2 : Env} {L L1 L2 R T T1 T2 : List Addr} {q q1 q2 : Bool}
mutual
/-- what has no list, dict or instance within hangs on tuples alone -/
theorem RepS.imm (h : ∀ a vs, SqT K F a vs → SqT K F' a vs) : ∀ (d : D) (v : V), d.imm = true → RepS C K F d v → RepS C K F' d v
  | .non, _, _, r => by simpa [RepS] using r
  | .bl _, _, _, r => by simpa [RepS] using r
  | .int _, _, _, r => by simpa [RepS] using r
  | .str _, _, _, r => by simpa [RepS] using r
  | .tup l, v, i, r => by
    simp only [D.imm] at i
    simp only [RepS] at r ⊢
    obtain ⟨a, vs, e, q, t⟩ := r
    exact ⟨a, vs, e, h _ _ q, RepSL.imm h l vs i t⟩
  | .lst l, v, i, r => by simp [D.imm] at i
  | .dic l, v, i, r => by simp [D.imm] at i
  | .ins c l, v, i, r => by simp [D.imm] at i
  | .scr l, v, i, r => by simp [D.imm] at i
  | .bad, _, _, _ => by simp [RepS]
theorem RepSL.imm (h : ∀ a vs, SqT K F a vs → SqT K F' a vs) : ∀ (l : List D) (vs : List V), immL l = true → RepSL C K F l vs → RepSL C K F' l vs
  | [], _, _, r => by simpa [RepSL] using r
  | d :: l, vs, i, r => by
    simp only [immL, Bool.and_eq_true] at i
    simp only [RepSL] at r ⊢
    obtain ⟨v, s, e, q, t⟩ := r
    exact ⟨v, s, e, RepS.imm h d v i.1 q, RepSL.imm h l s i.2 t⟩
end
mutual
theorem RepO.cln (h : ∀ a vs, SqT K F a vs → SqT K F' a vs) (h2 : ∀ a vs, F a = some (.tup vs) → F' a = some (.tup vs)) : ∀ (o : O) (v : V) (l : List Addr), o.clean = true → RepO C K F H o v l → RepO C K F' H o v l
  | .fr d, v, l, i, r => by
    simp only [O.clean] at i
    simp only [RepO] at r ⊢
    exact ⟨r.1, RepS.imm h d v i r.2⟩
  | .ol os, v, l, i, r => by
    simp only [O.clean] at i
    simp only [RepO] at r ⊢
    obtain ⟨a, vs, r', e, q, t, rfl⟩ := r
    exact ⟨a, vs, r', e, q, RepOL.cln h h2 os vs r' i t, rfl⟩
  | .ot os, v, l, i, r => by
    simp only [O.clean] at i
    simp only [RepO] at r ⊢
    obtain ⟨a, vs, e, q, t⟩ := r
    exact ⟨a, vs, e, h2 _ _ q, RepOL.cln h h2 os vs l i t⟩
  | .od os, v, l, i, r => by
    simp only [O.clean] at i
    simp only [RepO] at r ⊢
    obtain ⟨a, vs, r', e, q, t, rfl⟩ := r
    exact ⟨a, vs, r', e, q, RepOK.cln h h2 os vs r' i t, rfl⟩
  | .oi c os, v, l, i, r => by
    simp only [O.clean] at i
    simp only [RepO] at r ⊢
    obtain ⟨a, dx, vs, r', e, q, t, rfl⟩ := r
    exact ⟨a, dx, vs, r', e, q, RepOF.cln h h2 os vs r' i t, rfl⟩
theorem RepOL.cln (h : ∀ a vs, SqT K F a vs → SqT K F' a vs) (h2 : ∀ a vs, F a = some (.tup vs) → F' a = some (.tup vs)) : ∀ (os : List O) (vs : List V) (l : List Addr), cleanL os = true → RepOL C K F H os vs l → RepOL C K F' H os vs l
  | [], _, _, _, r => by simpa [RepOL] using r
  | o :: os, vs, l, i, r => by
    simp only [cleanL, Bool.and_eq_true] at i
    simp only [RepOL] at r ⊢
    obtain ⟨v, s, l1, l2, e, q, t, rfl⟩ := r
    exact ⟨v, s, l1, l2, e, RepO.cln h h2 o v l1 i.1 q, RepOL.cln h h2 os s l2 i.2 t, rfl⟩
theorem RepOK.cln (h : ∀ a vs, SqT K F a vs → SqT K F' a vs) (h2 : ∀ a vs, F a = some (.tup vs) → F' a = some (.tup vs)) : ∀ (os : List (Key × O)) (vs : List (Key × V)) (l : List Addr), cleanK os = true → RepOK C K F H os vs l → RepOK C K F' H os vs l
  | [], _, _, _, r => by simpa [RepOK] using r
  | (k0, o) :: os, vs, l, i, r => by
    simp only [cleanK, Bool.and_eq_true] at i
    simp only [RepOK] at r ⊢
    obtain ⟨v, s, l1, l2, e, q, t, rfl⟩ := r
    exact ⟨v, s, l1, l2, e, RepO.cln h h2 o v l1 i.1 q, RepOK.cln h h2 os s l2 i.2 t, rfl⟩
theorem RepOF.cln (h : ∀ a vs, SqT K F a vs → SqT K F' a vs) (h2 : ∀ a vs, F a = some (.tup vs) → F' a = some (.tup vs)) : ∀ (os : List (Str × O)) (vs : List (Str × V)) (l : List Addr), cleanF os = true → RepOF C K F H os vs l → RepOF C K F' H os vs l
  | [], _, _, _, r => by simpa [RepOF] using r
  | (k0, o) :: os, vs, l, i, r => by
    simp only [cleanF, Bool.and_eq_true] at i
    simp only [RepOF] at r ⊢
    obtain ⟨v, s, l1, l2, e, q, t, rfl⟩ := r
    exact ⟨v, s, l1, l2, e, RepO.cln h h2 o v l1 i.1 q, RepOF.cln h h2 os s l2 i.2 t, rfl⟩
end
/-- what was lent comes back -/
def back (S : List Addr) (F : Hp) : Hp := fun a => if a ∈ S then none else F a
structure Lent (S T : List Addr) (F1 H1 F2 F' H' : Hp) : Prop where
  sub : Sub F1 F'
  le : Le F' H'
  same : ∀ a ∈ S, H' a = H1 a
  none_ : ∀ a ∈ S, F' a = none
  nn : ∀ a, F2 a = none → F' a = none
  out : ∀ a, F2 a = none → a ∉ S
  tup : ∀ a vs, F2 a = some (.tup vs) → F' a = some (.tup vs)
  sqt : ∀ a vs, SqT K F2 a vs → SqT K F' a vs
theorem lent {S : List Addr} (hS : ∀ a ∈ S, F1 a = none ∧ Own (H1 a)) (hT : ∀ a ∈ T, F1 a = none) (sub : Sub (frzH (S ++ T) F1 H1) F2) (le : Le F2 H') (kp : ∀ a, frzH (S ++ T) F1 H1 a ≠ none → H' a = H1 a) : Lent (K := K) S T F1 H1 F2 (back S F2) H' := by
  have own : ∀ a ∈ S, ∃ u, H1 a = some u ∧ Own (some u) ∧ F2 a = some u := fun a ha => by
    have h1 := (hS a ha).2
    cases e : H1 a with
    | none => rw [e] at h1; exact h1.elim
    | some u =>
      rw [e] at h1
      exact ⟨u, rfl, h1, sub a u (by rw [frzH_in (by simp [ha])]; exact e)⟩
  have notS : ∀ a u, F2 a = some u → ¬ Own (some u) → a ∉ S := fun a u e n ha => by
    obtain ⟨u', _, o, e'⟩ := own a ha
    rw [e] at e'; cases e'; exact n o
  have keep : ∀ a, a ∉ S → back S F2 a = F2 a := fun a ha => by unfold back; rw [if_neg ha]
  refine ⟨fun a u e => ?_, fun a u e => ?_, fun a ha => ?_, fun a ha => by unfold back; rw [if_pos ha], fun a e => ?_, fun a e ha => ?_, fun a vs e => ?_, fun a vs e => ?_⟩
  · have n1 : a ∉ S := fun z => by rw [(hS a z).1] at e; cases e
    have n2 : a ∉ T := fun z => by rw [hT a z] at e; cases e
    rw [keep a n1]
    exact sub a u (by rw [frzH_out (by simp [n1, n2])]; exact e)
  · unfold back at e
    split at e
    · cases e
    · exact le a u e
  · obtain ⟨u, e, _, _⟩ := own a ha
    exact kp a (by rw [frzH_in (by simp [ha]), e]; simp)
  · unfold back; split
    · rfl
    · exact e
  · obtain ⟨u, _, _, e'⟩ := own a ha
    rw [e] at e'; cases e'
  · rw [keep a (notS a _ e (fun z => z))]; exact e
  · rcases e with e | e
    · left
      rcases e with e | ⟨o, e⟩
      · exact .inl (by rw [keep a (notS a _ e (fun z => z))]; exact e)
      · exact .inr ⟨o, by rw [keep a (notS a _ e (fun z => z))]; exact e⟩
    · exact .inr e
/-- the callee's promise -/
def spF (C : Nat → Addr) (K : PySem.W.Frag) (xe : XK → XP) (cal : Nat → List O → CRes) (f np : Nat) (io : List Nat) : Sp := fun vs H Q E => ∃ F R os L, vs.length = np ∧ SR C K F H (vs.map some) (os.map some) L R ∧
  match cal f os with
  | .ok r outs => ∀ v F' H' T L', SR C K F' H' ((io.filterMap fun i => vs[i]?).map some) (outs.map some) L' (T ++ R) → RepO C K F' H' r v T → Sub F F' → (∀ a, F a ≠ none ∨ a ∈ R → H' a = H a) → Q v H'
  | .ex c d outs => ∀ F' H' L', SR C K F' H' ((io.filterMap fun i => vs[i]?).map some) (outs.map some) L' R → Sub F F' → (∀ a, F a ≠ none ∨ a ∈ R → H' a = H a) → xe E c d H'
  | .er => False
theorem arg_fr {h : Hd} {o : O} (n : ∀ i, h ≠ .io i) (e : h.arg env = some o) : ∃ d, o = .fr d ∧ h.view env = some d := by
  cases h with
  | io i => exact absurd rfl (n i)
  | _ =>
    simp only [Hd.arg] at e
    obtain ⟨d, hd, rfl⟩ := Option.map_eq_some_iff.mp e
    exact ⟨d, rfl, hd⟩
theorem args_frz {Fc Hc : Hp} {P : Hd → Prop} (key : ∀ (h : Hd) (v : V) (T0 : List Addr) (d : D), P h → (∀ a ∈ T0, a ∈ T) → HX C K F H σ L T0 h v → (∀ i, h ≠ .io i) → h.view env = some d → RepS C K Fc d v) :
    ∀ {T0 : List Addr} {hs : List Hd} {es : List CE} {vs : List V} {os : List O}, (∀ a ∈ T0, a ∈ T) → HXs C K F H σ L T0 hs es vs → stayOk hs es = true → ioSlots hs = [] → (∀ h ∈ hs, P h) → allSome (hs.map fun h => h.arg env) = some os → RepE C K Fc Hc (os.map some) (vs.map some) []
  | T0, [], [], vs, os, _, x, _, _, _, e => by
    simp only [List.map_nil, allSome, Option.some.injEq] at e
    subst e
    simp only [List.map_nil, RepE]
    exact ⟨by rw [x.1]; rfl, trivial⟩
  | T0, [], _ :: _, vs, os, _, x, _, _, _, e => x.elim
  | T0, _ :: _, [], vs, os, _, x, _, _, _, e => x.elim
  | T0, h :: hs, c :: es, vs, os, hT, x, k, n, hP, e => by
    obtain ⟨v, r, Ta, Tr, rfl, rfl, hx, ht⟩ := x
    simp only [stayOk, Bool.and_eq_true] at k
    have hn : ∀ i, h ≠ .io i := fun i z => by subst z; simp [ioSlots] at n
    have n' : ioSlots hs = [] := by cases h <;> first | exact n | exact absurd rfl (hn _)
    simp only [List.map_cons] at e
    cases e1 : h.arg env with
    | none => rw [e1] at e; cases e
    | some o =>
      rw [e1] at e
      simp only [allSome] at e
      cases e2 : allSome (hs.map fun h => h.arg env) with
      | none => rw [e2] at e; cases e
      | some os' =>
        rw [e2] at e
        simp only [Option.map_some, Option.some.injEq] at e
        subst e
        obtain ⟨d, rfl, hd⟩ := arg_fr hn e1
        simp only [List.map_cons, RepE]
        exact ⟨v, r.map some, [], [], rfl, ⟨rfl, key h v Ta d (hP h (by simp)) (fun a ha => hT a (by simp [ha])) (hx k.1) hn hd⟩, args_frz key (fun a ha => hT a (by simp [ha])) ht k.2 n' (fun h hh => hP h (by simp [hh])) e2, rfl⟩
theorem mem_nm {i : Nat} : ∀ {hs : List Hd}, (nmSlots hs).all (fun j => j != i) = true → hasQ hs = false → ∀ h ∈ hs, h ≠ .n i ∧ h.isQ = false
  | [], _, _, h, hh => by simp at hh
  | h0 :: hs, nm, nq, h, hh => by
    simp only [hasQ, Bool.or_eq_false_iff] at nq
    have nm' : (nmSlots hs).all (fun j => j != i) = true := by
      cases h0 <;> first | exact nm | skip
      simp only [nmSlots, List.all_cons, Bool.and_eq_true] at nm
      exact nm.2
    rcases List.mem_cons.mp hh with rfl | hh
    · exact ⟨fun z => by subst z; simp [nmSlots] at nm, nq.1⟩
    · exact mem_nm nm' nq.2 h hh
/-- .. where one of them may be changed -/
theorem args_io {Fc Hc : Hp} {i : Nat} {oi : O} {vi : V} {li : List Addr} (hi : (env[i]?).join = some oi) (hsi : σ[i]? = some (some vi)) (ri : RepO C K Fc Hc oi vi li)
    (key : ∀ (h : Hd) (v : V) (T0 : List Addr) (d : D), (∀ a ∈ T0, a ∈ T) → HX C K F H σ L T0 h v → (∀ i, h ≠ .io i) → h ≠ .n i → h.isQ = false → h.view env = some d → RepS C K Fc d v) :
    ∀ {T0 : List Addr} {hs : List Hd} {es : List CE} {vs : List V} {os : List O}, (∀ a ∈ T0, a ∈ T) → HXs C K F H σ L T0 hs es vs → stayOk hs es = true → ioSlots hs = [i] → (nmSlots hs).all (fun j => j != i) = true → hasQ hs = false →
      allSome (hs.map fun h => h.arg env) = some os → RepE C K Fc Hc (os.map some) (vs.map some) li ∧ ∀ k j, ioPos hs k = [j] → k ≤ j ∧ vs[j - k]? = some vi
  | T0, [], [], vs, os, _, x, _, n, _, _, e => by simp [ioSlots] at n
  | T0, [], _ :: _, vs, os, _, x, _, _, _, _, e => x.elim
  | T0, _ :: _, [], vs, os, _, x, _, _, _, _, e => x.elim
  | T0, h :: hs, c :: es, vs, os, hT, x, k, n, nm, nq, e => by
    obtain ⟨v, r, Ta, Tr, rfl, rfl, hx, ht⟩ := x
    simp only [stayOk, Bool.and_eq_true] at k
    simp only [hasQ, Bool.or_eq_false_iff] at nq
    simp only [List.map_cons] at e
    cases e1 : h.arg env with
    | none => rw [e1] at e; cases e
    | some o =>
      rw [e1] at e
      simp only [allSome] at e
      cases e2 : allSome (hs.map fun h => h.arg env) with
      | none => rw [e2] at e; cases e
      | some os' =>
        rw [e2] at e
        simp only [Option.map_some, Option.some.injEq] at e
        subst e
        by_cases hio : ∃ j, h = .io j
        · obtain ⟨j, rfl⟩ := hio
          have nm0 : (nmSlots hs).all (fun j => j != i) = true := nm
          simp only [ioSlots, List.cons.injEq] at n
          obtain ⟨rfl, n'⟩ := n
          have hv := hx k.1
          have ev : v = vi := by
            have := hv.2.symm.trans hsi
            simpa using this
          subst ev
          simp only [Hd.arg, hi] at e1
          have eo : o = oi := by
            cases oi with
            | fr d => cases e1
            | _ => cases e1; rfl
          subst eo
          simp only [List.map_cons, RepE]
          refine ⟨⟨v, r.map some, li, [], rfl, ri, args_frz (P := fun h => h ≠ .n j ∧ h.isQ = false) (F := F) (H := H) (σ := σ) (L := L) (env := env) (T := T) (fun h v T0 d hp h1 h2 h3 h4 => key h v T0 d h1 h2 h3 hp.1 hp.2 h4) (fun a ha => hT a (by simp [ha])) ht k.2 n' (mem_nm nm0 nq.2) e2, by simp⟩, fun k j hj => ?_⟩
          · simp only [ioPos] at hj
            have : k = j := by
              have := congrArg List.head? hj
              simpa using this
            subst this
            exact ⟨Nat.le_refl _, by simp⟩
        · have hn : ∀ j, h ≠ .io j := fun j z => hio ⟨j, z⟩
          have n' : ioSlots hs = [i] := by cases h <;> first | exact n | exact absurd rfl (hn _)
          have nmh : h ≠ .n i := fun z => by subst z; simp [nmSlots] at nm
          have nm' : (nmSlots hs).all (fun j => j != i) = true := by
            cases h <;> first | exact nm | skip
            simp only [nmSlots, List.all_cons, Bool.and_eq_true] at nm
            exact nm.2
          obtain ⟨d, rfl, hd⟩ := arg_fr hn e1
          obtain ⟨a1, a2⟩ := args_io hi hsi ri key (fun a ha => hT a (by simp [ha])) ht k.2 n' nm' nq.2 e2
          simp only [List.map_cons, RepE]
          refine ⟨⟨v, r.map some, [], li, rfl, ⟨rfl, key h v Ta d (fun a ha => hT a (by simp [ha])) (hx k.1) hn nmh nq.1 hd⟩, a1, rfl⟩, fun k j hj => ?_⟩
          have hj' : ioPos hs (k + 1) = [j] := by cases h <;> first | exact hj | exact absurd rfl (hn _)
          obtain ⟨b1, b2⟩ := a2 (k + 1) j hj'
          refine ⟨by omega, ?_⟩
          have : j - k = (j - (k + 1)) + 1 := by omega
          rw [this, List.getElem?_cons_succ]
          exact b2
theorem view_get {h : Hd} {d : D} (e : h.view env = some d) : ∃ o, h.get env = some o ∧ d = o.frz := by
  obtain ⟨o, h1, h2⟩ := Option.map_eq_some_iff.mp (show (h.get env).map O.frz = some d from e)
  exact ⟨o, h1, h2.symm⟩
theorem putNil {e1 e2 : Env} {outs : List O} (h : putOuts [] outs e1 = some e2) : outs = [] ∧ e2 = e1 := by
  cases outs with
  | nil => exact ⟨rfl, (Option.some.inj h).symm⟩
  | cons => cases h
theorem putOne {i : Nat} {e1 e2 : Env} {outs : List O} (h : putOuts [i] outs e1 = some e2) : ∃ o, outs = [o] ∧ i < e1.length ∧ e2 = e1.set i (some o) := by
  cases outs with
  | nil => cases h
  | cons o os =>
    simp only [putOuts, setS] at h
    split at h
    · rename_i hi
      simp only [Option.bind_some] at h
      obtain ⟨rfl, rfl⟩ := putNil h
      exact ⟨o, rfl, hi, rfl⟩
    · cases h
theorem RepE.one {o : O} {v : V} {l : List Addr} (r : RepE C K F H [some o] [some v] l) : RepO C K F H o v l := by
  simp only [RepE] at r
  obtain ⟨v', s, l1, l2, e, q, ⟨_, rfl⟩, rfl⟩ := r
  simp only [List.cons.injEq, Option.some.injEq] at e
  obtain ⟨rfl, _⟩ := e
  rw [List.append_nil]; exact q
end
section
variable {X : Cx} {C : Nat → Addr} {cal : Nat → List O → CRes} {xe : XK → XP}
theorem nd3 {A B D R : List Addr} (h : (A ++ (B ++ (D ++ R))).Nodup) : ∀ a ∈ B, a ∉ A ∧ a ∉ D ∧ a ∉ R := fun a ha => by
  have h1 := List.nodup_append.mp h
  have h2 := List.nodup_append.mp h1.2.1
  refine ⟨fun z => h1.2.2 a z a (by simp [ha]) rfl, fun z => h2.2.2 a ha a (by simp [z]) rfl, fun z => h2.2.2 a ha a (by simp [z]) rfl⟩
theorem io_mem {i : Nat} : ∀ {hs : List Hd}, ioSlots hs = [i] → Hd.io i ∈ hs
  | [], h => by simp [ioSlots] at h
  | .io j :: hs, h => by
    simp only [ioSlots, List.cons.injEq] at h
    rw [h.1]; simp
  | .p d :: hs, h => by simp [io_mem (hs := hs) h]
  | .t d :: hs, h => by simp [io_mem (hs := hs) h]
  | .n d :: hs, h => by simp [io_mem (hs := hs) h]
  | .q d :: hs, h => by simp [io_mem (hs := hs) h]
theorem io_len : ∀ (hs : List Hd) (k : Nat), (ioPos hs k).length = (ioSlots hs).length
  | [], _ => rfl
  | .io j :: hs, k => by simp [ioPos, ioSlots, io_len hs]
  | .p d :: hs, k => by simp [ioPos, ioSlots, io_len hs]
  | .t d :: hs, k => by simp [ioPos, ioSlots, io_len hs]
  | .n d :: hs, k => by simp [ioPos, ioSlots, io_len hs]
  | .q d :: hs, k => by simp [ioPos, ioSlots, io_len hs]
theorem allSome_mem {α : Type} : ∀ {l : List (Option α)} {r : List α}, allSome l = some r → ∀ x ∈ l, ∃ a, x = some a
  | [], r, h, x, hx => by simp at hx
  | some a :: l, r, h, x, hx => by
    simp only [allSome] at h
    rcases List.mem_cons.mp hx with rfl | hx
    · exact ⟨a, rfl⟩
    · cases e : allSome l with
      | none => rw [e] at h; cases h
      | some r' => exact allSome_mem e x hx
  | none :: l, r, h, x, hx => by cases h
theorem arg_io {i : Nat} {e : Env} {o : O} (h : (Hd.io i).arg e = some o) : (e[i]?).join = some o := by
  simp only [Hd.arg] at h
  split at h
  · cases h
  · rename_i o' _ e'
    cases h; exact e'
  · cases h
theorem lookF_none {C : Nat → Addr} {K : PySem.W.Frag} {F : Hp} {m : Str} : ∀ {l : List (Str × D)} {fs : List (Str × V)}, RepSF C K F l fs → l.lookup m = none → fs.lookup m = none
  | [], fs, r, h => by simp only [RepSF] at r; subst r; rfl
  | (g, d) :: l, fs, r, h => by
    simp only [RepSF] at r
    obtain ⟨v, s, rfl, _, t⟩ := r
    simp only [List.lookup_cons] at h ⊢
    split at h
    · cases h
    · exact lookF_none t h
theorem lookOF_none {C : Nat → Addr} {K : PySem.W.Frag} {F H : Hp} {m : Str} : ∀ {l : List (Str × O)} {fs : List (Str × V)} {ls : List Addr}, RepOF C K F H l fs ls → l.lookup m = none → fs.lookup m = none
  | [], fs, ls, r, h => by simp only [RepOF] at r; obtain ⟨rfl, _⟩ := r; rfl
  | (g, d) :: l, fs, ls, r, h => by
    simp only [RepOF] at r
    obtain ⟨v, s, l1, l2, rfl, _, t, _⟩ := r
    simp only [List.lookup_cons] at h ⊢
    split at h
    · cases h
    · exact lookOF_none t h
theorem call_tail {E : XK} {f np : Nat} {io : List Nat} {cs : List CE} {hs : List Hd} {xs : List V} {σ : St} {F H F1 H1 : Hp} {env e1 : Env} {L R L1 T : List Addr} {q1 qq : Bool} {Q : VK} {K : PySem.W.Frag} (hnp : cs.length = np) (hqq : qq = true → io = [] ∧ q1 = true)
    (p : Pst C K F H σ env L R F1 H1 e1 L1 T q1) (hx : HXs C K F1 H1 σ L1 T hs cs xs) (ho : Out C K (xe E) F H σ env L R qq (callF cal f io cs hs e1) Q) : spF C K xe cal f np io xs H1 Q E := by
  unfold callF at ho
  split at ho
  case isFalse => exact ho.elim
  rename_i hk
  simp only [Bool.and_eq_true, beq_iff_eq] at hk
  obtain ⟨⟨hk1, hk2⟩, hk3⟩ := hk
  split at ho
  case h_2 => exact ho.elim
  rename_i os eo
  obtain ⟨hl1, hl2⟩ := hx.len
  have hlen : xs.length = np := by omega
  have hF1 : ∀ a ∈ L1 ++ (T ++ R), F1 a = none ∧ H1 a ≠ none := p.sr.fn
  have hOwn := p.sr.rep.own
  cases hio : ioSlots hs with
  | nil =>
    have hpos : io = [] := by
      rw [← hk3]
      have : ∀ (hs : List Hd) (k : Nat), ioSlots hs = [] → ioPos hs k = [] := fun hs => by
        induction hs with
        | nil => intro k _; rfl
        | cons h hs ih =>
          intro k z
          cases h <;> first | exact ih (k + 1) z | cases z
      exact this hs 0 hio
    subst hpos
    rw [hio] at ho
    have hS : ∀ a ∈ L1, F1 a = none ∧ Own (H1 a) := fun a ha => ⟨(hF1 a (by simp [ha])).1, hOwn a ha⟩
    have hT : ∀ a ∈ T, F1 a = none := fun a ha => (hF1 a (by simp [ha])).1
    have hST : ∀ a ∈ L1 ++ T, F1 a = none := fun a ha => (hF1 a (by
      rcases List.mem_append.mp ha with z | z <;> simp [z])).1
    have hsub := frzH_sub (H := H1) hST
    have hR : ∀ a ∈ R, a ∉ L1 ++ T := fun a ha z => by
      have nd := p.sr.nd
      rw [← List.append_assoc] at nd
      exact (List.nodup_append.mp nd).2.2 a z a ha rfl
    refine ⟨frzH (L1 ++ T) F1 H1, R, os, [], hlen, ⟨frzH_le p.sr.le, ?_, ?_, fun a ha => ?_⟩, ?_⟩
    · refine args_frz (P := fun _ => True) (F := F1) (H := H1) (σ := σ) (L := L1) (env := e1) (T := T) (fun h v T0 d _ hT0 x hn hv => ?_) (fun a ha => ha) hx hk1 hio (fun _ _ => trivial) eo
      obtain ⟨o, g, rfl⟩ := view_get hv
      obtain ⟨l, r, hl⟩ := x.get p.sr g
      exact RepO.frz hsub.le o v l (fun a ha => frzH_in (by
        rcases hl a ha with z | z
        · simp [z]
        · simp [hT0 a z])) r
    · have nd := p.sr.nd
      rw [← List.append_assoc] at nd
      exact (List.nodup_append.mp nd).2.1
    · have ha : a ∈ R := by simpa using ha
      rw [frzH_out (hR a ha)]
      exact hF1 a (by simp [ha])
    · revert ho
      cases hc : cal f os with
      | ok r outs =>
        intro ho
        dsimp only at ho
        split at ho
        case h_2 => exact ho.elim
        rename_i e2 hp
        obtain ⟨rfl, rfl⟩ := putNil hp
        split at ho
        case isFalse => exact ho.elim
        rename_i hcl
        simp only [Bool.and_eq_true] at hcl
        intro v F' H' T' L' sr' rr fe kp
        have lt : Lent (K := K) L1 T F1 H1 F' (back L1 F') H' := lent hS hT fe sr'.le (fun a z => kp a (.inl z))
        have hL' : L' = [] := by
          have := sr'.rep
          simp only [List.filterMap_nil, List.map_nil, RepE] at this
          exact this.2
        subst hL'
        have hnew : SR C K (back L1 F') H' σ e2 L1 (T' ++ R) := by
          refine ⟨lt.le, RepE.keep lt.sub.le (fun a ha => lt.same a ha) p.sr.rep, ?_, fun a ha => ?_⟩
          · refine List.nodup_append.mpr ⟨(List.nodup_append.mp p.sr.nd).1, by simpa using sr'.nd, fun a ha b hb e => ?_⟩
            subst e
            exact lt.out a (sr'.fn a (by simpa using hb)).1 ha
          · rcases List.mem_append.mp ha with z | z
            · exact ⟨lt.none_ a z, by rw [lt.same a z]; exact (hF1 a (by simp [z])).2⟩
            · have := sr'.fn a (by simpa using z)
              exact ⟨lt.nn a this.1, this.2⟩
        refine ho v (back L1 F') H' L1 T' ⟨hnew, p.fe.trans lt.sub, fun a ha => ?_, fun z => ?_⟩ ?_
        · rw [← p.kp a ha]
          rcases ha with ha | ha
          · refine kp a (.inl ?_)
            cases e : F a with
            | none => exact absurd e ha
            | some u => rw [hsub a u (p.fe a u e)]; simp
          · exact kp a (.inr ha)
        · have z' := (hqq z).2
          obtain ⟨a1, a2, a3⟩ := p.qt z'
          exact ⟨a1, a2, fun a ha => by rw [lt.same a (by rw [a2]; exact ha), a3 a ha]⟩
        · have rr2 := RepO.cln lt.sqt lt.tup r v T' hcl.1 rr
          cases r with
          | fr d => exact ⟨rr2.1, rr2.2⟩
          | _ => exact rr2
      | ex c d outs =>
        intro ho
        dsimp only at ho
        split at ho
        case h_2 => exact ho.elim
        rename_i e2 hp
        obtain ⟨rfl, rfl⟩ := putNil hp
        split at ho
        case isFalse => exact ho.elim
        intro F' H' L' sr' fe kp
        have lt : Lent (K := K) L1 T F1 H1 F' (back L1 F') H' := lent hS hT fe sr'.le (fun a z => kp a (.inl z))
        have hL' : L' = [] := by
          have := sr'.rep
          simp only [List.filterMap_nil, List.map_nil, RepE] at this
          exact this.2
        subst hL'
        have hnew : SR C K (back L1 F') H' σ e2 L1 ([] ++ R) := by
          refine ⟨lt.le, RepE.keep lt.sub.le (fun a ha => lt.same a ha) p.sr.rep, ?_, fun a ha => ?_⟩
          · refine List.nodup_append.mpr ⟨(List.nodup_append.mp p.sr.nd).1, by simpa using sr'.nd, fun a ha b hb e => ?_⟩
            subst e
            exact lt.out a (sr'.fn a (by simpa using hb)).1 ha
          · rcases List.mem_append.mp ha with z | z
            · exact ⟨lt.none_ a z, by rw [lt.same a z]; exact (hF1 a (by simp [z])).2⟩
            · have := sr'.fn a (by simpa using z)
              exact ⟨lt.nn a this.1, this.2⟩
        refine ho (back L1 F') H' L1 ⟨hnew, p.fe.trans lt.sub, fun a ha => ?_, fun z => by cases z⟩
        rw [← p.kp a ha]
        rcases ha with ha | ha
        · refine kp a (.inl ?_)
          cases e : F a with
          | none => exact absurd e ha
          | some u => rw [hsub a u (p.fe a u e)]; simp
        · exact kp a (.inr ha)
      | er => intro ho; exact ho
  | cons i rest =>
    unfold ioOk at hk2
    rw [hio] at hk2
    have hrest : rest = [] := by
      cases rest with
      | nil => rfl
      | cons => cases hk2
    subst hrest
    simp only [Bool.and_eq_true, Bool.not_eq_true'] at hk2
    rw [hio] at ho
    obtain ⟨oi, hoi⟩ := allSome_mem eo _ (List.mem_map_of_mem (io_mem hio))
    have hei := arg_io hoi
    obtain ⟨vi, La, li, Lb, c, hσ, ri⟩ := p.sr.slot hei
    have hio1 : ∃ j, io = [j] := by
      have := io_len hs 0
      rw [hk3, hio] at this
      cases io with
      | nil => simp at this
      | cons j r => cases r with
        | nil => exact ⟨j, rfl⟩
        | cons => simp at this
    obtain ⟨j, rfl⟩ := hio1
    have hsubS : ∀ a ∈ La ++ Lb, a ∈ L1 := fun a ha => by
      rw [c.eq]
      rcases List.mem_append.mp ha with z | z <;> simp [z]
    have hS : ∀ a ∈ La ++ Lb, F1 a = none ∧ Own (H1 a) := fun a ha => ⟨(hF1 a (by simp [hsubS a ha])).1, hOwn a (hsubS a ha)⟩
    have hT : ∀ a ∈ T, F1 a = none := fun a ha => (hF1 a (by simp [ha])).1
    have hST : ∀ a ∈ (La ++ Lb) ++ T, F1 a = none := fun a ha => by
      rcases List.mem_append.mp ha with z | z
      · exact (hS a z).1
      · exact hT a z
    have hsub := frzH_sub (H := H1) hST
    have ndAll : ((La ++ Lb) ++ (T ++ (li ++ R))).Nodup := by
      have nd := p.sr.nd
      rw [c.eq] at nd
      refine (List.Perm.nodup_iff ?_).mp nd
      simp only [List.append_assoc]
      exact List.Perm.append_left La ((List.perm_append_comm_assoc li Lb (T ++ R)).trans (List.Perm.append_left Lb (List.perm_append_comm_assoc li T R)))
    have nd2 := List.nodup_append.mp ndAll
    have nd3' := List.nodup_append.mp nd2.2.1
    have hout2 : ∀ a ∈ li ++ R, a ∉ (La ++ Lb) ++ T := fun a ha z => by
      rcases List.mem_append.mp z with z | z
      · exact nd2.2.2 a z a (List.mem_append_right _ ha) rfl
      · exact nd3'.2.2 a z a ha rfl
    have ri' : RepO C K (frzH ((La ++ Lb) ++ T) F1 H1) H1 oi vi li := RepO.keep hsub.le oi vi li (fun _ _ => rfl) ri
    obtain ⟨hrep, hpos⟩ := args_io (F := F1) (H := H1) (σ := σ) (L := L1) (env := e1) (T := T) hei hσ ri' (fun h v T0 d hT0 x hn hni hnq hv => by
      obtain ⟨o, g, rfl⟩ := view_get hv
      cases h with
      | p d =>
        cases g
        exact RepS.le hsub.le _ _ x.2
      | t o' =>
        cases g
        exact RepO.frz hsub.le _ v T0 (fun a ha => frzH_in (by simp [hT0 a ha])) x
      | n j' =>
        have hj : j' ≠ i := fun z => hni (by rw [z])
        have hd := c.del F1 H1 (Le.refl F1) (fun _ _ => rfl)
        have gj : (e1.set i none)[j']? = some (some o) := by
          rw [List.getElem?_set_ne (Ne.symm hj)]
          exact getE (show (e1[j']?).join = some o from g)
        obtain ⟨A1, l', A2, c2⟩ := hd.cut (List.getElem?_eq_some_iff.mp gj).1
        obtain ⟨v', hv', r'⟩ := c2.at_ o gj
        have e : v' = v := by
          have := hv'.symm.trans x.2
          simpa using this
        subst e
        exact RepO.frz hsub.le o v' l' (fun a ha => frzH_in (List.mem_append_left _ (c2.mem a ha))) r'
      | q o' => cases hnq
      | io j' => exact absurd rfl (hn j')) (fun a ha => ha) hx hk1 hio hk2.1 hk2.2 eo
    have hvi : xs[j]? = some vi := by
      have := (hpos 0 j hk3).2
      simpa using this
    have hfm : ([j].filterMap fun i => xs[i]?).map some = [some vi] := by simp [hvi]
    refine ⟨frzH ((La ++ Lb) ++ T) F1 H1, R, os, li, hlen, ⟨frzH_le p.sr.le, hrep, nd3'.2.1, fun a ha => ?_⟩, ?_⟩
    · rw [frzH_out (hout2 a ha)]
      refine hF1 a ?_
      rw [c.eq]
      rcases List.mem_append.mp ha with z | z <;> simp [z]
    · -- behind the call
      have common : ∀ (F' H' : Hp) (L' T' : List Addr) (o' : O), o'.clean = true → SR C K F' H' (([j].filterMap fun i => xs[i]?).map some) ([o'].map some) L' (T' ++ R) → Sub (frzH ((La ++ Lb) ++ T) F1 H1) F' → (∀ a, frzH ((La ++ Lb) ++ T) F1 H1 a ≠ none ∨ a ∈ R → H' a = H1 a) →
          Lent (K := K) (La ++ Lb) T F1 H1 F' (back (La ++ Lb) F') H' ∧ Pst C K F H σ env L R (back (La ++ Lb) F') H' (e1.set i (some o')) (La ++ (L' ++ Lb)) T' false := by
        intro F' H' L' T' o' hcl sr' fe kp
        have lt : Lent (K := K) (La ++ Lb) T F1 H1 F' (back (La ++ Lb) F') H' := lent hS hT fe sr'.le (fun a z => kp a (.inl z))
        refine ⟨lt, ⟨?_, p.fe.trans lt.sub, fun a ha => ?_, fun z => by cases z⟩⟩
        · have ro : RepO C K F' H' o' vi L' := by
            have := sr'.rep
            rw [hfm] at this
            exact this.one
          have hput := c.put (back (La ++ Lb) F') H' o' vi L' lt.sub.le (fun a ha => lt.same a ha) (RepO.cln lt.sqt lt.tup o' vi L' hcl ro)
          rw [set_same hσ] at hput
          refine ⟨lt.le, hput, ?_, fun a ha => ?_⟩
          · have h1 : ((La ++ Lb) ++ (L' ++ (T' ++ R))).Nodup := List.nodup_append.mpr ⟨nd2.1, sr'.nd, fun a ha b hb e => by
              subst e
              exact lt.out a (sr'.fn a hb).1 ha⟩
            refine (List.Perm.nodup_iff ?_).mp h1
            simp only [List.append_assoc]
            refine List.Perm.append_left La ?_
            rw [← List.append_assoc, ← List.append_assoc (as := L')]
            exact List.Perm.append_right _ List.perm_append_comm
          · have hc : a ∈ La ++ Lb ∨ a ∈ L' ++ (T' ++ R) := by
              simp only [List.mem_append] at ha ⊢
              rcases ha with (z | z | z) | z | z
              · exact .inl (.inl z)
              · exact .inr (.inl z)
              · exact .inl (.inr z)
              · exact .inr (.inr (.inl z))
              · exact .inr (.inr (.inr z))
            rcases hc with z | z
            · exact ⟨lt.none_ a z, by rw [lt.same a z]; exact (hF1 a (by simp [hsubS a z])).2⟩
            · have := sr'.fn a z
              exact ⟨lt.nn a this.1, this.2⟩
        · rw [← p.kp a ha]
          rcases ha with ha | ha
          · refine kp a (.inl ?_)
            cases e : F a with
            | none => exact absurd e ha
            | some u => rw [hsub a u (p.fe a u e)]; simp
          · exact kp a (.inr ha)
      have nq : ∀ {b : Bool}, qq = true → b = true := by
        intro b z
        exact absurd (hqq z).1 (by simp)
      revert ho
      cases hc : cal f os with
      | ok r outs =>
        intro ho
        dsimp only at ho
        split at ho
        case h_2 => exact ho.elim
        rename_i e2 hp
        obtain ⟨o', rfl, hi, rfl⟩ := putOne hp
        split at ho
        case isFalse => exact ho.elim
        rename_i hcl
        simp only [Bool.and_eq_true, cleanL] at hcl
        intro v F' H' T' L' sr' rr fe kp
        obtain ⟨lt, p2⟩ := common F' H' L' T' o' hcl.2.1 sr' fe kp
        refine ho v _ H' _ T' (p2.q_of nq) ?_
        have rr2 := RepO.cln lt.sqt lt.tup r v T' hcl.1 rr
        cases r with
        | fr d => exact ⟨rr2.1, rr2.2⟩
        | _ => exact rr2
      | ex x d outs =>
        intro ho
        dsimp only at ho
        split at ho
        case h_2 => exact ho.elim
        rename_i e2 hp
        obtain ⟨o', rfl, hi, rfl⟩ := putOne hp
        split at ho
        case isFalse => exact ho.elim
        rename_i hcl
        simp only [Bool.and_eq_true, cleanL] at hcl
        intro F' H' L' sr' fe kp
        obtain ⟨lt, p2⟩ := common F' H' L' [] o' hcl.2.1 (by simpa using sr') fe kp
        exact ho _ H' _ p2
      | er => intro ho; exact ho
theorem call_core {E : XK} {f np : Nat} {io : List Nat} {cs : List CE} {σ : St} {H : Hp} {Q : VK} {K : PySem.W.Frag} (hnp : cs.length = np) (hq : tV C K cal (xe E) (.call f io cs) σ H Q) :
    tVs C K cal (xe E) cs σ H fun vs H1 => spF C K xe cal f np io (vs ++ []) H1 Q E := by
  obtain ⟨F, env, L, R, sr, hout⟩ := hq
  simp only [ev] at hout
  refine list1 sr hout fun xs F1 H1 e1 L1 T hs p hx ho => ?_
  rw [List.append_nil]
  exact call_tail hnp (fun z => by simpa [CE.quiet] using z) p hx ho
/-- the receiver ahead of the arguments -/
theorem meth_core {E : XK} {m : Str} {c f np : Nat} {io : List Nat} {a : CE} {cs : List CE} {σ : St} {H : Hp} {Q : VK} {K : PySem.W.Frag} (hnp : cs.length + 1 = np) (hq : tV C K cal (xe E) (.mcall m c f io a cs) σ H Q) :
    tMeth (C c) m (spF C K xe cal f np io) [] E (tV C K cal (xe E) a) (tVs C K cal (xe E) cs) σ H Q := by
  obtain ⟨F, env, L, R, sr, hout⟩ := hq
  simp only [ev] at hout
  refine one sr hout fun x F1 H1 e1 L1 T1 h p hx ho => ?_
  dsimp only at ho
  split at ho
  case h_2 => exact ho.elim
  rename_i o g
  split at ho
  case isFalse => exact ho.elim
  rename_i hk
  simp only [Bool.and_eq_true, beq_iff_eq, Option.isNone_iff_eq_none] at hk
  obtain ⟨l, ro, _⟩ := hx.get p.sr g
  have hi : ∃ b dx fs, x = .ref b ∧ H1 b = some (.ins (C c) dx fs) ∧ fs.lookup m = none := by
    unfold clsO at hk
    unfold fldO at hk
    cases o with
    | fr d =>
      cases d with
      | ins c' fl =>
        simp only [Option.some.injEq, Option.map_eq_none_iff] at hk
        obtain ⟨rfl, hn⟩ := hk
        simp only [RepO, RepS] at ro
        obtain ⟨_, b, dx, fs, rfl, hb, t⟩ := ro
        refine ⟨b, dx, fs, rfl, p.sr.le.at hb (fun _ z => by cases z), ?_⟩
        exact lookF_none t hn
      | _ => cases hk.1
    | oi c' fl =>
      simp only [Option.some.injEq] at hk
      obtain ⟨rfl, hn⟩ := hk
      simp only [RepO] at ro
      obtain ⟨b, dx, fs, r', rfl, hb, t, _⟩ := ro
      exact ⟨b, dx, fs, rfl, hb, lookOF_none t hn⟩
    | _ => cases hk.1
  obtain ⟨b, dx, fs, rfl, hb, hn⟩ := hi
  refine ⟨b, dx, fs, rfl, hb, hn, ?_⟩
  refine ⟨F1, e1, L1, T1 ++ R, p.sr, ?_⟩
  cases e2 : evs cal cs e1 with
  | ok y =>
    rw [e2] at ho
    intro vs F2 H2 L2 T2 p2 hy
    simp only [Res.bind] at ho
    rw [List.append_nil]
    refine call_tail (cs := a :: cs) (hs := h :: y.1) (q1 := a.quiet && quietL cs) hnp (fun z => ?_) ((p.trans p2).perm List.perm_append_comm) ?_ ho
    · simp only [CE.quiet, Bool.and_eq_true, List.isEmpty_iff] at z ⊢
      exact ⟨z.1.1, z.1.2, z.2⟩
    · exact ⟨_, vs, T1, T2, rfl, rfl, fun hk => hx.next p2 fun z => by rw [z] at hk; simpa using hk, hy⟩
  | ex a b d =>
    rw [e2] at ho
    exact fun F' H' L' p2 => ho F' H' L' (p.trans p2).nil.qf
  | er => rw [e2] at ho; exact ho
/-- a new instance -/
theorem mk_core {E : XK} {c f np : Nat} {cs : List CE} {σ : St} {H : Hp} {Q : VK} {K : PySem.W.Frag} (hnp : cs.length + 1 = np) (hq : tV C K cal (xe E) (.mk c f cs) σ H Q) :
    tMake (C c) (spF C K xe cal f np [0]) [] E (tVs C K cal (xe E) cs) σ H Q := by
  obtain ⟨F, env, L, R, sr, hout⟩ := hq
  simp only [ev] at hout
  refine list1 sr hout fun xs F1 H1 e1 L1 T hs p hx ho => ?_
  dsimp only at ho
  intro x dx nx ndx nex
  rw [List.append_nil]
  unfold mkF at ho
  split at ho
  case isFalse => exact ho.elim
  rename_i hk
  simp only [Bool.and_eq_true, List.isEmpty_iff] at hk
  obtain ⟨hk1, hio⟩ := hk
  split at ho
  case h_2 => exact ho.elim
  rename_i os eo
  obtain ⟨hl1, hl2⟩ := hx.len
  have hF1 : ∀ a ∈ L1 ++ (T ++ R), F1 a = none ∧ H1 a ≠ none := p.sr.fn
  have hOwn := p.sr.rep.own
  have hS : ∀ a ∈ L1, F1 a = none ∧ Own (H1 a) := fun a ha => ⟨(hF1 a (by simp [ha])).1, hOwn a ha⟩
  have hT : ∀ a ∈ T, F1 a = none := fun a ha => (hF1 a (by simp [ha])).1
  have hST : ∀ a ∈ L1 ++ T, F1 a = none := fun a ha => (hF1 a (by
    rcases List.mem_append.mp ha with z | z <;> simp [z])).1
  have hsub := frzH_sub (H := H1) hST
  have hR : ∀ a ∈ R, a ∉ L1 ++ T := fun a ha z => by
    have nd := p.sr.nd
    rw [← List.append_assoc] at nd
    exact (List.nodup_append.mp nd).2.2 a z a ha rfl
  have far : ∀ a, H1 a ≠ none → upd (upd H1 dx (.own x)) x (.ins (C c) dx []) a = H1 a := fun a ha => by
    rw [upd_ne (fun z => ha (by rw [z]; exact nx)), upd_ne (fun z => ha (by rw [z]; exact ndx))]
  have lec := frzH_le (S := L1 ++ T) p.sr.le
  have liveF : ∀ a u, frzH (L1 ++ T) F1 H1 a = some u → H1 a ≠ none := fun a u e => by
    rcases lec a u e with z | ⟨_, o, z⟩ <;> rw [z] <;> simp
  have nFx : frzH (L1 ++ T) F1 H1 x = none := le_none lec nx
  have nxR : x ∉ R := fun z => (hF1 x (by simp [z])).2 nx
  refine ⟨frzH (L1 ++ T) F1 H1, R, .oi c [] :: os, [x], by simp only [List.length_cons]; omega, ⟨fun a u e => ?_, ?_, ?_, fun a ha => ?_⟩, ?_⟩
  · rw [far a (liveF a u e)]
    exact lec a u e
  · have base := args_frz (P := fun _ => True) (F := F1) (H := H1) (σ := σ) (L := L1) (env := e1) (T := T) (Hc := upd (upd H1 dx (.own x)) x (.ins (C c) dx [])) (Fc := frzH (L1 ++ T) F1 H1) (fun h v T0 d _ hT0 x hn hv => by
      obtain ⟨o, g, rfl⟩ := view_get hv
      obtain ⟨l, r, hl⟩ := x.get p.sr g
      exact RepO.frz hsub.le o v l (fun a ha => frzH_in (by
        rcases hl a ha with z | z
        · simp [z]
        · simp [hT0 a z])) r) (fun a ha => ha) hx hk1 hio (fun _ _ => trivial) eo
    simp only [List.map_cons, RepE, RepO]
    exact ⟨.ref x, xs.map some, [x], [], rfl, ⟨x, dx, [], [], rfl, upd_same, by simp [RepOF], rfl⟩, base, rfl⟩
  · have nd := p.sr.nd
    rw [← List.append_assoc] at nd
    exact List.nodup_cons.mpr ⟨by simpa using nxR, by simpa using (List.nodup_append.mp nd).2.1⟩
  · rcases List.mem_append.mp ha with z | z
    · have : a = x := by simpa using z
      subst this
      exact ⟨nFx, by rw [upd_same]; simp⟩
    · refine ⟨by rw [frzH_out (hR a z)]; exact (hF1 a (by simp [z])).1, ?_⟩
      have := (hF1 a (by simp [z])).2
      rw [far a this]; exact this
  · have gen : ∀ (F' H' : Hp) (L' : List Addr) (o' : O), o'.clean = true → SR C K F' H' (([0].filterMap fun i => (V.ref x :: xs)[i]?).map some) ([o'].map some) L' R → Sub (frzH (L1 ++ T) F1 H1) F' → (∀ a, frzH (L1 ++ T) F1 H1 a ≠ none ∨ a ∈ R → H' a = upd (upd H1 dx (.own x)) x (.ins (C c) dx []) a) →
        ∃ Fb, Pst C K F H σ env L R Fb H' e1 L1 L' (quietL cs) ∧ RepO C K Fb H' o' (.ref x) L' := by
      intro F' H' L' o' hcl sr' fe kp
      have lt : Lent (K := K) L1 T F1 H1 F' (back L1 F') H' := lent hS hT fe sr'.le (fun a z => by
        cases e : frzH (L1 ++ T) F1 H1 a with
        | none => exact absurd e z
        | some u => rw [kp a (.inl z), far a (liveF a u e)])
      have ro : RepO C K F' H' o' (.ref x) L' := by
        have := sr'.rep
        simp only [List.filterMap_cons, List.getElem?_cons_zero, List.filterMap_nil, List.map_cons, List.map_nil] at this
        exact this.one
      refine ⟨back L1 F', ⟨⟨lt.le, RepE.keep lt.sub.le (fun a ha => lt.same a ha) p.sr.rep, ?_, fun a ha => ?_⟩, p.fe.trans lt.sub, fun a ha => ?_, fun z => ?_⟩, RepO.cln lt.sqt lt.tup o' _ L' hcl ro⟩
      · refine List.nodup_append.mpr ⟨(List.nodup_append.mp p.sr.nd).1, sr'.nd, fun a ha b hb e => ?_⟩
        subst e
        exact lt.out a (sr'.fn a hb).1 ha
      · rcases List.mem_append.mp ha with z | z
        · exact ⟨lt.none_ a z, by rw [lt.same a z]; exact (hF1 a (by simp [z])).2⟩
        · have := sr'.fn a z
          exact ⟨lt.nn a this.1, this.2⟩
      · rw [← p.kp a ha]
        rcases ha with ha | ha
        · cases e : F a with
          | none => exact absurd e ha
          | some u =>
            have e2 := hsub a u (p.fe a u e)
            rw [kp a (.inl (by rw [e2]; simp)), far a (liveF a u e2)]
        · rw [kp a (.inr ha), far a (hF1 a (by simp [ha])).2]
      · obtain ⟨a1, a2, a3⟩ := p.qt z
        exact ⟨a1, a2, fun a ha => by rw [lt.same a (by rw [a2]; exact ha), a3 a ha]⟩
    revert ho
    cases hc : cal f (.oi c [] :: os) with
    | ok r outs =>
      intro ho
      split at ho
      · rename_i c' l e1
        cases e1
        split at ho
        case isFalse => exact ho.elim
        rename_i hcl
        simp only [Bool.and_eq_true, beq_iff_eq] at hcl
        intro v F' H' T' L' sr' rr fe kp
        simp only [RepO, RepS] at rr
        obtain ⟨rfl, rfl⟩ := rr
        obtain ⟨Fb, pb, rb⟩ := gen F' H' L' _ hcl.2 (by simpa using sr') fe kp
        exact ⟨rfl, ho (.ref x) Fb H' L1 L' (pb.q_of fun z => by simpa [CE.quiet] using z) rb⟩
      · rename_i e1
        cases e1
      · exact ho.elim
    | ex k d outs =>
      intro ho
      split at ho
      · rename_i e1
        cases e1
      · rename_i k' d' o e1
        cases e1
        split at ho
        case isFalse => exact ho.elim
        rename_i hcl
        simp only [Bool.and_eq_true] at hcl
        intro F' H' L' sr' fe kp
        obtain ⟨Fb, pb, rb⟩ := gen F' H' L' _ hcl.2 sr' fe kp
        exact ho Fb H' L1 pb.nil.qf
      · exact ho.elim
    | er => intro ho; exact ho
end
end Cr
end

section
/-! enumerate of what is not a list. -/
namespace Cr
open PySem L2 PySem.W PyProof.Rows
set_option maxHeartbeats 1000000 in
theorem enumOne {u : Value} {ob : Obj} {Hq : Heap → Prop} (B : Begins u ob Hq) :
    Meets (Builtin.«enumerate.__new__» ⟨[.type "enumerate", u], []⟩) (fun _ R s => Hq s.heap ∧ R (.ok (.ret (.ref (s.heap.push ob).objs.size)))
      { s with heap := (s.heap.push ob).push { cls := .type "enumerate", data := .fields #[.none, .bool false, .ref s.heap.objs.size, rawInt 0, .none, .none] } }) :=
  .of_wp fun prog w A R s hh => by
    obtain ⟨h0, gs, dr, tk, oo⟩ := s
    obtain ⟨hv, hr⟩ := hh
    have hsub := sub_enumerate
    have iter1 : ∀ {A2 : Around} {E2 : Value → Shared → Prop} {Q2 : Value → Shared → Prop}, Q2 (.ref h0.objs.size) ⟨h0.push ob, gs, dr, tk, oo⟩ → wpAny (model prog w) A2 (pyIter u) Q2 E2 ⟨h0, gs, dr, tk, oo⟩ := fun z => B.iter prog w _ _ ⟨h0, gs, dr, tk, oo⟩ _ hv z
    wp_walk using iter1
    refine wpAny_stack_any fun st => wpAny_pure ?_
    split
    · rename_i cl _ _ _ _ _
      cases (cl == Value.type "enumerate")
      · wp_walk using iter1
        exact ⟨_, rfl, hr⟩
      · wp_walk using iter1
        exact ⟨_, rfl, hr⟩
    · wp_walk using iter1
      exact ⟨_, rfl, hr⟩
section
variable {prog : Program} {w : World} {A : Around} {E : Value → Shared → Prop} {s : Shared}
theorem enum_made {u : Value} {ob : Obj} {Hq : Heap → Prop} {Q : Value → Shared → Prop} (B : Begins u ob Hq) (hv : Hq s.heap)
    (k : ∀ h2, IsEnum h2 (s.heap.objs.size + 1) s.heap.objs.size 0 .none → h2.get? s.heap.objs.size = some ob → (∀ b o, s.heap.get? b = some o → h2.get? b = some o) → Q (.ref (s.heap.objs.size + 1)) { s with heap := h2 }) :
    wpAny (model prog w) A (call (.type "enumerate") [u]) Q E s := by
  refine callType_new PySem.F.called_enumerate (by decide) (PySem.F.typeCall_enumerate_1 _) (PySem.F.newCall_enumerate_1 _) (fun o => PySem.F.args_object_init_2 o _) PySem.F.entry_enumerate_new (enumOne B) ⟨hv, ?_⟩
  have sz : (s.heap.push ob).objs.size = s.heap.objs.size + 1 := Heap.size_push ..
  show _ ∧ _
  rw [sz]
  have ie : IsEnum ((s.heap.push ob).push { cls := .type "enumerate", data := .fields #[.none, .bool false, .ref s.heap.objs.size, rawInt 0, .none, .none] }) (s.heap.objs.size + 1) s.heap.objs.size 0 .none := by
    have z := Heap.get?_push_size (s.heap.push ob) (o := { cls := .type "enumerate", data := .fields #[.none, .bool false, .ref s.heap.objs.size, rawInt 0, .none, .none] }) rfl
    rw [sz] at z
    exact z
  exact ⟨⟨_, ie, rfl⟩, k _ ie (Heap.get?_push_of_some _ (Heap.get?_push_size _ B.free)) fun b o z => Heap.get?_push_of_some _ (Heap.get?_push_of_some _ z)⟩
end
theorem enum_done {prog : Program} {w : World} {A : Around} {E : Value → Shared → Prop} {s : Shared} {e it a : Addr} {i : Nat} {items : Array Value} {old : Value} {Q : Option Value → Shared → Prop} (hd : A.in1.handled = none) (ie : IsEnum s.heap e it i old)
    (ti : s.heap.IsTupleIter it a i) (tl : s.heap.IsTuple a items) (hx : items[i]? = none) (k : ∀ h2, Heap.ExtBut it s.heap h2 → Q none { s with heap := h2 }) : wpAny (model prog w) A (pyNext (.ref e)) Q E s := by
  have ty : s.TypeIs (.ref e) "enumerate" := ⟨_, ie, rfl⟩
  unfold pyNext
  refine wpAny_bind (wpAny_attempt (wpAny_callSpecial?_slot (name := Str.ofString "__next__") ty PySem.F.slot_enumerate_next
    (PySem.wpAny_call_entry PySem.F.slot_enumerate_next ty PySem.F.entry_enumerate_next ?_ (PySem.F.args_enumerate_next_1 _))))
  show wpAny _ _ (field (.ref e) 2 >>= _) _ _ _
  refine wpAny_bind (wpAny_field ie rfl (x := .ref it) rfl (wpAny_bind (wpAny_nextOf_tuple_end hd ti tl hx fun h2 v xb hv => ?_)))
  obtain ⟨ov, hov, cov⟩ := hv
  exact wpAny_bind (wpAny_isInstance (T := "StopIteration") (b := true) ⟨ov, hov, cov⟩ isSubtype_stop (wpAny_pure (k _ xb)))
/-- the tuple at a, each item in a new pair -/
def ItT (K : PySem.W.Frag) (a : Addr) : It :=
  ⟨fun i H => ∃ (ys : List V) (y : V), SqT K H a ys ∧ ys[i]? = some y, fun i H v H2 => ∃ p y, v = .ref p ∧ H p = none ∧ H2 = upd H p (.tup [.int (i : Nat), y]) ∧ ∀ ys, SqT K H a ys → ys[i]? = some y, fun i H => ∃ ys : List V, SqT K H a ys ∧ ys.length ≤ i⟩
theorem apart {h : Heap} {a b : Addr} {x y : String} (hx : ∃ o, h.get? a = some o ∧ o.cls = .type x) (hy : ∃ o, h.get? b = some o ∧ o.cls = .type y) (n : x ≠ y) : a ≠ b := by
  rintro rfl
  obtain ⟨o, e, c⟩ := hx
  obtain ⟨o', e', c'⟩ := hy
  rw [e] at e'
  cases e'
  rw [c] at c'
  exact n (by simpa using c')
theorem turn_enT {P : Program} {w : World} {K : PySem.W.Frag} {elts : List Expr} {kk : Nat} {tpos : Pos} (a e it : Addr) :
    Turn P w K (.Tuple elts kk tpos) (ItT K a) [e, it] e (fun i h => (∃ old, IsEnum h e it ((i : Nat) : Int) old) ∧ h.IsTupleIter it a i ∧ e ≠ it) where
  mem := by simp
  obj := fun i h q b hb => by
    obtain ⟨⟨old, ie⟩, ⟨o, ho, hc, hd⟩, _⟩ := q
    rcases (show b = e ∨ b = it by simpa using hb) with z | z
    · subst z
      exact ⟨_, ie, fun v q => nomatch q⟩
    · exact ⟨o, by rw [z]; exact ho, fun v q => by rw [hd] at q; cases q⟩
  keep := fun i h h' q k => ⟨let ⟨old, ie⟩ := q.1; ⟨old, k e (by simp) _ ie⟩, q.2.1.at fun o z => k it (by simp) o z, q.2.2⟩
  item := by
    intro X hP hw hK hc i pins s σ H E I hf q hg
    subst hP hw hK
    obtain ⟨⟨old, ie⟩, ti, ne⟩ := q
    obtain ⟨ys, y, hq, hy⟩ := hg
    obtain ⟨its, rv, pl, hz⟩ := I.tuple hq
    obtain ⟨u, hu, ru⟩ := rv.get hy
    have tl : s.heap.IsTuple a its.toArray := pl
    have hel : e < s.heap.objs.size := Heap.lt_size ie
    have hil : it < s.heap.objs.size := by obtain ⟨_, z, _⟩ := ti; exact Heap.lt_size z
    have clsT : ∃ o, s.heap.get? a = some o ∧ o.cls = .type "tuple" := by obtain ⟨o, z1, z2, _⟩ := tl; exact ⟨o, z1, z2⟩
    have clsI : ∃ o, s.heap.get? it = some o ∧ o.cls = .type "tuple_iterator" := by obtain ⟨o, z1, z2, _⟩ := ti; exact ⟨o, z1, z2⟩
    have clsE : ∃ o, s.heap.get? e = some o ∧ o.cls = .type "enumerate" := ⟨_, ie, rfl⟩
    have n1 := apart clsT clsI (by decide)
    have n2 := apart clsE clsT (by decide)
    have hd : X.A.in1.handled = none := I.ok.hd hc
    have hi : i < its.toArray.size := by
      obtain ⟨z, _⟩ := List.getElem?_eq_some_iff.mp hu
      simpa using z
    refine wpAny_pyNext_enum_itemD (Draws.tuple hd it a n1 its.toArray) ie ⟨ti, tl⟩ hi ne (by simp [ne, n2]) fun x h' tk hx eo st' hT hsz hk => ?_
    have ex : x = u := by
      have z : its[i]? = some x := by simpa using hx
      rw [hu] at z
      exact (Option.some.inj z).symm
    subst ex
    refine ⟨_, rfl, wpAny_letOwnedTupleGo_enum (s := { s with heap := h', toks := tk + 1 }) eo fun h'' ie' sb => ?_⟩
    have hT2 : h''.get? s.heap.objs.size = some { cls := .type "tuple", data := .seq #[.int i tk, x] } := (sb.2 _ (Nat.ne_of_gt hel)).trans hT
    have fresh : ObjOk X.prog X.w (upd H s.heap.objs.size (.tup [.int (i : Nat), y])) h'' s.heap.objs.size (.tup [.int (i : Nat), y]) :=
      ⟨by show 2 ≤ sizeLine; decide, [.int i tk, x], .cons ⟨_, rfl⟩ (.cons ru .nil), ⟨_, hT2, rfl, _, rfl⟩⟩
    have I1 : Inv X pins σ (upd H s.heap.objs.size (.tup [.int (i : Nat), y])) { s with heap := h'', toks := tk + 1 } :=
      I.turnedNew (ch := [e, it]) (fun b ob hb q => (sb.2 b (fun z => hb (by simp [z]))).trans (hk b ob (fun z => hb (by simp [z])) (fun z => hb (by simp [z])) q)) hf (Nat.le_refl _) fresh
    refine ⟨.ref s.heap.objs.size, _, I1, rfl, ⟨_, y, rfl, I.hok.fresh (Nat.le_refl _), rfl, fun zs hzs => by rw [I.tuple_inj hzs hq]; exact hy⟩, ⟨⟨x, ?_⟩, st'.1.at fun o q => (sb.2 it (Ne.symm ne)).trans q, ne⟩, fun b hb => ?_⟩
    · rw [show ((i + 1 : Nat) : Int) = (i : Int) + 1 by omega]
      exact ie'
    · have hb' : b < s.heap.objs.size := by
        rcases (show b = e ∨ b = it by simpa using hb) with z | z
        · rw [z]; exact hel
        · rw [z]; exact hil
      rw [upd_ne (Nat.ne_of_lt hb')]
      exact (hf b hb).1
  done := by
    intro X hP hw hK hc i pins s σ H E I hf q hg
    subst hP hw hK
    obtain ⟨⟨old, ie⟩, ti, ne⟩ := q
    obtain ⟨ys, hq, hy⟩ := hg
    obtain ⟨its, rv, pl, hz⟩ := I.tuple hq
    have tl : s.heap.IsTuple a its.toArray := pl
    obtain ⟨f0, f1, f2, f3, f4, f5⟩ := hf it (by simp)
    have hd : X.A.in1.handled = none := I.ok.hd hc
    have clsT : ∃ o, s.heap.get? a = some o ∧ o.cls = .type "tuple" := by obtain ⟨o, z1, z2, _⟩ := tl; exact ⟨o, z1, z2⟩
    have clsI : ∃ o, s.heap.get? it = some o ∧ o.cls = .type "tuple_iterator" := by obtain ⟨o, z1, z2, _⟩ := ti; exact ⟨o, z1, z2⟩
    have clsE : ∃ o, s.heap.get? e = some o ∧ o.cls = .type "enumerate" := ⟨_, ie, rfl⟩
    have n1 := apart clsT clsI (by decide)
    have hl := rv.length
    refine enum_done hd ie ti tl (by simp; omega) fun h2 xb => ⟨rfl, I.turned (t' := s.toks) (fun b o hb q => xb b o hb q) f0 f1 f3 f4 f5⟩
  self := fun A i s Q E q k => let ⟨⟨_, ie⟩, _⟩ := q; wpAny_pyIter_enum ie k
def iEnumB (K : PySem.W.Frag) (ta : TA) : TI := fun σ H R => ta σ H fun vs H1 => ∃ a, vs = [.ref a] ∧ ((∃ xs, SqL K H1 a xs ∧ R (Ite K a) H1) ∨ ∃ xs, SqT K H1 a xs ∧ R (ItT K a) H1)
theorem pi_enumB {X : Cx} {e : Expr} {ta : TA} {p cpos tpos : Pos} {elts : List Expr} {kk : Nat} (hg : Gl X "enumerate") (hm : X.mg "enumerate" = none) (ha : PA X [e] ta) (hs : starEach [e] X.env = [(false, eval e X.env)]) :
    PI X (.Tuple elts kk tpos) (.Call (.Name "enumerate" p) [e] [] cpos) (iEnumB X.K ta) := by
  constructor
  intro pins s σ H R I hq
  refine PyProof.Rows.Call_ (ld_blt I hg hm PyProof.Rows.boot_enumerate (PyProof.Rows.callWith_type1 (thn (ha.run cpos pins s σ H _ I hq) ?_) hs rfl))
  rintro us s1 ⟨vs, H1, I1, rel, a, rfl, goal⟩
  cases rel with
  | cons r0 rn =>
    cases rn
    cases r0
    have fpk : ∀ (b : Addr), b = s1.heap.objs.size + 1 ∨ b = s1.heap.objs.size → s1.heap.objs.size ≤ b := fun b z => by
      rcases z with z | z
      · rw [z]; exact Nat.le_succ _
      · rw [z]; exact Nat.le_refl _
    rcases goal with ⟨xs, hq, goal⟩ | ⟨xs, hq, goal⟩
    · obtain ⟨its, rv, pl, hz⟩ := I1.list hq
      refine enum_made (begins_list a its.toArray) pl.isList fun h2 ie ho hk => wpAny_pyIter_enum ie ?_
      have I2 : Inv X pins σ H1 { s1 with heap := h2 } := I1.kept (t' := s1.toks) hk
      exact ⟨s1.heap.objs.size + 1, [s1.heap.objs.size + 1, s1.heap.objs.size], _, _, H1, rfl, I2, turn_enum a (s1.heap.objs.size + 1) s1.heap.objs.size, ⟨⟨.none, ie⟩, ⟨_, ho, rfl, rfl⟩, Nat.succ_ne_self _⟩,
        fun b hb => I1.fpOk (fpk b (by simpa using hb)) (I1.hok.fresh (fpk b (by simpa using hb))), goal⟩
    · obtain ⟨its, rv, pl, hz⟩ := I1.tuple hq
      refine enum_made (begins_tuple a its.toArray) (show s1.heap.IsTuple a its.toArray from pl) fun h2 ie ho hk => wpAny_pyIter_enum ie ?_
      have I2 : Inv X pins σ H1 { s1 with heap := h2 } := I1.kept (t' := s1.toks) hk
      exact ⟨s1.heap.objs.size + 1, [s1.heap.objs.size + 1, s1.heap.objs.size], _, _, H1, rfl, I2, turn_enT a (s1.heap.objs.size + 1) s1.heap.objs.size, ⟨⟨.none, ie⟩, ⟨_, ho, rfl, rfl⟩, Nat.succ_ne_self _⟩,
        fun b hb => I1.fpOk (fpk b (by simpa using hb)) (I1.hok.fresh (fpk b (by simpa using hb))), goal⟩
end Cr
end

section
/-! Targets, and what is walked. -/
namespace Cr
open PySem L2

section
variable {X : Cx} {C : Nat → Addr} {cal : Nat → List O → CRes} {XE : XP} {K : PySem.W.Frag} {F F' F1 F2 H H' H1 H2 : Hp} {σ : St} {env env1 env2 : Env} {L L1 L2 R T T1 T2 : List Addr} {q q1 q2 : Bool}

/-! ### targets that take what stands still -/
mutual
def Tg.slots : Tg → List Nat
  | .v i => [i]
  | .tup ts => slotsL ts
def slotsL : List Tg → List Nat
  | [] => []
  | t :: ts => t.slots ++ slotsL ts
end
/-- the frame's slots but these are as they were -/
def But (vs : List Nat) (σ σ' : St) : Prop := σ'.length = σ.length ∧ ∀ j, j ∉ vs → σ'[j]? = σ[j]?
theorem But.refl (vs : List Nat) (σ : St) : But vs σ σ := ⟨rfl, fun _ _ => rfl⟩
theorem But.trans {v1 v2 : List Nat} {σ σ1 σ2 : St} (h : But v1 σ σ1) (h2 : But v2 σ1 σ2) : But (v1 ++ v2) σ σ2 :=
  ⟨h2.1.trans h.1, fun j hj => by
    simp only [List.mem_append, not_or] at hj
    rw [h2.2 j hj.2, h.2 j hj.1]⟩
theorem But.mono {v1 v2 : List Nat} {σ σ1 : St} (h : But v1 σ σ1) (hs : ∀ j ∈ v1, j ∈ v2) : But v2 σ σ1 := ⟨h.1, fun j hj => h.2 j (fun z => hj (hs j z))⟩
theorem But.set (σ : St) (i : Nat) (v : Option V) : But [i] σ (σ.set i v) := ⟨by simp, fun j hj => by
  rw [List.getElem?_set_ne (by simpa using Ne.symm (by simpa using hj))]⟩
/-- the slots own nothing -/
def Poor (vs : List Nat) (env : Env) : Prop := ∀ j ∈ vs, leafOrNone ((env[j]?).join) = true
def tTg (C : Nat → Addr) (K : PySem.W.Frag) (t : Tg) : TG := fun v σ H Q => ∃ F env L R d env', SR C K F H σ env L R ∧ RepS C K F d v ∧ t.bind d env = some env' ∧
  ∀ σ' L', SR C K F H σ' env' L' R → List.Sublist L' L → (Poor t.slots env → L' = L) → But t.slots σ σ' → Q σ' H
def tTgs (C : Nat → Addr) (K : PySem.W.Frag) (ts : List Tg) : TGs := fun vs σ H Q => ∃ F env L R ds env', SR C K F H σ env L R ∧ RepSL C K F ds vs ∧ bindL ts ds env = some env' ∧
  ∀ σ' L', SR C K F H σ' env' L' R → List.Sublist L' L → (Poor (slotsL ts) env → L' = L) → But (slotsL ts) σ σ' → Q σ' H
theorem PG.imp {X : Cx} {e : Expr} {t t' : TG} (h : PG X e t) (i : ∀ v σ H Q, t' v σ H Q → t v σ H Q) : PG X e t' := ⟨fun pins s σ H v u Q I r q => h.run pins s σ H v u Q I r (i v σ H Q q)⟩
theorem PGs.imp {X : Cx} {e : List Expr} {t t' : TGs} (h : PGs X e t) (i : ∀ v σ H Q, t' v σ H Q → t v σ H Q) : PGs X e t' := ⟨fun pins s σ H v u Q I r q => h.run pins s σ H v u Q I r (i v σ H Q q)⟩
/-- a slot takes a leaf -/
theorem SR.leaf {i : Nat} {d : D} {v : V} (sr : SR C K F H σ env L R) (hi : i < env.length) (r : RepS C K F d v) : ∃ L', SR C K F H (σ.set i (some v)) (env.set i (some (.fr d))) L' R ∧ List.Sublist L' L ∧ (Poor [i] env → L' = L) := by
  obtain ⟨La, l, Lb, c⟩ := sr.cut hi
  have hs : List.Sublist (La ++ ([] ++ Lb)) L := by
    rw [c.eq]
    exact List.Sublist.append_left (List.Sublist.append_right (List.nil_sublist _) _) _
  refine ⟨La ++ ([] ++ Lb), ⟨sr.le, c.put F H (.fr d) v [] (Le.refl F) (fun _ _ => rfl) ⟨rfl, r⟩, sr.nd.sublist (List.Sublist.append_right hs R), fun a ha => sr.fn a ?_⟩, hs, fun hp => ?_⟩
  rotate_left
  · rw [c.eq]
    have e1 := hp i (by simp)
    cases e : env[i] with
    | none => rw [c.non (by simp [hi, e])]
    | some o =>
      obtain ⟨w, _, r'⟩ := c.at_ o (by simp [hi, e])
      cases o with
      | fr d' => rw [r'.1]
      | _ => simp [hi, e, leafOrNone, O.isFr] at e1
  rcases List.mem_append.mp ha with z | z
  · exact List.mem_append_left _ (hs.subset z)
  · exact List.mem_append_right _ z
theorem g_name {i : Nat} {x : Str} {pos : Pos} (hN : X.N.Nodup) (hi : X.N[i]? = some x) (hx : Loc X.env.scope x) (hf : X.fn x = true ∨ X.env.scope.names.lookup x = some .local) : PG X (.Name x pos) (tTg C X.K (.v i)) := by
  refine PG.imp (pg_name hN hi hx hf) fun v σ H Q hq => ?_
  obtain ⟨F, env, L, R, d, env', sr, r, hb, k⟩ := hq
  simp only [Tg.bind] at hb
  split at hb
  · rename_i hlt
    cases hb
    obtain ⟨L', s', hs, hp⟩ := sr.leaf hlt r
    exact k _ L' s' hs hp (But.set σ i _)
  · cases hb
theorem bind_len : (∀ (t : Tg) (d : D) (e e' : Env), t.bind d e = some e' → e'.length = e.length) := fun t => by
  suffices h : ∀ (n : Nat), (∀ (t : Tg) (d : D) (e e' : Env), sizeOf t < n → t.bind d e = some e' → e'.length = e.length) ∧ (∀ (ts : List Tg) (ds : List D) (e e' : Env), sizeOf ts < n → bindL ts ds e = some e' → e'.length = e.length) from
    fun d e e' => (h (sizeOf t + 1)).1 t d e e' (Nat.lt_succ_self _)
  intro n
  induction n with
  | zero => exact ⟨fun _ _ _ _ h => absurd h (Nat.not_lt_zero _), fun _ _ _ _ h => absurd h (Nat.not_lt_zero _)⟩
  | succ n ih =>
    refine ⟨fun t d e e' hs h => ?_, fun ts ds e e' hs h => ?_⟩
    · cases t with
      | v i =>
        simp only [Tg.bind] at h
        split at h
        · cases h; simp
        · cases h
      | tup ts =>
        cases d with
        | tup ds =>
          simp only [Tg.bind] at h
          exact ih.2 ts ds e e' (by simp at hs; omega) h
        | _ => simp [Tg.bind] at h
    · cases ts with
      | nil =>
        cases ds with
        | nil => simp only [bindL, Option.some.injEq] at h; rw [h]
        | cons => simp [bindL] at h
      | cons t ts =>
        cases ds with
        | nil => simp [bindL] at h
        | cons d ds =>
          simp only [bindL] at h
          obtain ⟨e1, h1, h2⟩ := Option.bind_eq_some_iff.mp h
          rw [ih.2 ts ds e1 e' (by simp at hs; omega) h2, ih.1 t d e e1 (by simp at hs; omega) h1]
theorem bind_leaf (t : Tg) (d : D) (e e' : Env) : t.bind d e = some e' → ∀ j : Nat, leafOrNone ((e[j]?).join) = true → leafOrNone ((e'[j]?).join) = true := by
  suffices h : ∀ (n : Nat), (∀ (t : Tg) (d : D) (e e' : Env), sizeOf t < n → t.bind d e = some e' → ∀ j : Nat, leafOrNone ((e[j]?).join) = true → leafOrNone ((e'[j]?).join) = true) ∧
      (∀ (ts : List Tg) (ds : List D) (e e' : Env), sizeOf ts < n → bindL ts ds e = some e' → ∀ j : Nat, leafOrNone ((e[j]?).join) = true → leafOrNone ((e'[j]?).join) = true) from
    (h (sizeOf t + 1)).1 t d e e' (Nat.lt_succ_self _)
  intro n
  induction n with
  | zero => exact ⟨fun _ _ _ _ h => absurd h (Nat.not_lt_zero _), fun _ _ _ _ h => absurd h (Nat.not_lt_zero _)⟩
  | succ n ih =>
    refine ⟨fun t d e e' hs h j hj => ?_, fun ts ds e e' hs h j hj => ?_⟩
    · cases t with
      | v i =>
        simp only [Tg.bind] at h
        split at h
        · rename_i hl
          cases h
          by_cases z : i = j
          · subst z
            rw [List.getElem?_set_self hl]; rfl
          · rw [List.getElem?_set_ne z]; exact hj
        · cases h
      | tup ts =>
        cases d with
        | tup ds =>
          simp only [Tg.bind] at h
          exact ih.2 ts ds e e' (by simp at hs; omega) h j hj
        | _ => simp [Tg.bind] at h
    · cases ts with
      | nil =>
        cases ds with
        | nil => simp only [bindL, Option.some.injEq] at h; rw [← h]; exact hj
        | cons => simp [bindL] at h
      | cons t ts =>
        cases ds with
        | nil => simp [bindL] at h
        | cons d ds =>
          simp only [bindL] at h
          obtain ⟨e1, h1, h2⟩ := Option.bind_eq_some_iff.mp h
          exact ih.2 ts ds e1 e' (by simp at hs; omega) h2 j (ih.1 t d e e1 (by simp at hs; omega) h1 j hj)
theorem g_nil : PGs X [] (tTgs C X.K []) := PGs.imp pgs_nil fun vs σ H Q hq => by
  obtain ⟨F, env, L, R, ds, env', sr, r, hb, k⟩ := hq
  cases ds with
  | nil =>
    simp only [bindL, Option.some.injEq] at hb
    subst hb
    simp only [RepSL] at r
    exact ⟨r, k σ L sr (List.Sublist.refl _) (fun _ => rfl) (But.refl _ _)⟩
  | cons => simp [bindL] at hb
theorem g_cons {e : Expr} {es : List Expr} {t : Tg} {ts : List Tg} (h1 : PG X e (tTg C X.K t)) (h2 : PGs X es (tTgs C X.K ts)) (hs : (assignEach (e :: es) X.env).map (·.2) = assign e X.env :: (assignEach es X.env).map (·.2)) : PGs X (e :: es) (tTgs C X.K (t :: ts)) := by
  refine PGs.imp (pgs_cons h1 h2 hs) fun vs σ H Q hq => ?_
  obtain ⟨F, env, L, R, ds, env', sr, r, hb, k⟩ := hq
  cases ds with
  | nil => simp [bindL] at hb
  | cons d ds =>
    simp only [bindL] at hb
    obtain ⟨e1, hb1, hb2⟩ := Option.bind_eq_some_iff.mp hb
    simp only [RepSL] at r
    obtain ⟨v, s, rfl, rd, rt⟩ := r
    refine ⟨v, s, rfl, F, env, L, R, d, e1, sr, rd, hb1, fun σ1 L1 s1 hL1 p1 b1 => ?_⟩
    refine ⟨F, e1, L1, R, ds, env', s1, rt, hb2, fun σ2 L2 s2 hL2 p2 b2 => ?_⟩
    refine k σ2 L2 s2 (hL2.trans hL1) (fun hp => ?_) (b1.trans b2)
    have q1 := p1 fun j hj => hp j (by simp [slotsL, hj])
    rw [p2 fun j hj => bind_leaf t d env e1 hb1 j (hp j (by simp [slotsL, hj])), q1]
theorem bindL_len2 : ∀ {ts : List Tg} {ds : List D} {e e' : Env}, bindL ts ds e = some e' → ds.length = ts.length
  | [], [], _, _, _ => rfl
  | [], _ :: _, _, _, h => by simp [bindL] at h
  | _ :: _, [], _, _, h => by simp [bindL] at h
  | t :: ts, d :: ds, e, e', h => by
    simp only [bindL] at h
    obtain ⟨e1, _, h2⟩ := Option.bind_eq_some_iff.mp h
    simp [bindL_len2 h2]
theorem g_tup {es : List Expr} {k : Nat} {pos : Pos} {ts : List Tg} (hc : X.calm = true) (h : PGs X es (tTgs C X.K ts)) (hn : (assignEach es X.env).length = ts.length) (hst : (assignEach es X.env).findIdx? (·.1) = none) : PG X (.Tuple es k pos) (tTg C X.K (.tup ts)) := by
  refine PG.imp (pg_tup hc h hn hst) fun v σ H Q hq => ?_
  obtain ⟨F, env, L, R, d, env', sr, r, hb, k⟩ := hq
  cases d with
  | tup ds =>
    simp only [Tg.bind] at hb
    simp only [RepS] at r
    obtain ⟨a, vs, rfl, q, t⟩ := r
    exact ⟨a, vs, rfl, SqT.le sr.le q, by rw [t.len, bindL_len2 hb], F, env, L, R, ds, env', sr, t, hb, k⟩
  | _ => simp [Tg.bind] at hb

/-! ### what is walked -/
/-- how an iterator goes over ds -/
def ItOk (C : Nat → Addr) (K : PySem.W.Frag) (J : It) (F H : Hp) (L : List Addr) (tr : Bool) (ds : List D) : Prop :=
  ∀ F2 H2, Sub F F2 → Le F2 H2 → (tr = true → ∀ a ∈ L, H2 a = H a) → (∀ a, F a ≠ none → H2 a = H a) → ∀ i, (i < ds.length → J.go i H2) ∧ (ds.length ≤ i → J.stop i H2) ∧
    ∀ x H3, i < ds.length → J.yld i H2 x H3 → ∃ F3 d, New F2 H2 F3 H3 [] ∧ ds[i]? = some d ∧ RepS C K F3 d x
def OutS (C : Nat → Addr) (K : PySem.W.Frag) (XE : XP) (F H : Hp) (σ : St) (env : Env) (L R : List Addr) (q : Bool) (res : Res (List D × Bool × Env)) (Q : It → Hp → Prop) : Prop := match res with
  | .ok (ds, tr, env') => ∀ J F' H' L', Pst C K F H σ env L R F' H' env' L' [] q → ItOk C K J F' H' L' tr ds → Q J H'
  | .ex c d env' => ∀ F' H' L', Pst C K F H σ env L R F' H' env' L' [] false → XE c d H'
  | .er => False
def tSr (C : Nat → Addr) (K : PySem.W.Frag) (cal : Nat → List O → CRes) (XE : XP) (s : Sr) : TI := fun σ H Q => ∃ F env L R, SR C K F H σ env L R ∧ OutS C K XE F H σ env L R s.quiet (evSr cal s env) Q
theorem PI.imp {X : Cx} {tg e : Expr} {t t' : TI} (h : PI X tg e t) (i : ∀ σ H Q, t' σ H Q → t σ H Q) : PI X tg e t' := ⟨fun pins s σ H Q I q => h.run pins s σ H Q I (i σ H Q q)⟩
def iSeq (K : PySem.W.Frag) (tl : TE) : TI := fun σ H R => tl σ H fun x H1 => (∃ a, x = .ref a ∧ (((∃ xs, SqL K H1 a xs) ∧ R (Itl K a) H1) ∨ ((∃ xs, SqT K H1 a xs) ∧ R (Itt K a) H1))) ∨ ∃ z, x = .str z ∧ R (Its z) H1
theorem pi_seq {tg l : Expr} {tl : TE} (hl : PE X l tl) : PI X tg l (iSeq X.K tl) := by
  constructor
  intro pins s0 σ0 H0 Q0 inv0 hq0
  have base := hl.run pins s0 σ0 H0 _ inv0 hq0
  refine thn base ?_
  rintro v sA ⟨x, HA, invA, rep, ⟨a, rfl, goal⟩ | ⟨z, rfl, goal⟩⟩
  rotate_left
  · obtain ⟨tz, rfl⟩ := rep
    cases hz : z.cps.all (· < 128)
    · exact wpAny_pyIter_wide hz (pi_one (tk := sA.toks) invA _ (turn_str _ z tz "str_iterator" (.inr rfl)) ⟨_, Heap.get?_push_size _ rfl, rfl, rfl⟩ goal)
    · exact wpAny_pyIter_ascii hz (pi_one (tk := sA.toks) invA _ (turn_str _ z tz "str_ascii_iterator" (.inl rfl)) ⟨_, Heap.get?_push_size _ rfl, rfl, rfl⟩ goal)
  cases rep
  have old : ∀ (ob : Obj) (b : Addr) (o : Obj), sA.heap.get? b = some o → (sA.heap.push ob).get? b = some o := fun _ b o e => Heap.get?_push_of_some _ e
  have frs : ∀ b ∈ [sA.heap.objs.size], _ := fun b hb => invA.fpOk (b := b) (Nat.le_of_eq (List.mem_singleton.mp hb).symm) (invA.hok.fresh (Nat.le_of_eq (List.mem_singleton.mp hb).symm))
  rcases goal with ⟨⟨xs, hq⟩, goal⟩ | ⟨⟨xs, hq⟩, goal⟩
  · obtain ⟨its, rv, isl, hz⟩ := invA.list hq
    exact wpAny_pyIter_list isl.isList ⟨_, [_], _, _, HA, rfl, invA.kept (t' := sA.toks) (old _), turn_list a _, ⟨_, Heap.get?_push_size _ rfl, rfl, rfl⟩, frs, goal⟩
  · obtain ⟨its, rv, isl, hz⟩ := invA.tuple hq
    exact PySem.wpAny_pyIter_tuple (show sA.heap.IsTuple a its.toArray from isl) ⟨_, [_], _, _, HA, rfl, invA.kept (t' := sA.toks) (old _), turn_tuple a _, ⟨_, Heap.get?_push_size _ rfl, rfl, rfl⟩, frs, goal⟩
/-- what an operand's list owns stands still -/
theorem Pst.frzT (p : Pst C K F H σ env L R F1 H1 env1 L1 T q) : Pst C K F H σ env L R (frzH T F1 H1) H1 env1 L1 [] q := by
  have hT : ∀ a ∈ T, F1 a = none := fun a ha => (p.sr.fn a (by simp [ha])).1
  have hs := frzH_sub (H := H1) hT
  refine ⟨⟨frzH_le p.sr.le, RepE.keep hs.le (fun _ _ => rfl) p.sr.rep, ?_, fun a ha => ?_⟩, p.fe.trans hs, p.kp, p.qt⟩
  · exact p.sr.nd.sublist (List.Sublist.append_left (List.Sublist.append_right (List.nil_sublist _) _) _)
  · have ha' : a ∈ L1 ++ (T ++ R) := by
      simp only [List.nil_append, List.mem_append] at ha ⊢
      rcases ha with z | z
      · exact .inl z
      · exact .inr (.inr z)
    have hn : a ∉ T := by
      intro z
      have nd := p.sr.nd
      have h2 := List.nodup_append.mp nd
      have h3 := List.nodup_append.mp h2.2.1
      simp only [List.nil_append, List.mem_append] at ha
      rcases ha with w | w
      · exact h2.2.2 a w a (by simp [z]) rfl
      · exact h3.2.2 a z a w rfl
    rw [frzH_out hn]
    exact p.sr.fn a ha'
theorem RepO.walkL {o : O} {v : V} {l : List Addr} {b : Bool} {ds : List D} (r : RepO C K F H o v l) (h : o.walk = some (b, ds)) :
    ∃ a vs, v = .ref a ∧ RepSL C K F ds vs ∧ ((b = false ∧ ((a ∈ l ∧ H a = some (.lst vs)) ∨ SqL K F a vs)) ∨ (b = true ∧ SqT K F a vs)) := by
  unfold O.walk at h
  split at h
  · simp only [Option.some.injEq, Prod.mk.injEq] at h
    obtain ⟨rfl, rfl⟩ := h
    simp only [RepO, RepS] at r
    obtain ⟨_, a, e, q⟩ := r
    exact ⟨a, _, e, RepSL_ints _, .inl ⟨rfl, .inr q⟩⟩
  · unfold O.items at h
    split at h
    · simp only [Option.some.injEq, Prod.mk.injEq] at h
      obtain ⟨rfl, rfl⟩ := h
      simp only [RepO, RepS] at r
      obtain ⟨_, a, vs, e, q, t⟩ := r
      exact ⟨a, vs, e, t, .inl ⟨rfl, .inr (.inl (.inl q))⟩⟩
    · simp only [Option.some.injEq, Prod.mk.injEq] at h
      obtain ⟨rfl, rfl⟩ := h
      simp only [RepO, RepS] at r
      obtain ⟨_, a, vs, e, q, t⟩ := r
      exact ⟨a, vs, e, t, .inr ⟨rfl, q⟩⟩
    · rename_i os _
      cases e : leafs os with
      | none => rw [e] at h; cases h
      | some es =>
        rw [e] at h
        simp only [Option.map_some, Option.some.injEq, Prod.mk.injEq] at h
        obtain ⟨rfl, rfl⟩ := h
        simp only [RepO] at r
        obtain ⟨a, vs, r', e1, q, t, rfl⟩ := r
        exact ⟨a, vs, e1, (t.leafs e).2, .inl ⟨rfl, .inl ⟨by simp, q⟩⟩⟩
    · rename_i os _
      cases e : leafs os with
      | none => rw [e] at h; cases h
      | some es =>
        rw [e] at h
        simp only [Option.map_some, Option.some.injEq, Prod.mk.injEq] at h
        obtain ⟨rfl, rfl⟩ := h
        simp only [RepO] at r
        obtain ⟨a, vs, e1, q, t⟩ := r
        exact ⟨a, vs, e1, (t.leafs e).2, .inr ⟨rfl, .inl (.inl q)⟩⟩
    · cases h
theorem walk_at {h : Hd} {v : V} {o : O} {b : Bool} {ds : List D} (x : HX C K F H σ L T h v) (s : SR C K F H σ env L (T ++ R)) (g : h.get env = some o) (w : o.walk = some (b, ds)) :
    ∃ a vs, v = .ref a ∧ ∀ F2 H2, Sub (frzH T F H) F2 → Le F2 H2 → (h.isTr = true → ∀ a ∈ L, H2 a = H a) → RepSL C K F2 ds vs ∧ ((b = false ∧ SqL K H2 a vs) ∨ (b = true ∧ SqT K H2 a vs)) := by
  obtain ⟨l, r, hl⟩ := x.get2 s g
  obtain ⟨a, vs, rfl, t, q⟩ := r.walkL w
  refine ⟨a, vs, rfl, fun F2 H2 hs le htr => ?_⟩
  have hF : Sub F F2 := (frzH_sub (H := H) (fun a ha => (s.fn a (by simp [ha])).1)).trans hs
  refine ⟨RepSL.le hF.le _ _ t, ?_⟩
  rcases q with ⟨hb, q | q⟩ | ⟨hb, q⟩
  · left
    refine ⟨hb, .inl (.inl ?_)⟩
    rcases hl with ⟨o0, ho, rfl⟩ | ⟨hn, hT, hL⟩
    · exact le.at (hs a _ (by rw [frzH_in q.1]; exact q.2)) (fun _ z => by cases z)
    · have htr' : h.isTr = true := by
        cases h with
        | p d =>
          cases g
          have : l = [] := r.1
          rw [this] at q
          simp at q
        | t o' => exact absurd rfl (hn o')
        | _ => rfl
      rw [htr htr' a (hL a q.1)]
      exact q.2
  · exact .inl ⟨hb, SqL.le le (SqL.le hF.le q)⟩
  · exact .inr ⟨hb, SqT.le le (SqT.le hF.le q)⟩
theorem it_list {J : It} {a : Addr} {vs : List V} {ds : List D} {tr : Bool} {F0 H0 : Hp} (hJ : J = Itl K a) (h : ∀ F2 H2, Sub F0 F2 → Le F2 H2 → (tr = true → ∀ a ∈ L, H2 a = H0 a) → RepSL C K F2 ds vs ∧ SqL K H2 a vs) : ItOk C K J F0 H0 L tr ds := by
  subst hJ
  intro F2 H2 hs le htr _ i
  obtain ⟨t, q⟩ := h F2 H2 hs le htr
  refine ⟨fun hi => ⟨vs, vs[i]'(by rw [t.len]; exact hi), q, by simp [t.len, hi]⟩, fun hi => ⟨vs, q, by rw [t.len]; exact hi⟩, fun x H3 hi hy => ?_⟩
  obtain ⟨rfl, hy⟩ := hy
  have hx := hy vs q
  obtain ⟨hlt, _⟩ := List.getElem?_eq_some_iff.mp hx
  have hd : ds[i]? = some (ds[i]'(by rw [← t.len]; exact hlt)) := by simp [← t.len, hlt]
  obtain ⟨w, hw, rw'⟩ := t.nth hd
  rw [hx] at hw
  cases hw
  exact ⟨F2, _, New.refl le, hd, rw'⟩
theorem it_tup {J : It} {a : Addr} {vs : List V} {ds : List D} {tr : Bool} {F0 H0 : Hp} (hJ : J = Itt K a) (h : ∀ F2 H2, Sub F0 F2 → Le F2 H2 → (tr = true → ∀ a ∈ L, H2 a = H0 a) → RepSL C K F2 ds vs ∧ SqT K H2 a vs) : ItOk C K J F0 H0 L tr ds := by
  subst hJ
  intro F2 H2 hs le htr _ i
  obtain ⟨t, q⟩ := h F2 H2 hs le htr
  refine ⟨fun hi => ⟨vs, vs[i]'(by rw [t.len]; exact hi), q, by simp [t.len, hi]⟩, fun hi => ⟨vs, q, by rw [t.len]; exact hi⟩, fun x H3 hi hy => ?_⟩
  obtain ⟨rfl, hy⟩ := hy
  have hx := hy vs q
  obtain ⟨hlt, _⟩ := List.getElem?_eq_some_iff.mp hx
  have hd : ds[i]? = some (ds[i]'(by rw [← t.len]; exact hlt)) := by simp [← t.len, hlt]
  obtain ⟨w, hw, rw'⟩ := t.nth hd
  rw [hx] at hw
  cases hw
  exact ⟨F2, _, New.refl le, hd, rw'⟩
theorem numd_len : ∀ (k : Nat) (ds : List D), (numd k ds).length = ds.length
  | _, [] => rfl
  | k, d :: ds => by simp [numd, numd_len]
theorem numd_nth : ∀ (k : Nat) (ds : List D) (i : Nat) (d : D), ds[i]? = some d → (numd k ds)[i]? = some (.tup [.int (k + i : Nat), d])
  | k, [], i, d, h => by simp at h
  | k, d0 :: ds, 0, d, h => by
    simp at h; subst h
    simp [numd]
  | k, d0 :: ds, i + 1, d, h => by
    simp only [numd, List.getElem?_cons_succ]
    rw [numd_nth (k + 1) ds i d (by simpa using h)]
    have : k + 1 + i = k + (i + 1) := by omega
    rw [this]
theorem it_enum {J : It} {a : Addr} {vs : List V} {ds : List D} {tr : Bool} {F0 H0 : Hp} (hJ : J = Ite K a) (h : ∀ F2 H2, Sub F0 F2 → Le F2 H2 → (tr = true → ∀ a ∈ L, H2 a = H0 a) → RepSL C K F2 ds vs ∧ SqL K H2 a vs) : ItOk C K J F0 H0 L tr (numd 0 ds) := by
  subst hJ
  intro F2 H2 hs le htr _ i
  obtain ⟨t, q⟩ := h F2 H2 hs le htr
  rw [numd_len]
  refine ⟨fun hi => ⟨vs, vs[i]'(by rw [t.len]; exact hi), q, by simp [t.len, hi]⟩, fun hi => ⟨vs, q, by rw [t.len]; exact hi⟩, fun x H3 hi hy => ?_⟩
  obtain ⟨T, y, rfl, hT, rfl, hy⟩ := hy
  have hx := hy vs q
  obtain ⟨hlt, _⟩ := List.getElem?_eq_some_iff.mp hx
  have hd : ds[i]? = some (ds[i]'(by rw [← t.len]; exact hlt)) := by simp [← t.len, hlt]
  obtain ⟨w, hw, rw'⟩ := t.nth hd
  rw [hx] at hw
  cases hw
  have n := New.tup (vs := [.int (i : Nat), y]) le hT
  refine ⟨_, _, n, numd_nth 0 ds i _ hd, ?_⟩
  simp only [RepS]
  refine ⟨T, _, rfl, .inl (.inl upd_same), ?_⟩
  simp only [RepSL, RepS]
  exact ⟨_, _, rfl, by simp, y, [], rfl, RepS.le n.fe.le _ _ rw', rfl⟩
theorem it_str {J : It} {z : Str} {tr : Bool} {F0 H0 : Hp} (hJ : J = Its z) (hz : z.length ≤ sizeLine) (hc : PyData.canLay0 (.str z) = true) : ItOk C K J F0 H0 L tr (signs z) := by
  subst hJ
  intro F2 H2 hs le htr _ i
  have hl : (signs z).length = z.cps.size := by simp [signs]
  rw [hl]
  refine ⟨fun hi => hi, fun hi => hi, fun x H3 hi hy => ?_⟩
  obtain ⟨rfl, c, hc2, rfl⟩ := hy
  refine ⟨F2, .str ⟨#[c]⟩, New.refl le, ?_, ?_⟩
  · unfold signs
    rw [List.getElem?_map, Array.getElem?_toList, hc2]
    rfl
  · simp only [RepS]
    refine ⟨trivial, by rw [sizeLine_eq]; show 1 ≤ _; decide, ?_⟩
    have hm : c ∈ z.cps := Array.mem_of_getElem? hc2
    simp only [PyData.canLay0, PyData.strOk, Array.all_eq_true_iff_forall_mem] at hc ⊢
    intro y hy
    have : y = c := by simpa using hy
    rw [this]
    exact hc c hm
theorem it_rng {J : It} {lo c : Int} {n : Nat} {ds : List D} {tr : Bool} {F0 H0 : Hp} (hJ : J = Itr lo n ∧ c = 1 ∨ J = Itc lo c n) (hds : ds = (List.range n).map fun (k : Nat) => D.int (lo + k * c)) : ItOk C K J F0 H0 L tr ds := by
  subst hds
  intro F2 H2 hs le htr _ i
  simp only [List.length_map, List.length_range]
  rcases hJ with ⟨rfl, rfl⟩ | rfl
  · refine ⟨fun hi => hi, fun hi => hi, fun x H3 hi hy => ?_⟩
    obtain ⟨rfl, rfl⟩ := hy
    exact ⟨F2, _, New.refl le, by simp [hi]; rfl, by simp [RepS]⟩
  · refine ⟨fun hi => hi, fun hi => hi, fun x H3 hi hy => ?_⟩
    obtain ⟨rfl, rfl⟩ := hy
    exact ⟨F2, _, New.refl le, by simp [hi]; rfl, by simp [RepS]⟩
end
section
variable {X : Cx} {C : Nat → Addr} {cal : Nat → List O → CRes} {XE : XP}
theorem sr_seq {tg e : Expr} {c : CE} (he : EV X C cal XE e c) : PI X tg e (tSr C X.K cal XE (.seq c)) := by
  refine PI.imp (pi_seq he) fun σ H Q hq => ?_
  obtain ⟨F, env, L, R, sr, ho⟩ := hq
  simp only [evSr] at ho
  refine ⟨F, env, L, R, sr, ?_⟩
  cases e1 : ev cal c env with
  | ok x =>
    rw [e1] at ho
    intro v F1 H1 L1 T p hx
    simp only [Res.bind] at ho
    split at ho
    case h_3 => exact ho.elim
    · rename_i z g
      obtain ⟨l, r, _⟩ := hx.get2 p.sr g
      simp only [RepO, RepS] at r
      obtain ⟨_, rfl, hz, hc⟩ := r
      exact .inr ⟨z, rfl, ho _ _ _ _ (p.frzT.q_of fun z => by simpa [Sr.quiet] using z) (it_str rfl hz hc)⟩
    rename_i o _ g
    split at ho
    case h_2 => exact ho.elim
    rename_i b ds w
    obtain ⟨a, vs, rfl, hw⟩ := walk_at hx p.sr g w
    refine .inl ⟨a, rfl, ?_⟩
    have h0 := hw (frzH T F1 H1) H1 (Sub.refl _) (frzH_le p.sr.le) (fun _ _ _ => rfl)
    cases b with
    | false =>
      left
      have q0 : SqL X.K H1 a vs := by
        rcases h0.2 with ⟨_, q⟩ | ⟨z, _⟩
        · exact q
        · cases z
      refine ⟨⟨vs, q0⟩, ho _ _ _ _ (p.frzT.q_of fun z => by simpa [Sr.quiet] using z) (it_list (vs := vs) rfl fun F2 H2 hs le htr => ?_)⟩
      obtain ⟨t, q⟩ := hw F2 H2 hs le htr
      rcases q with ⟨_, q⟩ | ⟨z, _⟩
      · exact ⟨t, q⟩
      · cases z
    | true =>
      right
      have q0 : SqT X.K H1 a vs := by
        rcases h0.2 with ⟨z, _⟩ | ⟨_, q⟩
        · cases z
        · exact q
      refine ⟨⟨vs, q0⟩, ho _ _ _ _ (p.frzT.q_of fun z => by simpa [Sr.quiet] using z) (it_tup (vs := vs) rfl fun F2 H2 hs le htr => ?_)⟩
      obtain ⟨t, q⟩ := hw F2 H2 hs le htr
      rcases q with ⟨z, _⟩ | ⟨_, q⟩
      · cases z
      · exact ⟨t, q⟩
  | ex c d e => rw [e1] at ho; exact ho
  | er => rw [e1] at ho; exact ho
end
end Cr
end

section
/-! List comprehensions. -/
namespace Cr
open PySem L2

section
variable {C : Nat → Addr} {K : PySem.W.Frag} {F F' F1 F2 H H' H1 H2 : Hp} {σ σ1 : St} {env env1 env2 : Env} {L L1 L2 R T T1 T2 : List Addr}
/-- what may stand in a slot that owns nothing -/
def Bare (C : Nat → Addr) (K : PySem.W.Frag) (F : Hp) (o : Option O) (x : Option V) : Prop := match o with
  | none => True
  | some (.fr d) => ∃ v, x = some v ∧ RepS C K F d v
  | _ => False
theorem RepE.swap {x : Option V} {o' : Option O} (hb : Bare C K F o' x) : ∀ {env : Env} {σ : St} {L : List Addr} {i : Nat}, RepE C K F H env σ L → i < env.length → leafOrNone ((env[i]?).join) = true → RepE C K F H (env.set i o') (σ.set i x) L
  | [], σ, L, i, r, hi, hl => absurd hi (by simp)
  | none :: e, σ, L, 0, r, hi, hl => by
    simp only [RepE] at r
    obtain ⟨y, s, rfl, t⟩ := r
    cases o' with
    | none => simp only [List.set_cons_zero, RepE]; exact ⟨x, s, rfl, t⟩
    | some o =>
      cases o with
      | fr d =>
        obtain ⟨v, rfl, rd⟩ := hb
        simp only [List.set_cons_zero, RepE, RepO]
        exact ⟨v, s, [], L, rfl, ⟨rfl, rd⟩, t, rfl⟩
      | _ => exact hb.elim
  | some o0 :: e, σ, L, 0, r, hi, hl => by
    simp only [RepE] at r
    obtain ⟨y, s, l1, l2, rfl, ro, t, rfl⟩ := r
    have e1 : l1 = [] := by
      cases o0 with
      | fr d => exact ro.1
      | _ => simp [leafOrNone, O.isFr] at hl
    subst e1
    cases o' with
    | none => simp only [List.set_cons_zero, RepE]; exact ⟨x, s, rfl, t⟩
    | some o =>
      cases o with
      | fr d =>
        obtain ⟨v, rfl, rd⟩ := hb
        simp only [List.set_cons_zero, RepE, RepO]
        exact ⟨v, s, [], l2, rfl, ⟨rfl, rd⟩, t, rfl⟩
      | _ => exact hb.elim
  | none :: e, σ, L, i + 1, r, hi, hl => by
    simp only [RepE] at r
    obtain ⟨y, s, rfl, t⟩ := r
    simp only [List.set_cons_succ, RepE]
    exact ⟨y, _, rfl, RepE.swap hb t (by simpa using hi) (by simpa using hl)⟩
  | some o0 :: e, σ, L, i + 1, r, hi, hl => by
    simp only [RepE] at r
    obtain ⟨y, s, l1, l2, rfl, ro, t, rfl⟩ := r
    simp only [List.set_cons_succ, RepE]
    exact ⟨y, _, l1, l2, rfl, ro, RepE.swap hb t (by simpa using hi) (by simpa using hl), rfl⟩
theorem wipeE_len (e : Env) : ∀ own : List Nat, (wipeE e own).length = e.length
  | [] => rfl
  | i :: is => by simp [wipeE, wipeE_len e is]
theorem wipeE_in {e : Env} {j : Nat} (hj : j < e.length) : ∀ {own : List Nat}, j ∈ own → (wipeE e own)[j]? = some none
  | [], h => by simp at h
  | i :: is, h => by
    unfold wipeE
    by_cases e1 : i = j
    · subst e1
      rw [List.getElem?_set_self (by rw [wipeE_len]; exact hj)]
    · rw [List.getElem?_set_ne e1]
      exact wipeE_in hj (by simpa [Ne.symm e1] using h)
theorem wipeE_leaf {e : Env} {j : Nat} (hl : leafOrNone ((e[j]?).join) = true) : ∀ (own : List Nat), leafOrNone (((wipeE e own)[j]?).join) = true
  | [] => hl
  | i :: is => by
    unfold wipeE
    by_cases e1 : i = j
    · subst e1
      by_cases h : i < (wipeE e is).length
      · rw [List.getElem?_set_self h]; rfl
      · rw [List.getElem?_eq_none (by simpa using h)]; rfl
    · rw [List.getElem?_set_ne e1]
      exact wipeE_leaf hl is
theorem RepE.wiped (r : RepE C K F H env σ L) : ∀ {own : List Nat}, wipeOk own env = true → RepE C K F H (wipeE env own) (wipe σ own) L
  | [], h => r
  | i :: is, h => by
    simp only [wipeOk, List.all_cons, Bool.and_eq_true, decide_eq_true_eq] at h
    exact RepE.swap (o' := none) (x := none) trivial (RepE.wiped r h.2) (by rw [wipeE_len]; exact h.1.1) (wipeE_leaf h.1.2 is)
/-- the slots put back -/
def undo (σ s : St) : List Nat → St
  | [] => s
  | i :: is => (undo σ s is).set i ((σ[i]?).join)
theorem undo_len (σ s : St) : ∀ own : List Nat, (undo σ s own).length = s.length
  | [] => rfl
  | i :: is => by simp [undo, undo_len σ s is]
theorem undo_out {σ s : St} {j : Nat} : ∀ {own : List Nat}, j ∉ own → (undo σ s own)[j]? = s[j]?
  | [], h => rfl
  | i :: is, h => by
    simp only [List.mem_cons, not_or] at h
    unfold undo
    rw [List.getElem?_set_ne (Ne.symm h.1)]
    exact undo_out h.2
theorem undo_in {σ s : St} {j : Nat} (hs : s.length = σ.length) (hj : j < σ.length) : ∀ {own : List Nat}, j ∈ own → (undo σ s own)[j]? = σ[j]?
  | [], h => by simp at h
  | i :: is, h => by
    unfold undo
    by_cases e1 : i = j
    · subst e1
      rw [List.getElem?_set_self (by rw [undo_len, hs]; exact hj)]
      simp [hj]
    · rw [List.getElem?_set_ne e1]
      exact undo_in hs hj (by simpa [Ne.symm e1] using h)
theorem wipe_out {σ : St} {j : Nat} : ∀ {own : List Nat}, j ∉ own → (wipe σ own)[j]? = σ[j]?
  | [], h => rfl
  | i :: is, h => by
    simp only [List.mem_cons, not_or] at h
    unfold wipe
    rw [List.getElem?_set_ne (Ne.symm h.1)]
    exact wipe_out h.2
theorem wipe_in {σ : St} {j : Nat} (hj : j < σ.length) : ∀ {own : List Nat}, j ∈ own → (wipe σ own)[j]? = some none
  | [], h => by simp at h
  | i :: is, h => by
    unfold wipe
    by_cases e1 : i = j
    · subst e1
      rw [List.getElem?_set_self (by rw [wipe_length]; exact hj)]
    · rw [List.getElem?_set_ne e1]
      exact wipe_in hj (by simpa [Ne.symm e1] using h)
theorem wipe_eq {σ σ1 : St} {own : List Nat} (h : σ1.length = σ.length) (k : ∀ j, j ∉ own → σ1[j]? = σ[j]?) : wipe σ1 own = wipe σ own := by
  refine List.ext_getElem? fun j => ?_
  by_cases hj : j ∈ own
  · by_cases hl : j < σ.length
    · rw [wipe_in (by rw [h]; exact hl) hj, wipe_in hl hj]
    · rw [List.getElem?_eq_none (by rw [wipe_length, h]; omega), List.getElem?_eq_none (by rw [wipe_length]; omega)]
  · rw [wipe_out hj, wipe_out hj, k j hj]
theorem undo_wipe (σ : St) (own : List Nat) : undo σ (wipe σ own) own = σ := by
  refine List.ext_getElem? fun j => ?_
  by_cases hj : j ∈ own
  · by_cases hl : j < σ.length
    · rw [undo_in (by rw [wipe_length]) hl hj]
    · rw [List.getElem?_eq_none (by rw [undo_len, wipe_length]; omega), List.getElem?_eq_none (by omega)]
  · rw [undo_out hj, wipe_out hj]
theorem backE_len (e0 e1 : Env) : ∀ own : List Nat, (backE e0 e1 own).length = e1.length
  | [] => rfl
  | i :: is => by simp [backE, backE_len e0 e1 is]
theorem backE_leaf {e0 e1 : Env} {j : Nat} (h1 : leafOrNone ((e1[j]?).join) = true) (h0 : leafOrNone ((e0[j]?).join) = true) : ∀ own : List Nat, leafOrNone (((backE e0 e1 own)[j]?).join) = true
  | [] => h1
  | i :: is => by
    unfold backE
    by_cases e : i = j
    · subst e
      by_cases h : i < (backE e0 e1 is).length
      · rw [List.getElem?_set_self h]; exact h0
      · rw [List.getElem?_eq_none (by simpa using h)]; rfl
    · rw [List.getElem?_set_ne e]
      exact backE_leaf h1 h0 is
theorem RepE.back {s : St} (s0 : SR C K F1 H1 σ env L1 R) (le : Le F1 F) (r : RepE C K F H env1 s L) : ∀ {own : List Nat}, (∀ i ∈ own, i < env1.length ∧ leafOrNone ((env[i]?).join) = true ∧ leafOrNone ((env1[i]?).join) = true) → RepE C K F H (backE env env1 own) (undo σ s own) L
  | [], h => r
  | i :: is, h => by
    have hi := h i (by simp)
    refine RepE.swap (i := i) ?_ (RepE.back s0 le r fun j hj => h j (by simp [hj])) (by rw [backE_len]; exact hi.1) (backE_leaf hi.2.2 hi.2.1 is)
    cases e : (env[i]?).join with
    | none => trivial
    | some o =>
      cases o with
      | fr d =>
        obtain ⟨v, La, l, Lb, c, hv, rv⟩ := s0.slot e
        exact ⟨v, by rw [hv]; rfl, RepS.le le d v rv.2⟩
      | _ => rw [e] at hi; simp [leafOrNone, O.isFr] at hi
end

section
variable {C : Nat → Addr} {K : PySem.W.Frag} {cal : Nat → List O → CRes} {F F' F1 F2 H H' H1 H2 : Hp} {σ σ1 : St} {env env1 env2 : Env} {L L1 L2 R T T1 T2 : List Addr}
abbrev X0 : XP := fun _ _ _ => False
def tCs (C : Nat → Addr) (K : PySem.W.Frag) (cal : Nat → List O → CRes) (XE : XP) : List CE → TT
  | [] => tYes
  | [c] => tB (tV C K cal XE c)
  | _ => fun _ _ _ => False
/-- the conditions of a turn -/
theorem tCs_run {cs : List CE} (hc : cs.length ≤ 1) (sr : SR C K F H σ env L R) {b : Bool} {e' : Env} (h : evC cal cs env = .ok (b, e')) {Q : Bool → Hp → Prop}
    (k : ∀ F1 H1 L1, Pst C K F H σ env L R F1 H1 e' L1 [] (quietL cs) → Q b H1) : tCs C K cal X0 cs σ H Q := by
  match cs, hc with
  | [], _ =>
    simp only [evC, Res.ok.injEq, Prod.mk.injEq] at h
    obtain ⟨rfl, rfl⟩ := h
    exact k F H L ((Pst.refl sr).q_of fun _ => rfl)
  | [c], _ =>
    simp only [evC] at h
    refine ⟨F, env, L, R, sr, ?_⟩
    cases h1 : ev cal c env with
    | ok x =>
      rw [h1] at h
      intro v F1 H1 L1 T p hx
      simp only [Res.bind] at h
      split at h
      · rename_i e
        simp only [Res.ok.injEq, Prod.mk.injEq] at h
        obtain ⟨rfl, rfl⟩ := h
        obtain ⟨rfl, _, rfl⟩ := boolH_of e hx
        exact ⟨true, rfl, k F1 H1 L1 (p.q_of fun z => by simpa [quietL] using z)⟩
      · rename_i e
        simp only [Res.ok.injEq, Prod.mk.injEq] at h
        obtain ⟨rfl, rfl⟩ := h
        obtain ⟨rfl, _, rfl⟩ := boolH_of e hx
        exact ⟨false, rfl, k F1 H1 L1 (p.q_of fun z => by simpa [quietL] using z)⟩
      · cases h
    | ex c d e => rw [h1] at h; cases h
    | er => rw [h1] at h; cases h
end

theorem upd_id {H : Hp} {a : Addr} {o : HO} (h : H a = some o) : upd H a o = H := by
  funext b
  by_cases e : b = a
  · subst e; rw [upd_same, h]
  · exact upd_ne e
theorem wipeE_out {e : Env} {j : Nat} : ∀ {own : List Nat}, j ∉ own → (wipeE e own)[j]? = e[j]?
  | [], h => rfl
  | i :: is, h => by
    simp only [List.mem_cons, not_or] at h
    unfold wipeE
    rw [List.getElem?_set_ne (Ne.symm h.1)]
    exact wipeE_out h.2
theorem bind_out (t : Tg) (d : D) (e e' : Env) : t.bind d e = some e' → ∀ j : Nat, j ∉ t.slots → e'[j]? = e[j]? := by
  suffices h : ∀ (n : Nat), (∀ (t : Tg) (d : D) (e e' : Env), sizeOf t < n → t.bind d e = some e' → ∀ j : Nat, j ∉ t.slots → e'[j]? = e[j]?) ∧
      (∀ (ts : List Tg) (ds : List D) (e e' : Env), sizeOf ts < n → bindL ts ds e = some e' → ∀ j : Nat, j ∉ slotsL ts → e'[j]? = e[j]?) from
    (h (sizeOf t + 1)).1 t d e e' (Nat.lt_succ_self _)
  intro n
  induction n with
  | zero => exact ⟨fun _ _ _ _ h => absurd h (Nat.not_lt_zero _), fun _ _ _ _ h => absurd h (Nat.not_lt_zero _)⟩
  | succ n ih =>
    refine ⟨fun t d e e' hs h j hj => ?_, fun ts ds e e' hs h j hj => ?_⟩
    · cases t with
      | v i =>
        simp only [Tg.bind] at h
        simp only [Tg.slots, List.mem_singleton] at hj
        split at h
        · cases h
          rw [List.getElem?_set_ne (Ne.symm hj)]
        · cases h
      | tup ts =>
        cases d with
        | tup ds =>
          simp only [Tg.bind] at h
          exact ih.2 ts ds e e' (by simp at hs; omega) h j hj
        | _ => simp [Tg.bind] at h
    · cases ts with
      | nil =>
        cases ds with
        | nil => simp only [bindL, Option.some.injEq] at h; rw [← h]
        | cons => simp [bindL] at h
      | cons t ts =>
        cases ds with
        | nil => simp [bindL] at h
        | cons d ds =>
          simp only [bindL] at h
          simp only [slotsL, List.mem_append, not_or] at hj
          obtain ⟨e1, h1, h2⟩ := Option.bind_eq_some_iff.mp h
          rw [ih.2 ts ds e1 e' (by simp at hs; omega) h2 j hj.2, ih.1 t d e e1 (by simp at hs; omega) h1 j hj.1]
theorem backE_in {e0 e1 : Env} {j : Nat} (hs : e1.length = e0.length) (hj : j < e0.length) : ∀ {own : List Nat}, j ∈ own → (backE e0 e1 own)[j]? = e0[j]?
  | [], h => by simp at h
  | i :: is, h => by
    unfold backE
    by_cases z : i = j
    · subst z
      rw [List.getElem?_set_self (by rw [backE_len, hs]; exact hj)]
      simp [hj]
    · rw [List.getElem?_set_ne z]
      exact backE_in hs hj (by simpa [Ne.symm z] using h)
theorem backE_out {e0 e1 : Env} {j : Nat} : ∀ {own : List Nat}, j ∉ own → (backE e0 e1 own)[j]? = e1[j]?
  | [], h => rfl
  | i :: is, h => by
    simp only [List.mem_cons, not_or] at h
    unfold backE
    rw [List.getElem?_set_ne (Ne.symm h.1)]
    exact backE_out h.2
theorem backE_wipe {e : Env} {vs : List Nat} (h : ∀ j ∈ vs, j < e.length) (j : Nat) : (backE e (wipeE e vs) vs)[j]? = e[j]? := by
  by_cases hj : j ∈ vs
  · exact backE_in (wipeE_len e vs) (h j hj) hj
  · rw [backE_out hj, wipeE_out hj]
section
variable {X : Cx} {C : Nat → Addr} {cal : Nat → List O → CRes} {XE : XP} {K : PySem.W.Frag} {F F' F1 F2 H H' H1 H2 : Hp} {σ σ1 : St} {env env1 env2 : Env} {L L1 L2 R T T1 T2 : List Addr}
theorem noEx_ok {α : Type} {r : Res α} {a : α} (h : r.noEx = .ok a) : r = .ok a := by
  cases r with
  | ok b => simpa using h
  | ex => simp at h
  | er => simp at h
theorem bind_ok {α β : Type} {r : Res α} {f : α → Res β} {b : β} (h : r.bind f = .ok b) : ∃ a, r = .ok a ∧ f a = .ok b := by
  cases r with
  | ok a => exact ⟨a, rfl, h⟩
  | ex => simp at h
  | er => simp at h
theorem RepOL.snoc : ∀ {os : List O} {vs : List V} {l : List Addr} {o : O} {v : V}, RepOL C K F H os vs l → RepO C K F H o v T → RepOL C K F H (os ++ [o]) (vs ++ [v]) (l ++ T)
  | [], vs, l, o, v, r, h => by
    simp only [RepOL] at r
    obtain ⟨rfl, rfl⟩ := r
    simp only [List.nil_append, RepOL]
    exact ⟨v, [], T, [], rfl, h, ⟨rfl, rfl⟩, by simp⟩
  | o0 :: os, vs, l, o, v, r, h => by
    simp only [RepOL] at r
    obtain ⟨w, s, l1, l2, rfl, q, t, rfl⟩ := r
    simp only [List.cons_append, RepOL]
    exact ⟨w, _, l1, _, rfl, q, RepOL.snoc t h, by simp⟩
/-- the list that grows, and all else -/
structure Grow (C : Nat → Addr) (K : PySem.W.Frag) (f : D → Env → Res (Option O × Env)) (F1 H1 : Hp) (σw : St) (env1w e1 : Env) (L1 R : List Addr) (vs : List Nat) (q2 : Bool) (ds : List D) (os : List O) (D : Addr) (i : Nat) (H' : Hp) : Prop where
  le : i ≤ ds.length
  ex : ∃ F' ei Li acc oacc Tacc rest, SR C K F' H' σw ei Li (D :: Tacc ++ R) ∧ Sub F1 F' ∧ (∀ a, (F1 a ≠ none ∨ a ∈ R) → H' a = H1 a) ∧ H' D = some (.lst acc) ∧ RepOL C K F' H' oacc acc Tacc ∧ acc.length ≤ i ∧
    lcL f (ds.drop i) ei = .ok (rest, e1) ∧ os = oacc ++ rest ∧ (q2 = true → ei = env1w ∧ Li = L1 ∧ ∀ a ∈ L1, H' a = H1 a) ∧ (∀ j ∈ vs, ei[j]? = some none)
theorem Pst.seq {q1 q2 : Bool} (p : Pst C K F H σ env L R F1 H1 env1 L1 [] q1) (p2 : Pst C K F1 H1 σ env1 L1 R F2 H2 env2 L2 T q2) : Pst C K F H σ env L R F2 H2 env2 L2 T (q1 && q2) := by
  have := p.trans (p2 : Pst C K F1 H1 σ env1 L1 ([] ++ R) F2 H2 env2 L2 T q2)
  simpa using this
theorem hval {h : Hd} {v : V} {o : O} (x : HX C K F H σ L T h v) (e : h.val = some o) : RepO C K F H o v T := by
  cases h with
  | p d => cases e; exact ⟨x.1, x.2⟩
  | t o' => cases e; exact x
  | _ => cases e
theorem lc_body {t : Tg} {cs : List CE} {x : CE} {vs : List Nat} {Q : VK} {H0 : Hp} {J : It} {ds : List Cr.D} {tr qs qq : Bool} (hcs : cs.length ≤ 1) (hsl : ∀ i ∈ t.slots, i ∈ vs) (hqq : qq = true → qs = true ∧ (quietL cs && x.quiet) = true) (p : Pst C K F H σ env L R F1 H1 env1 L1 [] qs) (it : ItOk C K J F1 H1 L1 tr ds)
    (ho : Out C K XE F H σ env L R qq (if (wipeOk vs env1 && (!tr || (quietL cs && x.quiet))) = true then
        (Res.noEx (lcL (lcF (fun e => evC cal cs e) (fun e => ev cal x e) t vs) ds (wipeE env1 vs))).bind fun y => if lineOk ds.length = true then .ok (.t (.ol y.1), backE env1 y.2 vs) else .er
      else .er) Q) : tLc (fun _ _ R => R J H1) (tTg C K t) (tCs C K cal X0 cs) (tV C K cal X0 x) vs σ H0 Q := by
    intro D hD
    try simp only [Res.bind] at ho
    split at ho
    case isFalse => exact ho.elim
    rename_i hk
    obtain ⟨hown, htr⟩ := Bool.and_eq_true_iff.mp hk
    generalize hf : lcF (fun e => evC cal cs e) (fun e => ev cal x e) t vs = f at ho
    cases hl : Res.noEx (lcL f ds (wipeE env1 vs)) with
    | ex c d e => simp only [hl] at ho; cases hz : lcL f ds (wipeE env1 vs) <;> rw [hz] at hl <;> simp at hl
    | er => simp only [hl] at ho; exact ho.elim
    | ok y =>
      obtain ⟨os, e1⟩ := y
      simp only [hl] at ho
      have hl := noEx_ok hl
      split at ho
      case isFalse => exact ho.elim
      rename_i hline
      have hline : ds.length ≤ 16777216 := by simpa [lineOk] using hline
      have sr1 : SR C K F1 H1 σ env1 L1 R := p.sr
      have hvl : ∀ j ∈ vs, j < env1.length ∧ leafOrNone ((env1[j]?).join) = true := fun j hj => by
        have := List.all_eq_true.mp hown j hj
        simpa using this
      have hlt : ∀ j ∈ vs, j < σ.length := fun j hj => by rw [sr1.len]; exact (hvl j hj).1
      have nw := New.lst (vs := []) sr1.le hD
      have hDn := nw.fresh D (by simp)
      have sr2 : SR C K F1 (upd H1 D (.lst [])) (wipe σ vs) (wipeE env1 vs) L1 (D :: [] ++ R) := by
        have s := sr1.new nw
        exact ⟨s.le, s.rep.wiped hown, s.nd, s.fn⟩
      have live : ∀ a, (F1 a ≠ none ∨ a ∈ R) → H1 a ≠ none := fun a ha => by
        rcases ha with ha | ha
        · cases e : F1 a with
          | none => exact absurd e ha
          | some u => rcases sr1.le a u e with z | ⟨_, o, z⟩ <;> rw [z] <;> simp
        · exact (sr1.fn a (by simp [ha])).2
      generalize hq2 : (quietL cs && x.quiet) = q2
      refine ⟨fun i m H' => m = ds.length - i ∧ Grow C K f F1 H1 (wipe σ vs) (wipeE env1 vs) e1 L1 R vs q2 ds os D i H', ⟨_, rfl, Nat.zero_le _, F1, _, L1, [], [], [], os, sr2, Sub.refl F1, fun a ha => nw.same a (live a ha), upd_same, by simp [RepOL], Nat.le_refl _, hl, rfl, fun _ => ⟨rfl, rfl, fun a ha => nw.same a (sr1.fn a (by simp [ha])).2⟩, fun j hj => wipeE_in (hvl j hj).1 hj⟩, ?_⟩
      rintro i m H' ⟨rfl, hle, F', ei, Li, acc, oacc, Tacc, rest, srI, subI, kpI, hDI, rI, alen, hrest, hos, hqI, hnone⟩
      have liD : ∀ a ∈ L1, a ≠ D := fun a ha z => (sr1.fn a (by simp [ha])).2 (z ▸ hD)
      have itI := it F' H' subI srI.le (fun z a ha => (hqI (by rw [← hq2]; rw [z] at htr; simpa using htr)).2.2 a ha) (fun a ha => kpI a (.inl ha)) i
      by_cases hi : i < ds.length
      · right
        refine ⟨itI.1 hi, fun H' => Grow C K f F1 H1 (wipe σ vs) (wipeE env1 vs) e1 L1 R vs q2 ds os D (i + 1) H', fun H' g => ⟨_, by omega, rfl, g⟩, fun v H3 hy => ?_⟩
        obtain ⟨F3, d, n3, hd, rd⟩ := itI.2.2 v H3 hi hy
        have sr3 : SR C K F3 H3 (wipe σ vs) ei Li (D :: Tacc ++ R) := srI.new n3
        have hdrop : ds.drop i = d :: ds.drop (i + 1) := by
          obtain ⟨h1, h2⟩ := List.getElem?_eq_some_iff.mp hd
          rw [← h2]
          exact List.drop_eq_getElem_cons h1
        rw [hdrop] at hrest
        simp only [lcL] at hrest
        obtain ⟨⟨o?, ei'⟩, hfd, hrest⟩ := bind_ok hrest
        obtain ⟨⟨rest', e1'⟩, hrest', hrest⟩ := bind_ok hrest
        simp only [Res.ok.injEq, Prod.mk.injEq] at hrest
        obtain ⟨hr, rfl⟩ := hrest
        rw [← hf] at hfd
        unfold lcF at hfd
        split at hfd
        case h_2 => cases hfd
        rename_i eb hb
        obtain ⟨⟨k, ec⟩, hcond, hfd⟩ := bind_ok hfd
        refine ⟨F3, ei, Li, _, d, eb, sr3, rd, hb, fun σ2 L2 s2 hsub hpoor hbut => ⟨?_, ?_⟩⟩
        · rw [wipe_eq (σ := wipe σ vs) hbut.1 fun j hj => hbut.2 j fun z => hj (hsl j z)]
          exact wipe_eq (wipe_length σ vs) fun j hj => wipe_out hj
        have hw2 : wipe σ2 vs = wipe σ vs := by
          rw [wipe_eq (σ := wipe σ vs) hbut.1 fun j hj => hbut.2 j fun z => hj (hsl j z)]
          exact wipe_eq (wipe_length σ vs) fun j hj => wipe_out hj
        have hL2 : L2 = Li := hpoor fun j hj => by rw [hnone j (hsl j hj)]; rfl
        refine tCs_run hcs s2 hcond fun F4 H4 L4 p4 => ?_
        have big : ∀ {F5 H5 e5 L5 T5 q5}, Pst C K F3 H3 σ2 eb L2 (D :: Tacc ++ R) F5 H5 e5 L5 T5 q5 → wipeOk vs e5 = true → ei' = wipeE e5 vs → (q2 = true → q5 = true) → ∀ (acc' : List V) (oacc' : List O), (∀ H6, RepOL C K F5 H5 oacc acc Tacc → (∀ a ∈ T5 ++ Tacc, H6 a = H5 a) → RepOL C K F5 H6 oacc' acc' (Tacc ++ T5)) → acc'.length ≤ i + 1 → os = oacc' ++ rest' →
            Grow C K f F1 H1 (wipe σ vs) (wipeE env1 vs) e1' L1 R vs q2 ds os D (i + 1) (upd H5 D (.lst acc')) := by
          intro F5 H5 e5 L5 T5 q5 p5 hw5 he5 hq5 acc' oacc' hrep hlen hos'
          have nd5 := p5.sr.nd
          have perm : (L5 ++ (T5 ++ (D :: Tacc ++ R))).Perm (L5 ++ (D :: (Tacc ++ T5) ++ R)) := by
            refine List.Perm.append_left L5 ?_
            have : (T5 ++ (D :: Tacc ++ R)).Perm ((D :: Tacc ++ R) ++ T5) := List.perm_append_comm
            refine this.trans ?_
            simp only [List.cons_append, List.append_assoc]
            exact List.Perm.cons D (List.Perm.append_left Tacc List.perm_append_comm)
          have nd6 := (List.Perm.nodup_iff perm).mp nd5
          have nDT : D ∉ L5 ∧ D ∉ Tacc ++ T5 ++ R := by
            have h1 := List.nodup_append.mp nd6
            refine ⟨fun z => h1.2.2 D z D (by simp) rfl, ?_⟩
            have h2 := h1.2.1
            simp only [List.cons_append, List.nodup_cons] at h2
            exact h2.1
          have fD := (p5.sr.fn D (by simp))
          have k6 : ∀ a, a ≠ D → upd H5 D (.lst acc') a = H5 a := fun a ha => upd_ne ha
          have nT : ∀ a ∈ T5 ++ Tacc, a ≠ D := fun a ha z => nDT.2 (by subst z; simp only [List.mem_append] at ha ⊢; rcases ha with z | z <;> simp [z])
          have le6 : Le F5 (upd H5 D (.lst acc')) := fun a u e => by
            have hne : a ≠ D := fun z => by rw [z, fD.1] at e; cases e
            rw [k6 a hne]
            exact p5.sr.le a u e
          refine ⟨hi, F5, ei', L5, acc', oacc', Tacc ++ T5, rest', ?_, subI.trans (n3.fe.trans p5.fe), fun a ha => ?_, upd_same, ?_, hlen, hrest', hos', fun z => ?_, fun j hj => ?_⟩
          · refine ⟨le6, ?_, nd6, fun a ha => ?_⟩
            · rw [he5, ← hw2]
              exact RepE.keep (Le.refl F5) (fun a ha => k6 a fun z => nDT.1 (z ▸ ha)) (p5.sr.rep.wiped hw5)
            · have := p5.sr.fn a ((List.Perm.mem_iff perm).mpr ha)
              refine ⟨this.1, ?_⟩
              by_cases z : a = D
              · subst z; rw [upd_same]; simp
              · rw [k6 a z]; exact this.2
          · have hne : a ≠ D := fun z => by
              subst z
              rcases ha with ha | ha
              · exact ha hDn.2.1
              · exact nDT.2 (by simp [ha])
            rw [k6 a hne]
            have hn3 : H' a ≠ none := by rw [kpI a ha]; exact live a ha
            have h3 : H3 a = H1 a := (n3.same a hn3).trans (kpI a ha)
            rw [← h3]
            refine p5.kp a ?_
            rcases ha with ha | ha
            · left
              cases e : F1 a with
              | none => exact absurd e ha
              | some u => rw [n3.fe a u (subI a u e)]; simp
            · right; simp [ha]
          · refine hrep _ ?_ fun a ha => k6 a (nT a ha)
            refine RepOL.keep (n3.fe.trans p5.fe).le oacc acc Tacc (fun a ha => ?_) rI
            rw [p5.kp a (.inr (by simp [ha]))]
            exact n3.same a (srI.fn a (by simp [ha])).2
          · obtain ⟨a1, a2, a3⟩ := hqI z
            obtain ⟨b1, b2, b3⟩ := p5.qt (hq5 z)
            refine ⟨?_, by rw [b2, hL2, a2], fun a ha => ?_⟩
            · rw [he5, b1]
              refine List.ext_getElem? fun j => ?_
              by_cases hj : j ∈ vs
              · have hlb := bind_len t d ei eb hb
                have : j < eb.length := by rw [hlb, a1, wipeE_len]; exact (hvl j hj).1
                rw [wipeE_in this hj, wipeE_in (hvl j hj).1 hj]
              · have e2 : ∀ (e : Env), (wipeE e vs)[j]? = e[j]? := fun e => wipeE_out hj
                rw [e2, bind_out t d ei eb hb j (fun z => hj (hsl j z)), a1]
            · rw [k6 a (liD a ha), b3 a (by rw [hL2, a2]; exact ha), n3.same a (by rw [a3 a ha]; exact (sr1.fn a (by simp [ha])).2), a3 a ha]
          · have hlb := bind_len t d ei eb hb
            have hlen5 : e5.length = ei.length := by rw [← hlb, ← s2.len, ← p5.sr.len]
            have : j < e5.length := by rw [hlen5]; exact (List.getElem?_eq_some_iff.mp (hnone j hj)).1
            rw [he5, wipeE_in this hj]
        have hD3 : H3 D = some (.lst acc) := (n3.same D (by rw [hDI]; simp)).trans hDI
        cases k with
        | true =>
          simp only [if_true] at hfd ⊢
          obtain ⟨⟨h, ed⟩, hx, hfd⟩ := bind_ok hfd
          split at hfd
          case h_2 => cases hfd
          rename_i o hval'
          split at hfd
          case isFalse => cases hfd
          rename_i hwo
          simp only [Res.ok.injEq, Prod.mk.injEq] at hfd
          obtain ⟨rfl, rfl⟩ := hfd
          refine ⟨F4, ec, L4, D :: Tacc ++ R, p4.sr, ?_⟩
          rw [hx]
          intro y F5 H5 L5 T5 p5 hx5
          have p45 := p4.seq p5
          have ry := hval hx5 hval'
          have hD5 : H5 D = some (.lst acc) := by rw [p45.kp D (.inr (by simp)), hD3]
          refine ⟨acc, hD5, by rw [sizeLine_eq]; omega, big p45 hwo rfl (fun z => by rw [← hq2] at z; exact z) (acc ++ [y]) (oacc ++ [o]) (fun H6 r k6 => ?_) (by simp; omega) ?_⟩
          · exact RepOL.snoc (RepOL.keep (Le.refl F5) _ _ _ (fun a ha => k6 a (by simp [ha])) r) (RepO.keep (Le.refl F5) _ _ _ (fun a ha => k6 a (by simp [ha])) ry)
          · rw [hos, ← hr]; simp
        | false =>
          simp only [Bool.false_eq_true, if_false] at hfd ⊢
          split at hfd
          case isFalse => cases hfd
          rename_i hwo
          simp only [Res.ok.injEq, Prod.mk.injEq] at hfd
          obtain ⟨rfl, rfl⟩ := hfd
          have hD4 : H4 D = some (.lst acc) := by rw [p4.kp D (.inr (by simp)), hD3]
          have e4 : upd H4 D (.lst acc) = H4 := upd_id hD4
          have := big p4 hwo rfl (fun z => by rw [← hq2] at z; exact (Bool.and_eq_true_iff.mp z).1) acc oacc (fun H6 r k6 => by simpa using RepOL.keep (Le.refl F4) _ _ _ (fun a ha => k6 a (by simpa using ha)) r) (by omega) (by rw [hos, ← hr])
          rw [e4] at this
          exact this
      · left
        have hi : i = ds.length := by omega
        refine ⟨itI.2.1 (by omega), ?_⟩
        rw [hi, List.drop_length] at hrest
        simp only [lcL, Res.ok.injEq, Prod.mk.injEq] at hrest
        obtain ⟨rfl, rfl⟩ := hrest
        rw [List.append_nil] at hos
        subst hos
        have hlen1 : ei.length = env1.length := by rw [← srI.len, wipe_length, sr1.len]
        have back := RepE.back (s := wipe σ vs) (own := vs) sr1 subI.le srI.rep fun j hj => ⟨by rw [hlen1]; exact (hvl j hj).1, (hvl j hj).2, by rw [hnone j hj]; rfl⟩
        rw [undo_wipe] at back
        refine ho (.ref D) F' H' Li (D :: Tacc) ⟨⟨srI.le, back, srI.nd, srI.fn⟩, p.fe.trans subI, fun a ha => ?_, fun z => ?_⟩ ?_
        · rw [kpI a, p.kp a ha]
          rcases ha with ha | ha
          · left
            cases e : F a with
            | none => exact absurd e ha
            | some u => rw [p.fe a u e]; simp
          · exact .inr ha
        · obtain ⟨z1, z2⟩ := hqq z
          obtain ⟨a1, a2, a3⟩ := p.qt z1
          obtain ⟨b1, b2, b3⟩ := hqI (by rw [← hq2]; exact z2)
          refine ⟨?_, by rw [b2, a2], fun a ha => by rw [b3 a (by rw [a2]; exact ha), a3 a ha]⟩
          rw [← a1, b1]
          refine List.ext_getElem? fun j => ?_
          exact backE_wipe (fun j hj => (hvl j hj).1) j
        · show RepO C K F' H' (.ol os) (.ref D) (D :: Tacc)
          simp only [RepO]
          exact ⟨D, acc, Tacc, rfl, hDI, rI, rfl⟩
theorem lc_in {t : Tg} {src : Sr} {cs : List CE} {x : CE} {vs : List Nat} {Q : VK} {H0 : Hp} (hcs : cs.length ≤ 1) (hsl : ∀ i ∈ t.slots, i ∈ vs) (hq : tV C K cal XE (.lc vs t src cs x) σ H0 Q) :
    tLc (tSr C K cal XE src) (tTg C K t) (tCs C K cal X0 cs) (tV C K cal X0 x) vs σ H0 Q := by
  obtain ⟨F, env, L, R, sr, ho⟩ := hq
  simp only [ev] at ho
  refine ⟨F, env, L, R, sr, ?_⟩
  cases hsrc : evSr cal src env with
  | ex c d e => rw [hsrc] at ho; exact ho
  | er => rw [hsrc] at ho; exact ho
  | ok y =>
    obtain ⟨ds, tr, env1⟩ := y
    rw [hsrc] at ho
    intro J F1 H1 L1 p it
    refine lc_body (H0 := H0) hcs hsl (qs := src.quiet) (fun z => ?_) p it ho
    simp only [CE.quiet, Bool.and_eq_true] at z ⊢
    exact ⟨z.1.1, z.1.2, z.2⟩
end
end Cr
end

section
/-! Ranges, enumerate, list comprehensions as values. -/
namespace Cr
open PySem L2

section
variable {X : Cx} {C : Nat → Addr} {cal : Nat → List O → CRes} {XE : XP} {F F' F1 F2 H H' H1 H2 : Hp} {σ : St} {env env1 env2 : Env} {L L1 L2 R T T1 T2 : List Addr}
theorem walk_of_items {o : O} {b : Bool} {ds : List D} (h : o.items = some (b, ds)) : o.walk = some (b, ds) := by
  unfold O.walk
  split
  · simp [O.items] at h
  · exact h
theorem it_enumT {J : It} {a : Addr} {vs : List V} {ds : List D} {tr : Bool} {F0 H0 : Hp} {K : PySem.W.Frag} (hJ : J = ItT K a) (h : ∀ F2 H2, Sub F0 F2 → Le F2 H2 → (tr = true → ∀ a ∈ L, H2 a = H0 a) → RepSL C K F2 ds vs ∧ SqT K H2 a vs) : ItOk C K J F0 H0 L tr (numd 0 ds) := by
  subst hJ
  intro F2 H2 hs le htr _ i
  obtain ⟨t, q⟩ := h F2 H2 hs le htr
  rw [numd_len]
  refine ⟨fun hi => ⟨vs, vs[i]'(by rw [t.len]; exact hi), q, by simp [t.len, hi]⟩, fun hi => ⟨vs, q, by rw [t.len]; exact hi⟩, fun x H3 hi hy => ?_⟩
  obtain ⟨T, y, rfl, hT, rfl, hy⟩ := hy
  have hx := hy vs q
  obtain ⟨hlt, _⟩ := List.getElem?_eq_some_iff.mp hx
  have hd : ds[i]? = some (ds[i]'(by rw [← t.len]; exact hlt)) := by simp [← t.len, hlt]
  obtain ⟨w, hw, rw'⟩ := t.nth hd
  rw [hx] at hw
  cases hw
  have n := New.tup (vs := [.int (i : Nat), y]) le hT
  refine ⟨_, _, n, numd_nth 0 ds i _ hd, ?_⟩
  simp only [RepS]
  refine ⟨T, _, rfl, .inl (.inl upd_same), ?_⟩
  simp only [RepSL, RepS]
  exact ⟨_, _, rfl, by simp, y, [], rfl, RepS.le n.fe.le _ _ rw', rfl⟩
theorem iEnum_in {K : PySem.W.Frag} {c : CE} {Q : It → Hp → Prop} {H0 : Hp} (hq : tSr C K cal XE (.enum c) σ H0 Q) : iEnumB K (tVs C K cal XE [c]) σ H0 Q := by
  obtain ⟨F, env, L, R, sr, ho⟩ := hq
  simp only [evSr] at ho
  refine ⟨F, env, L, R, sr, ?_⟩
  simp only [evs]
  cases e1 : ev cal c env with
  | ok x =>
    rw [e1] at ho
    intro vs F1 H1 L1 T p hx
    obtain ⟨v, r, T0, Tr, rfl, rfl, hx, hr⟩ := hx
    obtain ⟨rfl, rfl⟩ := hr
    have hx := hx (by simp [quietL])
    simp only [List.append_nil] at p
    simp only [Res.bind] at ho
    split at ho
    case h_2 => exact ho.elim
    rename_i o g
    split at ho
    case h_2 => exact ho.elim
    rename_i b ds w
    obtain ⟨a, vs, rfl, hw⟩ := walk_at hx p.sr g (walk_of_items w)
    refine ⟨a, rfl, ?_⟩
    have h0 := (hw (frzH T0 F1 H1) H1 (Sub.refl _) (frzH_le p.sr.le) (fun _ _ _ => rfl)).2
    cases b with
    | false =>
      have q0 : SqL K H1 a vs := by
        rcases h0 with ⟨_, q⟩ | ⟨z, _⟩
        · exact q
        · cases z
      refine .inl ⟨vs, q0, ho _ _ _ _ (p.frzT.q_of fun z => by simpa [quietL, Sr.quiet] using z) (it_enum (vs := vs) rfl fun F2 H2 hs le htr => ?_)⟩
      obtain ⟨t, q⟩ := hw F2 H2 hs le htr
      rcases q with ⟨_, q⟩ | ⟨z, _⟩
      · exact ⟨t, q⟩
      · cases z
    | true =>
      have q0 : SqT K H1 a vs := by
        rcases h0 with ⟨z, _⟩ | ⟨_, q⟩
        · cases z
        · exact q
      refine .inr ⟨vs, q0, ho _ _ _ _ (p.frzT.q_of fun z => by simpa [quietL, Sr.quiet] using z) (it_enumT (vs := vs) rfl fun F2 H2 hs le htr => ?_)⟩
      obtain ⟨t, q⟩ := hw F2 H2 hs le htr
      rcases q with ⟨z, _⟩ | ⟨_, q⟩
      · cases z
      · exact ⟨t, q⟩
  | ex c d e => rw [e1] at ho; exact ho
  | er => rw [e1] at ho; exact ho
theorem sr_enum {e : Expr} {c : CE} {p pos tpos : Pos} {elts : List Expr} {kk : Nat} (hg : Gl X "enumerate") (hm : X.mg "enumerate" = none) (he : EV X C cal XE e c) (hs : starEach [e] X.env = (false, eval e X.env) :: starEach [] X.env) :
    PI X (.Tuple elts kk tpos) (.Call (.Name "enumerate" p) [e] [] pos) (tSr C X.K cal XE (.enum c)) :=
  PI.imp (pi_enumB hg hm (a_cons hs he a_nil) hs) fun σ H Q hq => iEnum_in hq
/-- whole numbers -/
theorem rng_vals {K : PySem.W.Frag} {T : List Addr} {hs : List Hd} {es : List CE} {vs : List V} {os : List O} {ds : List D} (x : HXs C K F H σ L T hs es vs) (e1 : allSome (hs.map Hd.val) = some os) (e2 : leafs os = some ds) : RepSL C K F ds vs ∧ T = [] := by
  have := x.vals e1
  have h := this.1.leafs e2
  exact ⟨h.2, h.1⟩
theorem rangeCnt {i j c : Int} (h : rngOk i j c = true) : RgC i j c (rngN i j c) := by
  unfold rngOk at h
  simp only [Bool.and_eq_true, Bool.or_eq_true, decide_eq_true_eq, beq_iff_eq] at h
  obtain ⟨⟨⟨⟨hc, h1⟩, h2⟩, h3⟩, h4⟩ := h
  rcases hc with rfl | ⟨hc, hc2⟩
  · have := RgC.neg (i := i) (j := j) (by omega) (by omega) (by omega) (by omega)
    simpa [rngN] using this
  · have sz : Builtin.Range.rangeSize i j c = (((j - i + c - 1) / c).toNat : Nat) := by
      unfold Builtin.Range.rangeSize
      rw [if_pos hc]
      split
      · rename_i hlt
        have e : j - i + c - 1 = (j - i - 1) + 1 * c := by omega
        rw [e, Int.add_mul_ediv_right _ _ (by omega)]
        have : 0 ≤ (j - i - 1) / c := Int.ediv_nonneg (by omega) (by omega)
        omega
      · rename_i hlt
        have : (j - i + c - 1) / c ≤ 0 := by
          have h0 : (j - i + c - 1) / c < 1 := Int.ediv_lt_of_lt_mul hc (by omega)
          omega
        omega
    refine ⟨by omega, by omega, ?_, by rw [sz]; unfold rngN; rw [if_neg (by simp; omega)]⟩
    have b1 : 0 ≤ Builtin.Range.rangeSize i j c ∧ Builtin.Range.rangeSize i j c < 2 ^ 62 := by
      rw [sz]
      have : (j - i + c - 1) / c ≤ 2 ^ 61 := by
        have h0 : (j - i + c - 1) / c < 2 ^ 61 + 1 := Int.ediv_lt_of_lt_mul hc (by
          have h5 : (2 : Int) ^ 61 ≤ 2 ^ 61 * c := by have := Int.mul_le_mul_of_nonneg_left (show (1 : Int) ≤ c by omega) (show (0 : Int) ≤ 2 ^ 61 by decide); simpa using this
          have h6 : (2 ^ 61 + 1) * c = 2 ^ 61 * c + c := by rw [Int.add_mul, Int.one_mul]
          omega)
        omega
      omega
    unfold Builtin.Range.small
    simp only [Builtin.Range.rangeFitsLong, Bool.and_eq_true, Bool.or_eq_true, decide_eq_true_eq, beq_iff_eq, hc, if_true]
    omega
theorem sr_rng1 {tg a : Expr} {p pos : Pos} {cs : List CE} (hl : cs.length = 1) (hg : Gl X "range") (hm : X.mg "range" = none) (ha : PA X [a] (tVs C X.K cal XE cs)) (hs : starEach [a] X.env = [(false, eval a X.env)]) : PI X tg (.Call (.Name "range" p) [a] [] pos) (tSr C X.K cal XE (.rng cs)) := by
  refine PI.imp (pi_range1 hg hm ha hs) fun σ H Q hq => ?_
  obtain ⟨F, env, L, R, sr, ho⟩ := hq
  simp only [evSr] at ho
  refine ⟨F, env, L, R, sr, ?_⟩
  cases e1 : evs cal cs env with
  | ok x =>
    rw [e1] at ho
    intro vs F1 H1 L1 T p hx
    simp only [Res.bind] at ho
    split at ho
    case h_2 => exact ho.elim
    rename_i os g
    cases e2 : leafs os with
    | none => rw [e2] at ho; exact ho.elim
    | some ds =>
      rw [e2] at ho
      simp only [Option.bind] at ho
      split at ho
      case h_2 => exact ho.elim
      rename_i rs w
      obtain ⟨t, rfl⟩ := rng_vals hx g e2
      have hlen : ds.length = 1 := by
        have h1 := t.len
        have h2 := hx.len
        omega
      match ds, hlen with
      | [d], _ =>
        unfold rngOf at w
        split at w
        case h_1 j hj =>
          cases hj
          split at w
          case isFalse => cases w
          rename_i hok
          simp only [Option.some.injEq] at w
          simp only [RepSL, RepS] at t
          obtain ⟨_, _, rfl, rfl, rfl⟩ := t
          have h := hok
          unfold rngOk at h
          simp only [Bool.and_eq_true, decide_eq_true_eq] at h
          refine ⟨j, rfl, by omega, by omega, ho _ _ _ _ p (it_rng (lo := 0) (c := 1) (.inl ⟨rfl, rfl⟩) ?_)⟩
          rw [← w]
          unfold rngL rngN
          simp
        case h_2 hj => cases hj
        case h_3 hj => cases hj
        case h_4 => cases w
  | ex c d e => rw [e1] at ho; exact ho
  | er => rw [e1] at ho; exact ho
theorem sr_rng2 {tg a b : Expr} {p pos : Pos} {cs : List CE} (hl : cs.length = 2) (hg : Gl X "range") (hm : X.mg "range" = none) (ha : PA X [a, b] (tVs C X.K cal XE cs)) (hs : starEach [a, b] X.env = [(false, eval a X.env), (false, eval b X.env)])
    (hs2 : starEach [b] X.env = [(false, eval b X.env)]) : PI X tg (.Call (.Name "range" p) [a, b] [] pos) (tSr C X.K cal XE (.rng cs)) := by
  refine PI.imp (pi_range2 hg hm ha hs hs2) fun σ H Q hq => ?_
  obtain ⟨F, env, L, R, sr, ho⟩ := hq
  simp only [evSr] at ho
  refine ⟨F, env, L, R, sr, ?_⟩
  cases e1 : evs cal cs env with
  | ok x =>
    rw [e1] at ho
    intro vs F1 H1 L1 T p hx
    simp only [Res.bind] at ho
    split at ho
    case h_2 => exact ho.elim
    rename_i os g
    cases e2 : leafs os with
    | none => rw [e2] at ho; exact ho.elim
    | some ds =>
      rw [e2] at ho
      simp only [Option.bind] at ho
      split at ho
      case h_2 => exact ho.elim
      rename_i rs w
      obtain ⟨t, rfl⟩ := rng_vals hx g e2
      have hlen : ds.length = 2 := by
        have h1 := t.len
        have h2 := hx.len
        omega
      match ds, hlen with
      | [d1, d2], _ =>
        unfold rngOf at w
        split at w
        case h_1 hj => cases hj
        case h_2 i j hj =>
          cases hj
          split at w
          case isFalse => cases w
          rename_i hok
          simp only [Option.some.injEq] at w
          simp only [RepSL, RepS] at t
          obtain ⟨_, _, rfl, rfl, _, _, rfl, rfl, rfl⟩ := t
          have h := hok
          unfold rngOk at h
          simp only [Bool.and_eq_true, decide_eq_true_eq] at h
          refine ⟨i, j, rfl, by omega, ho _ _ _ _ p (it_rng (lo := i) (c := 1) (.inl ⟨rfl, rfl⟩) ?_)⟩
          rw [← w]
          unfold rngL rngN
          simp
        case h_3 hj => cases hj
        case h_4 => cases w
  | ex c d e => rw [e1] at ho; exact ho
  | er => rw [e1] at ho; exact ho
theorem sr_rng3 {tg a b c : Expr} {p pos : Pos} {cs : List CE} (hl : cs.length = 3) (hg : Gl X "range") (hm : X.mg "range" = none) (ha : PA X [a, b, c] (tVs C X.K cal XE cs))
    (hs : starEach [a, b, c] X.env = (false, eval a X.env) :: starEach [b, c] X.env) (hpl : (backTo pos (starEach [b, c] X.env)).any (·.1) = false) : PI X tg (.Call (.Name "range" p) [a, b, c] [] pos) (tSr C X.K cal XE (.rng cs)) := by
  refine PI.imp (pi_range3 hg hm ha hs hpl) fun σ H Q hq => ?_
  obtain ⟨F, env, L, R, sr, ho⟩ := hq
  simp only [evSr] at ho
  refine ⟨F, env, L, R, sr, ?_⟩
  cases e1 : evs cal cs env with
  | ok x =>
    rw [e1] at ho
    intro vs F1 H1 L1 T p hx
    simp only [Res.bind] at ho
    split at ho
    case h_2 => exact ho.elim
    rename_i os g
    cases e2 : leafs os with
    | none => rw [e2] at ho; exact ho.elim
    | some ds =>
      rw [e2] at ho
      simp only [Option.bind] at ho
      split at ho
      case h_2 => exact ho.elim
      rename_i rs w
      obtain ⟨t, rfl⟩ := rng_vals hx g e2
      have hlen : ds.length = 3 := by
        have h1 := t.len
        have h2 := hx.len
        omega
      match ds, hlen with
      | [d1, d2, d3], _ =>
        unfold rngOf at w
        split at w
        case h_1 hj => cases hj
        case h_2 hj => cases hj
        case h_3 i j k hj =>
          cases hj
          split at w
          case isFalse => cases w
          rename_i hok
          simp only [Option.some.injEq] at w
          simp only [RepSL, RepS] at t
          obtain ⟨_, _, rfl, rfl, _, _, rfl, rfl, _, _, rfl, rfl, rfl⟩ := t
          exact ⟨i, j, k, _, rfl, rangeCnt hok, ho _ _ _ _ p (it_rng (lo := i) (c := k) (.inr rfl) (by rw [← w]; rfl))⟩
        case h_4 => cases w
  | ex c d e => rw [e1] at ho; exact ho
  | er => rw [e1] at ho; exact ho

theorem s_lc {elt tg iter : Expr} {ifs : List Expr} {scope : Scope} {own : List (Str × Nat)} {pos : Pos} {t : Tg} {src : Sr} {cs : List CE} {x : CE} (hc : X.calm = true) (hN : X.N.Nodup) (hi : PI X tg iter (tSr C X.K cal XE src)) (ok : BlkOk X.N X.env.scope scope own)
    (hg : ∀ (s : Shared) (H : Hp) (A : Addr) (cl : List (Str × Addr)) (fp : List Addr), PG (X.blk s H scope (compEnvC scope cl A X.env) fp) tg (tTg C X.K t)) (ht : ∀ (s : Shared) (H : Hp) (A : Addr) (cl : List (Str × Addr)) (fp : List Addr), PTs (X.blk s H scope (compEnvC scope cl A X.env) fp) ifs (tCs C X.K cal X0 cs))
    (he : ∀ (s : Shared) (H : Hp) (A : Addr) (cl : List (Str × Addr)) (fp : List Addr), PE (X.blk s H scope (compEnvC scope cl A X.env) fp) elt (tV C X.K cal X0 x)) (hcs : cs.length ≤ 1) (hsl : ∀ i ∈ t.slots, i ∈ own.map (·.2)) (hs : ∀ x, foldedSetIterable iter X.env x = pure x) :
    EV X C cal XE (.ListComp elt [⟨tg, iter, ifs, 0⟩] scope pos) (.lc (own.map (·.2)) t src cs x) :=
  PE.imp (pe_lc hc hN hi ok hg ht he hs) fun σ H Q hq => lc_in hcs hsl hq
end
end Cr
end

section
/-! Statements. -/
namespace Cr
open PySem L2

section
variable (C : Nat → Addr) (K : PySem.W.Frag) (cal : Nat → List O → CRes) (XE : XP) (pin : List Nat)
/-- behind a statement -/
structure Sst (F H : Hp) (σ : St) (env : Env) (L R : List Addr) (F' H' : Hp) (σ' : St) (env' : Env) (L' T : List Addr) : Prop where
  sr : SR C K F' H' σ' env' L' (T ++ R)
  fe : Sub F F'
  kp : ∀ a, (F a ≠ none ∨ a ∈ R) → H' a = H a
  pn : ∀ i ∈ pin, σ'[i]? = σ[i]?
def OutB (F H : Hp) (σ : St) (env : Env) (L R : List Addr) (res : Res (Fl × Env)) (D : Ends) : Prop := match res with
  | .ok (.next, env') => ∀ F' H' σ' L', Sst C K pin F H σ env L R F' H' σ' env' L' [] → D.nx σ' H'
  | .ok (.brk, env') => ∀ F' H' σ' L', Sst C K pin F H σ env L R F' H' σ' env' L' [] → D.bk σ' H'
  | .ok (.cont, env') => ∀ F' H' σ' L', Sst C K pin F H σ env L R F' H' σ' env' L' [] → D.ct σ' H'
  | .ok (.ret o, env') => ∀ v F' H' σ' L' T, Sst C K pin F H σ env L R F' H' σ' env' L' T → RepO C K F' H' o v T → D.rt v H'
  | .ex c d env' => ∀ F' H' σ' L', Sst C K pin F H σ env L R F' H' σ' env' L' [] → XE c d H'
  | .er => False
def tS (W : Nat) (s : CS) : TS := fun D σ H => ∃ F env L R, SR C K F H σ env L R ∧ OutB C K XE pin F H σ env L R (evS cal W s env) D
def tSs (W : Nat) (s : List CS) : TS := fun D σ H => ∃ F env L R, SR C K F H σ env L R ∧ OutB C K XE pin F H σ env L R (evSs cal W s env) D
end
theorem PS.imp {X : Cx} {st : Stmt} {t t' : TS} (h : PS X st t) (i : ∀ D σ H, t' D σ H → t D σ H) : PS X st t' := ⟨fun pins s σ H D I q => h.run pins s σ H D I (i D σ H q)⟩
theorem PSs.imp {X : Cx} {st : List Stmt} {t t' : TS} (h : PSs X st t) (i : ∀ D σ H, t' D σ H → t D σ H) : PSs X st t' := ⟨fun pins s σ H D I q => h.run pins s σ H D I (i D σ H q)⟩

section
variable {X : Cx} {C : Nat → Addr} {cal : Nat → List O → CRes} {XE : XP} {K : PySem.W.Frag} {pin : List Nat} {W : Nat} {F F' F1 F2 F3 H H' H1 H2 H3 : Hp} {σ σ1 σ2 : St} {env env1 env2 : Env} {L L1 L2 R T T1 T2 : List Addr} {q : Bool} {D : Ends}
theorem Sst.refl (sr : SR C K F H σ env L R) : Sst C K pin F H σ env L R F H σ env L [] := ⟨sr, Sub.refl F, fun _ _ => rfl, fun _ _ => rfl⟩
theorem Sst.of (p : Pst C K F H σ env L R F1 H1 env1 L1 T q) : Sst C K pin F H σ env L R F1 H1 σ env1 L1 T := ⟨p.sr, p.fe, p.kp, fun _ _ => rfl⟩
theorem Sst.trans (p : Sst C K pin F H σ env L R F1 H1 σ1 env1 L1 []) (p2 : Sst C K pin F1 H1 σ1 env1 L1 R F2 H2 σ2 env2 L2 T) : Sst C K pin F H σ env L R F2 H2 σ2 env2 L2 T := by
  refine ⟨p2.sr, p.fe.trans p2.fe, fun a ha => ?_, fun i hi => by rw [p2.pn i hi, p.pn i hi]⟩
  rw [p2.kp a, p.kp a ha]
  rcases ha with ha | ha
  · left
    cases e : F a with
    | none => exact absurd e ha
    | some u => rw [p.fe a u e]; simp
  · exact .inr ha
theorem Sst.new (p : Sst C K pin F H σ env L R F1 H1 σ1 env1 L1 []) (n : New F1 H1 F2 H2 []) : Sst C K pin F H σ env L R F2 H2 σ1 env1 L1 [] := by
  refine p.trans ⟨SR.new p.sr n, n.fe, fun a ha => ?_, fun _ _ => rfl⟩
  refine n.same a ?_
  rcases ha with ha | ha
  · cases e : F1 a with
    | none => exact absurd e ha
    | some u => rcases p.sr.le a u e with z | ⟨_, o, z⟩ <;> rw [z] <;> simp
  · exact (p.sr.fn a (by simp [ha])).2
theorem OutB.pre {res : Res (Fl × Env)} (h : OutB C K XE pin F H σ env L R res D) (p : Sst C K pin F H σ env L R F1 H1 σ1 env1 L1 []) : OutB C K XE pin F1 H1 σ1 env1 L1 R res D := by
  match res with
  | .ok (.next, e') => exact fun F' H' σ' L' p2 => h F' H' σ' L' (p.trans p2)
  | .ok (.brk, e') => exact fun F' H' σ' L' p2 => h F' H' σ' L' (p.trans p2)
  | .ok (.cont, e') => exact fun F' H' σ' L' p2 => h F' H' σ' L' (p.trans p2)
  | .ok (.ret o, e') => exact fun v F' H' σ' L' T p2 r => h v F' H' σ' L' T (p.trans p2) r
  | .ex c d e' => exact fun F' H' σ' L' p2 => h F' H' σ' L' (p.trans p2)
  | .er => exact h.elim
theorem OutB.exP {c : Nat} {d : Cr.D} {e2 : Env} (h : OutB C K XE pin F H σ env L R (.ex c d e2) D) {Q : VK} {qq : Bool} : Out C K XE F H σ env L R qq (.ex c d e2) Q :=
  fun F' H' L' p => h F' H' σ L' (Sst.of p)
/-- an expression ahead -/
theorem OutB.ex1 {a : CE} {k : Hd × Env → Res (Fl × Env)} {Q : VK} (sr : SR C K F H σ env L R) (hout : OutB C K XE pin F H σ env L R ((ev cal a env).bind k) D)
    (fin : ∀ v F1 H1 e1 L1 T h, Pst C K F H σ env L R F1 H1 e1 L1 T a.quiet → HX C K F1 H1 σ L1 T h v → OutB C K XE pin F H σ env L R (k (h, e1)) D → Q v H1) : tV C K cal XE a σ H Q := by
  refine ⟨F, env, L, R, sr, ?_⟩
  cases ha : ev cal a env with
  | ok x =>
    rw [ha] at hout
    intro v F1 H1 L1 T p hx
    exact fin v F1 H1 x.2 L1 T x.1 p hx hout
  | ex c d e => rw [ha] at hout; exact OutB.exP hout
  | er => rw [ha] at hout; exact hout
/-- a slot takes a value with all that it owns -/
theorem SR.put {i : Nat} {o : O} {v : V} (sr : SR C K F H σ env L (T ++ R)) (hi : i < env.length) (r : RepO C K F H o v T) :
    ∃ L', SR C K F H (σ.set i (some v)) (env.set i (some o)) L' R := by
  obtain ⟨La, l, Lb, c⟩ := sr.cut hi
  refine ⟨La ++ (T ++ Lb), ⟨sr.le, c.put F H o v T (Le.refl F) (fun _ _ => rfl) r, ?_, fun a ha => sr.fn a ?_⟩⟩
  · have h1 := sr.nd
    rw [c.eq] at h1
    have h2 : ((La ++ Lb) ++ (T ++ R)).Nodup := h1.sublist (List.Sublist.append_right (List.Sublist.append_left (List.sublist_append_right _ _) _) _)
    refine (List.Perm.nodup_iff ?_).mp h2
    simp only [List.append_assoc]
    refine List.Perm.append_left La ?_
    rw [← List.append_assoc, ← List.append_assoc]
    exact List.Perm.append_right R List.perm_append_comm
  · rw [c.eq]
    simp only [List.mem_append] at ha ⊢
    rcases ha with (z | z | z) | z
    · exact .inl (.inl z)
    · exact .inr (.inl z)
    · exact .inl (.inr (.inr z))
    · exact .inr (.inr z)
theorem Sst.put {i : Nat} {o : O} {v : V} (p : Sst C K pin F H σ env L R F1 H1 σ1 env1 L1 T) (hi : i < env1.length) (hp : i ∉ pin) (r : RepO C K F1 H1 o v T) :
    ∃ L', Sst C K pin F H σ env L R F1 H1 (σ1.set i (some v)) (env1.set i (some o)) L' [] := by
  obtain ⟨L', s⟩ := p.sr.put hi r
  refine ⟨L', s, p.fe, p.kp, fun j hj => ?_⟩
  rw [List.getElem?_set_ne (fun z : i = j => hp (z ▸ hj))]
  exact p.pn j hj
theorem setS_some {e e' : Env} {i : Nat} {o : O} (h : setS e i o = some e') : i < e.length ∧ e' = e.set i (some o) := by
  unfold setS at h
  split at h
  · cases h; exact ⟨by assumption, rfl⟩
  · cases h

/-! ### the statements one by one -/
theorem b_nil : PSs X [] (tSs C X.K cal XE pin W []) := PSs.imp pss_nil fun D σ H h => by
  obtain ⟨F, env, L, R, sr, ho⟩ := h
  simp only [evSs] at ho
  exact ho F H σ L (Sst.refl sr)
theorem b_cons {st : Stmt} {sts : List Stmt} {c : CS} {cs : List CS} (h1 : PS X st (tS C X.K cal XE pin W c)) (h2 : PSs X sts (tSs C X.K cal XE pin W cs)) : PSs X (st :: sts) (tSs C X.K cal XE pin W (c :: cs)) :=
  PSs.imp (pss_cons h1 h2) fun D σ H h => by
    obtain ⟨F, env, L, R, sr, ho⟩ := h
    simp only [evSs] at ho
    refine ⟨F, env, L, R, sr, ?_⟩
    cases e1 : evS cal W c env with
    | ok x =>
      obtain ⟨fl, e⟩ := x
      rw [e1] at ho
      cases fl with
      | next => exact fun F' H' σ' L' p => ⟨F', e, L', R, p.sr, OutB.pre ho p⟩
      | ret o => exact ho
      | brk => exact ho
      | cont => exact ho
    | ex c d e => rw [e1] at ho; exact ho
    | er => rw [e1] at ho; exact ho
theorem b_expr {e : Expr} {c : CE} {pos : Pos} (he : EV X C cal XE e c) (hs : swapsWith e none pos.line X.env = pure false) : PS X (.Expr e pos) (tS C X.K cal XE pin W (.expr c)) :=
  PS.imp (ps_expr he hs) fun D σ H h => by
    obtain ⟨F, env, L, R, sr, ho⟩ := h
    simp only [evS] at ho
    exact OutB.ex1 sr ho fun v F1 H1 e1 L1 T h p hx ho => ho F1 H1 σ L1 (Sst.of p.nil)
theorem b_doc {x : Str} {j : Nat} {pos pos' : Pos} : PS X (.Expr (.Constant (.str x) j pos) pos') (tS C X.K cal XE pin W .pass) := PS.imp ps_doc fun D σ H h => by
  obtain ⟨F, env, L, R, sr, ho⟩ := h
  simp only [evS] at ho
  exact ho F H σ L (Sst.refl sr)
theorem b_pass {pos : Pos} : PS X (.Pass pos) (tS C X.K cal XE pin W .pass) := PS.imp ps_pass fun D σ H h => by
  obtain ⟨F, env, L, R, sr, ho⟩ := h
  simp only [evS] at ho
  exact ho F H σ L (Sst.refl sr)
theorem b_brk {pos : Pos} : PS X (.Break pos) (tS C X.K cal XE pin W .brk) := PS.imp ps_break fun D σ H h => by
  obtain ⟨F, env, L, R, sr, ho⟩ := h
  simp only [evS] at ho
  exact ho F H σ L (Sst.refl sr)
theorem b_cont {pos : Pos} : PS X (.Continue pos) (tS C X.K cal XE pin W .cont) := PS.imp ps_continue fun D σ H h => by
  obtain ⟨F, env, L, R, sr, ho⟩ := h
  simp only [evS] at ho
  exact ho F H σ L (Sst.refl sr)
theorem b_never {st : Stmt} : PS X st (tS C X.K cal XE pin W .never) := PS.imp ps_never fun D σ H h => by
  obtain ⟨F, env, L, R, sr, ho⟩ := h
  simp only [evS] at ho
  exact ho
theorem set_in {i : Nat} {c : CE} {σ : St} {H : Hp} (hp : i ∉ pin) (h : tS C K cal XE pin W (.set i c) D σ H) : tV C K cal XE c σ H fun x H1 => D.nx (σ.set i (some x)) H1 := by
  obtain ⟨F, env, L, R, sr, ho⟩ := h
  simp only [evS] at ho
  refine OutB.ex1 sr ho fun v F1 H1 e1 L1 T h p hx ho => ?_
  dsimp only at ho
  split at ho
  case h_2 => exact ho.elim
  rename_i o hv
  split at ho
  case h_2 => exact ho.elim
  rename_i e2 hs
  obtain ⟨hi, rfl⟩ := setS_some hs
  obtain ⟨L', p'⟩ := (Sst.of (pin := pin) p).put hi hp (hval hx hv)
  exact ho _ _ _ _ p'
theorem b_set {i : Nat} {x : Str} {e : Expr} {c : CE} {pos pos' : Pos} (hN : X.N.Nodup) (hi : X.N[i]? = some x) (hx : Loc X.env.scope x) (hfn : X.fn x = true ∨ X.env.scope.names.lookup x = some .local) (hp : i ∉ pin) (he : EV X C cal XE e c) (hs : swapsWith e (some (.Name x pos')) pos.line X.env = pure false) :
    PS X (.Assign [.Name x pos'] e pos) (tS C X.K cal XE pin W (.set i c)) := PS.imp (ps_set hN hi hx he hs hfn) fun D σ H h => set_in hp h
theorem b_setLc {i : Nat} {y : Str} {py : Pos} {elt tg iter : Expr} {ifs : List Expr} {scope : Scope} {own : List (Str × Nat)} {pos spos : Pos} {t : Tg} {src : Sr} {cs : List CE} {x : CE} (hc : X.calm = true) (hN : X.N.Nodup) (hy : X.N[i]? = some y) (hyl : X.env.scope.names.lookup y = some .local) (hp : i ∉ pin)
    (hsw : swapsWith (.ListComp elt [⟨tg, iter, ifs, 0⟩] scope pos) (some (.Name y py)) spos.line X.env = pure true) (hi : PI X tg iter (tSr C X.K cal XE src)) (ok : BlkOk X.N X.env.scope scope own)
    (hg : ∀ (s : Shared) (H : Hp) (A : Addr) (cl : List (Str × Addr)) (fp : List Addr), PG (X.blk s H scope (compEnvC scope cl A X.env) fp) tg (tTg C X.K t)) (ht : ∀ (s : Shared) (H : Hp) (A : Addr) (cl : List (Str × Addr)) (fp : List Addr), PTs (X.blk s H scope (compEnvC scope cl A X.env) fp) ifs (tCs C X.K cal X0 cs))
    (he : ∀ (s : Shared) (H : Hp) (A : Addr) (cl : List (Str × Addr)) (fp : List Addr), PE (X.blk s H scope (compEnvC scope cl A X.env) fp) elt (tV C X.K cal X0 x)) (hcs : cs.length ≤ 1) (hsl : ∀ i ∈ t.slots, i ∈ own.map (·.2)) (hs : ∀ x, foldedSetIterable iter X.env x = pure x) :
    PS X (.Assign [.Name y py] (.ListComp elt [⟨tg, iter, ifs, 0⟩] scope pos) spos) (tS C X.K cal XE pin W (.set i (.lc (own.map (·.2)) t src cs x))) :=
  PS.imp (ps_setLc hc hN hy hyl hsw hi ok hg ht he hs) fun D σ H h => lc_in hcs hsl (set_in hp h)
/-- two values -/
theorem vals2 {a b : CE} {k : Hd → Hd → Env → Res (Fl × Env)} {Q : List V → Hp → Prop} (sr : SR C K F H σ env L R) (hout : OutB C K XE pin F H σ env L R ((ev cal a env).bind fun x => (ev cal b x.2).bind fun y => k x.1 y.1 y.2) D)
    (fin : ∀ x y F2 H2 e2 L2 Ta Tb ha hb, Sst C K pin F H σ env L R F2 H2 σ e2 L2 (Ta ++ Tb) → (ha.isQ = false → HX C K F2 H2 σ L2 Ta ha x) → HX C K F2 H2 σ L2 Tb hb y → OutB C K XE pin F H σ env L R (k ha hb e2) D → Q [x, y] H2) : tVs C K cal XE [a, b] σ H Q := by
  refine ⟨F, env, L, R, sr, ?_⟩
  simp only [evs]
  cases h1 : ev cal a env with
  | ok x =>
    rw [h1] at hout
    simp only [Res.bind] at hout ⊢
    cases h2 : ev cal b x.2 with
    | ok y =>
      rw [h2] at hout
      intro vs F2 H2 L2 T p hx
      obtain ⟨v, r, T0, Tr, rfl, rfl, hx1, w, r', T1, Tr', rfl, rfl, hx2, rfl, rfl⟩ := hx
      simp only [List.append_nil] at p
      exact fin v w F2 H2 _ L2 T0 T1 x.1 y.1 (Sst.of p) (fun z => hx1 (by simp [z])) (hx2 (by simp [quietL])) hout
    | ex c d e => rw [h2] at hout; exact fun F' H' L' p => hout F' H' σ L' (Sst.of p)
    | er => rw [h2] at hout; exact hout
  | ex c d e => rw [h1] at hout; exact fun F' H' L' p => hout F' H' σ L' (Sst.of p)
  | er => rw [h1] at hout; exact hout
theorem val_q {h : Hd} {o : O} (e : h.val = some o) : h.isQ = false := by
  cases h <;> first | rfl | cases e
theorem b_par {i j : Nat} {x y : Str} {a b : Expr} {ca cb : CE} {px py pt pos : Pos} {kt k2 pt2} (hc : X.calm = true) (hN : X.N.Nodup) (hi : X.N[i]? = some x) (hj : X.N[j]? = some y) (hij : i ≠ j) (hpi : i ∉ pin) (hpj : j ∉ pin)
    (hx : X.env.scope.names.lookup x = some .local) (hy : X.env.scope.names.lookup y = some .local) (ha : PA X [a, b] (tVs C X.K cal XE [ca, cb]))
    (hw : swappedStores [.Tuple [.Name x px, .Name y py] kt pt] (.Tuple [a, b] k2 pt2) X.env = pure (some [x, y]))
    (hs : swapsWithSole [.Tuple [.Name x px, .Name y py] kt pt] (.Tuple [a, b] k2 pt2) pos.line X.env = pure false) :
    PS X (.Assign [.Tuple [.Name x px, .Name y py] kt pt] (.Tuple [a, b] k2 pt2) pos) (tS C X.K cal XE pin W (.par i j ca cb)) :=
  PS.imp (ps_par hc hN hi hj hij hx hy ha hw hs) fun D σ H h => by
    obtain ⟨F, env, L, R, sr, ho⟩ := h
    simp only [evS] at ho
    refine vals2 (k := fun ha hb e => match ha.val, hb.val with
      | some x, some y => match (setS e i x).bind fun e => setS e j y with
        | some e => .ok (.next, e)
        | none => .er
      | _, _ => .er) sr ho fun v w F2 H2 e2 L2 Ta Tb ha hb p hxa hxb ho => ?_
    split at ho
    case h_2 => exact ho.elim
    rename_i oa ob ea eb
    split at ho
    case h_2 => exact ho.elim
    rename_i e3 hse
    obtain ⟨e4, hs1, hs2⟩ := Option.bind_eq_some_iff.mp hse
    obtain ⟨hl1, rfl⟩ := setS_some hs1
    obtain ⟨hl2, rfl⟩ := setS_some hs2
    refine ⟨v, w, rfl, ?_⟩
    have s1 := p.sr
    rw [List.append_assoc] at s1
    obtain ⟨L3, s3⟩ := s1.put hl1 (hval (hxa (val_q ea)) ea)
    obtain ⟨L4, s4⟩ := s3.put hl2 (hval hxb eb)
    refine ho _ _ _ _ ⟨s4, p.fe, p.kp, fun n hn => ?_⟩
    rw [List.getElem?_set_ne (fun z : j = n => hpj (z ▸ hn)), List.getElem?_set_ne (fun z : i = n => hpi (z ▸ hn))]
theorem b_ret {e : Expr} {c : CE} {pos : Pos} (he : EV X C cal XE e c) : PS X (.Return (some e) pos) (tS C X.K cal XE pin W (.ret c)) := PS.imp (ps_ret he) fun D σ H h => by
  obtain ⟨F, env, L, R, sr, ho⟩ := h
  simp only [evS] at ho
  refine OutB.ex1 sr ho fun v F1 H1 e1 L1 T h p hx ho => ?_
  dsimp only at ho
  split at ho
  case h_2 => exact ho.elim
  rename_i o hv
  exact ho v _ _ _ _ T (Sst.of p) (hval hx hv)
theorem b_if {c : Expr} {a b : List Stmt} {cc : CE} {ca cb : List CS} {pos : Pos} (hc : ET X C cal XE c cc) (ha : PSs X a (tSs C X.K cal XE pin W ca)) (hb : PSs X b (tSs C X.K cal XE pin W cb)) : PS X (.If c a b pos) (tS C X.K cal XE pin W (.if_ cc ca cb)) :=
  PS.imp (ps_if hc ha hb) fun D σ H h => by
    obtain ⟨F, env, L, R, sr, ho⟩ := h
    simp only [evS] at ho
    refine OutB.ex1 sr ho fun v F1 H1 e1 L1 T h p hx ho => ?_
    dsimp only at ho
    split at ho
    · rename_i e
      obtain ⟨rfl, _, rfl⟩ := boolH_of e hx
      refine ⟨true, rfl, ?_⟩
      show tSs C X.K cal XE pin W ca D σ H1
      exact ⟨F1, e1, L1, R, p.sr, OutB.pre ho (Sst.of p)⟩
    · rename_i e
      obtain ⟨rfl, _, rfl⟩ := boolH_of e hx
      refine ⟨false, rfl, ?_⟩
      show tSs C X.K cal XE pin W cb D σ H1
      exact ⟨F1, e1, L1, R, p.sr, OutB.pre ho (Sst.of p)⟩
    · exact ho.elim
theorem b_aug {i : Nat} {x : Str} {e : Expr} {c : CE} {op : Operator} {pos pos' : Pos} (hN : X.N.Nodup) (hi : X.N[i]? = some x) (hx : Loc X.env.scope x) (hfn : X.fn x = true ∨ X.env.scope.names.lookup x = some .local) (hp : i ∉ pin) (he : EV X C cal XE e c) (hop : op = .Add ∨ op = .Sub) :
    PS X (.AugAssign (.Name x pos') op e pos) (tS C X.K cal XE pin W (.aug i op c)) := by
  have main : ∀ (f : Int → Int → Int), (∀ D σ H, tS C X.K cal XE pin W (.aug i op c) D σ H → tAug i (tV C X.K cal XE c) (ipI f) D σ H) → PIp X op (ipI f) → PS X (.AugAssign (.Name x pos') op e pos) (tS C X.K cal XE pin W (.aug i op c)) := fun f h ho => PS.imp (ps_aug hN hi hx he ho hfn) h
  rcases hop with rfl | rfl
  · refine main _ (fun D σ H h => ?_) ip_add
    obtain ⟨F, env, L, R, sr, ho⟩ := h
    simp only [evS] at ho
    split at ho
    case h_2 => exact ho.elim
    rename_i a hs
    obtain ⟨v, La, l, Lb, _, hv, r⟩ := sr.slot hs
    have hr : v = .int a := r.2
    subst hr
    refine ⟨_, hv, OutB.ex1 sr ho fun w F1 H1 e1 L1 T h p hx ho => ?_⟩
    dsimp only at ho
    split at ho
    case h_2 => exact ho.elim
    rename_i b
    obtain ⟨rfl, hw⟩ := hx
    have hw : w = .int b := hw
    subst hw
    split at ho
    case h_2 => exact ho.elim
    rename_i e2 hs2
    obtain ⟨hl, rfl⟩ := setS_some hs2
    refine ⟨a, b, rfl, rfl, ?_⟩
    obtain ⟨L', p'⟩ := (Sst.of (pin := pin) p).put (o := .fr (.int (a + b))) (v := .int (a + b)) hl hp ⟨rfl, rfl⟩
    exact ho _ _ _ _ p'
  · refine main _ (fun D σ H h => ?_) ip_sub
    obtain ⟨F, env, L, R, sr, ho⟩ := h
    simp only [evS] at ho
    split at ho
    case h_2 => exact ho.elim
    rename_i a hs
    obtain ⟨v, La, l, Lb, _, hv, r⟩ := sr.slot hs
    have hr : v = .int a := r.2
    subst hr
    refine ⟨_, hv, OutB.ex1 sr ho fun w F1 H1 e1 L1 T h p hx ho => ?_⟩
    dsimp only at ho
    split at ho
    case h_2 => exact ho.elim
    rename_i b
    obtain ⟨rfl, hw⟩ := hx
    have hw : w = .int b := hw
    subst hw
    split at ho
    case h_2 => exact ho.elim
    rename_i e2 hs2
    obtain ⟨hl, rfl⟩ := setS_some hs2
    refine ⟨a, b, rfl, rfl, ?_⟩
    obtain ⟨L', p'⟩ := (Sst.of (pin := pin) p).put (o := .fr (.int (a - b))) (v := .int (a - b)) hl hp ⟨rfl, rfl⟩
    exact ho _ _ _ _ p'
theorem b_while {c : Expr} {body : List Stmt} {cc : CE} {cb : List CS} {pos : Pos} (hp : PassesOwn (model X.prog X.w) X.A X.env X.xe) (hc : ET X C cal XE c cc) (hb : PSs X body (tSs C X.K cal XE pin W cb)) : PS X (.While c body [] pos) (tS C X.K cal XE pin W (.while_ cc cb)) :=
  PS.imp (ps_while hp hc hb) fun D σ H h => by
    obtain ⟨F, env, L, R, sr, ho⟩ := h
    simp only [evS] at ho
    generalize hcf : (fun e => (ev cal cc e).bind fun (h, e) => match boolH h with
      | some k => .ok (k, e)
      | none => .er : Env → Res (Bool × Env)) = fc at ho
    generalize hbf : (fun e => evSs cal W cb e : Env → Res (Fl × Env)) = fb at ho
    refine ⟨fun m σ' H' => ∃ F' env' L', SR C X.K F' H' σ' env' L' R ∧ OutB C X.K XE pin F' H' σ' env' L' R (whL fc fb m env') D, ⟨W, F, env, L, sr, ho⟩, ?_⟩
    rintro m σ' H' ⟨F', env', L', sr', ho'⟩
    cases m with
    | zero => simp only [whL] at ho'; exact ho'.elim
    | succ m =>
      simp only [whL] at ho'
      rw [← hcf] at ho'
      dsimp only at ho'
      have ho2 : OutB C X.K XE pin F' H' σ' env' L' R ((ev cal cc env').bind fun x => (match boolH x.1 with
          | some k => .ok (k, x.2)
          | none => .er : Res (Bool × Env)).bind fun (b, e) => if b then (fb e).bind fun (fl, e) => match fl with
            | .next => whL fc fb m e
            | .cont => whL fc fb m e
            | .brk => .ok (.next, e)
            | .ret o => .ok (.ret o, e)
          else .ok (.next, e)) D := by
        rw [← hcf]
        cases h1 : ev cal cc env' with
        | ok x => rw [h1] at ho'; exact ho'
        | ex c d e => rw [h1] at ho'; exact ho'
        | er => rw [h1] at ho'; exact ho'
      refine OutB.ex1 sr' ho2 fun v F1 H1 e1 L1 T h p hx ho => ?_
      dsimp only at ho
      cases hbo : boolH h with
      | none => rw [hbo] at ho; exact ho.elim
      | some k =>
        rw [hbo] at ho
        obtain ⟨rfl, _, rfl⟩ := boolH_of hbo hx
        refine ⟨k, rfl, ?_⟩
        simp only [Res.bind] at ho
        cases k with
        | false =>
          simp only [Bool.false_eq_true, if_false] at ho
          show D.nx σ' H1
          exact ho F1 H1 σ' L1 (Sst.of p)
        | true =>
          simp only [if_true] at ho
          show ∃ N : St → Hp → Prop, _ ∧ _
          refine ⟨fun σ2 H2 => ∃ F' env' L', SR C X.K F' H2 σ2 env' L' R ∧ OutB C X.K XE pin F' H2 σ2 env' L' R (whL fc fb m env') D, fun σ2 H2 n => ⟨m, Nat.lt_succ_self m, n⟩, F1, e1, L1, R, p.sr, ?_⟩
          have ho := OutB.pre ho (Sst.of p)
          rw [← hbf] at ho
          dsimp only at ho
          rw [hbf] at ho
          cases hb1 : evSs cal W cb e1 with
          | ex c d e => rw [hb1] at ho; exact ho
          | er => rw [hb1] at ho; exact ho
          | ok x =>
            obtain ⟨fl, e2⟩ := x
            rw [hb1] at ho
            cases fl with
            | next => exact fun F2 H2 σ2 L2 p2 => ⟨F2, e2, L2, p2.sr, OutB.pre ho p2⟩
            | cont => exact fun F2 H2 σ2 L2 p2 => ⟨F2, e2, L2, p2.sr, OutB.pre ho p2⟩
            | brk => exact ho
            | ret o => exact ho
theorem b_for {tg iter : Expr} {body : List Stmt} {t : Tg} {src : Sr} {cb : List CS} {pos : Pos} (hp : PassesOwn (model X.prog X.w) X.A X.env X.xe) (hc : X.calm = true) (hi : PI X tg iter (tSr C X.K cal XE src)) (hg : PG X tg (tTg C X.K t)) (hb : PSs X body (tSs C X.K cal XE pin W cb))
    (hs : ∀ x, foldedSetIterable iter X.env x = pure x) (hpin : ∀ i ∈ t.slots, i ∉ pin) : PS X (.For tg iter body [] pos) (tS C X.K cal XE pin W (.for_ t src cb)) :=
  PS.imp (ps_for hp hc hi hg hb hs) fun D σ H h => by
    obtain ⟨F, env, L, R, sr, ho⟩ := h
    simp only [evS] at ho
    refine ⟨F, env, L, R, sr, ?_⟩
    cases hsrc : evSr cal src env with
    | ex c d e => rw [hsrc] at ho; exact fun F' H' L' p => ho F' H' σ L' (Sst.of p)
    | er => rw [hsrc] at ho; exact ho
    | ok y =>
      obtain ⟨ds, tr, env1⟩ := y
      rw [hsrc] at ho
      intro J F1 H1 L1 p it
      simp only [Res.bind] at ho
      split at ho
      case isTrue => exact ho.elim
      rename_i htr
      have htr : tr = false := by simpa using htr
      subst htr
      generalize hf : (fun d e => match t.bind d e with
        | some e => evSs cal W cb e
        | none => .er : Cr.D → Env → Res (Fl × Env)) = f at ho
      have ho := OutB.pre ho (Sst.of p)
      have sr1 : SR C X.K F1 H1 σ env1 L1 R := p.sr
      refine ⟨fun i m σ' H' => m = ds.length - i ∧ i ≤ ds.length ∧ ∃ F' env' L', Sst C X.K pin F1 H1 σ env1 L1 R F' H' σ' env' L' [] ∧ OutB C X.K XE pin F' H' σ' env' L' R (forL f (ds.drop i) env') D, ⟨_, rfl, Nat.zero_le _, F1, env1, L1, Sst.refl sr1, ho⟩, ?_⟩
      rintro i m σ' H' ⟨rfl, hle, F', env', L', s', ho'⟩
      have itI := it F' H' s'.fe s'.sr.le (fun z => by cases z) (fun a ha => s'.kp a (.inl ha)) i
      by_cases hi : i < ds.length
      · right
        refine ⟨itI.1 hi, fun σ2 H2 => i + 1 ≤ ds.length ∧ ∃ F' env' L', Sst C X.K pin F1 H1 σ env1 L1 R F' H2 σ2 env' L' [] ∧ OutB C X.K XE pin F' H2 σ2 env' L' R (forL f (ds.drop (i + 1)) env') D, fun σ2 H2 n => ⟨_, by omega, rfl, n⟩, fun v H3 hy => ?_⟩
        obtain ⟨F3, d, n3, hd, rd⟩ := itI.2.2 v H3 hi hy
        have s3 := s'.new n3
        have hdrop : ds.drop i = d :: ds.drop (i + 1) := by
          obtain ⟨h1, h2⟩ := List.getElem?_eq_some_iff.mp hd
          rw [← h2]
          exact List.drop_eq_getElem_cons h1
        rw [hdrop] at ho'
        simp only [forL] at ho'
        have ho3 := OutB.pre ho' (Sst.new (Sst.refl (pin := pin) s'.sr) n3)
        rw [← hf] at ho3
        dsimp only at ho3
        rw [hf] at ho3
        cases hb1 : t.bind d env' with
        | none => rw [hb1] at ho3; exact ho3.elim
        | some eb =>
          rw [hb1] at ho3
          dsimp only at ho3
          refine ⟨F3, env', L', R, d, eb, s3.sr, rd, hb1, fun σ2 L2 s2 hsub hpoor hbut => ?_⟩
          have st2 : Sst C X.K pin F3 H3 σ' env' L' R F3 H3 σ2 eb L2 [] := ⟨s2, Sub.refl F3, fun _ _ => rfl, fun j hj => hbut.2 j fun z => hpin j z hj⟩
          have ho4 := OutB.pre ho3 st2
          have s4 := s3.trans st2
          refine ⟨F3, eb, L2, R, s2, ?_⟩
          cases hbd : evSs cal W cb eb with
          | ex c d e => rw [hbd] at ho4; exact ho4
          | er => rw [hbd] at ho4; exact ho4
          | ok x =>
            obtain ⟨fl, e2⟩ := x
            rw [hbd] at ho4
            cases fl with
            | next => exact fun F5 H5 σ5 L5 p5 => ⟨hi, F5, e2, L5, s4.trans p5, OutB.pre ho4 p5⟩
            | cont => exact fun F5 H5 σ5 L5 p5 => ⟨hi, F5, e2, L5, s4.trans p5, OutB.pre ho4 p5⟩
            | brk => exact ho4
            | ret o => exact ho4
      · left
        have hi : i = ds.length := by omega
        refine ⟨itI.2.1 (by omega), ?_⟩
        rw [hi, List.drop_length] at ho'
        simp only [forL] at ho'
        exact ho' F' H' σ' L' (Sst.refl s'.sr)
end
end Cr
end

section
/-! Unpacking, stores into lists. -/
namespace Cr
open PySem L2

section
variable {X : Cx} {C : Nat → Addr} {cal : Nat → List O → CRes} {XE : XP} {K : PySem.W.Frag} {pin : List Nat} {W : Nat} {F F' F1 F2 F3 H H' H1 H2 H3 : Hp} {σ σ1 σ2 : St} {env env1 env2 : Env} {L L1 L2 R T T1 T2 : List Addr} {q : Bool} {D : Ends}
def tTgO (C : Nat → Addr) (K : PySem.W.Frag) (t : Tg) : TG := fun v σ H Q => ∃ F env L R o T env', SR C K F H σ env L (T ++ R) ∧ RepO C K F H o v T ∧ t.bindO o env = some env' ∧
  ∀ σ' L', SR C K F H σ' env' L' R → But t.slots σ σ' → Q σ' H
def tTgOs (C : Nat → Addr) (K : PySem.W.Frag) (ts : List Tg) : TGs := fun vs σ H Q => ∃ F env L R os T env', SR C K F H σ env L (T ++ R) ∧ RepOL C K F H os vs T ∧ bindOL ts os env = some env' ∧
  ∀ σ' L', SR C K F H σ' env' L' R → But (slotsL ts) σ σ' → Q σ' H
theorem go_name {i : Nat} {x : Str} {pos : Pos} (hN : X.N.Nodup) (hi : X.N[i]? = some x) (hx : Loc X.env.scope x) (hf : X.fn x = true ∨ X.env.scope.names.lookup x = some .local) : PG X (.Name x pos) (tTgO C X.K (.v i)) := by
  refine PG.imp (pg_name hN hi hx hf) fun v σ H Q hq => ?_
  obtain ⟨F, env, L, R, o, T, env', sr, r, hb, k⟩ := hq
  simp only [Tg.bindO] at hb
  obtain ⟨hl, rfl⟩ := setS_some hb
  obtain ⟨L', s'⟩ := sr.put hl r
  exact k _ L' s' (But.set σ i _)
theorem go_nil : PGs X [] (tTgOs C X.K []) := PGs.imp pgs_nil fun vs σ H Q hq => by
  obtain ⟨F, env, L, R, os, T, env', sr, r, hb, k⟩ := hq
  cases os with
  | nil =>
    simp only [bindOL, Option.some.injEq] at hb
    subst hb
    simp only [RepOL] at r
    obtain ⟨rfl, rfl⟩ := r
    exact ⟨rfl, k σ L sr (But.refl _ _)⟩
  | cons => simp [bindOL] at hb
theorem go_cons {e : Expr} {es : List Expr} {t : Tg} {ts : List Tg} (h1 : PG X e (tTgO C X.K t)) (h2 : PGs X es (tTgOs C X.K ts)) (hs : (assignEach (e :: es) X.env).map (·.2) = assign e X.env :: (assignEach es X.env).map (·.2)) : PGs X (e :: es) (tTgOs C X.K (t :: ts)) := by
  refine PGs.imp (pgs_cons h1 h2 hs) fun vs σ H Q hq => ?_
  obtain ⟨F, env, L, R, os, T, env', sr, r, hb, k⟩ := hq
  cases os with
  | nil => simp [bindOL] at hb
  | cons o os =>
    simp only [bindOL] at hb
    obtain ⟨e1, hb1, hb2⟩ := Option.bind_eq_some_iff.mp hb
    simp only [RepOL] at r
    obtain ⟨v, s, l1, l2, rfl, ro, rt, rfl⟩ := r
    rw [List.append_assoc] at sr
    refine ⟨v, s, rfl, F, env, L, l2 ++ R, o, l1, e1, sr, ro, hb1, fun σ1 L1 s1 b1 => ?_⟩
    exact ⟨F, e1, L1, R, os, l2, env', s1, rt, hb2, fun σ2 L2 s2 b2 => k σ2 L2 s2 (b1.trans b2)⟩
theorem bindL_eq (ts : List Tg) : ∀ (ds : List Cr.D) (e : Env), bindL ts ds e = bindOL ts (ds.map .fr) e := by
  induction ts with
  | nil => intro ds e; cases ds <;> simp [bindL, bindOL]
  | cons t ts ih =>
    intro ds e
    cases ds with
    | nil => simp [bindL, bindOL]
    | cons d ds =>
      simp only [bindL, bindOL, List.map_cons]
      have h1 : t.bind d e = t.bindO (.fr d) e := by
        cases t with
        | v i => simp only [Tg.bind, Tg.bindO, setS]
        | tup us => cases d <;> simp [Tg.bind, Tg.bindO]
      rw [h1]
      cases t.bindO (.fr d) e with
      | none => rfl
      | some e1 => exact ih ds e1
theorem bindOL_len {ts : List Tg} : ∀ {os : List O} {e e' : Env}, bindOL ts os e = some e' → os.length = ts.length := by
  induction ts with
  | nil => intro os e e' h; cases os <;> simp [bindOL] at h ⊢
  | cons t ts ih =>
    intro os e e' h
    cases os with
    | nil => simp [bindOL] at h
    | cons o os =>
      simp only [bindOL] at h
      obtain ⟨e1, _, h2⟩ := Option.bind_eq_some_iff.mp h
      simp [ih h2]
theorem RepOL.ofS : ∀ {ds : List Cr.D} {vs : List V}, RepSL C K F ds vs → RepOL C K F H (ds.map .fr) vs []
  | [], vs, r => by simp only [RepSL] at r; simp [RepOL, r]
  | d :: ds, vs, r => by
    simp only [RepSL] at r
    obtain ⟨v, s, rfl, q, t⟩ := r
    simp only [List.map_cons, RepOL]
    exact ⟨v, s, [], [], rfl, ⟨rfl, q⟩, RepOL.ofS t, rfl⟩
theorem go_tup {es : List Expr} {k : Nat} {pos : Pos} {ts : List Tg} (hc : X.calm = true) (h : PGs X es (tTgOs C X.K ts)) (hn : (assignEach es X.env).length = ts.length) (hst : (assignEach es X.env).findIdx? (·.1) = none) : PG X (.Tuple es k pos) (tTgO C X.K (.tup ts)) := by
  refine PG.imp (pg_tup hc h hn hst) fun v σ H Q hq => ?_
  obtain ⟨F, env, L, R, o, T, env', sr, r, hb, k⟩ := hq
  unfold Tg.bindO at hb
  split at hb
  · rename_i e1; cases e1
  · rename_i e1
    cases e1
    rename_i ds
    simp only [RepO, RepS] at r
    obtain ⟨rfl, a, vs, rfl, q, t⟩ := r
    rw [bindL_eq] at hb
    have hl := bindOL_len hb
    exact ⟨a, vs, rfl, SqT.le sr.le q, by rw [t.len]; simpa using hl, F, _, L, R, _, [], env', sr, RepOL.ofS t, hb, k⟩
  · rename_i e1
    cases e1
    rename_i os
    simp only [RepO] at r
    obtain ⟨a, vs, rfl, q, t⟩ := r
    have hl := bindOL_len hb
    exact ⟨a, vs, rfl, SqT.le sr.le (.inl (.inl q)), by rw [t.len]; exact hl, F, _, L, R, os, T, env', sr, t, hb, k⟩
  · cases hb
theorem b_unp {tg e : Expr} {c : CE} {t : Tg} {pos : Pos} (he : EV X C cal XE e c) (hg : PG X tg (tTgO C X.K t)) (hs : swapsWithSole [tg] e pos.line X.env = pure false) (hw : swappedStores [tg] e X.env = pure none)
    (h1 : (assignEach [tg] X.env).map (·.2) = [assign tg X.env]) (hpin : ∀ i ∈ t.slots, i ∉ pin) : PS X (.Assign [tg] e pos) (tS C X.K cal XE pin W (.unp t c)) :=
  PS.imp (ps_asg he hg hs hw h1) fun D σ H h => by
    obtain ⟨F, env, L, R, sr, ho⟩ := h
    simp only [evS] at ho
    refine OutB.ex1 sr ho fun v F1 H1 e1 L1 T h p hx ho => ?_
    dsimp only at ho
    split at ho
    case h_2 => exact ho.elim
    rename_i o hv
    split at ho
    case h_2 => exact ho.elim
    rename_i e2 hb
    exact ⟨F1, e1, L1, R, o, T, e2, p.sr, hval hx hv, hb, fun σ' L' s' b => ho _ _ σ' L' ⟨s', p.fe, p.kp, fun j hj => b.2 j fun z => hpin j z hj⟩⟩
/-! ### stores into lists -/
theorem Pst.less2 (p : Pst C K F H σ env L R F1 H1 env1 L1 (T2 ++ T1) q) : Pst C K F H σ env L R F1 H1 env1 L1 T1 q := p.less (List.sublist_append_right _ _)
theorem Pst.less3 {T3 : List Addr} (p : Pst C K F H σ env L R F1 H1 env1 L1 (T3 ++ (T2 ++ T1)) q) : Pst C K F H σ env L R F1 H1 env1 L1 T1 q := p.less2.less2
theorem Pst.assoc {Ra Rb Rc : List Addr} (p : Pst C K F H σ env L (Ra ++ (Rb ++ Rc)) F1 H1 env1 L1 T q) : Pst C K F H σ env L ((Ra ++ Rb) ++ Rc) F1 H1 env1 L1 T q := by rw [List.append_assoc]; exact p
theorem SR.mod {i : Nat} {o : O} (sr : SR C K F H σ env L R) (h : (env[i]?).join = some o) :
    ∃ v La l Lb, σ[i]? = some (some v) ∧ RepO C K F H o v l ∧ L = La ++ (l ++ Lb) ∧
      ∀ (H2 : Hp) (o2 : O) (l2 R2 : List Addr), (∀ b, b ∉ l → H2 b = H b) → RepO C K F H2 o2 v l2 → (l2 ++ R2).Nodup → (∀ b ∈ l2 ++ R2, b ∈ l ++ R) → (∀ b ∈ R2, b ∈ l → H2 b ≠ none) →
        SR C K F H2 σ (env.set i (some o2)) (La ++ (l2 ++ Lb)) R2 := by
  obtain ⟨v, La, l, Lb, c, hv, r⟩ := sr.slot h
  refine ⟨v, La, l, Lb, hv, r, c.eq, fun H2 o2 l2 R2 hk r2 hd hs hn => ?_⟩
  have hnd := sr.nd
  rw [c.eq] at hnd
  have move : ∀ (x y : List Addr), ((La ++ (x ++ Lb)) ++ y).Perm ((La ++ Lb) ++ (x ++ y)) := fun x y => by
    simp only [List.append_assoc]
    refine List.Perm.append_left La ?_
    have : (x ++ (Lb ++ y)).Perm (Lb ++ (x ++ y)) := by
      rw [← List.append_assoc x, ← List.append_assoc Lb]
      exact List.perm_append_comm.append_right y
    exact this
  have hnd2 : ((La ++ Lb) ++ (l ++ R)).Nodup := (List.Perm.nodup_iff (move l R)).mp hnd
  have far : ∀ b ∈ La ++ Lb, b ∉ l := fun b hb hl => (List.nodup_append.mp hnd2).2.2 b hb b (by simp [hl]) rfl
  have hset : σ.set i (some v) = σ := by
    obtain ⟨hl, e⟩ := List.getElem?_eq_some_iff.mp hv
    rw [← e]
    exact List.set_getElem_self hl
  have rep := c.put F H2 o2 v l2 (Le.refl F) (fun b hb => hk b (far b hb)) r2
  rw [hset] at rep
  have fnL : ∀ b ∈ l ++ R, F b = none ∧ H b ≠ none := fun b hb => sr.fn b (by
    rw [c.eq]
    exact (List.Perm.mem_iff (move l R)).mpr (List.mem_append_right _ hb))
  refine ⟨fun b u e => ?_, rep, ?_, fun b hb => ?_⟩
  · rw [hk b fun z => by rw [(fnL b (by simp [z])).1] at e; cases e]
    exact sr.le b u e
  · refine (List.Perm.nodup_iff (move l2 R2)).mpr ?_
    have h3 := List.nodup_append.mp hnd2
    exact List.nodup_append.mpr ⟨h3.1, hd, fun a ha b hb => h3.2.2 a ha b (hs b hb)⟩
  · have hb := (List.Perm.mem_iff (move l2 R2)).mp hb
    rcases List.mem_append.mp hb with h1 | h1
    · have h2 := sr.fn b (by
        rw [c.eq]
        exact (List.Perm.mem_iff (move l R)).mpr (List.mem_append_left _ h1))
      exact ⟨h2.1, by rw [hk b (far b h1)]; exact h2.2⟩
    · have h2 := fnL b (hs b h1)
      refine ⟨h2.1, ?_⟩
      rcases List.mem_append.mp h1 with h3 | h3
      · have := RepO.own o2 v l2 r2 b h3
        intro e
        rw [e] at this
        exact this
      · by_cases h4 : b ∈ l
        · exact hn b h3 h4
        · rw [hk b h4]; exact h2.2
theorem Sst.mod {i : Nat} {o : O} (p : Sst C K pin F H σ env L R F1 H1 σ1 env1 L1 T) (h : (env1[i]?).join = some o) :
    ∃ v l, σ1[i]? = some (some v) ∧ RepO C K F1 H1 o v l ∧ (∀ b ∈ l, b ∈ L1 ∧ F1 b = none) ∧ (l ++ T).Nodup ∧
      ∀ (H2 : Hp) (o2 : O) (l2 : List Addr), (∀ b, b ∉ l → H2 b = H1 b) → RepO C K F1 H2 o2 v l2 → l2.Nodup → (∀ b ∈ l2, b ∈ l ++ T) → ∃ L', Sst C K pin F H σ env L R F1 H2 σ1 (env1.set i (some o2)) L' [] := by
  obtain ⟨v, La, l, Lb, hv, r, e, k⟩ := p.sr.mod h
  have hnd := p.sr.nd
  have sub : List.Sublist (l ++ (T ++ R)) (L1 ++ (T ++ R)) := by
    refine List.Sublist.append_right ?_ _
    rw [e]
    exact (List.sublist_append_left l Lb).trans (List.sublist_append_right La _)
  have hnd2 := hnd.sublist sub
  have h2 := List.nodup_append.mp hnd2
  have h3 := List.nodup_append.mp h2.2.1
  have hlR : ∀ b ∈ l, b ∉ R := fun b hb hr => h2.2.2 b hb b (by simp [hr]) rfl
  refine ⟨v, l, hv, r, fun b hb => ⟨by rw [e]; simp [hb], (p.sr.fn b (by rw [e]; simp [hb])).1⟩, ?_, fun H2 o2 l2 hk r2 hd hs => ⟨La ++ (l2 ++ Lb), ⟨?_, p.fe, fun a ha => ?_, p.pn⟩⟩⟩
  · rw [← List.append_assoc] at hnd2
    exact (List.nodup_append.mp hnd2).1
  · refine k H2 o2 l2 R hk r2 ?_ (fun b hb => ?_) fun b hb hl => absurd hb (hlR b hl)
    · refine List.nodup_append.mpr ⟨hd, h3.2.1, fun a ha b hb z => ?_⟩
      subst z
      rcases List.mem_append.mp (hs a ha) with z | z
      · exact hlR a z hb
      · exact h3.2.2 a z a hb rfl
    · rcases List.mem_append.mp hb with z | z
      · have := hs b z
        simp only [List.mem_append] at this ⊢
        rcases this with z | z
        · exact .inl z
        · exact .inr (.inl z)
      · simp [z]
  · have hn : a ∉ l := by
      intro hl
      rcases ha with ha | ha
      · cases e1 : F a with
        | none => exact ha e1
        | some u =>
          have := p.fe a u e1
          rw [(p.sr.fn a (by rw [e]; simp [hl])).1] at this
          cases this
      · exact hlR a hl ha
    rw [hk a hn]
    exact p.kp a ha
theorem RepOL.nthC : ∀ {os : List O} {vs : List V} {l : List Addr} {j : Nat} {o : O}, RepOL C K F H os vs l → os[j]? = some o → ∃ v la lo lb, vs[j]? = some v ∧ l = la ++ (lo ++ lb) ∧ RepO C K F H o v lo ∧
    ∀ (H2 : Hp) (o2 : O) (v2 : V) (l2 : List Addr), (∀ b ∈ la ++ lb, H2 b = H b) → RepO C K F H2 o2 v2 l2 → RepOL C K F H2 (os.set j o2) (vs.set j v2) (la ++ (l2 ++ lb))
  | [], vs, l, j, o, r, h => by simp at h
  | o0 :: os, vs, l, 0, o, r, h => by
    simp only [RepOL] at r
    obtain ⟨v, s, l1, l2, rfl, q, t, rfl⟩ := r
    simp only [List.getElem?_cons_zero, Option.some.injEq] at h
    subst h
    refine ⟨v, [], l1, l2, rfl, rfl, q, fun H2 o2 v2 l3 hk r2 => ?_⟩
    simp only [List.set_cons_zero, RepOL]
    exact ⟨v2, s, l3, l2, rfl, r2, RepOL.keep (Le.refl F) _ _ _ (fun a ha => hk a (by simpa using ha)) t, rfl⟩
  | o0 :: os, vs, l, j + 1, o, r, h => by
    simp only [RepOL] at r
    obtain ⟨v, s, l1, l2, rfl, q, t, rfl⟩ := r
    obtain ⟨w, la, lo, lb, h1, rfl, h3, h4⟩ := RepOL.nthC t (by simpa using h)
    refine ⟨w, l1 ++ la, lo, lb, by simpa using h1, by simp, h3, fun H2 o2 v2 l3 hk r2 => ?_⟩
    simp only [List.set_cons_succ, RepOL]
    exact ⟨v, _, l1, _, rfl, RepO.keep (Le.refl F) _ _ _ (fun a ha => hk a (by simp [ha])) q, h4 H2 o2 v2 l3 (fun b hb => hk b (by
      simp only [List.mem_append] at hb ⊢
      rcases hb with z | z
      · exact .inl (.inr z)
      · exact .inr z)) r2, by simp⟩
/-- os[j] = o -/
theorem RepO.setAt {os : List O} {v w : V} {l : List Addr} {j : Nat} {o : O} (r : RepO C K F H (.ol os) v l) (hj : j < os.length) (ro : RepO C K F H o w T) (nd : (l ++ T).Nodup) :
    ∃ a vs l2, v = .ref a ∧ H a = some (.lst vs) ∧ vs.length = os.length ∧ a ∈ l ∧ RepO C K F (upd H a (.lst (vs.set j w))) (.ol (os.set j o)) v l2 ∧ l2.Nodup ∧ (∀ b ∈ l2, b ∈ l ++ T) := by
  simp only [RepO] at r
  obtain ⟨a, vs, l', rfl, ha, t, rfl⟩ := r
  obtain ⟨w0, la, lo, lb, h1, rfl, h3, h4⟩ := t.nthC (j := j) (o := os[j]) (by simp [hj])
  have hn : a ∉ (la ++ (lo ++ lb)) ++ T := by
    have := nd
    simp only [List.cons_append, List.nodup_cons] at this
    exact this.1
  have nd2 : ((la ++ (lo ++ lb)) ++ T).Nodup := by
    simp only [List.cons_append, List.nodup_cons] at nd
    exact nd.2
  have r2 := h4 (upd H a (.lst (vs.set j w))) o w T (fun b hb => upd_ne fun z => hn (by
    subst z
    simp only [List.mem_append] at hb ⊢
    rcases hb with z | z
    · exact .inl (.inl z)
    · exact .inl (.inr (.inr z)))) (RepO.keep (Le.refl F) o w T (fun b hb => upd_ne fun z => hn (by subst z; simp [hb])) ro)
  refine ⟨a, vs, a :: (la ++ (T ++ lb)), rfl, ha, t.len, by simp, ?_, ?_, fun b hb => ?_⟩
  · simp only [RepO]
    exact ⟨a, _, _, rfl, upd_same, r2, rfl⟩
  · have nd3 : (la ++ (T ++ lb)).Nodup := by
      have e1 : List.Sublist ((la ++ lb) ++ T) ((la ++ (lo ++ lb)) ++ T) := List.Sublist.append_right (List.Sublist.append_left (List.sublist_append_right lo lb) la) T
      refine (List.Perm.nodup_iff ?_).mp (nd2.sublist e1)
      rw [List.append_assoc]
      exact List.Perm.append_left la List.perm_append_comm
    refine List.nodup_cons.mpr ⟨fun z => hn ?_, nd3⟩
    simp only [List.mem_append] at z ⊢
    rcases z with z | z | z
    · exact .inl (.inl z)
    · exact .inr z
    · exact .inl (.inr (.inr z))
  · simp only [List.mem_cons, List.mem_append] at hb ⊢
    rcases hb with z | z | z | z
    · exact .inl (.inl z)
    · exact .inl (.inr (.inl z))
    · exact .inr z
    · exact .inl (.inr (.inr (.inr z)))
theorem b_seti {i : Nat} {x : Str} {px ps pos : Pos} {ix e : Expr} {ci c : CE} (hN : X.N[i]? = some x) (hv : Vis X.env.scope x) (hd : (x == ("__debug__" : Str)) = false) (hcd : (x == ("__classdict__" : Str)) = false) (hi : EV X C cal XE ix ci) (he : EV X C cal XE e c)
    (ha : ∀ v, assign (.Subscript (.Name x px) ix ps) X.env v = (do
      let ov ← holding [v] (eval (.Name x px) X.env)
      let iv ← holding [v, ov] (eval ix X.env)
      standAt ps
      holding [v, ov, iv] (setItem ov iv v)
      release [v, ov, iv] []))
    (hs : swapsWithSole [.Subscript (.Name x px) ix ps] e pos.line X.env = pure false) (hw : swappedStores [.Subscript (.Name x px) ix ps] e X.env = pure none)
    (h1 : (assignEach [.Subscript (.Name x px) ix ps] X.env).map (·.2) = [assign (.Subscript (.Name x px) ix ps) X.env]) :
    PS X (.Assign [.Subscript (.Name x px) ix ps] e pos) (tS C X.K cal XE pin W (.seti i none ci c)) :=
  PS.imp (ps_asg he (pg_sub (pe_var hN hv hd hcd) hi set_list ha) hs hw h1) fun D σ H h => by
    obtain ⟨F, env, L, R, sr, ho⟩ := h
    simp only [evS] at ho
    refine OutB.ex1 sr ho fun w F1 H1 e1 L1 T h p hx ho => ?_
    dsimp only at ho
    split at ho
    case h_2 => exact ho.elim
    rename_i o o0 hv' hs0
    have ro := hval hx hv'
    obtain ⟨v, La, l0, Lb, _, hσ, _⟩ := p.sr.slot hs0
    refine ⟨v, hσ, F1, e1, L1, T ++ R, p.sr, ?_⟩
    cases e2 : ev cal ci e1 with
    | ex c' d' e' => rw [e2] at ho; exact fun F' H' L' p2 => ho F' H' σ L' (Sst.of (p.trans p2).nil)
    | er => rw [e2] at ho; exact ho
    | ok y =>
      obtain ⟨hi', e2'⟩ := y
      rw [e2] at ho
      intro k F2 H2 L2 T2 p2 hx2
      simp only [Res.bind] at ho
      split at ho
      case h_2 => exact ho.elim
      rename_i kd a0 ha0
      split at ho
      case h_2 => exact ho.elim
      rename_i e3 hb
      obtain ⟨a1, hset, hse⟩ := Option.bind_eq_some_iff.mp hb
      obtain ⟨hil, rfl⟩ := setS_some hse
      unfold Cr.setAt at hset
      split at hset
      case h_2 => cases hset
      rename_i os kk
      obtain ⟨j, hj, rfl⟩ := Option.map_eq_some_iff.mp hset
      obtain ⟨_, hkv⟩ := hx2
      have hkv : k = .int kk := hkv
      subst hkv
      have ro2 : RepO C X.K F2 H2 o w T := RepO.keep p2.fe.le o w T (fun a ha => p2.kp a (.inr (by simp [ha]))) ro
      have pp := (Sst.of (pin := pin) (p.trans p2).less2)
      obtain ⟨v', l, hσ', r, _, nd, fin⟩ := pp.mod ha0
      rw [hσ] at hσ'
      cases hσ'
      obtain ⟨a, vs, l2, rfl, hH, hlen, hal, r2, nd2, hs2⟩ := r.setAt (ixN_seq hj).2.1 ro2 nd
      refine ⟨a, vs, kk, j, rfl, rfl, hH, by rw [hlen]; exact hj, ?_⟩
      obtain ⟨L', q⟩ := fin _ _ l2 (fun b hb => upd_ne fun z => hb (z ▸ hal)) r2 nd2 hs2
      exact ho _ _ _ _ q
theorem b_seti2 {i : Nat} {x : Str} {px pp ps pos : Pos} {ip ix e : Expr} {cp ci c : CE} (hN : X.N[i]? = some x) (hv : Vis X.env.scope x) (hd : (x == ("__debug__" : Str)) = false) (hcd : (x == ("__classdict__" : Str)) = false) (hp : EV X C cal XE ip cp) (hpl : PlainIx ip) (hi : EV X C cal XE ix ci) (he : EV X C cal XE e c)
    (ha : ∀ v, assign (.Subscript (.Subscript (.Name x px) ip pp) ix ps) X.env v = (do
      let ov ← holding [v] (eval (.Subscript (.Name x px) ip pp) X.env)
      let iv ← holding [v, ov] (eval ix X.env)
      standAt ps
      holding [v, ov, iv] (setItem ov iv v)
      release [v, ov, iv] []))
    (hs : swapsWithSole [.Subscript (.Subscript (.Name x px) ip pp) ix ps] e pos.line X.env = pure false) (hw : swappedStores [.Subscript (.Subscript (.Name x px) ip pp) ix ps] e X.env = pure none)
    (h1 : (assignEach [.Subscript (.Subscript (.Name x px) ip pp) ix ps] X.env).map (·.2) = [assign (.Subscript (.Subscript (.Name x px) ip pp) ix ps) X.env]) :
    PS X (.Assign [.Subscript (.Subscript (.Name x px) ip pp) ix ps] e pos) (tS C X.K cal XE pin W (.seti i (some cp) ci c)) :=
  PS.imp (ps_asg he (pg_sub (pe_ix ix_list (pe_var hN hv hd hcd) hp hpl) hi set_list ha) hs hw h1) fun D σ H h => by
    obtain ⟨F, env, L, R, sr, ho⟩ := h
    simp only [evS] at ho
    refine OutB.ex1 sr ho fun w F1 H1 e1 L1 T h p hx ho => ?_
    dsimp only at ho
    split at ho
    case h_2 => exact ho.elim
    rename_i o o0 hv' hs0
    have ro := hval hx hv'
    obtain ⟨v, La, l0, Lb, _, hσ, _⟩ := p.sr.slot hs0
    refine ⟨v, hσ, F1, e1, L1, T ++ R, p.sr, ?_⟩
    cases ep : ev cal cp e1 with
    | ex c' d' e' => rw [ep] at ho; exact fun F' H' L' p2 => ho F' H' σ L' (Sst.of (p.trans p2).nil)
    | er => rw [ep] at ho; exact ho
    | ok y =>
      obtain ⟨hp', e2'⟩ := y
      rw [ep] at ho
      intro kp F2 H2 L2 T2 p2 hx2
      simp only [Res.bind] at ho
      split at ho
      case h_2 => exact ho.elim
      rename_i pk xs hs2
      split at ho
      case h_2 => exact ho.elim
      rename_i b hb
      obtain ⟨_, hkv⟩ := hx2
      have hkv : kp = .int pk := hkv
      subst hkv
      have p12 := (p.trans p2).less2
      obtain ⟨v2, La2, l2, Lb2, c2, hσ2, r2⟩ := p12.sr.slot hs2
      rw [hσ] at hσ2
      cases hσ2
      have r2' := r2
      simp only [RepO] at r2'
      obtain ⟨a, vs, l', rfl, hH, t, rfl⟩ := r2'
      obtain ⟨jp, hjp, hb2⟩ := Option.bind_eq_some_iff.mp hb
      obtain ⟨w2, la, lo, lb, hw2, rfl, rb, _⟩ := t.nthC hb2
      refine ⟨a, vs, pk, w2, rfl, rfl, SqL.of hH, ?_, F2, e2', L2, T2 ++ (T ++ R), p2.sr, ?_⟩
      · unfold atI
        rw [t.len, hjp]
        exact hw2
      · cases ei : ev cal ci e2' with
        | ex c' d' e' => rw [ei] at ho; exact fun F' H' L' p3 => ho F' H' σ L' (Sst.of ((p.trans p2).trans (p3 : Pst C X.K F2 H2 σ e2' L2 (T2 ++ (T ++ R)) F' H' e' L' [] _).assoc).nil)
        | er => rw [ei] at ho; exact ho
        | ok y =>
          obtain ⟨hi', e3'⟩ := y
          rw [ei] at ho
          intro k F3 H3 L3 T3 p3 hx3
          simp only at ho
          split at ho
          case isFalse => exact ho.elim
          rename_i hq
          split at ho
          case h_2 => exact ho.elim
          rename_i kd
          split at ho
          case h_2 => exact ho.elim
          rename_i e4 hbb
          obtain ⟨a2, hset, hse⟩ := Option.bind_eq_some_iff.mp hbb
          obtain ⟨hil, rfl⟩ := setS_some hse
          obtain ⟨b2, hset1, hset2⟩ := Option.bind_eq_some_iff.mp hset
          unfold Cr.setAt at hset1
          split at hset1
          case h_2 => cases hset1
          rename_i os kk
          obtain ⟨j, hj, rfl⟩ := Option.map_eq_some_iff.mp hset1
          simp only [Cr.setAt, hjp, Option.map_some, Option.some.injEq] at hset2
          subst hset2
          obtain ⟨_, hkv⟩ := hx3
          have hkv : k = .int kk := hkv
          subst hkv
          obtain ⟨he3, hL3, hH3⟩ := p3.qt hq
          subst he3
          have p123 := ((p.trans p2).trans p3.assoc).less3
          have ro3 : RepO C X.K F3 H3 o w T := RepO.keep (p2.fe.trans p3.fe).le o w T (fun a ha => by rw [p3.kp a (.inr (by simp [ha])), p2.kp a (.inr (by simp [ha]))]) ro
          obtain ⟨v', l, hσ', r, _, nd, fin⟩ := (Sst.of (pin := pin) p123).mod hs2
          rw [hσ] at hσ'
          cases hσ'
          simp only [RepO] at r
          obtain ⟨a', vs', l'', ea, hH', t', rfl⟩ := r
          cases ea
          have haL : a ∈ L2 := c2.mem a (by simp)
          have evs : vs' = vs := by
            rw [hH3 a haL, hH] at hH'
            cases hH'
            rfl
          subst evs
          obtain ⟨w2', la', lo', lb', hw2', rfl, rb', put⟩ := t'.nthC hb2
          rw [hw2] at hw2'
          cases hw2'
          have nda : a ∉ (la' ++ (lo' ++ lb')) ++ T := by
            simp only [List.cons_append, List.nodup_cons] at nd
            exact nd.1
          have ndl : ((la' ++ (lo' ++ lb')) ++ T).Nodup := by
            simp only [List.cons_append, List.nodup_cons] at nd
            exact nd.2
          have nd1 : (lo' ++ T).Nodup := ndl.sublist (List.Sublist.append_right ((List.sublist_append_left lo' lb').trans (List.sublist_append_right la' _)) T)
          obtain ⟨a2, vs2, lz, rfl, hH2, hlen2, hal2, rz, ndz, hsz⟩ := rb'.setAt (ixN_seq hj).2.1 ro3 nd1
          refine ⟨a2, vs2, kk, j, rfl, rfl, hH2, by rw [hlen2]; exact hj, ?_⟩
          have hdis : ∀ c ∈ la' ++ lb', c ∉ lo' ++ T := fun c hc hz => by
            have e1 : ((la' ++ lb') ++ (lo' ++ T)).Nodup := by
              refine (List.Perm.nodup_iff ?_).mp ndl
              simp only [List.append_assoc]
              refine List.Perm.append_left la' ?_
              rw [← List.append_assoc, ← List.append_assoc]
              exact List.perm_append_comm.append_right T
            exact (List.nodup_append.mp e1).2.2 c hc c hz rfl
          have hne : a ≠ a2 := fun z => nda (by subst z; simp [hal2])
          have rz' := put _ _ _ lz (fun c hc => upd_ne fun z => hdis c hc (by subst z; simp [hal2])) rz
          have hvs : vs'.set jp (V.ref a2) = vs' := by
            obtain ⟨h1, h2⟩ := List.getElem?_eq_some_iff.mp hw2
            rw [← h2]
            exact List.set_getElem_self h1
          rw [hvs] at rz'
          obtain ⟨L', q⟩ := fin (upd H3 a2 (.lst (vs2.set j w))) (.ol (xs.set jp (.ol (os.set j o)))) (a :: (la' ++ (lz ++ lb'))) (fun c hc => upd_ne fun z => hc (by subst z; simp [hal2])) (by
            simp only [RepO]
            exact ⟨a, vs', _, rfl, by rw [upd_ne hne]; exact hH', rz', rfl⟩) (by
            refine List.nodup_cons.mpr ⟨fun z => nda ?_, ?_⟩
            · simp only [List.mem_append] at z ⊢
              rcases z with z | z | z
              · exact .inl (.inl z)
              · have := hsz a z
                simp only [List.mem_append] at this
                rcases this with z | z
                · exact .inl (.inr (.inl z))
                · exact .inr z
              · exact .inl (.inr (.inr z))
            · have e2 : ((la' ++ lb') ++ lz).Nodup := by
                refine List.nodup_append.mpr ⟨?_, ndz, fun c hc c2 hc2 z => ?_⟩
                · exact ndl.sublist ((List.Sublist.append_left (List.sublist_append_right lo' lb') la').trans (List.sublist_append_left _ T))
                · subst z
                  exact hdis c hc (hsz c hc2)
              refine (List.Perm.nodup_iff ?_).mp e2
              rw [List.append_assoc]
              exact List.Perm.append_left la' List.perm_append_comm) (fun c hc => by
            simp only [List.cons_append, List.mem_cons, List.mem_append] at hc ⊢
            rcases hc with z | z | z | z
            · exact .inl z
            · exact .inr (.inl (.inl z))
            · have := hsz c z
              simp only [List.mem_append] at this
              rcases this with z | z
              · exact .inr (.inl (.inr (.inl z)))
              · exact .inr (.inr z)
            · exact .inr (.inl (.inr (.inr z))))
          exact ho _ _ _ _ q
end
end Cr
end

section
/-! xs[i] op= e, list(range(..)). -/
namespace Cr
open PySem L2
open PySem.Spec
open PyProof.Rows hiding St

section
variable {X : Cx} {C : Nat → Addr} {cal : Nat → List O → CRes} {XE : XP} {K : PySem.W.Frag} {pin : List Nat} {W : Nat} {F F' F1 F2 F3 H H' H1 H2 H3 : Hp} {σ σ1 σ2 : St} {env env1 env2 : Env} {L L1 L2 R T T1 T2 : List Addr} {q : Bool} {D : Ends}
theorem get_list : PGet X (rIxL X.K) := by
  intro pins s σ H o i ov iv Q inv ro ri ⟨p, xs, k, v, eo, ei, hq, hat, goal⟩
  subst eo ei
  cases ro
  obtain ⟨t, rfl⟩ := ri
  obtain ⟨its, rv, isl, _⟩ := inv.list hq
  obtain ⟨j, hsi, hxj, _, hlo, hhi⟩ := atI_get hat
  obtain ⟨u, hu, ru⟩ := rv.get hxj
  have hsz : (its.toArray.size : Int) = xs.length := by rw [List.size_toArray, rv.length]
  have hb := line63
  have hlen := rv.length
  by_cases hk : 0 ≤ k
  · rw [seqIndex_of hk hhi] at hsi
    cases hsi
    exact PySem.wpAny_getItem_list isl.isList hk (by omega) (by simpa using hu) ⟨v, H, inv, ru, goal⟩
  · rw [seqIndex_neg (by omega) hlo] at hsi
    cases hsi
    exact PySem.wpAny_getItem_list_neg isl.isList (by omega) (by rw [hsz]; exact hlo) (by omega) (by rw [hsz]; simpa using hu) ⟨v, H, inv, ru, goal⟩
theorem b_augi {i : Nat} {x : Str} {px ps pos : Pos} {ix e : Expr} {ci c : CE} {op : Operator} (hN : X.N[i]? = some x) (hv : Vis X.env.scope x) (hd : (x == ("__debug__" : Str)) = false) (hcd : (x == ("__classdict__" : Str)) = false) (hi : EV X C cal XE ix ci) (he : EV X C cal XE e c)
    (ha : ∀ ov iv new, augStore ix ov iv new = (do holding [new, ov, iv] (setItem ov iv new); release [new, ov, iv] []; pure .next)) (hop : op = .Add ∨ op = .Sub) :
    PS X (.AugAssign (.Subscript (.Name x px) ix ps) op e pos) (tS C X.K cal XE pin W (.augi i op ci c)) := by
  have main : ∀ (f : Int → Int → Int), (∀ D σ H, tS C X.K cal XE pin W (.augi i op ci c) D σ H → tAugS (tVar i) (tV C X.K cal XE ci) (tV C X.K cal XE c) (rIxL X.K) (ipI f) rSetL D σ H) → PIp X op (ipI f) → PS X (.AugAssign (.Subscript (.Name x px) ix ps) op e pos) (tS C X.K cal XE pin W (.augi i op ci c)) :=
    fun f h ho => PS.imp (ps_augS (pe_var hN hv hd hcd) hi get_list he ho set_list ha) h
  have core : ∀ (f : Int → Int → Int) (D : Ends) (σ : St) (H F : Hp) (env : Env) (L R : List Addr), SR C X.K F H σ env L R →
      OutB C X.K XE pin F H σ env L R (match (env[i]?).join with
    | some _ => (ev cal ci env).bind fun (hi, e) => match hi, (e[i]?).join with
      | .p (.int k), some (.ol xs) => match atI xs k with
        | some (.fr (.int old)) => (ev cal c e).bind fun (h, e) => match h, (e[i]?).join with
          | .p (.int d), some (.ol ys) => match (Cr.setAt (.ol ys) (.int k) (.fr (.int (f old d)))).bind fun a => setS e i a with
              | some e => .ok (.next, e)
              | none => .er
          | _, _ => .er
        | _ => .er
      | _, _ => .er
    | none => .er : Res (Fl × Env)) D → tAugS (tVar i) (tV C X.K cal XE ci) (tV C X.K cal XE c) (rIxL X.K) (ipI f) rSetL D σ H := by
    intro f D σ H F env L R sr ho
    split at ho
    case h_2 => exact ho.elim
    rename_i o0 hs0
    obtain ⟨v, La, l0, Lb, _, hσ, _⟩ := sr.slot hs0
    refine ⟨v, hσ, OutB.ex1 sr ho fun kv F1 H1 e1 L1 T h p hx ho => ?_⟩
    dsimp only at ho
    split at ho
    case h_2 => exact ho.elim
    rename_i k xs hs1
    obtain ⟨rfl, hkv⟩ := hx
    have hkv : kv = .int k := hkv
    subst hkv
    split at ho
    case h_2 => exact ho.elim
    rename_i old hat
    obtain ⟨v2, La2, l2, Lb2, c2, hσ2, r2⟩ := p.sr.slot hs1
    rw [hσ] at hσ2
    cases hσ2
    simp only [RepO] at r2
    obtain ⟨a, vs, l', rfl, hH, t, rfl⟩ := r2
    obtain ⟨j, hj, hb2⟩ := Option.bind_eq_some_iff.mp hat
    obtain ⟨w2, la, lo, lb, hw2, rfl, rb, _⟩ := t.nthC hb2
    have hw : w2 = .int old := rb.2
    subst hw
    refine ⟨a, vs, k, .int old, rfl, rfl, SqL.of hH, ?_, F1, e1, L1, R, p.sr, ?_⟩
    · unfold atI
      rw [t.len, hj]
      exact hw2
    · cases ec : ev cal c e1 with
      | ex c' d' e' => rw [ec] at ho; exact fun F' H' L' p2 => ho F' H' σ L' (Sst.of (p.seq p2))
      | er => rw [ec] at ho; exact ho
      | ok y =>
        obtain ⟨hd', e2⟩ := y
        rw [ec] at ho
        intro dv F2 H2 L2 T2 p2 hx2
        simp only [Res.bind] at ho
        split at ho
        case h_2 => exact ho.elim
        rename_i d ys hs2
        obtain ⟨rfl, hkv⟩ := hx2
        have hkv : dv = .int d := hkv
        subst hkv
        split at ho
        case h_2 => exact ho.elim
        rename_i e3 hbb
        obtain ⟨a2, hset, hse⟩ := Option.bind_eq_some_iff.mp hbb
        obtain ⟨hil, rfl⟩ := setS_some hse
        obtain ⟨j2, hj2, rfl⟩ := Option.map_eq_some_iff.mp hset
        obtain ⟨v', l, hσ', r, _, nd, fin⟩ := (Sst.of (pin := pin) (p.seq p2)).mod hs2
        rw [hσ] at hσ'
        cases hσ'
        obtain ⟨a', vs', lz, ea, hH', hlen, hal, rz, ndz, hsz⟩ := r.setAt (w := .int (f old d)) (o := .fr (.int (f old d))) (T := []) (ixN_seq hj2).2.1 ⟨rfl, rfl⟩ nd
        cases ea
        refine ⟨old, d, rfl, rfl, a, vs', k, j2, rfl, rfl, hH', by rw [hlen]; exact hj2, ?_⟩
        obtain ⟨L', q⟩ := fin _ _ lz (fun b hb => upd_ne fun z => hb (z ▸ hal)) rz ndz hsz
        exact ho _ _ _ _ q
  rcases hop with rfl | rfl
  · refine main (fun i j => i + j) (fun D σ H h => ?_) ip_add
    obtain ⟨F, env, L, R, sr, ho⟩ := h
    simp only [evS] at ho
    exact core _ D σ H F env L R sr ho
  · refine main (fun i j => i - j) (fun D σ H h => ?_) ip_sub
    obtain ⟨F, env, L, R, sr, ho⟩ := h
    simp only [evS] at ho
    exact core _ D σ H F env L R sr ho
/-! ### list(range(..)) -/
def rgArgs (vs : List V) (i j c : Int) : Prop := (vs = [.int j] ∧ i = 0 ∧ c = 1) ∨ (vs = [.int i, .int j] ∧ c = 1) ∨ vs = [.int i, .int j, .int c]
abbrev TR := St → Hp → (Int → Int → Int → Nat → Hp → Prop) → Prop
/-- an expression that makes a range -/
def PRc (X : Cx) (e : Expr) (t : TR) : Prop :=
  ∀ (pins : List (Addr × Obj)) (s : Shared) (σ : St) (H : Hp) (Q : Int → Int → Int → Nat → Hp → Prop), Inv X pins σ H s → t σ H Q →
    wpAny (model X.prog X.w) X.A (eval e X.env) (fun x s' => ∃ r i j c n t u v H', x = .ref r ∧ IsRange s'.heap r i j c t u v ∧ RgC i j c n ∧ Inv X pins σ H' s' ∧ Q i j c n H') X.xe s
def tRc (ta : TA) : TR := fun σ H Q => ta σ H fun vs H1 => ∃ i j c n, rgArgs vs i j c ∧ RgC i j c n ∧ Q i j c n H1
theorem prc {a : Expr} {as : List Expr} {ta : TA} {p pos : Pos} (hg : Gl X "range") (hm : X.mg "range" = none) (ha : PA X (a :: as) ta) (hs : starEach (a :: as) X.env = (false, eval a X.env) :: starEach as X.env)
    (hpl : (backTo pos (starEach as X.env)).any (·.1) = false) : PRc X (.Call (.Name "range" p) (a :: as) [] pos) (tRc ta) := by
  intro pins s σ H Q inv hq
  refine PyProof.Rows.Call_ (ld_blt inv hg hm boot_range (PyProof.Rows.callWith_type1 (thn (ha.run pos pins s σ H _ inv hq) ?_) hs hpl))
  rintro us sA ⟨vs, HA, invA, rel, i, j, c, n, hargs, hc, goal⟩
  have old : ∀ (ob : Obj) (b : Addr) (o : Obj), sA.heap.get? b = some o → (sA.heap.push ob).get? b = some o := fun _ b o e => Heap.get?_push_of_some _ e
  rcases hargs with ⟨rfl, rfl, rfl⟩ | ⟨rfl, rfl⟩ | rfl
  · cases rel with
    | cons rj rn =>
      cases rn
      obtain ⟨tj, rfl⟩ := rj
      exact call_range_1 ⟨_, 0, j, 1, n, _, _, _, HA, rfl, IsRange.new _ _ _ _ _ _ _, hc, invA.kept (old _), goal⟩
  · cases rel with
    | cons ri rn =>
      cases rn with
      | cons rj rn =>
        cases rn
        obtain ⟨ti, rfl⟩ := ri
        obtain ⟨tj, rfl⟩ := rj
        exact call_range_2 ⟨_, i, j, 1, n, _, _, _, HA, rfl, IsRange.new _ _ _ _ _ _ _, hc, invA.kept (old _), goal⟩
  · cases rel with
    | cons ri rn =>
      cases rn with
      | cons rj rn =>
        cases rn with
        | cons rc rn =>
          cases rn
          obtain ⟨ti, rfl⟩ := ri
          obtain ⟨tj, rfl⟩ := rj
          obtain ⟨tc, rfl⟩ := rc
          exact PySem.call_range_3 hc.1 ⟨_, i, j, c, n, _, _, _, HA, rfl, IsRange.new _ _ _ _ _ _ _, hc, invA.kept (t' := sA.toks) (old _), goal⟩ (.inl (PyProof.noPylong_small hc.2.1))
def rgVc (i c : Int) (n : Nat) : List V := (List.range n).map fun k => V.int (i + (k : Nat) * c)
theorem vals_rgc {i c : Int} {n : Nat} {acc : Array Value} (h : ItemsOf (fun k v => ∃ t, v = .int (i + k * c) t) acc n) : Vals (rgVc i c n) acc.toList := by
  have len : acc.toList.length = n := by simpa using h.1
  have := vals_of_get acc.toList (fun k => V.int (i + (k : Nat) * c)) fun k u hk => by
    obtain ⟨t, rfl⟩ := h.2 k u (by rw [← hk, Array.getElem?_toList])
    exact ⟨t, rfl⟩
  rw [len] at this
  exact this
theorem pe_listC {e : Expr} {te : TR} {p pos : Pos} (hc : X.calm = true) (hg : Gl X "list") (hm : X.mg "list" = none) (he : PRc X e te) (na : starEach [e] X.env = (false, eval e X.env) :: starEach [] X.env) :
    PE X (.Call (.Name "list" p) [e] [] pos) (fun σ H Q => te σ H fun i _ c n H1 => n ≤ 16777216 ∧ ∀ q, H1 q = none → Q (.ref q) (upd H1 q (.lst (rgVc i c n)))) := by
  constructor
  intro pins s σ H Q inv hq
  refine PyProof.Rows.Call_ (ld_blt inv hg hm boot_list (PyProof.Rows.callWith_type1 (args_cons (thn (he pins s σ H _ inv hq) ?_) na) na))
  rintro x sA ⟨r, i, j, c, n, t, u, v, HA, rfl, isr, hrg, invA, hn, goal⟩
  refine args_nil (call_list_range (n := n) (invA.ok.hd hc) isr hrg.2.2.1 hrg.2.2.2 (by omega) fun h' tk acc cap hk hnew hitems => ?_)
  refine ⟨.ref sA.heap.objs.size, upd HA sA.heap.objs.size (.lst (rgVc i c n)), invA.laid hk (Nat.le_refl _) ⟨?_, acc.toList, cap, vals_rgc hitems, ?_⟩, rfl, goal _ (invA.hok.fresh (Nat.le_refl _))⟩
  · simp only [rgVc, List.length_map, List.length_range, sizeLine_eq]
    omega
  · rw [Array.toArray_toList]
    exact hnew
theorem repS_rg {i c : Int} {n : Nat} : RepSL C K F ((List.range n).map fun (k : Nat) => Cr.D.int (i + k * c)) (rgVc i c n) := by
  unfold rgVc
  have : ∀ (l : List Nat), RepSL C K F (l.map fun (k : Nat) => Cr.D.int (i + k * c)) (l.map fun (k : Nat) => V.int (i + (k : Nat) * c)) := fun l => by
    induction l with
    | nil => simp [RepSL]
    | cons a l ih =>
      simp only [List.map_cons, RepSL, RepS]
      exact ⟨_, _, rfl, rfl, ih⟩
  exact this _
theorem rngOf_args {ds : List Cr.D} {vs : List V} {rs : List Cr.D} (t : RepSL C K F ds vs) (h : rngOf ds = some rs) : ∃ i j c, rgArgs vs i j c ∧ RgC i j c (rngN i j c) ∧ rs = (List.range (rngN i j c)).map fun (k : Nat) => Cr.D.int (i + k * c) := by
  unfold rngOf at h
  split at h
  · rename_i j
    split at h
    case isFalse => cases h
    rename_i ok
    simp only [Option.some.injEq] at h
    simp only [RepSL, RepS] at t
    obtain ⟨_, _, rfl, rfl, rfl⟩ := t
    exact ⟨0, j, 1, .inl ⟨rfl, rfl, rfl⟩, rangeCnt ok, by rw [← h]; rfl⟩
  · rename_i i j
    split at h
    case isFalse => cases h
    rename_i ok
    simp only [Option.some.injEq] at h
    simp only [RepSL, RepS] at t
    obtain ⟨_, _, rfl, rfl, _, _, rfl, rfl, rfl⟩ := t
    exact ⟨i, j, 1, .inr (.inl ⟨rfl, rfl⟩), rangeCnt ok, by rw [← h]; rfl⟩
  · rename_i i j c
    split at h
    case isFalse => cases h
    rename_i ok
    simp only [Option.some.injEq] at h
    simp only [RepSL, RepS] at t
    obtain ⟨_, _, rfl, rfl, _, _, rfl, rfl, _, _, rfl, rfl, rfl⟩ := t
    exact ⟨i, j, c, .inr (.inr rfl), rangeCnt ok, by rw [← h]; rfl⟩
  · cases h
theorem s_listR {a : Expr} {as : List Expr} {cs : List CE} {p p2 pos pos2 : Pos} (hc : X.calm = true) (hg : Gl X "range") (hm : X.mg "range" = none) (hg2 : Gl X "list") (hm2 : X.mg "list" = none) (ha : PA X (a :: as) (tVs C X.K cal XE cs))
    (hs : starEach (a :: as) X.env = (false, eval a X.env) :: starEach as X.env) (hpl : (backTo pos (starEach as X.env)).any (·.1) = false)
    (na : starEach [.Call (.Name "range" p) (a :: as) [] pos] X.env = (false, eval (.Call (.Name "range" p) (a :: as) [] pos) X.env) :: starEach [] X.env) :
    EV X C cal XE (.Call (.Name "list" p2) [.Call (.Name "range" p) (a :: as) [] pos] [] pos2) (.listR (.rng cs)) := by
  refine PE.imp (pe_listC hc hg2 hm2 (prc hg hm ha hs hpl) na) fun σ H Q hq => ?_
  obtain ⟨F, env, L, R, sr, ho⟩ := hq
  simp only [ev, evSr] at ho
  refine ⟨F, env, L, R, sr, ?_⟩
  cases e1 : evs cal cs env with
  | ok x =>
    rw [e1] at ho
    intro vs F1 H1 L1 T p hx
    simp only [Res.bind] at ho
    cases g : allSome (x.1.map Hd.val) with
    | none => rw [g] at ho; exact ho.elim
    | some os =>
      rw [g] at ho
      dsimp only at ho
      cases e2 : leafs os with
      | none => rw [e2] at ho; exact ho.elim
      | some ds =>
        rw [e2] at ho
        simp only [Option.bind] at ho
        cases w : rngOf ds with
        | none => rw [w] at ho; exact ho.elim
        | some rs =>
          rw [w] at ho
          dsimp only at ho
          obtain ⟨t, rfl⟩ := rng_vals hx g e2
          obtain ⟨i, j, c, hargs, hrg, hrs⟩ := rngOf_args t w
          subst hrs
          split at ho
          case isFalse => exact ho.elim
          rename_i hline
          refine ⟨i, j, c, _, hargs, hrg, by simpa [lineOk] using hline, fun q hq => ?_⟩
          have nw := New.lst (vs := rgVc i c (rngN i j c)) p.sr.le hq
          refine ho (.ref q) F1 _ L1 [q] ((p.newT nw).q_of fun z => by simpa [CE.quiet, Sr.quiet] using z) ?_
          show RepO C X.K _ _ (.ol _) (.ref q) [q]
          simp only [RepO]
          exact ⟨q, rgVc i c (rngN i j c), [], rfl, upd_same, RepOL.ofS repS_rg, rfl⟩
  | ex c d e => rw [e1] at ho; exact ho
  | er => rw [e1] at ho; exact ho
end
end Cr
end

section
/-! A set of texts made from a list or a tuple, any number. -/
namespace Cr
open PySem PySem.Spec PyProof.Rows
theorem addS_any (l : List Str) (x k : Str) : (addS l x).any (· == k) = (l.any (· == k) || decide (k = x)) := by
  unfold addS
  by_cases e : k = x
  · subst e
    by_cases h : l.any (· == k) = true
    · rw [if_pos h, h]; simp
    · rw [if_neg h, List.any_append]; simp
  · have hb : (x == k) = false := by simpa [beq_iff_eq] using (fun z : x = k => e z.symm)
    split
    · simp [e]
    · rw [List.any_append]; simp [hb, e]
theorem addS_len (l : List Str) (x : Str) : (addS l x).length = if l.any (· == x) = true then l.length else l.length + 1 := by
  unfold addS
  split <;> simp
theorem uniq_le : ∀ (xs l : List Str), (xs.foldl addS l).length ≤ l.length + xs.length
  | [], l => by simp
  | x :: xs, l => by
    have h1 := uniq_le xs (addS l x)
    have h2 := addS_len l x
    simp only [List.foldl_cons, List.length_cons]
    split at h2 <;> omega
theorem uniq_succ {xs : List Str} {i : Nat} (h : i < xs.length) : uniq (xs.take (i + 1)) = addS (uniq (xs.take i)) (xs.getD i Str.empty) := by
  unfold uniq
  rw [List.take_succ_eq_append_getElem h, List.foldl_append]
  simp [List.getD, h]
section
variable {prog : Program} {w : World} {A : Around} {R : Result → Shared → Prop} {I : Addr} {fp wr : List Addr} {G : Array GenState → Array GenState → Prop} {n : Nat} {P : Nat → Value → Prop} {Tn : Nat → Shared → Prop}
abbrev SetIs (prog : Program) (w : World) (h : Heap) (S : Addr) (ys : List Str) : Prop := h.SetOf (PySem.strKind prog w) S (fun k => (uniq ys).any (· == k)) (uniq ys).length
theorem setLoop (W : WalksS prog w A.in1 I fp wr G n P Tn) (S : Addr) (nS : S ∉ fp) (xs : List Str) (len : xs.length = n) (few : n + 1 < scanBound) (val : ∀ i v, P i v → ∃ t, v = .str (xs.getD i Str.empty) t) :
    ∀ (m i : Nat) (s : Shared), n - i = m → i ≤ n → Tn i s → SetIs prog w s.heap S (xs.take i) → (∀ s2, Moved (S :: wr) G s s2 → SetIs prog w s2.heap S (xs.take n) → R (.ok (.ret .none)) s2) →
      codeAny (model prog w) A (.builtin "set.update.loop" ⟨[.ref S, .ref I], []⟩) R s := by
  have nW : S ∉ wr := fun z => nS (W.sub _ z)
  have up : ∀ b ∈ wr, b ∈ S :: wr := fun b z => List.mem_cons_of_mem _ z
  intro m
  induction m with
  | zero =>
    intro i s em le tn hs0 fin
    have ei : i = n := by omega
    subst ei
    refine codeAny_builtin PyProof.Rows.F.entry_set_update_loop (show _ from ?_)
    rw [Around.under_plainId PyProof.Rows.F.plain_set_update_loop _]
    show wpAny _ A.in1 (pyNext (.ref I) >>= _) _ _ s
    refine wpAny_bind (W.done s _ _ tn fun s2 mv => ?_)
    show wpAny _ A.in1 (ret Value.none) _ _ s2
    obtain ⟨so, ses, sep, stb, sho, srest⟩ := hs0
    exact wpAny_pure (fin s2 (mv.mono up) ⟨so, ses, sep, stb, mv.heap S _ nW sho, srest⟩)
  | succ m ih =>
    intro i s em le tn hs0 fin
    have lt : i < n := by omega
    refine codeAny_builtin PyProof.Rows.F.entry_set_update_loop (show _ from ?_)
    rw [Around.under_plainId PyProof.Rows.F.plain_set_update_loop _]
    show wpAny _ A.in1 (pyNext (.ref I) >>= _) _ _ s
    refine wpAny_bind (W.item i s _ _ lt tn fun v s2 pv tn2 mv => ?_)
    obtain ⟨tk, rfl⟩ := val i v pv
    have hs2 : SetIs prog w s2.heap S (xs.take i) := by
      obtain ⟨so, ses, sep, stb, sho, srest⟩ := hs0
      exact ⟨so, ses, sep, stb, mv.heap S _ nW sho, srest⟩
    show wpAny _ A.in1 (holding [Value.str (xs.getD i Str.empty) tk] (setAdd S (.str (xs.getD i Str.empty) tk)) >>= _) _ _ s2
    refine wpAny_bind (wpAny_holding ?_)
    unfold setAdd
    have room : (uniq (xs.take i)).length + 1 < scanBound := by
      have z := uniq_le (xs.take i) []
      have z2 : (xs.take i).length ≤ i := by simp [List.length_take]; omega
      unfold uniq
      simp only [List.length_nil, Nat.zero_add] at z
      omega
    refine wpAny_holding (wpAny_bind ((PySem.strKind prog w).pyHash (k := xs.getD i Str.empty) (strKind_is _ _ _ _) ?_))
    refine wpAny_setAddHashed_of (knd := PySem.strKind prog w) (s := { s2 with toks := s2.toks + 1 }) (strKind_is _ _ _ _) rfl hs2 room fun h3 sb hs3 => ?_
    have hs4 : SetIs prog w h3 S (xs.take (i + 1)) := by
      unfold SetIs
      rw [uniq_succ (by omega)]
      exact PyProof.Rows.SetOf_congr hs3 (fun k => (addS_any _ _ k).symm) (addS_len _ _).symm
    have off : ∀ b ∈ fp, b ≠ S := fun b hb z => nS (by rw [← z]; exact hb)
    refine wpAny_pure ⟨plainId_quiet PyProof.Rows.F.plain_set_update_loop _, ih (i + 1) _ (by omega) lt (W.frame _ s2 _ _ tn2 (Nat.le_succ _) fun b hb o e => by rw [sb.2 b (off b hb)]; exact e) hs4 fun s5 mv5 hs5 => fin s5 (Moved.trans W.gtrans ((mv.mono up).then_heap (Nat.le_succ _) fun b o hb e => ?_) mv5) hs5⟩
    rw [sb.2 b (fun z : b = S => hb (by rw [z]; exact List.mem_cons_self))]
    exact e
end
abbrev set0 (led : Bool) : Obj := { cls := .type "set", dict := none, data := .set #[] 0 (.fresh 0 0 led) }
section
variable {prog : Program} {w : World} {A : Around} {E : Value → Shared → Prop} {s : Shared}
set_option maxHeartbeats 3200000 in
theorem set_of_list {a : Addr} {items : Array Value} {xs : List Str} {Q : Value → Shared → Prop} (hd : A.handled = none) (at_ : s.heap.IsList a items) (hi : PyProof.Rows.StrsAre items.toList xs) (few : xs.length + 1 < scanBound)
    (k : ∀ (h2 : Heap) (tk : Nat), SetIs prog w h2 s.heap.objs.size xs → (∀ b o, b < s.heap.objs.size → s.heap.get? b = some o → h2.get? b = some o) → Q (.ref s.heap.objs.size) { s with heap := h2, toks := tk }) :
    wpAny (model prog w) A (call (.type "set") [.ref a]) Q E s := by
  obtain ⟨mc, mt, hmro⟩ := PySem.F.called_set.mro
  have f1 := PySem.F.called_set.made
  have f2 := PySem.F.called_set.sub
  refine wpAny_call (codeAny_of_tree (show _ from ?_))
  show wpAny _ _ (callAny (.type "set") _) _ _ _
  refine wpAny_pure ⟨Code.quiet_builtin _ (by decide +kernel), codeAny_builtin PySem.F.entry_type_call (show _ from ?_)⟩
  rw [Around.under_plain (weight_type_call_type "set" [.ref a] []) rfl]
  have f3 := PySem.F.called_set.notType
  have f4 := PySem.F.called_set.canCreate
  have f5 := PySem.F.typeCall_set_1 (.ref a)
  repeat (any_goals (first | assumption | wp_step))
  have sz : xs.length = items.size := by rw [← StrsAre.len_eq hi, Array.length_toList]
  refine codeAny_mono (code_set_new_1 (.ref a) (E := E) (Q₁ := fun ob s1 => ∃ led : Bool, ob = .ref s.heap.objs.size ∧ s1 = { s with heap := s.heap.push (set0 led) }) fun led => ⟨led, rfl, rfl⟩) fun r s1 hr => ?_
  cases r with
  | error ev => exact hr
  | ok fl =>
    cases fl with
    | ret ob =>
      obtain ⟨led, rfl, rfl⟩ := hr
      have g0 : (s.heap.push (set0 led)).get? s.heap.objs.size = some (set0 led) := Heap.get?_push_size _ rfl
      have ty : Shared.TypeIs { s with heap := s.heap.push (set0 led) } (.ref s.heap.objs.size) "set" := ⟨_, g0, rfl⟩
      have f6 := PySem.F.called_set.init.lookup
      have f7 := PySem.F.called_set.init.bind (.ref s.heap.objs.size)
      repeat (any_goals (first | assumption | wp_step))
      refine codeAny_mono (codeAny_call_builtin (R := wants (fun r s2 => r = .none ∧ ∃ h2 tk, s2 = { s with heap := h2, toks := tk } ∧ SetIs prog w h2 s.heap.objs.size xs ∧
          (∀ b o, b < s.heap.objs.size → s.heap.get? b = some o → h2.get? b = some o)) E) PySem.F.called_set.init.plain PySem.F.entry_set_init (check_set_init_1 ty ?_)) fun r2 s2 hr2 => ?_
      · obtain ⟨oa, goa, ca, na, da⟩ := at_
        obtain ⟨oc, od, ot, os⟩ := oa
        simp only at ca da
        subst ca da
        have ga : (s.heap.push (set0 led)).get? a = some { cls := .type "list", dict := od, data := .seq items na, slots := os } := Heap.get?_push_of_some _ goa
        have f8 := PySem.F.sub_list_set
        have f9 := PySem.F.sub_list_frozenset
        have f0 : (Value.type "list" == Value.type "dict") = false := by decide
        have la : (s.heap.push (set0 led)).IsList a items := ⟨_, ga, rfl, na, rfl⟩
        unfold Builtin.«set.__init__» noKeywords Builtin.Frozenset.updateFrom
        generalize ePI : pyIter = PI
        wp_walk
        subst ePI
        refine wpAny_pyIter_list la (wpAny_bind (wpAny_runValue ?_))
        have lt : a < s.heap.objs.size := Heap.lt_size goa
        have hd3 : A.in1.in1.in1.handled = none := by simp [hd]
        have n1 : a ≠ (s.heap.push (set0 led)).objs.size := by rw [Heap.size_push]; exact Nat.ne_of_lt (Nat.lt_succ_of_lt lt)
        have n2 : s.heap.objs.size ∉ [(s.heap.push (set0 led)).objs.size, a] := by
          rw [Heap.size_push]
          simp only [List.mem_cons, List.not_mem_nil, or_false, not_or]
          exact ⟨Nat.ne_of_lt (Nat.lt_succ_self _), Nat.ne_of_gt lt⟩
        have vals : ∀ (i : Nat) (v : Value), items[i]? = some v → ∃ t, v = .str (xs.getD i Str.empty) t := fun i v hv => SS.strs_at hi i v (by rw [Array.getElem?_toList]; exact hv)
        refine setLoop ((Walks.list hd3 _ a n1 items).toS) s.heap.objs.size n2 xs sz (by omega) vals (items.size - 0) 0 _ (by omega) (Nat.zero_le _) ⟨⟨_, Heap.get?_push_size _ rfl, rfl, rfl⟩, (la.push _)⟩ ?ini ?fin
        case ini =>
          have g1 : ((s.heap.push (set0 led)).push { cls := .type "list_iterator", data := .fields #[.ref a, .int 0 0] }).get? s.heap.objs.size = some (set0 led) := Heap.get?_push_of_some _ g0
          exact PyProof.Rows.SetOf_congr ((PyProof.Rows.setObjOf_fresh (knd := PySem.strKind prog w) led).setOf g1 (by unfold scanBound; omega)) (fun _ => rfl) rfl
        case fin =>
          intro s3 mv hs3
          obtain ⟨h3, g3, d3, t3, o3⟩ := s3
          have eg : g3 = s.gens := mv.gens
          have ed : d3 = s.drawn := mv.drawn
          have eo : o3 = s.os := mv.os
          subst eg ed eo
          show wpAny _ _ _ _ _ _
          refine wpAny_pure (show _ from ?_)
          show wpAny _ _ (ret Value.none) _ _ _
          rw [show items.size = xs.length from sz.symm, List.take_length] at hs3
          refine wpAny_pure ⟨rfl, h3, t3, rfl, hs3, fun b o hb e => mv.heap b o ?_ (Heap.get?_push_of_some _ (Heap.get?_push_of_some _ e))⟩
          simp only [List.mem_cons, List.not_mem_nil, or_false, not_or]
          exact ⟨Nat.ne_of_lt hb, by rw [Heap.size_push]; exact Nat.ne_of_lt (Nat.lt_succ_of_lt hb)⟩
      · cases r2 with
        | error ev => exact hr2
        | ok f2 =>
          cases f2 with
          | ret r =>
            obtain ⟨rfl, h2, tk, rfl, hs2, hk2⟩ := hr2
            repeat (any_goals (first | assumption | wp_step))
            exact k _ _ hs2 hk2
          | _ => exact hr2.elim
    | _ => exact hr.elim
set_option maxHeartbeats 3200000 in
theorem set_of_tuple {a : Addr} {items : Array Value} {xs : List Str} {Q : Value → Shared → Prop} (hd : A.handled = none) (at_ : s.heap.IsTuple a items) (hi : PyProof.Rows.StrsAre items.toList xs) (few : xs.length + 1 < scanBound)
    (k : ∀ (h2 : Heap) (tk : Nat), SetIs prog w h2 s.heap.objs.size xs → (∀ b o, b < s.heap.objs.size → s.heap.get? b = some o → h2.get? b = some o) → Q (.ref s.heap.objs.size) { s with heap := h2, toks := tk }) :
    wpAny (model prog w) A (call (.type "set") [.ref a]) Q E s := by
  obtain ⟨mc, mt, hmro⟩ := PySem.F.called_set.mro
  have f1 := PySem.F.called_set.made
  have f2 := PySem.F.called_set.sub
  refine wpAny_call (codeAny_of_tree (show _ from ?_))
  show wpAny _ _ (callAny (.type "set") _) _ _ _
  refine wpAny_pure ⟨Code.quiet_builtin _ (by decide +kernel), codeAny_builtin PySem.F.entry_type_call (show _ from ?_)⟩
  rw [Around.under_plain (weight_type_call_type "set" [.ref a] []) rfl]
  have f3 := PySem.F.called_set.notType
  have f4 := PySem.F.called_set.canCreate
  have f5 := PySem.F.typeCall_set_1 (.ref a)
  repeat (any_goals (first | assumption | wp_step))
  have sz : xs.length = items.size := by rw [← StrsAre.len_eq hi, Array.length_toList]
  refine codeAny_mono (code_set_new_1 (.ref a) (E := E) (Q₁ := fun ob s1 => ∃ led : Bool, ob = .ref s.heap.objs.size ∧ s1 = { s with heap := s.heap.push (set0 led) }) fun led => ⟨led, rfl, rfl⟩) fun r s1 hr => ?_
  cases r with
  | error ev => exact hr
  | ok fl =>
    cases fl with
    | ret ob =>
      obtain ⟨led, rfl, rfl⟩ := hr
      have g0 : (s.heap.push (set0 led)).get? s.heap.objs.size = some (set0 led) := Heap.get?_push_size _ rfl
      have ty : Shared.TypeIs { s with heap := s.heap.push (set0 led) } (.ref s.heap.objs.size) "set" := ⟨_, g0, rfl⟩
      have f6 := PySem.F.called_set.init.lookup
      have f7 := PySem.F.called_set.init.bind (.ref s.heap.objs.size)
      repeat (any_goals (first | assumption | wp_step))
      refine codeAny_mono (codeAny_call_builtin (R := wants (fun r s2 => r = .none ∧ ∃ h2 tk, s2 = { s with heap := h2, toks := tk } ∧ SetIs prog w h2 s.heap.objs.size xs ∧
          (∀ b o, b < s.heap.objs.size → s.heap.get? b = some o → h2.get? b = some o)) E) PySem.F.called_set.init.plain PySem.F.entry_set_init (check_set_init_1 ty ?_)) fun r2 s2 hr2 => ?_
      · obtain ⟨oa, goa, ca, na, da⟩ := at_
        obtain ⟨oc, od, ot, os⟩ := oa
        simp only at ca da
        subst ca da
        have ga : (s.heap.push (set0 led)).get? a = some { cls := .type "tuple", dict := od, data := .seq items na, slots := os } := Heap.get?_push_of_some _ goa
        have f8 := PySem.F.sub_tuple_set
        have f9 := PySem.F.sub_tuple_frozenset
        have f0 : (Value.type "tuple" == Value.type "dict") = false := by decide
        have la : (s.heap.push (set0 led)).IsTuple a items := ⟨_, ga, rfl, na, rfl⟩
        unfold Builtin.«set.__init__» noKeywords Builtin.Frozenset.updateFrom
        generalize ePI : pyIter = PI
        wp_walk
        subst ePI
        refine wpAny_pyIter_tuple la (wpAny_bind (wpAny_runValue ?_))
        have lt : a < s.heap.objs.size := Heap.lt_size goa
        have hd3 : A.in1.in1.in1.handled = none := by simp [hd]
        have n1 : a ≠ (s.heap.push (set0 led)).objs.size := by rw [Heap.size_push]; exact Nat.ne_of_lt (Nat.lt_succ_of_lt lt)
        have n2 : s.heap.objs.size ∉ [(s.heap.push (set0 led)).objs.size, a] := by
          rw [Heap.size_push]
          simp only [List.mem_cons, List.not_mem_nil, or_false, not_or]
          exact ⟨Nat.ne_of_lt (Nat.lt_succ_self _), Nat.ne_of_gt lt⟩
        have vals : ∀ (i : Nat) (v : Value), items[i]? = some v → ∃ t, v = .str (xs.getD i Str.empty) t := fun i v hv => SS.strs_at hi i v (by rw [Array.getElem?_toList]; exact hv)
        refine setLoop ((Walks.tuple hd3 _ a n1 items).toS) s.heap.objs.size n2 xs sz (by omega) vals (items.size - 0) 0 _ (by omega) (Nat.zero_le _) ⟨⟨_, Heap.get?_push_size _ rfl, rfl, rfl⟩, (la.push _)⟩ ?ini ?fin
        case ini =>
          have g1 : ((s.heap.push (set0 led)).push { cls := .type "tuple_iterator", data := .fields #[.ref a, .int 0 0] }).get? s.heap.objs.size = some (set0 led) := Heap.get?_push_of_some _ g0
          exact PyProof.Rows.SetOf_congr ((PyProof.Rows.setObjOf_fresh (knd := PySem.strKind prog w) led).setOf g1 (by unfold scanBound; omega)) (fun _ => rfl) rfl
        case fin =>
          intro s3 mv hs3
          obtain ⟨h3, g3, d3, t3, o3⟩ := s3
          have eg : g3 = s.gens := mv.gens
          have ed : d3 = s.drawn := mv.drawn
          have eo : o3 = s.os := mv.os
          subst eg ed eo
          show wpAny _ _ _ _ _ _
          refine wpAny_pure (show _ from ?_)
          show wpAny _ _ (ret Value.none) _ _ _
          rw [show items.size = xs.length from sz.symm, List.take_length] at hs3
          refine wpAny_pure ⟨rfl, h3, t3, rfl, hs3, fun b o hb e => mv.heap b o ?_ (Heap.get?_push_of_some _ (Heap.get?_push_of_some _ e))⟩
          simp only [List.mem_cons, List.not_mem_nil, or_false, not_or]
          exact ⟨Nat.ne_of_lt hb, by rw [Heap.size_push]; exact Nat.ne_of_lt (Nat.lt_succ_of_lt hb)⟩
      · cases r2 with
        | error ev => exact hr2
        | ok f2 =>
          cases f2 with
          | ret r =>
            obtain ⟨rfl, h2, tk, rfl, hs2, hk2⟩ := hr2
            repeat (any_goals (first | assumption | wp_step))
            exact k _ _ hs2 hk2
          | _ => exact hr2.elim
    | _ => exact hr.elim
end
section
open L2
variable {X : Cx}
def tLens (K : PySem.W.Frag) (ta : TE) : TE := fun σ H Q => ta σ H fun x H1 => ∃ l, ∃ xs : List Str, x = .ref l ∧ (SqL K H1 l (xs.map V.str) ∨ SqT K H1 l (xs.map V.str)) ∧ xs.length < 4000 ∧ Q (.int (uniq xs).length) H1
theorem pe_lens {a : Expr} {ta : TE} {p p2 q pos : Pos} (hc : X.calm = true) (hg : Gl X "len") (hm : X.mg "len" = none) (hg2 : Gl X "set") (hm2 : X.mg "set" = none) (ha : PE X a ta) (na : starEach [a] X.env = (false, eval a X.env) :: starEach [] X.env) :
    PE X (.Call (.Name "len" p) [.Call (.Name "set" p2) [a] [] q] [] pos) (tLens X.K ta) := by
  constructor
  intro pins s σ H Q I hq
  refine Call_ (ld_blt I hg hm boot_len (PyProof.Rows.callWith_builtin1 (PyProof.Rows.args_cons ?_ rfl) rfl rfl))
  refine Call_ (ld_blt I hg2 hm2 boot_set (PyProof.Rows.callWith_type1 (PyProof.Rows.args_cons (thn (ha.run pins s σ H _ I hq) ?_) na) na rfl))
  rintro v s1 ⟨x, H1, I1, r1, l, xs, rfl, hl, few, goal⟩
  refine PyProof.Rows.args_nil (show _ from ?_)
  cases r1
  have fin : ∀ (h2 : Heap) (tk : Nat), SetIs X.prog X.w h2 s1.heap.objs.size xs → (∀ b o, b < s1.heap.objs.size → s1.heap.get? b = some o → h2.get? b = some o) →
      wpAny (model X.prog X.w) X.A (spliced (backTo pos (starEach [] X.env))) (fun vs s2 => wpAny (model X.prog X.w) X.A (call (.builtin "len") (Value.ref s1.heap.objs.size :: vs)) (EP X pins σ Q) X.xe s2) X.xe { s1 with heap := h2, toks := tk } := fun h2 tk hs hk => by
    refine PyProof.Rows.args_nil (show _ from ?_)
    obtain ⟨o, es, ep, t, ho, hex, hd, _, _, _, hf, hn⟩ := hs
    have I2 : Inv X pins σ H1 { s1 with heap := h2, toks := tk } := I1.kept fun b o e => hk b o (Heap.lt_size e) e
    have z := uniq_le xs []
    have z2 : (uniq xs).length ≤ xs.length := by simpa [uniq] using z
    exact call_len_set ho hex hd hf (by rw [hn]; omega) ⟨.int (uniq xs).length, H1, I2.tok _, ⟨_, by rw [hn]⟩, goal⟩
  rcases hl with hl | hl
  · obtain ⟨its, r, pl, _⟩ := I1.list hl
    exact set_of_list (I1.ok.hd hc) pl.isList (by simpa using strsAre_of r) (by unfold scanBound; omega) fin
  · obtain ⟨its, r, pl, _⟩ := I1.tuple hl
    exact set_of_tuple (I1.ok.hd hc) pl (by simpa using strsAre_of r) (by unfold scanBound; omega) fin
end
end Cr
end

section
/-! Expressions of the second make. -/
namespace Cr
open PySem L2
section
variable {X : Cx} {C : Nat → Addr} {cal : Nat → List O → CRes} {XE : XP} {K : PySem.W.Frag} {F F' F1 F2 H H' H1 H2 : Hp} {σ : St} {env env1 env2 : Env} {L L1 L2 R T T1 T2 : List Addr}
def noStar : Expr → Bool
  | .Starred _ _ => false
  | _ => true
theorem star_cons {e : Expr} {es : List Expr} (h : noStar e = true) (env : PySem.Env) : starEach (e :: es) env = (false, eval e env) :: starEach es env := by
  cases e <;> first | rfl | cases h
theorem star_any {pos : Pos} {env : PySem.Env} {es : List Expr} (hs : ∀ e ∈ es, noStar e = true) : (backTo pos (starEach es env)).any (·.1) = false := by
  unfold backTo
  rw [List.any_map]
  induction es with
  | nil => rfl
  | cons e es ih =>
    rw [star_cons (hs e (by simp))]
    simp only [List.any_cons, Function.comp, Bool.or_eq_false_iff]
    exact ⟨trivial, ih fun e he => hs e (by simp [he])⟩
theorem s_no {e : Expr} : EV X C cal XE e .no := ⟨fun pins s σ H Q I hq => by
  obtain ⟨F, env, L, R, sr, ho⟩ := hq
  simp only [ev] at ho
  exact ho.elim⟩
theorem s_dict0 {pos : Pos} : EV X C cal XE (.Dict [] [] pos) .dict0 := by
  refine PE.imp pe_dnewK fun σ H Q hq => ?_
  obtain ⟨F, env, L, R, sr, ho⟩ := hq
  simp only [ev] at ho
  intro p hp
  have n := New.dic (kvs := []) sr.le hp
  refine ho (.ref p) _ _ _ _ (((Pst.refl sr).newT n).q_of fun _ => rfl) ?_
  show RepO C X.K _ _ (.od []) _ _
  simp only [RepO]
  exact ⟨p, [], [], rfl, upd_same, by simp [RepOK], rfl⟩
theorem RepSF.val {f : Str} : ∀ {l : List (Str × D)} {fs : List (Str × V)} {d : D}, RepSF C K F l fs → l.lookup f = some d → ∃ v, fs.lookup f = some v ∧ RepS C K F d v
  | [], fs, d, r, h => by cases h
  | (g, d0) :: l, fs, d, r, h => by
    simp only [RepSF] at r
    obtain ⟨v, s, rfl, q, t⟩ := r
    simp only [List.lookup_cons] at h ⊢
    split at h
    · cases h
      exact ⟨v, rfl, q⟩
    · exact RepSF.val t h
theorem RepOF.val {f : Str} : ∀ {l : List (Str × O)} {fs : List (Str × V)} {ls : List Addr} {o : O}, RepOF C K F H l fs ls → l.lookup f = some o → ∃ v l', fs.lookup f = some v ∧ RepO C K F H o v l' ∧ List.Sublist l' ls
  | [], fs, ls, o, r, h => by cases h
  | (g, o0) :: l, fs, ls, o, r, h => by
    simp only [RepOF] at r
    obtain ⟨v, s, l1, l2, rfl, q, t, rfl⟩ := r
    simp only [List.lookup_cons] at h ⊢
    split at h
    · cases h
      exact ⟨v, l1, rfl, q, List.sublist_append_left _ _⟩
    · obtain ⟨w, l', h1, h2, h3⟩ := RepOF.val t h
      exact ⟨w, l', h1, h2, h3.trans (List.sublist_append_right _ _)⟩
/-- a field of what is at hand -/
theorem fld_rep {o o' : O} {v : V} {l : List Addr} {f : Str} (le : Le F H) (r : RepO C K F H o v l) (h : fldO o f = some o') : ∃ a c dx fs w l', v = .ref a ∧ H a = some (.ins (C c) dx fs) ∧ fs.lookup f = some w ∧ RepO C K F H o' w l' ∧ List.Sublist l' l := by
  unfold fldO at h
  split at h
  · obtain ⟨d, hd, rfl⟩ := Option.map_eq_some_iff.mp h
    simp only [RepO, RepS] at r
    obtain ⟨_, a, dx, fs, rfl, q, t⟩ := r
    obtain ⟨w, hw, rw'⟩ := t.val hd
    exact ⟨a, _, dx, fs, w, [], rfl, le.at q (fun _ z => by cases z), hw, ⟨rfl, rw'⟩, List.nil_sublist _⟩
  · simp only [RepO] at r
    obtain ⟨a, dx, fs, r', rfl, q, t, rfl⟩ := r
    obtain ⟨w, l', hw, rw', hl⟩ := t.val h
    exact ⟨a, _, dx, fs, w, l', rfl, q, hw, rw', hl.trans (List.sublist_cons_self _ _)⟩
  · cases h
/-- a part of an operand goes on -/
theorem part_out {q q1 : Bool} {h : Hd} {v : V} {o : O} {lx l' : List Addr} {e1 : Env} {Q : VK} (p : Pst C K F H σ env L R F1 H1 e1 L1 T q1) (hq : q = true → q1 = true) (hw : (∃ o0, h = .t o0 ∧ lx = T) ∨ ((∀ o0, h ≠ .t o0) ∧ T = [] ∧ ∀ a ∈ lx, a ∈ L1)) (ro : RepO C K F1 H1 o v l') (hl : List.Sublist l' lx)
    (ho : Out C K XE F H σ env L R q (.ok (h.part o, e1)) Q) : Q v H1 := by
  cases ef : o.isFr with
  | true =>
    cases o with
    | fr d =>
      rw [Hd.part_fr] at ho
      exact Out.pd ho p hq ro.2
    | _ => cases ef
  | false =>
    rw [Hd.part_no _ _ ef] at ho
    rcases hw with ⟨o0, rfl, rfl⟩ | ⟨hn, hT, hL⟩
    · exact ho v F1 H1 L1 l' ((p.less hl).q_of hq) ro
    · have fin : Out C K XE F H σ env L R q (.ok (.q o, e1)) Q → Q v H1 := fun ho => ho v F1 H1 L1 [] (p.nil.q_of hq) ⟨rfl, l', fun a ha => hL a (hl.subset ha), ro⟩
      cases h with
      | t o0 => exact absurd rfl (hn o0)
      | _ => exact fin ho
theorem s_fld {e : Expr} {f : Str} {pos : Pos} {a : CE} (cl : ∀ c, Cls X.K (C c)) (na : ∀ c, NoAttr X.K (C c) f) (hb : attributeBase e f X.env (eval e X.env) = eval e X.env) (ha : EV X C cal XE e a) : EV X C cal XE (.Attribute e f pos) (.fld a f) := by
  refine PE.imp (pe_fld ha hb) fun σ H Q hq => ?_
  obtain ⟨F, env, L, R, sr, hout⟩ := hq
  simp only [ev] at hout
  refine one sr hout fun x F1 H1 e1 L1 T1 h p hx ho => ?_
  dsimp only at ho
  split at ho
  case h_2 => exact ho.elim
  rename_i o g
  split at ho
  case h_2 => exact ho.elim
  rename_i o' hf
  obtain ⟨lx, r1, hw⟩ := hx.get2 (R := T1 ++ R) p.sr g
  obtain ⟨b, c, dx, fs, w, l', rfl, hb2, hv, ro, hl⟩ := fld_rep p.sr.le r1 hf
  exact ⟨b, C c, dx, fs, w, rfl, hb2, cl c, na c, hv, part_out p (fun z => by simpa [CE.quiet] using z) hw ro hl ho⟩
theorem strs_of : ∀ {l : List D} {ss : List Str} {vs : List V}, strsD l = some ss → RepSL C K F l vs → vs = ss.map V.str
  | [], ss, vs, h, r => by
    simp only [strsD, Option.some.injEq] at h
    subst h
    simp only [RepSL] at r
    subst r
    rfl
  | d :: l, ss, vs, h, r => by
    cases d with
    | str s =>
      simp only [strsD] at h
      obtain ⟨ss', e, rfl⟩ := Option.map_eq_some_iff.mp h
      simp only [RepSL, RepS] at r
      obtain ⟨v, t, rfl, ⟨rfl, _⟩, q⟩ := r
      rw [strs_of e q]
      rfl
    | _ => cases h
theorem s_lens {e : Expr} {a : CE} {p p2 q pos : Pos} (hc : X.calm = true) (hg : Gl X "len") (hm : X.mg "len" = none) (hg2 : Gl X "set") (hm2 : X.mg "set" = none) (ha : EV X C cal XE e a) (na : starEach [e] X.env = (false, eval e X.env) :: starEach [] X.env) :
    EV X C cal XE (.Call (.Name "len" p) [.Call (.Name "set" p2) [e] [] q] [] pos) (.lens a) := by
  refine PE.imp (pe_lens hc hg hm hg2 hm2 ha na) fun σ H Q hq => ?_
  obtain ⟨F, env, L, R, sr, hout⟩ := hq
  simp only [ev] at hout
  refine one sr hout fun x F1 H1 e1 L1 T1 h p hx ho => ?_
  dsimp only at ho
  split at ho
  case h_2 => exact ho.elim
  rename_i o g
  split at ho
  case h_2 => exact ho.elim
  rename_i b ds hi
  split at ho
  case h_2 => exact ho.elim
  rename_i ss hs
  split at ho
  case isFalse => exact ho.elim
  rename_i hlt
  obtain ⟨lx, r1, _⟩ := hx.get p.sr g
  obtain ⟨l, vs, rfl, t, hq⟩ := r1.items p.sr.le hi
  have ev := strs_of hs t
  subst ev
  refine ⟨l, ss, rfl, ?_, of_decide_eq_true hlt, Out.pd ho p (fun z => by simpa [CE.quiet] using z) (by simp [RepS])⟩
  rcases hq with ⟨_, hq⟩ | ⟨_, hq⟩
  · exact .inl (SqL.of hq)
  · exact .inr hq
theorem s_fzt {e : Expr} {a : CE} (ha : EV X C cal XE e a) : EV X C cal XE e (.fzt a) := by
  refine PE.imp ha fun σ H Q hq => ?_
  obtain ⟨F, env, L, R, sr, hout⟩ := hq
  simp only [ev] at hout
  refine one sr hout fun x F1 H1 e1 L1 T1 h p hx ho => ?_
  dsimp only at ho
  split at ho
  case h_2 => exact ho.elim
  rename_i o hv
  have ro := hval hx hv
  have p2 := p.frzT
  refine ho x _ _ _ [] (p2.q_of fun z => by simpa [CE.quiet] using z) ⟨rfl, ?_⟩
  have hT : ∀ a ∈ T1, F1 a = none := fun a ha => (p.sr.fn a (by simp [ha])).1
  exact RepO.frz (frzH_sub hT).le o x T1 (fun a ha => frzH_in ha) ro
/-! isinstance -/
theorem isi_ty {t : Str} {d : D} {v : V} {b : Bool} (h : isiD t d = some b) (r : RepS C K H d v) : ∃ ty : String, TyX K H v (.type ty) ∧ (ty = "NoneType" ∧ b = (t == ("NoneType" : Str)) ∨ ty = "bool" ∧ b = (t == ("bool" : Str) || t == ("int" : Str)) ∨ ty = "int" ∧ b = (t == ("int" : Str)) ∨ ty = "str" ∧ b = (t == ("str" : Str))) := by
  cases d with
  | non => simp only [RepS] at r; subst r; cases h; exact ⟨_, .base .non, .inl ⟨rfl, rfl⟩⟩
  | bl k => simp only [RepS] at r; subst r; cases h; exact ⟨_, .base (.bl k), .inr (.inl ⟨rfl, rfl⟩)⟩
  | int i => simp only [RepS] at r; subst r; cases h; exact ⟨_, .base (.int i), .inr (.inr (.inl ⟨rfl, rfl⟩))⟩
  | str z => simp only [RepS] at r; obtain ⟨rfl, _⟩ := r; cases h; exact ⟨_, .base (.str z), .inr (.inr (.inr ⟨rfl, rfl⟩))⟩
  | _ => cases h
theorem isi_kit {t : String} (ht : t = "bool" ∨ t = "int" ∨ t = "str") {ty : String} {b : Bool} (h : ty = "NoneType" ∧ b = ((t : Str) == ("NoneType" : Str)) ∨ ty = "bool" ∧ b = ((t : Str) == ("bool" : Str) || (t : Str) == ("int" : Str)) ∨ ty = "int" ∧ b = ((t : Str) == ("int" : Str)) ∨ ty = "str" ∧ b = ((t : Str) == ("str" : Str))) :
    PySem.W.kitOne K (.type ty) (.type t) = some b := by
  rcases ht with rfl | rfl | rfl <;> rcases h with ⟨rfl, rfl⟩ | ⟨rfl, rfl⟩ | ⟨rfl, rfl⟩ | ⟨rfl, rfl⟩ <;> exact kit_ty (by decide +kernel)
theorem s_isi {e : Expr} {a : CE} {t : String} {p p2 pos : Pos} (ht : t = "bool" ∨ t = "int" ∨ t = "str") (hg : Gl X "isinstance") (hm : X.mg "isinstance" = none) (hg2 : Gl X t) (hm2 : X.mg t = none) (ha : EV X C cal XE e a)
    (h1 : starEach [e, .Name t p2] X.env = (false, eval e X.env) :: starEach [.Name t p2] X.env) : EV X C cal XE (.Call (.Name "isinstance" p) [e, .Name t p2] [] pos) (.isi t a) := by
  have hv : bootBuiltins t = some (.type t) := by rcases ht with rfl | rfl | rfl <;> decide +kernel
  have hn : (t : Str) ≠ "__name__" := by rcases ht with rfl | rfl | rfl <;> decide
  have hdb : ((t : Str) == ("__debug__" : Str)) = false := by rcases ht with rfl | rfl | rfl <;> decide
  refine PE.imp (pe_callB call_isi hg hm (by decide +kernel) (pa_cons ha (pa_cons (pe_bltn (v := .ty t) hg2 hm2 hv rfl hn hdb) pa_nil rfl) h1) (by decide) (by decide) h1 rfl) fun σ H Q hq => ?_
  obtain ⟨F, env, L, R, sr, hout⟩ := hq
  simp only [ev] at hout
  refine one sr hout fun x F1 H1 e1 L1 T1 h p hx ho => ?_
  dsimp only at ho
  split at ho
  case h_2 => exact ho.elim
  rename_i d g
  split at ho
  case h_2 => exact ho.elim
  rename_i b hb
  obtain ⟨o, g', rfl⟩ := view_get g
  obtain ⟨lx, r1, _⟩ := hx.get p.sr g'
  obtain ⟨ty, hty, hb2⟩ := isi_ty hb (r1.read p.sr.le)
  exact ⟨x, .ty t, _, _, b, rfl, .ty t, hty, isi_kit ht hb2, Out.pd ho p (fun z => by simpa [CE.quiet] using z) (by simp [RepS])⟩
/-! making, methods -/
theorem kw0 {env : PySem.Env} : keywordEach [] env = [] := rfl
theorem meth_tree {o : Expr} {m : Str} {apos pos : Pos} {args : List Expr} {env : PySem.Env} (hb : attributeBase o m env (eval o env) = eval o env) (hf : methodCallForm (args.length + ([] : List Keyword).length) (backTo pos (starEach args env)) (backToKw pos (keywordEach [] env)) = true) (hl : (apos.endLine == pos.line) = true) :
    eval (.Call (.Attribute o m apos) args [] pos) env = (do
      let ov ← eval o env
      standAt apos.atName
      let (f, first) ← holding [ov] (getMethod ov m (plainOf o env))
      callWith pos f first (backTo pos (starEach args env)) (backToKw pos (keywordEach [] env))) := by
  have e : eval (.Call (.Attribute o m apos) args [] pos) env = (do
      let ov ← attributeBase o m env (eval o env)
      standAt apos.atName
      methodCall o m apos pos env ov (args.length + ([] : List Keyword).length) (backTo pos (starEach args env)) (backToKw pos (keywordEach [] env))) := by
    rw [PySem.arm_eval_Call]
  rw [e, hb]
  simp only [mcall_line hf hl]
end
end Cr
end

section
/-! Changes of what a slot, or a field of it, holds. -/
namespace Cr
open PySem L2
section
variable {X : Cx} {C : Nat → Addr} {cal : Nat → List O → CRes} {XE : XP} {K : PySem.W.Frag} {pin : List Nat} {W : Nat} {F F' F1 F2 F3 H H' H1 H2 H3 : Hp} {σ σ1 σ2 : St} {env env1 env2 : Env} {L L1 L2 R T T1 T2 : List Addr} {q : Bool} {D : Ends}
/-- the value that stands at a place -/
def AtP (C : Nat → Addr) (σ : St) (H : Hp) (i : Nat) : Option Str → V → Prop
  | none, v => σ[i]? = some (some v)
  | some f, v => ∃ a c dx fs, σ[i]? = some (some (.ref a)) ∧ H a = some (.ins (C c) dx fs) ∧ fs.lookup f = some v
/-- a place's reading -/
def tP (K : PySem.W.Frag) (i : Nat) : Option Str → TE
  | none => tVar i
  | some f => tFld K (tVar i) f
theorem tP_of {i : Nat} {f : Option Str} {v : V} {Q : VK} (na : ∀ g, f = some g → ∀ c, Cls K (C c) ∧ NoAttr K (C c) g) (h : AtP C σ H i f v) (k : Q v H) : tP K i f σ H Q := by
  cases f with
  | none => exact ⟨v, h, k⟩
  | some f =>
    obtain ⟨a, c, dx, fs, hs, hh, hl⟩ := h
    exact ⟨_, hs, a, C c, dx, fs, v, rfl, hh, (na f rfl c).1, (na f rfl c).2, hl, k⟩
theorem RepOF.cutF {f : Str} : ∀ {os : List (Str × O)} {fs : List (Str × V)} {l : List Addr} {o : O}, RepOF C K F H os fs l → os.lookup f = some o → ∃ v la lo lb, fs.lookup f = some v ∧ l = la ++ (lo ++ lb) ∧ RepO C K F H o v lo ∧
    ∀ (H2 : Hp) (o2 : O) (l2 : List Addr), (∀ b ∈ la ++ lb, H2 b = H b) → RepO C K F H2 o2 v l2 → RepOF C K F H2 (fput f o2 os) fs (la ++ (l2 ++ lb))
  | [], fs, l, o, r, h => by cases h
  | (g, o0) :: os, fs, l, o, r, h => by
    simp only [RepOF] at r
    obtain ⟨v, s, l1, l2, rfl, q, t, rfl⟩ := r
    simp only [List.lookup_cons] at h
    by_cases e : f = g
    · subst e
      simp only [beq_self_eq_true] at h
      cases h
      refine ⟨v, [], l1, l2, by simp [List.lookup_cons], rfl, q, fun H2 o2 l3 hk r2 => ?_⟩
      simp only [fput, if_true, RepOF, List.nil_append]
      exact ⟨v, s, l3, l2, rfl, r2, RepOF.keep (Le.refl F) _ _ _ (fun a ha => hk a (by simpa using ha)) t, rfl⟩
    · have eb : (f == g) = false := by simpa using e
      rw [eb] at h
      obtain ⟨w, la, lo, lb, h1, rfl, h3, h4⟩ := RepOF.cutF t h
      refine ⟨w, l1 ++ la, lo, lb, by simp [List.lookup_cons, eb, h1], by simp, h3, fun H2 o2 l3 hk r2 => ?_⟩
      have e2 : fput f o2 ((g, o0) :: os) = (g, o0) :: fput f o2 os := by simp [fput, Ne.symm e]
      rw [e2]
      simp only [RepOF]
      refine ⟨v, s, l1, la ++ (l3 ++ lb), rfl, RepO.keep (Le.refl F) _ _ _ (fun a ha => hk a (by simp [ha])) q, h4 H2 o2 l3 (fun b hb => hk b ?_) r2, by simp⟩
      simp only [List.mem_append] at hb ⊢
      rcases hb with z | z
      · exact .inl (.inr z)
      · exact .inr z
theorem place_at (sr : SR C K F H σ env L R) {i : Nat} {f : Option Str} {o : O} (h : place env i f = some o) : ∃ v l, AtP C σ H i f v ∧ RepO C K F H o v l ∧ (∀ a ∈ l, a ∈ L) ∧ ∀ H2, (f = none ∨ ∀ a ∈ L, H2 a = H a) → ∀ w, AtP C σ H2 i f w → w = v := by
  unfold place at h
  split at h
  · rename_i o' e
    cases h
    obtain ⟨v, La, l, Lb, c, hv, r⟩ := sr.slot e
    exact ⟨v, l, hv, r, c.mem, fun H2 _ w hw => by
      have := (show σ[i]? = some (some w) from hw).symm.trans hv
      simpa using this⟩
  · rename_i c os f e
    obtain ⟨v, La, l, Lb, cc, hv, r⟩ := sr.slot e
    simp only [RepO] at r
    obtain ⟨a, dx, fs, r', rfl, ha, t, rfl⟩ := r
    obtain ⟨w, l', h1, h2, h3⟩ := t.val h
    refine ⟨w, l', ⟨a, c, dx, fs, hv, ha, h1⟩, h2, fun b hb => cc.mem b (by simp [h3.subset hb]), fun H2 hk w2 hw => ?_⟩
    obtain ⟨a', c', dx', fs', e1, e2, e3⟩ := hw
    rw [hv] at e1
    cases e1
    rcases hk with z | hk
    · cases z
    · rw [hk a (cc.mem a (by simp)), ha] at e2
      simp only [Option.some.injEq, HO.ins.injEq] at e2
      obtain ⟨_, _, rfl⟩ := e2
      rw [h1] at e3
      exact (Option.some.inj e3).symm
  · cases h
/-- what stands at a place is changed, with what it owns and what is at hand -/
theorem Sst.modP {i : Nat} {f : Option Str} {o : O} (p : Sst C K pin F H σ env L R F1 H1 σ1 env1 L1 T) (h : place env1 i f = some o) :
    ∃ v l, AtP C σ1 H1 i f v ∧ RepO C K F1 H1 o v l ∧ (∀ b ∈ l, F1 b = none) ∧ (l ++ T).Nodup ∧
      ∀ (H2 : Hp) (o2 : O) (l2 : List Addr) (e2 : Env), (∀ b, b ∉ l → H2 b = H1 b) → RepO C K F1 H2 o2 v l2 → l2.Nodup → (∀ b ∈ l2, b ∈ l ++ T) → putPlace env1 i f o2 = some e2 → ∃ L', Sst C K pin F H σ env L R F1 H2 σ1 e2 L' [] := by
  unfold place at h
  split at h
  · rename_i o' e
    cases h
    obtain ⟨v, l, hv, r, hb, nd, fin⟩ := p.mod e
    refine ⟨v, l, hv, r, fun b z => (hb b z).2, nd, fun H2 o2 l2 e2 hk r2 nd2 hs hp => ?_⟩
    simp only [putPlace] at hp
    obtain ⟨hi, rfl⟩ := setS_some hp
    exact fin H2 o2 l2 hk r2 nd2 hs
  · rename_i c os f e
    obtain ⟨v, l, hv, r, hb, nd, fin⟩ := p.mod e
    simp only [RepO] at r
    obtain ⟨a, dx, fs, r', rfl, ha, t, rfl⟩ := r
    obtain ⟨w, la, lo, lb, h1, rfl, h3, h4⟩ := t.cutF h
    have nda : a ∉ (la ++ (lo ++ lb)) ++ T := by
      simp only [List.cons_append, List.nodup_cons] at nd
      exact nd.1
    have ndl : ((la ++ (lo ++ lb)) ++ T).Nodup := by
      simp only [List.cons_append, List.nodup_cons] at nd
      exact nd.2
    have nd1 : (lo ++ T).Nodup := ndl.sublist (List.Sublist.append_right ((List.sublist_append_left lo lb).trans (List.sublist_append_right la _)) T)
    refine ⟨w, lo, ⟨a, c, dx, fs, hv, ha, h1⟩, h3, fun b z => (hb b (by simp [z])).2, nd1, fun H2 o2 l2 e2 hk r2 nd2 hs hp => ?_⟩
    simp only [putPlace, e] at hp
    obtain ⟨hi, rfl⟩ := setS_some hp
    have hdis : ∀ b ∈ la ++ lb, b ∉ lo ++ T := fun b hb hz => by
      have e1 : ((la ++ lb) ++ (lo ++ T)).Nodup := by
        refine (List.Perm.nodup_iff ?_).mp ndl
        simp only [List.append_assoc]
        refine List.Perm.append_left la ?_
        rw [← List.append_assoc, ← List.append_assoc]
        exact List.perm_append_comm.append_right T
      exact (List.nodup_append.mp e1).2.2 b hb b hz rfl
    have hlo : ∀ b, b ∉ lo → H2 b = H1 b := hk
    have rz := h4 H2 o2 l2 (fun b hb => hk b fun z => hdis b hb (by simp [z])) r2
    refine fin H2 (.oi c (fput f o2 os)) (a :: (la ++ (l2 ++ lb))) (fun b hb => hk b fun z => hb (by simp [z])) ?_ ?_ ?_
    · simp only [RepO]
      exact ⟨a, dx, fs, _, rfl, by rw [hk a fun z => nda (by simp [z])]; exact ha, rz, rfl⟩
    · refine List.nodup_cons.mpr ⟨fun z => nda ?_, ?_⟩
      · simp only [List.mem_append] at z ⊢
        rcases z with z | z | z
        · exact .inl (.inl z)
        · have := hs a z
          simp only [List.mem_append] at this
          rcases this with z | z
          · exact .inl (.inr (.inl z))
          · exact .inr z
        · exact .inl (.inr (.inr z))
      · have e2 : ((la ++ lb) ++ l2).Nodup := by
          refine List.nodup_append.mpr ⟨?_, nd2, fun c hc c2 hc2 z => ?_⟩
          · exact ndl.sublist ((List.Sublist.append_left (List.sublist_append_right lo lb) la).trans (List.sublist_append_left _ T))
          · subst z
            exact hdis c hc (hs c hc2)
        refine (List.Perm.nodup_iff ?_).mp e2
        rw [List.append_assoc]
        exact List.Perm.append_left la List.perm_append_comm
    · intro b hb
      simp only [List.cons_append, List.mem_cons, List.mem_append] at hb ⊢
      rcases hb with z | z | z | z
      · exact .inl z
      · exact .inr (.inl (.inl z))
      · have := hs b z
        simp only [List.mem_append] at this
        rcases this with z | z
        · exact .inr (.inl (.inr (.inl z)))
        · exact .inr (.inr z)
      · exact .inr (.inl (.inr (.inr z)))
  · cases h
/-! self.f = e -/
theorem RepOF.put {f : Str} {o : O} {w : V} (ro : RepO C K F H2 o w T) : ∀ {os : List (Str × O)} {fs : List (Str × V)} {l : List Addr}, RepOF C K F H os fs l → (∀ b ∈ l, H2 b = H b) → (l ++ T).Nodup →
    ∃ l2, RepOF C K F H2 (fput f o os) (putF f w fs) l2 ∧ l2.Nodup ∧ ∀ b ∈ l2, b ∈ l ++ T
  | [], fs, l, r, hk, nd => by
    simp only [RepOF] at r
    obtain ⟨rfl, rfl⟩ := r
    refine ⟨T, ?_, by simpa using nd, fun b hb => by simpa using hb⟩
    simp only [fput, putF, RepOF]
    exact ⟨w, [], T, [], rfl, ro, ⟨rfl, rfl⟩, by simp⟩
  | (g, o0) :: os, fs, l, r, hk, nd => by
    simp only [RepOF] at r
    obtain ⟨v, s, l1, l2, rfl, q, t, rfl⟩ := r
    by_cases e : g = f
    · subst e
      have e1 : fput g o ((g, o0) :: os) = (g, o) :: os := by simp [fput]
      have e2 : putF g w ((g, v) :: s) = (g, w) :: s := by simp [putF]
      have nd2 : (l2 ++ T).Nodup := nd.sublist (List.Sublist.append_right (List.sublist_append_right l1 l2) T)
      refine ⟨T ++ l2, ?_, (List.Perm.nodup_iff List.perm_append_comm).mp nd2, fun b hb => ?_⟩
      · rw [e1, e2]
        simp only [RepOF]
        exact ⟨w, s, T, l2, rfl, ro, RepOF.keep (Le.refl F) _ _ _ (fun a ha => hk a (by simp [ha])) t, rfl⟩
      · simp only [List.mem_append] at hb ⊢
        rcases hb with z | z
        · exact .inr z
        · exact .inl (.inr z)
    · have e1 : fput f o ((g, o0) :: os) = (g, o0) :: fput f o os := by simp [fput, e]
      have e2 : putF f w ((g, v) :: s) = (g, v) :: putF f w s := by simp [putF, e]
      have nd2 : (l2 ++ T).Nodup := nd.sublist (List.Sublist.append_right (List.sublist_append_right l1 l2) T)
      obtain ⟨l3, r3, n3, s3⟩ := RepOF.put ro t (fun b hb => hk b (by simp [hb])) nd2
      have nd3 := nd
      rw [List.append_assoc] at nd3
      have nd4 := List.nodup_append.mp nd3
      refine ⟨l1 ++ l3, ?_, List.nodup_append.mpr ⟨nd4.1, n3, fun a ha b hb z => nd4.2.2 a ha b (s3 b hb) z⟩, fun b hb => ?_⟩
      · rw [e1, e2]
        simp only [RepOF]
        exact ⟨v, _, l1, l3, rfl, RepO.keep (Le.refl F) _ _ _ (fun a ha => hk a (by simp [ha])) q, r3, rfl⟩
      · simp only [List.mem_append] at hb ⊢
        rcases hb with z | z
        · exact .inl (.inl z)
        · have := s3 b z
          simp only [List.mem_append] at this
          rcases this with z | z
          · exact .inl (.inr z)
          · exact .inr z
theorem RepOF.len : ∀ {os : List (Str × O)} {fs : List (Str × V)} {l : List Addr}, RepOF C K F H os fs l → fs.length = os.length
  | [], fs, l, r => by simp only [RepOF] at r; simp [r.1]
  | (g, o0) :: os, fs, l, r => by
    simp only [RepOF] at r
    obtain ⟨v, s, l1, l2, rfl, _, t, _⟩ := r
    simp [RepOF.len t]
theorem b_setf {i : Nat} {x f : Str} {px pa pos : Pos} {e : Expr} {c : CE} (cl : ∀ c, Cls X.K (C c)) (na : ∀ c, NoAttr X.K (C c) f) (hN : X.N[i]? = some x) (hv : Vis X.env.scope x) (hd : (x == ("__debug__" : Str)) = false) (hcd : (x == ("__classdict__" : Str)) = false)
    (he : EV X C cal XE e c) (hs : swapsWith e (some (.Attribute (.Name x px) f pa)) pos.line X.env = pure false) : PS X (.Assign [.Attribute (.Name x px) f pa] e pos) (tS C X.K cal XE pin W (.setf i f c)) :=
  PS.imp (ps_fld (pe_var hN hv hd hcd) he hs) fun D σ H h => by
    obtain ⟨F, env, L, R, sr, ho⟩ := h
    simp only [evS] at ho
    refine OutB.ex1 sr ho fun w F1 H1 e1 L1 T h p hx ho => ?_
    dsimp only at ho
    split at ho
    case h_2 => exact ho.elim
    rename_i o c' os hv' hs0
    split at ho
    case isFalse => exact ho.elim
    rename_i hlen
    split at ho
    case h_2 => exact ho.elim
    rename_i e2 hse
    obtain ⟨hi, rfl⟩ := setS_some hse
    have ro := hval hx hv'
    obtain ⟨v, l, hσ, r, hb, nd, fin⟩ := (Sst.of (pin := pin) p).mod hs0
    simp only [RepO] at r
    obtain ⟨a, dx, fs, r', rfl, ha, t, rfl⟩ := r
    have hlen := of_decide_eq_true hlen
    refine ⟨_, hσ, a, C c', dx, fs, rfl, ha, cl c', na c', by rw [t.len]; exact hlen, ?_⟩
    have nda : a ∉ r' ++ T := by
      simp only [List.cons_append, List.nodup_cons] at nd
      exact nd.1
    have ndr : (r' ++ T).Nodup := by
      simp only [List.cons_append, List.nodup_cons] at nd
      exact nd.2
    have off : ∀ b, b ≠ a → upd H1 a (.ins (C c') dx (putF f w fs)) b = H1 b := fun b hb => upd_ne hb
    have ro2 : RepO C X.K F1 (upd H1 a (.ins (C c') dx (putF f w fs))) o w T := RepO.keep (Le.refl F1) o w T (fun b hb => off b fun z => nda (by rw [← z]; simp [hb])) ro
    obtain ⟨l2, r2, n2, s2⟩ := RepOF.put ro2 t (fun b hb => off b fun z => nda (by rw [← z]; simp [hb])) ndr
    obtain ⟨L', q⟩ := fin _ (.oi c' (fput f o os)) (a :: l2) (fun b hb => off b fun z => hb (by simp [z])) (by
      simp only [RepO]
      exact ⟨a, dx, _, l2, rfl, upd_same, r2, rfl⟩) (List.nodup_cons.mpr ⟨fun z => nda (s2 a z), n2⟩) (fun b hb => by
      rcases List.mem_cons.mp hb with z | z
      · simp [z]
      · have := s2 b z
        simp only [List.cons_append, List.mem_cons]
        exact .inr this)
    exact ho _ _ _ _ q
end
end Cr
end

section
/-! Stores into dicts, methods that change lists. -/
namespace Cr
open PySem L2
section
variable {X : Cx} {C : Nat → Addr} {cal : Nat → List O → CRes} {XE : XP} {K : PySem.W.Frag} {pin : List Nat} {W : Nat} {F F' F1 F2 F3 H H' H1 H2 H3 : Hp} {σ σ1 σ2 : St} {env env1 env2 : Env} {L L1 L2 R T T1 T2 : List Addr} {q : Bool} {D : Ends}
theorem RepOK.any {k : Key} : ∀ {os : List (Key × O)} {vs : List (Key × V)} {l : List Addr}, RepOK C K F H os vs l → (vs.any fun p => decide (p.1 = k)) = (os.any fun p => decide (p.1 = k))
  | [], vs, l, r => by simp only [RepOK] at r; rw [r.1]; rfl
  | (k0, o) :: os, vs, l, r => by
    simp only [RepOK] at r
    obtain ⟨v, s, l1, l2, rfl, q, t, rfl⟩ := r
    simp only [List.any_cons, RepOK.any t]
theorem RepOK.len : ∀ {os : List (Key × O)} {vs : List (Key × V)} {l : List Addr}, RepOK C K F H os vs l → vs.length = os.length
  | [], vs, l, r => by simp only [RepOK] at r; simp [r.1]
  | (k0, o) :: os, vs, l, r => by
    simp only [RepOK] at r
    obtain ⟨v, s, l1, l2, rfl, q, t, rfl⟩ := r
    simp [RepOK.len t]
theorem RepOK.app {o : O} {w : V} {k : Key} (ro : RepO C K F H2 o w T) : ∀ {os : List (Key × O)} {vs : List (Key × V)} {l : List Addr}, RepOK C K F H os vs l → (∀ b ∈ l, H2 b = H b) → RepOK C K F H2 (os ++ [(k, o)]) (vs ++ [(k, w)]) (l ++ T)
  | [], vs, l, r, hk => by
    simp only [RepOK] at r
    obtain ⟨rfl, rfl⟩ := r
    simp only [List.nil_append, RepOK]
    exact ⟨w, [], T, [], rfl, ro, ⟨rfl, rfl⟩, by simp⟩
  | (k0, o0) :: os, vs, l, r, hk => by
    simp only [RepOK] at r
    obtain ⟨v, s, l1, l2, rfl, q, t, rfl⟩ := r
    simp only [List.cons_append, RepOK]
    exact ⟨v, _, l1, _, rfl, RepO.keep (Le.refl F) _ _ _ (fun a ha => hk a (by simp [ha])) q, RepOK.app ro t (fun b hb => hk b (by simp [hb])), by simp⟩
/-- a key's value is another one, a leaf -/
theorem RepOK.map {d : Cr.D} {w : V} {k : Key} (rd : RepS C K F d w) : ∀ {os : List (Key × O)} {vs : List (Key × V)} {l : List Addr}, RepOK C K F H os vs l → (∀ b ∈ l, H2 b = H b) →
    ∃ l2, RepOK C K F H2 (os.map fun p => if p.1 = k then (p.1, .fr d) else p) (vs.map fun p => if p.1 = k then (p.1, w) else p) l2 ∧ List.Sublist l2 l
  | [], vs, l, r, hk => by
    simp only [RepOK] at r
    obtain ⟨rfl, rfl⟩ := r
    exact ⟨[], by simp [RepOK], List.Sublist.refl _⟩
  | (k0, o0) :: os, vs, l, r, hk => by
    simp only [RepOK] at r
    obtain ⟨v, s, l1, l2, rfl, q, t, rfl⟩ := r
    obtain ⟨l3, r3, s3⟩ := RepOK.map rd t (fun b hb => hk b (by simp [hb]))
    by_cases e : k0 = k
    · refine ⟨l3, ?_, s3.trans (List.sublist_append_right _ _)⟩
      simp only [List.map_cons, if_pos e, RepOK, RepO]
      exact ⟨w, _, [], l3, rfl, ⟨rfl, rd⟩, r3, rfl⟩
    · refine ⟨l1 ++ l3, ?_, List.Sublist.append_left s3 l1⟩
      simp only [List.map_cons, if_neg e, RepOK]
      exact ⟨v, _, l1, l3, rfl, RepO.keep (Le.refl F) _ _ _ (fun a ha => hk a (by simp [ha])) q, r3, rfl⟩
theorem RepOK.put {d : Cr.D} {w : V} {k : Key} (rd : RepS C K F d w) {os : List (Key × O)} {vs : List (Key × V)} {l : List Addr} (r : RepOK C K F H os vs l) (hk : ∀ b ∈ l, H2 b = H b) :
    ∃ l2, RepOK C K F H2 (kput os k (.fr d)) (putK vs k w) l2 ∧ List.Sublist l2 l := by
  unfold kput putK
  rw [r.any]
  split
  · exact RepOK.map rd r hk
  · have := RepOK.app (T := []) (o := .fr d) (w := w) (k := k) (H2 := H2) ⟨rfl, rd⟩ r hk
    rw [List.append_nil] at this
    exact ⟨l, this, List.Sublist.refl _⟩
/-- a receiver: a name, or a field of one -/
def IsRecv (x : Str) (px : Pos) : Option Str → Expr → Prop
  | none, e => e = .Name x px
  | some f, e => ∃ pa, e = .Attribute (.Name x px) f pa
theorem pe_recv {i : Nat} {f : Option Str} {x : Str} {px : Pos} {e : Expr} (h : IsRecv x px f e) (hN : X.N[i]? = some x) (hv : Vis X.env.scope x) (hd : (x == ("__debug__" : Str)) = false) (hcd : (x == ("__classdict__" : Str)) = false) : PE X e (tP X.K i f) := by
  cases f with
  | none => rw [show e = .Name x px from h]; exact pe_var hN hv hd hcd
  | some f => obtain ⟨pa, rfl⟩ := h; exact pe_fld (pe_var hN hv hd hcd) rfl
theorem b_dput {i : Nat} {f : Option Str} {x : Str} {px ps pos : Pos} {rv k e : Expr} {ck c : CE} (hu : X.A.units + 65 < cLine) (na : ∀ g, f = some g → ∀ c, Cls X.K (C c) ∧ NoAttr X.K (C c) g) (hr : IsRecv x px f rv) (hN : X.N[i]? = some x) (hv : Vis X.env.scope x) (hd : (x == ("__debug__" : Str)) = false) (hcd : (x == ("__classdict__" : Str)) = false)
    (hk : EV X C cal XE k ck) (he : EV X C cal XE e c) (hs : swapsWith e (some (.Subscript rv k ps)) pos.line X.env = pure false) : PS X (.Assign [.Subscript rv k ps] e pos) (tS C X.K cal XE pin W (.dput i f ck c)) :=
  PS.imp (ps_dput (by omega) (pe_recv hr hN hv hd hcd) hk he hs) fun D σ H h => by
    obtain ⟨F, env, L, R, sr, ho⟩ := h
    simp only [evS] at ho
    refine OutB.ex1 sr ho fun w F1 H1 e1 L1 T h p hx ho => ?_
    dsimp only at ho
    split at ho
    case h_2 => exact ho.elim
    rename_i o o0 hv' hp0
    split at ho
    case isFalse => exact ho.elim
    rename_i hq
    have ro := hval hx hv'
    obtain ⟨v, l0, hat, _, _, hsame⟩ := place_at p.sr hp0
    refine tP_of na hat ⟨F1, e1, L1, T ++ R, p.sr, ?_⟩
    cases e2 : ev cal ck e1 with
    | ex c' d' e' => rw [e2] at ho; exact fun F' H' L' p2 => ho F' H' σ L' (Sst.of (p.trans p2).nil)
    | er => rw [e2] at ho; exact ho
    | ok y =>
      obtain ⟨hk', e2'⟩ := y
      rw [e2] at ho
      intro kv F2 H2 L2 T2 p2 hx2
      simp only [Res.bind] at ho
      split at ho
      case h_2 => exact ho.elim
      rename_i kd a0 hp1
      split at ho
      case h_2 => exact ho.elim
      rename_i e3 hb
      obtain ⟨a1, hset, hse⟩ := Option.bind_eq_some_iff.mp hb
      obtain ⟨he2, hL2, hH2⟩ := p2.qt hq
      unfold putAt at hset
      split at hset
      case h_2 => cases hset
      rename_i os
      split at hset
      case h_2 => cases hset
      rename_i key ek
      split at hset
      case isFalse => cases hset
      rename_i hline
      simp only [Bool.and_eq_true] at hline
      cases hset
      cases o with
      | fr dv =>
        have rdv : RepS C X.K F2 dv w := RepS.le p2.fe.le _ _ ro.2
        have pp := Sst.of (pin := pin) (p.trans p2).nil
        obtain ⟨v2, l, hat2, r, _, nd, fin⟩ := pp.modP hp1
        have ev2 : v2 = v := hsame H2 (.inr hH2) v2 hat2
        subst ev2
        simp only [RepO] at r
        obtain ⟨a, kvs, r', rfl, ha, t, rfl⟩ := r
        have e0 := keyD_of ek hx2.2
        subst e0
        have nda : a ∉ r' := by
          simp only [List.cons_append, List.nodup_cons] at nd
          exact fun z => nd.1 (by simp [z])
        have ndr : r'.Nodup := by
          simp only [List.cons_append, List.nodup_cons, List.append_nil] at nd
          exact nd.2
        have hlen : os.length + 1 ≤ 16777216 := of_decide_eq_true hline.1
        have off : ∀ b, b ≠ a → upd H2 a (.dK (putK kvs key w)) b = H2 b := fun b hb => upd_ne hb
        obtain ⟨l2, r2, s2⟩ := RepOK.put (H2 := upd H2 a (.dK (putK kvs key w))) (k := key) rdv t (fun b hb => off b fun z => nda (by rw [← z]; exact hb))
        refine ⟨a, _, rfl, DPut.k ha (by rw [t.len, sizeLine_eq]; omega), ?_⟩
        obtain ⟨L', q⟩ := fin _ (.od (kput os key (.fr dv))) (a :: l2) e3 (fun b hb => off b fun z => hb (by simp [z])) (by
          simp only [RepO]
          exact ⟨a, _, l2, rfl, upd_same, r2, rfl⟩) (List.nodup_cons.mpr ⟨fun z => nda (s2.subset z), ndr.sublist s2⟩) (fun b hb => by
          rcases List.mem_cons.mp hb with z | z
          · simp [z]
          · simp [s2.subset z]) hse
        exact ho _ _ _ _ q
      | _ => simp [O.isFr] at hline
/-! methods that change a list -/
theorem few_of {cpos : Pos} {es : List Expr} {env : PySem.Env} (hs : ∀ e ∈ es, noStar e = true) (hl : es.length < 30) :
    ((backTo cpos (starEach es env)).all (fun x => !x.1) && (backToKw cpos (keywordEach [] env)).all (fun x => x.1.isSome) && decide (es.length + ([] : List Keyword).length + (if ([] : List Keyword).isEmpty then 0 else 1) < 30)) = true := by
  have h1 : (backTo cpos (starEach es env)).any (·.1) = false := star_any hs
  have h2 : (backTo cpos (starEach es env)).all (fun x => !x.1) = true := by
    rw [List.all_eq_not_any_not]
    simp only [Bool.not_not]
    rw [h1]
    rfl
  rw [h2]
  simp [keywordEach, backToKw, hl]
def Mu.id : Mu → String
  | .app => "list.append"
  | .ext => "list.extend"
  | .ins => "list.insert"
def Mu.nm : Mu → Str
  | .app => "append"
  | .ext => "extend"
  | .ins => "insert"
end
end Cr
end

section
/-! Methods that change lists; instances made, their methods; loops over dicts. -/
namespace Cr
open PySem L2
section
variable {X : Cx} {C : Nat → Addr} {cal : Nat → List O → CRes} {XE : XP} {K : PySem.W.Frag} {pin : List Nat} {W : Nat} {F F' F1 F2 F3 H H' H1 H2 H3 : Hp} {σ σ1 σ2 : St} {env env1 env2 : Env} {L L1 L2 R T T1 T2 : List Addr} {q : Bool} {D : Ends}
def rMu : Mu → V → List V → Hp → VK → Prop
  | .app => rAppend
  | .ext => rExtend
  | .ins => fun x vs H Q => ∃ (l : Addr) (xs : List V) (i : Int) (y : V), x = .ref l ∧ vs = [.int i, y] ∧ H l = some (.lst xs) ∧ xs.length < sizeLine ∧ 0 ≤ i ∧ i < 2 ^ 63 ∧ Q .non (upd H l (.lst (xs.take i.toNat ++ [y] ++ xs.drop i.toNat)))
theorem mt_mu (m : Mu) : MtR X m.id (rMu m) := by
  cases m with
  | app => exact mt_append
  | ext => exact mt_extend
  | ins => exact mt_insert
theorem RepOL.append : ∀ {os os2 : List O} {vs vs2 : List V} {l l2 : List Addr}, RepOL C K F H os vs l → RepOL C K F H os2 vs2 l2 → RepOL C K F H (os ++ os2) (vs ++ vs2) (l ++ l2)
  | [], os2, vs, vs2, l, l2, r, r2 => by
    simp only [RepOL] at r
    obtain ⟨rfl, rfl⟩ := r
    simpa using r2
  | o :: os, os2, vs, vs2, l, l2, r, r2 => by
    simp only [RepOL] at r
    obtain ⟨v, s, l1, l3, rfl, q, t, rfl⟩ := r
    simp only [List.cons_append, RepOL]
    exact ⟨v, _, l1, _, rfl, q, RepOL.append t r2, by simp⟩
theorem RepOL.split : ∀ {os : List O} {vs : List V} {l : List Addr} (n : Nat), RepOL C K F H os vs l → ∃ l1 l2, l = l1 ++ l2 ∧ RepOL C K F H (os.take n) (vs.take n) l1 ∧ RepOL C K F H (os.drop n) (vs.drop n) l2
  | os, vs, l, 0, r => ⟨[], l, rfl, by simp [RepOL], by simpa using r⟩
  | [], vs, l, n + 1, r => by
    simp only [RepOL] at r
    obtain ⟨rfl, rfl⟩ := r
    exact ⟨[], [], rfl, by simp [RepOL], by simp [RepOL]⟩
  | o :: os, vs, l, n + 1, r => by
    simp only [RepOL] at r
    obtain ⟨v, s, l1, l2, rfl, q, t, rfl⟩ := r
    obtain ⟨a, b, rfl, h1, h2⟩ := RepOL.split n t
    refine ⟨l1 ++ a, b, by simp, ?_, by simpa using h2⟩
    simp only [List.take_succ_cons, RepOL]
    exact ⟨v, _, l1, a, rfl, q, h1, rfl⟩
theorem b_mut {i : Nat} {f : Option Str} {m : Mu} {x : Str} {px pa pc pos : Pos} {rv e : Expr} {es : List Expr} {cs : List CE} (na : ∀ g, f = some g → ∀ c, Cls X.K (C c) ∧ NoAttr X.K (C c) g) (hr : IsRecv x px f rv) (hN : X.N[i]? = some x) (hv : Vis X.env.scope x) (hd : (x == ("__debug__" : Str)) = false) (hcd : (x == ("__classdict__" : Str)) = false)
    (ha : PA X (e :: es) (tVs C X.K cal XE cs)) (hs : ∀ y ∈ e :: es, noStar y = true) (hl : (e :: es).length < 30) (hline : (pa.endLine == pc.line) = true) :
    PS X (.Expr (.Call (.Attribute rv m.nm pa) (e :: es) [] pc) pos) (tS C X.K cal XE pin W (.mut i f m cs)) := by
  have hbase : attributeBase rv m.nm X.env (eval rv X.env) = eval rv X.env := by
    cases f with
    | none => rw [show rv = .Name x px from hr]; rfl
    | some f => obtain ⟨p2, rfl⟩ := hr; rfl
  have recv := pe_recv hr hN hv hd hcd
  have he : PE X (.Call (.Attribute rv m.nm pa) (e :: es) [] pc) (tBM X.K "list" (rMu m) (tP X.K i f) (tVs C X.K cal XE cs)) := by
    cases m with
    | app => exact pe_bm PySem.F.plainAttrs_list PySem.F.slot_list_append PySem.F.type_list_append (mt_mu .app) recv ha hbase (few_of hs hl) hline (star_cons (hs e (by simp)) _) (star_any fun y hy => hs y (by simp [hy]))
    | ext => exact pe_bm PySem.F.plainAttrs_list PySem.F.slot_list_extend PySem.F.type_list_extend (mt_mu .ext) recv ha hbase (few_of hs hl) hline (star_cons (hs e (by simp)) _) (star_any fun y hy => hs y (by simp [hy]))
    | ins => exact pe_bm PySem.F.plainAttrs_list PySem.F.slot_list_insert PySem.F.type_list_insert (mt_mu .ins) recv ha hbase (few_of hs hl) hline (star_cons (hs e (by simp)) _) (star_any fun y hy => hs y (by simp [hy]))
  refine PS.imp (ps_expr he rfl) fun D σ H h => ?_
  obtain ⟨F, env, L, R, sr, ho⟩ := h
  simp only [evS] at ho
  split at ho
  case h_2 => exact ho.elim
  rename_i xs0 hp0
  split at ho
  case isFalse => exact ho.elim
  rename_i hq
  obtain ⟨v, l0, hat, r0, _, hsame⟩ := place_at sr hp0
  simp only [RepO] at r0
  obtain ⟨a, vs0, r0', rfl, ha0, t0, rfl⟩ := r0
  refine tP_of na hat ⟨.inl ⟨rfl, vs0, SqL.of ha0⟩, F, env, L, R, sr, ?_⟩
  cases e2 : evs cal cs env with
  | ex c' d' e' => rw [e2] at ho; exact fun F' H' L' p2 => ho F' H' σ L' (Sst.of p2)
  | er => rw [e2] at ho; exact ho
  | ok y =>
    obtain ⟨hs', e1⟩ := y
    rw [e2] at ho
    intro ws F1 H1 L1 T p hx
    simp only [Res.bind] at ho
    split at ho
    case h_2 => exact ho.elim
    rename_i os a0 eo hp1
    split at ho
    case h_2 => exact ho.elim
    rename_i e3 hb
    obtain ⟨a1, hmu, hse⟩ := Option.bind_eq_some_iff.mp hb
    obtain ⟨rl, hlen⟩ := hx.vals eo
    obtain ⟨v2, l, hat2, r, _, nd, fin⟩ := (Sst.of (pin := pin) p).modP hp1
    have ev2 : v2 = V.ref a := hsame H1 (by
      simp only [Bool.or_eq_true, Option.isNone_iff_eq_none] at hq
      rcases hq with z | z
      · exact .inl z
      · exact .inr (p.qt z).2.2) v2 hat2
    subst ev2
    -- the new list at a
    have core : ∀ (xs : List O) (vs : List V) (l' : List Addr), H1 a = some (.lst vs) → RepOL C X.K F1 H1 xs vs l' → l = a :: l' → ∀ (xs2 : List O) (vs2 : List V) (l2 : List Addr), a1 = .ol xs2 → (∀ H2, (∀ b, b ≠ a → H2 b = H1 b) → a ∉ l' ++ T → RepOL C X.K F1 H2 xs2 vs2 l2) → List.Perm l2 (l' ++ T) ∨ List.Sublist l2 (l' ++ T) → D.nx σ (upd H1 a (.lst vs2)) := by
      intro xs vs l' ha1 t el xs2 vs2 l2 ea hrep hper
      subst el ea
      have nda : a ∉ l' ++ T := by
        simp only [List.cons_append, List.nodup_cons] at nd
        exact nd.1
      have ndl : (l' ++ T).Nodup := by
        simp only [List.cons_append, List.nodup_cons] at nd
        exact nd.2
      have sub2 : ∀ b ∈ l2, b ∈ l' ++ T := by
        rcases hper with z | z
        · exact fun b hb => z.mem_iff.mp hb
        · exact fun b hb => z.subset hb
      have nd2 : l2.Nodup := by
        rcases hper with z | z
        · exact (List.Perm.nodup_iff z).mpr ndl
        · exact ndl.sublist z
      obtain ⟨L', q⟩ := fin (upd H1 a (.lst vs2)) (.ol xs2) (a :: l2) e3 (fun b hb => upd_ne fun z => hb (by simp [z])) (by
        simp only [RepO]
        exact ⟨a, vs2, l2, rfl, upd_same, hrep _ (fun b hb => upd_ne hb) nda, rfl⟩) (List.nodup_cons.mpr ⟨fun z => nda (sub2 a z), nd2⟩) (fun b hb => by
        rcases List.mem_cons.mp hb with z | z
        · simp [z]
        · have := sub2 b z
          simp only [List.cons_append, List.mem_cons]
          exact .inr this) hse
      exact ho _ _ _ _ q
    unfold muO at hmu
    split at hmu
    · rename_i xs o
      split at hmu
      case isFalse => cases hmu
      rename_i hline
      cases hmu
      simp only [RepO] at r
      obtain ⟨a', vs, l', e1, ha1, t, rfl⟩ := r
      cases e1
      simp only [RepOL] at rl
      obtain ⟨w, s, l1, l2, rfl, ro, ⟨rfl, rfl⟩, rfl⟩ := rl
      have hline : xs.length + 1 ≤ 16777216 := of_decide_eq_true hline
      refine ⟨a, vs, w, rfl, rfl, ha1, by rw [t.len, sizeLine_eq]; omega, ?_⟩
      exact core xs vs l' ha1 t rfl (xs ++ [o]) (vs ++ [w]) (l' ++ l1) rfl (fun H2 hk hn => RepOL.snoc (RepOL.keep (Le.refl F1) _ _ _ (fun b hb => hk b fun z => hn (by rw [← z]; simp [hb])) t) (RepO.keep (Le.refl F1) _ _ _ (fun b hb => hk b fun z => hn (by rw [← z]; simp [hb])) ro)) (.inl (by simp))
    · rename_i xs i o
      split at hmu
      case isFalse => cases hmu
      rename_i hline
      cases hmu
      simp only [Bool.and_eq_true, decide_eq_true_eq] at hline
      simp only [RepO] at r
      obtain ⟨a', vs, l', e1, ha1, t, rfl⟩ := r
      cases e1
      simp only [RepOL, RepO, RepS] at rl
      obtain ⟨_, s, _, l2, rfl, ⟨rfl, rfl⟩, ⟨w, s2, l3, l4, rfl, ro, ⟨rfl, rfl⟩, rfl⟩, rfl⟩ := rl
      have hl2 : xs.length + 1 ≤ 16777216 := of_decide_eq_true hline.1.1
      refine ⟨a, vs, i, w, rfl, rfl, ha1, by rw [t.len, sizeLine_eq]; omega, hline.1.2, by have := hline.2; omega, ?_⟩
      obtain ⟨la, lb, el, t1, t2⟩ := t.split i.toNat
      subst el
      refine core xs vs (la ++ lb) ha1 t rfl (xs.take i.toNat ++ o :: xs.drop i.toNat) _ (la ++ l3 ++ lb) rfl (fun H2 hk hn => ?_) (.inl ?_)
      · have k1 := RepOL.keep (Le.refl F1) _ _ _ (fun b hb => hk b fun z => hn (by rw [← z]; simp [hb])) t1
        have k2 := RepOL.keep (Le.refl F1) _ _ _ (fun b hb => hk b fun z => hn (by rw [← z]; simp [hb])) t2
        have k3 := RepO.keep (Le.refl F1) _ _ _ (fun b hb => hk b fun z => hn (by rw [← z]; simp [hb])) ro
        have := RepOL.append (RepOL.snoc k1 k3) k2
        simpa using this
      · simp only [List.append_nil, List.append_assoc]
        exact List.Perm.append_left la List.perm_append_comm
    · rename_i xs ys
      split at hmu
      case isFalse => cases hmu
      rename_i hline
      cases hmu
      simp only [RepO] at r
      obtain ⟨a', vs, l', e1, ha1, t, rfl⟩ := r
      cases e1
      simp only [RepOL, RepO] at rl
      obtain ⟨_, s, _, l2, rfl, ⟨b, vs2, lb, rfl, hb, tb, rfl⟩, ⟨rfl, rfl⟩, rfl⟩ := rl
      have hl2 : xs.length + ys.length ≤ 16777216 := of_decide_eq_true hline
      refine ⟨a, b, vs, vs2, rfl, rfl, ha1, hb, by rw [t.len, tb.len, sizeLine_eq]; omega, ?_⟩
      refine core xs vs l' ha1 t rfl (xs ++ ys) (vs ++ vs2) (l' ++ lb) rfl (fun H2 hk hn => ?_) (.inr ?_)
      · exact RepOL.append (RepOL.keep (Le.refl F1) _ _ _ (fun c hc => hk c fun z => hn (by rw [← z]; simp [hc])) t) (RepOL.keep (Le.refl F1) _ _ _ (fun c hc => hk c fun z => hn (by rw [← z]; simp [hc])) tb)
      · simp
    · cases hmu
end
end Cr
end

section
/-! An item taken out of a list; instances made, their methods. -/
namespace Cr
open PySem L2
section
variable {X : Cx} {C : Nat → Addr} {cal : Nat → List O → CRes} {XE : XP} {K : PySem.W.Frag} {pin : List Nat} {W : Nat} {F F' F1 F2 F3 H H' H1 H2 H3 : Hp} {σ σ1 σ2 : St} {env env1 env2 : Env} {L L1 L2 R T T1 T2 : List Addr} {q : Bool} {D : Ends}
theorem RepOL.nthE : ∀ {os : List O} {vs : List V} {l : List Addr} {j : Nat} {o : O}, RepOL C K F H os vs l → os[j]? = some o → ∃ v la lo lb, vs[j]? = some v ∧ l = la ++ (lo ++ lb) ∧ RepO C K F H o v lo ∧ RepOL C K F H (os.eraseIdx j) (vs.eraseIdx j) (la ++ lb)
  | [], vs, l, j, o, r, h => by simp at h
  | o0 :: os, vs, l, 0, o, r, h => by
    simp only [RepOL] at r
    obtain ⟨v, s, l1, l2, rfl, q, t, rfl⟩ := r
    simp only [List.getElem?_cons_zero, Option.some.injEq] at h
    subst h
    exact ⟨v, [], l1, l2, rfl, rfl, q, by simpa using t⟩
  | o0 :: os, vs, l, j + 1, o, r, h => by
    simp only [RepOL] at r
    obtain ⟨v, s, l1, l2, rfl, q, t, rfl⟩ := r
    obtain ⟨w, la, lo, lb, h1, rfl, h3, h4⟩ := RepOL.nthE t (by simpa using h)
    refine ⟨w, l1 ++ la, lo, lb, by simpa using h1, by simp, h3, ?_⟩
    simp only [List.eraseIdx_cons_succ, RepOL]
    exact ⟨v, _, l1, la ++ lb, rfl, q, h4, by simp⟩
theorem s_popi {i : Nat} {x : Str} {px pa pc : Pos} {ix : Expr} {c : CE} (hN : X.N[i]? = some x) (hv : Vis X.env.scope x) (hd : (x == ("__debug__" : Str)) = false) (hcd : (x == ("__classdict__" : Str)) = false) (hi : EV X C cal XE ix c) (hs : noStar ix = true) (hline : (pa.endLine == pc.line) = true) :
    EV X C cal XE (.Call (.Attribute (.Name x px) "pop" pa) [ix] [] pc) (.popi i c) := by
  have hall : ∀ y ∈ [ix], noStar y = true := fun y hy => by rw [show y = ix by simpa using hy]; exact hs
  refine PE.imp (pe_bm PySem.F.plainAttrs_list PySem.F.slot_list_pop PySem.F.type_list_pop mt_popAt (pe_var hN hv hd hcd) (pa_cons hi pa_nil (star_cons hs _)) rfl (few_of hall (by simp)) hline (star_cons hs _) rfl) fun σ H Q hq => ?_
  obtain ⟨F, env, L, R, sr, ho⟩ := hq
  simp only [ev] at ho
  split at ho
  case h_2 => exact ho.elim
  rename_i xs0 hs0
  obtain ⟨v0, La0, l0, Lb0, c0, hσ, r0⟩ := sr.slot hs0
  simp only [RepO] at r0
  obtain ⟨a, vs0, r0', rfl, ha0, t0, rfl⟩ := r0
  refine ⟨_, hσ, .inl ⟨rfl, vs0, SqL.of ha0⟩, one sr ho fun kv F1 H1 e1 L1 T h p hx ho => ?_⟩
  dsimp only at ho
  split at ho
  case h_2 => exact ho.elim
  rename_i k xs hs1
  split at ho
  case h_2 => exact ho.elim
  rename_i j hj
  split at ho
  case h_2 => exact ho.elim
  rename_i o hoj
  split at ho
  case h_2 => exact ho.elim
  rename_i e2 hse
  split at ho
  case isFalse => exact ho.elim
  rename_i hk
  simp only [Bool.and_eq_true, decide_eq_true_eq] at hk
  obtain ⟨hT, hkv⟩ := hx
  have hkv : kv = .int k := hkv
  subst hkv hT
  obtain ⟨hi', rfl⟩ := setS_some hse
  have sr1 : SR C X.K F1 H1 σ e1 L1 R := p.sr
  obtain ⟨v, La, l, Lb, hσ1, r, eL, fin⟩ := sr1.mod hs1
  rw [hσ] at hσ1
  cases hσ1
  simp only [RepO] at r
  obtain ⟨a', vs, r', e0, ha, t, rfl⟩ := r
  cases e0
  obtain ⟨w, la, lo, lb, hw, rfl, ro, rest⟩ := t.nthE hoj
  have sq := ixN_seq hj
  refine ⟨a, vs, k, j, w, rfl, rfl, ha, by omega, by omega, by rw [t.len]; exact sq.1, hw, ?_⟩
  have nd := sr1.nd
  rw [eL] at nd
  have ndl : ((a :: (la ++ (lo ++ lb))) ++ R).Nodup := by
    refine nd.sublist (List.Sublist.append_right ?_ R)
    exact (List.sublist_append_left _ Lb).trans (List.sublist_append_right La _)
  have nda : a ∉ (la ++ (lo ++ lb)) ++ R := by
    simp only [List.cons_append, List.nodup_cons] at ndl
    exact ndl.1
  have ndr : ((la ++ (lo ++ lb)) ++ R).Nodup := by
    simp only [List.cons_append, List.nodup_cons] at ndl
    exact ndl.2
  have off : ∀ b, b ≠ a → upd H1 a (.lst (vs.eraseIdx j)) b = H1 b := fun b hb => upd_ne hb
  have live : ∀ b ∈ L1, H1 b ≠ none := fun b hb => (sr1.fn b (by simp [hb])).2
  have sr2 := fin (upd H1 a (.lst (vs.eraseIdx j))) (.ol (xs.eraseIdx j)) (a :: (la ++ lb)) (lo ++ R) (fun b hb => off b fun z => hb (by simp [z])) (by
    simp only [RepO]
    exact ⟨a, _, _, rfl, upd_same, RepOL.keep (Le.refl F1) _ _ _ (fun b hb => off b fun z => nda (by
      rw [← z]
      simp only [List.mem_append] at hb ⊢
      rcases hb with y | y
      · exact .inl (.inl y)
      · exact .inl (.inr (.inr y)))) rest, rfl⟩) (by
    show (a :: ((la ++ lb) ++ (lo ++ R))).Nodup
    refine List.nodup_cons.mpr ⟨fun z => nda ?_, ?_⟩
    · simp only [List.mem_append] at z ⊢
      rcases z with (z | z) | z | z
      · exact .inl (.inl z)
      · exact .inl (.inr (.inr z))
      · exact .inl (.inr (.inl z))
      · exact .inr z
    · refine (List.Perm.nodup_iff ?_).mp ndr
      simp only [List.append_assoc]
      refine List.Perm.append_left la ?_
      rw [← List.append_assoc, ← List.append_assoc]
      exact List.perm_append_comm.append_right R) (fun b hb => by
    simp only [List.cons_append, List.mem_cons, List.mem_append] at hb ⊢
    rcases hb with z | (z | z) | z | z
    · exact .inl z
    · exact .inr (.inl (.inl z))
    · exact .inr (.inl (.inr (.inr z)))
    · exact .inr (.inl (.inr (.inl z)))
    · exact .inr (.inr z)) (fun b hb hl => by
    by_cases z : b = a
    · subst z; rw [upd_same]; simp
    · rw [off b z]
      exact live b (by rw [eL]; simp only [List.mem_append]; exact .inr (.inl hl)))
  have p2 : Pst C X.K F H σ env L R F1 (upd H1 a (.lst (vs.eraseIdx j))) (e1.set i (some (.ol (xs.eraseIdx j)))) (La ++ ((a :: (la ++ lb)) ++ Lb)) lo false := by
    refine ⟨sr2, p.fe, fun b hb => ?_, fun z => by cases z⟩
    rw [off b fun z => ?_, p.kp b hb]
    subst z
    rcases hb with hb | hb
    · cases e : F b with
      | none => exact hb e
      | some u =>
        have := p.fe b u e
        rw [(sr1.fn b (by rw [eL]; simp)).1] at this
        cases this
    · exact nda (by simp [hb])
  have ro2 : RepO C X.K F1 (upd H1 a (.lst (vs.eraseIdx j))) o w lo := RepO.keep (Le.refl F1) o w lo (fun b hb => off b fun z => nda (by rw [← z]; simp [hb])) ro
  refine ho w F1 _ _ lo p2 ?_
  cases o with
  | fr d => exact ⟨ro2.1, ro2.2⟩
  | _ => exact ro2
end
section
variable {X : Cx} {C : Nat → Addr} {cal : Nat → List O → CRes}
theorem tNil_of {K : PySem.W.Frag} {XE : XP} {σ : St} {H : Hp} {Q : List V → Hp → Prop} (h : tVs C K cal XE [] σ H Q) : tNil σ H Q := by
  obtain ⟨F, env, L, R, sr, ho⟩ := h
  simp only [evs] at ho
  exact ho [] F H L [] ((Pst.refl sr).q_of fun _ => rfl) ⟨rfl, rfl⟩
theorem s_mcall {o : Expr} {m : Str} {apos pos : Pos} {es : List Expr} {c f np k : Nat} {io : List Nat} {a : CE} {cs : List CE} {ad : Addr} {fd : FuncData} {ps : List Str} (cl : Cls X.K (C c)) (hm : Meth X.K (C c) m ad)
    (Fo : FnOk X.prog X.w X.K X.mg X.base (L2.CX X.prog X.w) k ad fd ps (spF C X.K (fun _ => X0) cal f np io)) (hr : Room k X.A) (hb : Binds X.K fd ps []) (ho : EV X C cal X0 o a) (ha : PA X es (tVs C X.K cal X0 cs)) (hlen : cs.length = es.length) (hnp : cs.length + 1 = np)
    (hs : ∀ y ∈ es, noStar y = true) (hbase : attributeBase o m X.env (eval o X.env) = eval o X.env) (hl : es.length < 30) (hline : (apos.endLine == pos.line) = true) : EV X C cal X0 (.Call (.Attribute o m apos) es [] pos) (.mcall m c f io a cs) := by
  have tree := meth_tree (m := m) (apos := apos) (pos := pos) (args := es) hbase (by
    have z := few_of (cpos := pos) (env := X.env) hs hl
    unfold methodCallForm
    rw [show backToKw pos (keywordEach [] X.env) = [] from rfl] at z ⊢
    simpa using z) hline
  cases es with
  | nil =>
    cases cs with
    | cons _ _ => cases hlen
    | nil =>
      refine PE.imp (pe_meth0 ho cl hm Fo hr hb .nil passL tree) fun σ H Q hq => ?_
      have h1 := meth_core (E := E0) (xe := fun _ => X0) hnp hq
      obtain ⟨F, env, L, R, sr, ho⟩ := h1
      refine ⟨F, env, L, R, sr, ?_⟩
      cases e : ev cal a env with
      | ok y =>
        rw [e] at ho
        intro v F' H' L' T p hx
        obtain ⟨b, dx, fs, e1, e2, e3, e4⟩ := ho v F' H' L' T p hx
        exact ⟨b, dx, fs, e1, e2, e3, tNil_of e4⟩
      | ex _ _ _ => rw [e] at ho; exact ho
      | er => rw [e] at ho; exact ho
  | cons e es =>
    exact PE.imp (pe_meth ho cl hm Fo hr hb .nil passL ha (star_cons (hs e (by simp)) _) (star_any fun y hy => hs y (by simp [hy])) tree) fun σ H Q hq => meth_core (E := E0) (xe := fun _ => X0) hnp hq
theorem s_mk {x : Str} {p pos : Pos} {es : List Expr} {c f np k : Nat} {cs : List CE} {ad : Addr} {fd : FuncData} {ps : List Str} (M : Mk X.K (C c) ad)
    (Fo : FnOk X.prog X.w X.K X.mg X.base (L2.CX X.prog X.w) k ad fd ps (spF C X.K (fun _ => X0) cal f np [0])) (hr : Room (k + 1) X.A) (hg : Gl X x) (hmg : X.mg x = some (.ref (C c))) (hb : Binds X.K fd ps []) (ha : PA X es (tVs C X.K cal X0 cs)) (hlen : cs.length = es.length) (hnp : cs.length + 1 = np)
    (hs : ∀ y ∈ es, noStar y = true) (hdb : (x == ("__debug__" : Str)) = false) : EV X C cal X0 (.Call (.Name x p) es [] pos) (.mk c f cs) := by
  cases es with
  | nil =>
    cases cs with
    | cons _ _ => cases hlen
    | nil =>
      refine PE.imp (pe_make0 M Fo hr hg hmg hb .nil passL hdb) fun σ H Q hq => ?_
      exact tNil_of (mk_core (E := E0) (xe := fun _ => X0) hnp hq)
  | cons e es =>
    exact PE.imp (pe_make M Fo hr hg hmg hb .nil passL ha hdb (star_cons (hs e (by simp)) _) (star_any fun y hy => hs y (by simp [hy]))) fun σ H Q hq => mk_core (E := E0) (xe := fun _ => X0) hnp hq
end
end Cr
end

section
/-! A walk over a dict's pairs. -/
namespace Cr
open PySem L2
theorem PS.or {X : Cx} {st : Stmt} {t t' : TS} (h : PS X st t) (h' : PS X st t') : PS X st (fun D σ H => t D σ H ∨ t' D σ H) := ⟨fun pins s σ H D I q => q.elim (h.run pins s σ H D I) (h'.run pins s σ H D I)⟩
section
variable {X : Cx} {C : Nat → Addr} {cal : Nat → List O → CRes} {XE : XP} {K : PySem.W.Frag} {pin : List Nat} {W : Nat} {F F' F1 F2 F3 H H' H1 H2 H3 : Hp} {σ σ1 σ2 : St} {env env1 env2 : Env} {L L1 L2 R T T1 T2 : List Addr} {q : Bool} {D : Ends}
theorem for_loop {t : Tg} {cb : List CS} {J : It} {ds : List Cr.D} {f : Cr.D → Env → Res (Fl × Env)} (hf : (fun d e => match t.bind d e with
        | some e => evSs cal W cb e
        | none => .er : Cr.D → Env → Res (Fl × Env)) = f) (hpin : ∀ i ∈ t.slots, i ∉ pin) (sr1 : SR C K F1 H1 σ env1 L1 R) (ho : OutB C K XE pin F1 H1 σ env1 L1 R (forL f ds env1) D)
    (it : ∀ F2 H2, Sub F1 F2 → Le F2 H2 → (∀ a, F1 a ≠ none → H2 a = H1 a) → ∀ i, (i < ds.length → J.go i H2) ∧ (ds.length ≤ i → J.stop i H2) ∧
      ∀ x H3, i < ds.length → J.yld i H2 x H3 → ∃ F3 d, New F2 H2 F3 H3 [] ∧ ds[i]? = some d ∧ RepS C K F3 d x) :
    ∃ Wl : Nat → Nat → St → Hp → Prop, (∃ m, Wl 0 m σ H1) ∧ ∀ i m σ H, Wl i m σ H →
      (J.stop i H ∧ D.nx σ H) ∨ (J.go i H ∧ ∃ N : St → Hp → Prop, (∀ σ' H', N σ' H' → ∃ m', m' < m ∧ Wl (i + 1) m' σ' H') ∧ ∀ x H', J.yld i H x H' → tTg C K t x σ H' fun σ2 H2 => tSs C K cal XE pin W cb { D with nx := N, ct := N, bk := D.nx } σ2 H2) := by
  refine ⟨fun i m σ' H' => m = ds.length - i ∧ i ≤ ds.length ∧ ∃ F' env' L', Sst C K pin F1 H1 σ env1 L1 R F' H' σ' env' L' [] ∧ OutB C K XE pin F' H' σ' env' L' R (forL f (ds.drop i) env') D, ⟨_, rfl, Nat.zero_le _, F1, env1, L1, Sst.refl sr1, ho⟩, ?_⟩
  rintro i m σ' H' ⟨rfl, hle, F', env', L', s', ho'⟩
  have itI := it F' H' s'.fe s'.sr.le (fun a ha => s'.kp a (.inl ha)) i
  by_cases hi : i < ds.length
  · right
    refine ⟨itI.1 hi, fun σ2 H2 => i + 1 ≤ ds.length ∧ ∃ F' env' L', Sst C K pin F1 H1 σ env1 L1 R F' H2 σ2 env' L' [] ∧ OutB C K XE pin F' H2 σ2 env' L' R (forL f (ds.drop (i + 1)) env') D, fun σ2 H2 n => ⟨_, by omega, rfl, n⟩, fun v H3 hy => ?_⟩
    obtain ⟨F3, d, n3, hd, rd⟩ := itI.2.2 v H3 hi hy
    have s3 := s'.new n3
    have hdrop : ds.drop i = d :: ds.drop (i + 1) := by
      obtain ⟨h1, h2⟩ := List.getElem?_eq_some_iff.mp hd
      rw [← h2]
      exact List.drop_eq_getElem_cons h1
    rw [hdrop] at ho'
    simp only [forL] at ho'
    have ho3 := OutB.pre ho' (Sst.new (Sst.refl (pin := pin) s'.sr) n3)
    rw [← hf] at ho3
    dsimp only at ho3
    rw [hf] at ho3
    cases hb1 : t.bind d env' with
    | none => rw [hb1] at ho3; exact ho3.elim
    | some eb =>
      rw [hb1] at ho3
      dsimp only at ho3
      refine ⟨F3, env', L', R, d, eb, s3.sr, rd, hb1, fun σ2 L2 s2 hsub hpoor hbut => ?_⟩
      have st2 : Sst C K pin F3 H3 σ' env' L' R F3 H3 σ2 eb L2 [] := ⟨s2, Sub.refl F3, fun _ _ => rfl, fun j hj => hbut.2 j fun z => hpin j z hj⟩
      have ho4 := OutB.pre ho3 st2
      have s4 := s3.trans st2
      refine ⟨F3, eb, L2, R, s2, ?_⟩
      cases hbd : evSs cal W cb eb with
      | ex c d e => rw [hbd] at ho4; exact ho4
      | er => rw [hbd] at ho4; exact ho4
      | ok x =>
        obtain ⟨fl, e2⟩ := x
        rw [hbd] at ho4
        cases fl with
        | next => exact fun F5 H5 σ5 L5 p5 => ⟨hi, F5, e2, L5, s4.trans p5, OutB.pre ho4 p5⟩
        | cont => exact fun F5 H5 σ5 L5 p5 => ⟨hi, F5, e2, L5, s4.trans p5, OutB.pre ho4 p5⟩
        | brk => exact ho4
        | ret o => exact ho4
  · left
    have hi : i = ds.length := by omega
    refine ⟨itI.2.1 (by omega), ?_⟩
    rw [hi, List.drop_length] at ho'
    simp only [forL] at ho'
    exact ho' F' H' σ' L' (Sst.refl s'.sr)
/-- a dict that stands still is locked -/
theorem le_lock {d : Addr} {od : Obj} {kvs : List (Key × V)} (le : Le F H) (hF : F d = some (.dK kvs)) (h : H d = some (.dK kvs)) : Le F (upd H d (.frz od (.dK kvs))) := fun a u e => by
  by_cases z : a = d
  · subst z
    rw [hF] at e
    cases e
    exact .inr ⟨⟨kvs, rfl⟩, od, upd_same⟩
  · rw [upd_ne z]; exact le a u e
theorem le_unlock {d : Addr} {u : HO} (le : Le F H) (hF : F d = some u) : Le F (upd H d u) := fun a w e => by
  by_cases z : a = d
  · subst z
    rw [hF] at e
    cases e
    exact .inl upd_same
  · rw [upd_ne z]; exact le a w e
theorem SR.off {d : Addr} {u w : HO} (sr : SR C K F H σ env L R) (hF : F d = some w) (le : Le F (upd H d u)) : SR C K F (upd H d u) σ env L R := by
  have hd : ∀ a ∈ L ++ R, a ≠ d := fun a ha z => by
    have := (sr.fn a ha).1
    rw [z, hF] at this
    cases this
  refine ⟨le, RepE.keep (Le.refl F) (fun a ha => upd_ne (hd a (by simp [ha]))) sr.rep, sr.nd, fun a ha => ?_⟩
  rw [upd_ne (hd a ha)]
  exact sr.fn a ha
theorem Sst.unlock {d : Addr} {od : Obj} {kvs : List (Key × V)} (hF : F d = some (.dK kvs)) (h : H d = some (.dK kvs)) (p : Sst C K pin F (upd H d (.frz od (.dK kvs))) σ env L R F1 H1 σ1 env1 L1 T) :
    H1 d = some (.frz od (.dK kvs)) ∧ Sst C K pin F H σ env L R F1 (upd H1 d (.dK kvs)) σ1 env1 L1 T := by
  have h1 : H1 d = some (.frz od (.dK kvs)) := by rw [p.kp d (.inl (by rw [hF]; simp))]; exact upd_same
  have hF1 := p.fe _ _ hF
  refine ⟨h1, SR.off p.sr hF1 (le_unlock p.sr.le hF1), p.fe, fun a ha => ?_, p.pn⟩
  by_cases z : a = d
  · subst z; rw [upd_same, h]
  · rw [upd_ne z, p.kp a ha, upd_ne z]
/-- what is wanted of an exception stays where a lock falls -/
def XKeep (XE : XP) : Prop := ∀ c d H a o u, H a = some (.frz o u) → XE c d (upd H a u) → XE c d H
theorem OutB.lock {d : Addr} {od : Obj} {kvs : List (Key × V)} {res : Res (Fl × Env)} (hX : XKeep XE) (hF : F d = some (.dK kvs)) (h : H d = some (.dK kvs)) (ho : OutB C K XE pin F H σ env L R res D) :
    OutB C K XE pin F (upd H d (.frz od (.dK kvs))) σ env L R res ⟨fun σ' H' => H' d = some (.frz od (.dK kvs)) ∧ D.nx σ' (upd H' d (.dK kvs)), fun v H' => H' d = some (.frz od (.dK kvs)) ∧ D.rt v (upd H' d (.dK kvs)), fun σ' H' => H' d = some (.frz od (.dK kvs)) ∧ D.bk σ' (upd H' d (.dK kvs)), fun σ' H' => H' d = some (.frz od (.dK kvs)) ∧ D.ct σ' (upd H' d (.dK kvs))⟩ := by
  match res with
  | .ok (.next, e') => exact fun F' H' σ' L' p => ⟨(p.unlock hF h).1, ho _ _ _ _ (p.unlock hF h).2⟩
  | .ok (.brk, e') => exact fun F' H' σ' L' p => ⟨(p.unlock hF h).1, ho _ _ _ _ (p.unlock hF h).2⟩
  | .ok (.cont, e') => exact fun F' H' σ' L' p => ⟨(p.unlock hF h).1, ho _ _ _ _ (p.unlock hF h).2⟩
  | .ok (.ret o, e') => exact fun v F' H' σ' L' T p r => ⟨(p.unlock hF h).1, ho v _ _ _ _ T (p.unlock hF h).2 (RepO.keep (Le.refl F') o v T (fun a ha => upd_ne fun z => by
      have := (p.sr.fn a (by simp [ha])).1
      rw [z, p.fe _ _ hF] at this
      cases this) r)⟩
  | .ex c d' e' => exact fun F' H' σ' L' p => hX c d' H' d od _ (p.unlock hF h).1 (ho _ _ _ _ (p.unlock hF h).2)
  | .er => exact ho.elim
theorem RepSK.len : ∀ {l : List (Key × Cr.D)} {vs : List (Key × V)}, RepSK C K F l vs → vs.length = l.length
  | [], vs, r => by simp only [RepSK] at r; rw [r]; rfl
  | (k, d) :: l, vs, r => by
    simp only [RepSK] at r
    obtain ⟨v, s, rfl, _, t⟩ := r
    simp [RepSK.len t]
theorem RepSK.nth : ∀ {l : List (Key × Cr.D)} {vs : List (Key × V)} {i : Nat} {k : Key} {v : V}, RepSK C K F l vs → vs[i]? = some (k, v) → ∃ d, l[i]? = some (k, d) ∧ RepS C K F d v
  | [], vs, i, k, v, r, h => by simp only [RepSK] at r; rw [r] at h; simp at h
  | (k0, d0) :: l, vs, 0, k, v, r, h => by
    simp only [RepSK] at r
    obtain ⟨v0, s, rfl, q, _⟩ := r
    simp only [List.getElem?_cons_zero, Option.some.injEq, Prod.mk.injEq] at h
    obtain ⟨rfl, rfl⟩ := h
    exact ⟨d0, rfl, q⟩
  | (k0, d0) :: l, vs, i + 1, k, v, r, h => by
    simp only [RepSK] at r
    obtain ⟨v0, s, rfl, _, t⟩ := r
    have := RepSK.nth (l := l) (i := i) t (by simpa using h)
    simpa using this
theorem keyB_rep {F : Hp} {k : Key} (h : keyOk k = true) : RepS C K F (keyB k) (kV k) := by
  cases k with
  | inl i => simp [keyB, RepS, kV]
  | inr s =>
    simp only [keyOk, lineOk, Bool.and_eq_true, decide_eq_true_eq] at h
    simp only [keyB, RepS]
    exact ⟨rfl, by rw [sizeLine_eq]; exact h.1, h.2⟩
theorem itemsOf_at {i : Nat} {f : Option Str} {kvs : List (Key × Cr.D)} (sr : SR C K F H σ env L R) (h : itemsOf env i f = some kvs) : ∃ d vs, AtP C σ H i f (.ref d) ∧ Rd F d (.dK vs) ∧ RepSK C K F kvs vs := by
  unfold itemsOf at h
  split at h
  · rename_i l e
    cases h
    obtain ⟨v, La, l', Lb, c, hv, r⟩ := sr.slot e
    simp only [RepO, RepS] at r
    obtain ⟨_, a, vs, rfl, q, t⟩ := r
    exact ⟨a, vs, hv, q, t⟩
  · rename_i c fs f e
    split at h
    case h_2 => cases h
    rename_i l hl
    cases h
    obtain ⟨v, La, l', Lb, cc, hv, r⟩ := sr.slot e
    simp only [RepO, RepS] at r
    obtain ⟨_, a, dx, vs, rfl, q, t⟩ := r
    obtain ⟨w, hw, rw'⟩ := RepSF.val t hl
    simp only [RepS] at rw'
    obtain ⟨b, ks, rfl, q2, t2⟩ := rw'
    exact ⟨b, ks, ⟨a, c, dx, vs, hv, sr.le.at q (fun _ z => by cases z), hw⟩, q2, t2⟩
  · cases h
theorem b_forI {fz : Bool} {i : Nat} {f : Option Str} {x : Str} {px pa pc pos : Pos} {rv : Expr} {elts : List Expr} {kk : Nat} {tpos : Pos} {body : List Stmt} {t : Tg} {cb : List CS} (hX : XKeep XE) (hp : PassesOwn (model X.prog X.w) X.A X.env X.xe) (hc : X.calm = true)
    (na : ∀ g, f = some g → ∀ c, Cls X.K (C c) ∧ NoAttr X.K (C c) g) (hr : IsRecv x px f rv) (hN : X.N[i]? = some x) (hv : Vis X.env.scope x) (hd : (x == ("__debug__" : Str)) = false) (hcd : (x == ("__classdict__" : Str)) = false)
    (hbase : attributeBase rv "items" X.env (eval rv X.env) = eval rv X.env) (hline : (pa.endLine == pc.line) = true) (hg : PG X (.Tuple elts kk tpos) (tTg C X.K t)) (hb : PSs X body (tSs C X.K cal XE pin W cb))
    (hs : ∀ y, foldedSetIterable (.Call (.Attribute rv "items" pa) [] [] pc) X.env y = pure y) (hpin : ∀ i ∈ t.slots, i ∉ pin) :
    PS X (.For (.Tuple elts kk tpos) (.Call (.Attribute rv "items" pa) [] [] pc) body [] pos) (tS C X.K cal XE pin W (.forI fz i f t cb)) := by
  have base := ps_for (pos := pos) hp hc (pi_items (elts := elts) (kk := kk) (tpos := tpos) (cpos := pc) (apos := pa) (pe_recv hr hN hv hd hcd) hbase hline) hg hb hs
  refine PS.imp (PS.or base (ps_lock base)) fun D σ H h => ?_
  obtain ⟨F, env, L, R, sr, ho⟩ := h
  simp only [evS] at ho
  have hz : ∃ F env L e1, SR C X.K F H σ env L R ∧ e1 = env ∧ OutB C X.K XE pin F H σ env L R (match itemsOf e1 i f with
      | some kvs => if keysOk kvs then forL (fun d e => match t.bind d e with
          | some e => evSs cal W cb e
          | none => .er) (kvs.map itemD) e1 else .er
      | none => .er) D := by
    cases fz with
    | false => exact ⟨F, env, L, env, sr, rfl, ho⟩
    | true =>
      simp only [if_true] at ho
      split at ho
      case h_2 => exact ho.elim
      rename_i e1 hfz
      unfold frzS at hfz
      split at hfz
      case h_2 => cases hfz
      rename_i o hso
      cases hfz
      obtain ⟨v, F', L', _, _, p⟩ := sr.freeze hso
      exact ⟨F', _, L', _, p.sr, rfl, OutB.pre ho (Sst.of p)⟩
  clear sr ho
  obtain ⟨F, env, L, e1, sr, rfl, ho⟩ := hz
  split at ho
  case h_2 => exact ho.elim
  rename_i kvs hit
  split at ho
  case isFalse => exact ho.elim
  rename_i hko
  obtain ⟨d, vs, hat, hrd, hrk⟩ := itemsOf_at sr hit
  generalize hf : (fun d e => match t.bind d e with
        | some e => evSs cal W cb e
        | none => .er : Cr.D → Env → Res (Fl × Env)) = g at ho
  have main : ∀ (H : Hp) (o : Obj) (D : Ends), SR C X.K F H σ e1 L R → AtP C σ H i f (.ref d) → H d = some (.frz o (.dK vs)) → OutB C X.K XE pin F H σ e1 L R (forL g (kvs.map itemD) e1) D → tFor (iItems (tP X.K i f)) (tTg C X.K t) (tSs C X.K cal XE pin W cb) D σ H := by
    intro H o D sr hat hH ho
    refine tP_of na hat ⟨d, o, vs, rfl, hH, ?_⟩
    refine for_loop hf hpin sr ho fun F2 H2 hs2 le2 kp2 j => ?_
    have h2 : H2 d = some (.frz o (.dK vs)) := by
      rw [kp2 d (by rcases hrd with z | ⟨_, z⟩ <;> rw [z] <;> simp), hH]
    rw [List.length_map, ← RepSK.len hrk]
    refine ⟨fun hj => ⟨h2, hj⟩, fun hj => ⟨h2, hj⟩, fun y H3 hj hy => ?_⟩
    obtain ⟨T, k, v, hk, rfl, hT, rfl⟩ := hy
    obtain ⟨dd, hdd, rd⟩ := RepSK.nth hrk hk
    have n := New.tup (vs := [kV k, v]) le2 hT
    have hkk : keyOk k = true := by
      have := List.all_eq_true.mp hko (k, dd) (List.mem_of_getElem? hdd)
      exact this
    refine ⟨_, itemD (k, dd), n, by rw [List.getElem?_map, hdd]; rfl, ?_⟩
    simp only [itemD, RepS]
    refine ⟨T, _, rfl, .inl (.inl upd_same), ?_⟩
    simp only [RepSL]
    exact ⟨kV k, _, rfl, keyB_rep hkk, v, [], rfl, RepS.le (hs2.trans n.fe).le _ _ rd, rfl⟩
  rcases hrd with hF | ⟨o, hF⟩
  · rcases sr.le _ _ hF with hH | ⟨_, o, hH⟩
    · right
      refine ⟨d, _, hH, trivial, fun od => main _ od _ (SR.off sr hF (le_lock sr.le hF hH)) ?_ upd_same (OutB.lock hX hF hH ho)⟩
      cases f with
      | none => exact hat
      | some f =>
        obtain ⟨a, c, dx, fs, h1, h2, h3⟩ := hat
        refine ⟨a, c, dx, fs, h1, ?_, h3⟩
        rw [upd_ne (fun z => ?_)]
        · exact h2
        · rw [z, hH] at h2; cases h2
    · exact .inl (main H o D sr hat hH ho)
  · exact .inl (main H o D sr hat (sr.le.at hF (fun _ z => by cases z)) ho)
end

end Cr
end

section
/-! Three names at once. -/
namespace Cr
open PySem L2
section
variable {X : Cx} {C : Nat → Addr} {cal : Nat → List O → CRes} {XE : XP} {K : PySem.W.Frag} {pin : List Nat} {W : Nat} {F F' F1 F2 F3 H H' H1 H2 H3 : Hp} {σ σ1 σ2 : St} {env env1 env2 : Env} {L L1 L2 R T T1 T2 : List Addr} {q : Bool} {D : Ends}
theorem vals3 {a b c : CE} {k : Hd → Hd → Hd → Env → Res (Fl × Env)} {Q : List V → Hp → Prop} (sr : SR C K F H σ env L R) (hout : OutB C K XE pin F H σ env L R ((ev cal a env).bind fun x => (ev cal b x.2).bind fun y => (ev cal c y.2).bind fun z => k x.1 y.1 z.1 z.2) D)
    (fin : ∀ x y z F2 H2 e2 L2 Ta Tb Tc ha hb hc, Sst C K pin F H σ env L R F2 H2 σ e2 L2 (Ta ++ (Tb ++ Tc)) → (ha.isQ = false → HX C K F2 H2 σ L2 Ta ha x) → (hb.isQ = false → HX C K F2 H2 σ L2 Tb hb y) → HX C K F2 H2 σ L2 Tc hc z → OutB C K XE pin F H σ env L R (k ha hb hc e2) D → Q [x, y, z] H2) : tVs C K cal XE [a, b, c] σ H Q := by
  refine ⟨F, env, L, R, sr, ?_⟩
  simp only [evs]
  cases h1 : ev cal a env with
  | ok x =>
    rw [h1] at hout
    simp only [Res.bind] at hout ⊢
    cases h2 : ev cal b x.2 with
    | ok y =>
      rw [h2] at hout
      simp only [Res.bind] at hout ⊢
      cases h3 : ev cal c y.2 with
      | ok z =>
        rw [h3] at hout
        intro vs F2 H2 L2 T p hx
        obtain ⟨v, r, T0, Tr, rfl, rfl, hx1, w, r', T1, Tr', rfl, rfl, hx2, u, r'', T2, Tr'', rfl, rfl, hx3, rfl, rfl⟩ := hx
        simp only [List.append_nil] at p
        exact fin v w u F2 H2 _ L2 T0 T1 T2 x.1 y.1 z.1 (Sst.of p) (fun z => hx1 (by simp [z])) (fun z => hx2 (by simp [z])) (hx3 (by simp [quietL])) hout
      | ex c d e => rw [h3] at hout; exact fun F' H' L' p => hout F' H' σ L' (Sst.of p)
      | er => rw [h3] at hout; exact hout
    | ex c d e => rw [h2] at hout; exact fun F' H' L' p => hout F' H' σ L' (Sst.of p)
    | er => rw [h2] at hout; exact hout
  | ex c d e => rw [h1] at hout; exact fun F' H' L' p => hout F' H' σ L' (Sst.of p)
  | er => rw [h1] at hout; exact hout
theorem b_par3 {i j l : Nat} {x y z : Str} {a b c : Expr} {ca cb cc : CE} {px py pz pt pos : Pos} {kt k2 pt2} (hc : X.calm = true) (hN : X.N.Nodup) (hi : X.N[i]? = some x) (hj : X.N[j]? = some y) (hl : X.N[l]? = some z) (hij : i ≠ j) (hil : i ≠ l) (hjl : j ≠ l) (hpi : i ∉ pin) (hpj : j ∉ pin) (hpl : l ∉ pin)
    (hx : X.env.scope.names.lookup x = some .local) (hy : X.env.scope.names.lookup y = some .local) (hz : X.env.scope.names.lookup z = some .local) (ha : PA X [a, b, c] (tVs C X.K cal XE [ca, cb, cc]))
    (hw : swappedStores [.Tuple [.Name x px, .Name y py, .Name z pz] kt pt] (.Tuple [a, b, c] k2 pt2) X.env = pure (some [x, y, z]))
    (hs : swapsWithSole [.Tuple [.Name x px, .Name y py, .Name z pz] kt pt] (.Tuple [a, b, c] k2 pt2) pos.line X.env = pure false) :
    PS X (.Assign [.Tuple [.Name x px, .Name y py, .Name z pz] kt pt] (.Tuple [a, b, c] k2 pt2) pos) (tS C X.K cal XE pin W (.par3 i j l ca cb cc)) :=
  PS.imp (ps_par3 hc hN hi hj hl hij hil hjl hx hy hz ha hw hs) fun D σ H h => by
    obtain ⟨F, env, L, R, sr, ho⟩ := h
    simp only [evS] at ho
    refine vals3 (k := fun ha hb hc e => match ha.val, hb.val, hc.val with
      | some x, some y, some z => match (setS e i x).bind fun e => (setS e j y).bind fun e => setS e l z with
        | some e => .ok (.next, e)
        | none => .er
      | _, _, _ => .er) sr ho fun v w u F2 H2 e2 L2 Ta Tb Tc ha hb hc' p hxa hxb hxc ho => ?_
    split at ho
    case h_2 => exact ho.elim
    rename_i oa ob oc ea eb ec
    split at ho
    case h_2 => exact ho.elim
    rename_i e3 hse
    obtain ⟨e4, hs1, hs2⟩ := Option.bind_eq_some_iff.mp hse
    obtain ⟨e5, hs3, hs4⟩ := Option.bind_eq_some_iff.mp hs2
    obtain ⟨hl1, rfl⟩ := setS_some hs1
    obtain ⟨hl2, rfl⟩ := setS_some hs3
    obtain ⟨hl3, rfl⟩ := setS_some hs4
    refine ⟨v, w, u, rfl, ?_⟩
    have s1 := p.sr
    rw [List.append_assoc, List.append_assoc] at s1
    obtain ⟨L3, s3⟩ := s1.put hl1 (hval (hxa (val_q ea)) ea)
    obtain ⟨L4, s4⟩ := s3.put hl2 (hval (hxb (val_q eb)) eb)
    obtain ⟨L5, s5⟩ := s4.put hl3 (hval hxc ec)
    refine ho _ _ _ _ ⟨s5, p.fe, p.kp, fun n hn => ?_⟩
    rw [List.getElem?_set_ne (fun z : l = n => hpl (z ▸ hn)), List.getElem?_set_ne (fun z : j = n => hpj (z ▸ hn)), List.getElem?_set_ne (fun z : i = n => hpi (z ▸ hn))]
end
end Cr
end

section
/-! Methods that look; sorted(d); comprehensions over dicts; dict comprehensions. -/
namespace Cr
open PySem L2
/-- xs.count(y), flat items -/
def rCntF (K : PySem.W.Frag) : V → List V → Hp → VK → Prop := fun x xs H Q => ∃ (a : Addr) (ys : List V) (y : V), x = V.ref a ∧ xs = [y] ∧ SqL K H a ys ∧ flatV y = true ∧ ys.all flatV = true ∧ Q (.int (ys.countP fun z => eqV z y : Nat)) H
theorem eqU_count {y : V} : ∀ {ys : List V} {its : List Value}, Vals ys its → ys.all flatV = true → its.countP (eqU y) = ys.countP fun z => eqV z y
  | [], its, r, _ => by cases r; rfl
  | z :: ys, its, r, f => by
    cases r with
    | cons r1 r2 =>
      rw [List.all_cons, Bool.and_eq_true] at f
      rw [List.countP_cons, List.countP_cons, eqU_count r2 f.2, eqU_of r1 f.1]
theorem mt_countF {X : Cx} : MtR X "list.count" (rCntF X.K) := by
  intro pins s σ H x xs v us Q I rx rxs h
  obtain ⟨a, ys, y, rfl, rfl, hs, fy, fys, q⟩ := h
  cases rx
  cases rxs with
  | cons ry rt =>
    rename_i uy ut
    cases rt
    obtain ⟨its, rv, ⟨⟨cls, dd, data, sl⟩, n, ho, hc, hdn, hd⟩, hlen⟩ := I.list hs
    simp only at hc hd
    subst hc hd
    refine call_meets PySem.F.slot_list_count ⟨_, ho, rfl⟩ PySem.F.entry_list_count (PySem.F.args_list_count_2 _ _)
      (SeqAt.list_countAt a its.toArray n dd sl uy (eqU y)) ⟨ho, fun u' hu' => mem_eqAt ry fy rv fys u' (by simpa using hu'), ?_⟩
    have ec : its.toArray.toList.countP (eqU y) = ys.countP fun z => eqV z y := eqU_count rv fys
    refine ⟨.int ((ys.countP fun z => eqV z y : Nat) : Int), H, I.tok _, ⟨s.toks, ?_⟩, q⟩
    rw [ec]
section
variable {X : Cx} {C : Nat → Addr} {cal : Nat → List O → CRes} {XE : XP} {K : PySem.W.Frag} {pin : List Nat} {W : Nat} {F F' F1 F2 F3 H H' H1 H2 H3 : Hp} {σ σ1 σ2 : St} {env env1 env2 : Env} {L L1 L2 R T T1 T2 : List Addr} {q q1 q2 : Bool}
theorem rep_kget {l : List (Key × D)} {k : Key} : ∀ {vs : List (Key × V)}, RepSK C K F l vs → (∀ d, kget l k = some d → ∃ v, valV vs k = some v ∧ RepS C K F d v) ∧ (kget l k = none → valV vs k = none) := by
  induction l with
  | nil =>
    intro vs r
    simp only [RepSK] at r
    subst r
    exact ⟨fun d h => by simp [kget] at h, fun _ => rfl⟩
  | cons p l ih =>
    intro vs r
    obtain ⟨k0, d0⟩ := p
    simp only [RepSK] at r
    obtain ⟨v, s, rfl, q, t⟩ := r
    have i := ih t
    by_cases e : k0 = k
    · subst e
      refine ⟨fun d h => ?_, fun h => ?_⟩
      · simp [kget] at h
        subst h
        exact ⟨v, by simp [valV], q⟩
      · simp [kget] at h
    · have e1 : kget ((k0, d0) :: l) k = kget l k := by simp [kget, e]
      have e2 : valV ((k0, v) :: s) k = valV s k := by simp [valV, e]
      rw [e1, e2]
      exact i
theorem rep_kgetO {l : List (Key × O)} {k : Key} : ∀ {vs : List (Key × V)} {ls : List Addr}, RepOK C K F H l vs ls → (∀ d, kget l k = some (.fr d) → ∃ v, valV vs k = some v ∧ RepS C K F d v) ∧ (kget l k = none → valV vs k = none) := by
  induction l with
  | nil =>
    intro vs ls r
    simp only [RepOK] at r
    rw [r.1]
    exact ⟨fun d h => by simp [kget] at h, fun _ => rfl⟩
  | cons p l ih =>
    intro vs ls r
    obtain ⟨k0, d0⟩ := p
    simp only [RepOK] at r
    obtain ⟨v, s, l1, l2, rfl, q, t, rfl⟩ := r
    have i := ih t
    by_cases e : k0 = k
    · subst e
      refine ⟨fun d h => ?_, fun h => ?_⟩
      · simp [kget] at h
        subst h
        exact ⟨v, by simp [valV], q.2⟩
      · simp [kget] at h
    · have e1 : kget ((k0, d0) :: l) k = kget l k := by simp [kget, e]
      have e2 : valV ((k0, v) :: s) k = valV s k := by simp [valV, e]
      rw [e1, e2]
      exact i
theorem flat_cnt {y : D} {w : V} (hy : flatD y = true) (ry : RepS C K F y w) : ∀ {ds : List D} {vs : List V}, ds.all flatD = true → RepSL C K F' ds vs → vs.all flatV = true ∧ (vs.countP fun z => eqV z w) = ds.countP fun z => eqD z y
  | [], vs, h, r => by
    simp only [RepSL] at r
    subst r
    exact ⟨rfl, rfl⟩
  | d :: ds, vs, h, r => by
    simp only [RepSL] at r
    obtain ⟨v, s, rfl, q, t⟩ := r
    rw [List.all_cons, Bool.and_eq_true] at h
    obtain ⟨a, b⟩ := flat_cnt hy ry h.2 t
    exact ⟨by simp only [List.all_cons, flat_v h.1 q, a, Bool.and_self], by rw [List.countP_cons, List.countP_cons, b, flat_eq h.1 hy q ry]⟩
theorem flat_idx {y : D} {w : V} (hy : flatD y = true) (ry : RepS C K F y w) : ∀ {ds : List D} {vs : List V} {j : Nat}, ds.all flatD = true → RepSL C K F' ds vs → ds.findIdx? (fun z => eqD z y) = some j → ∃ z, vs[j]? = some z ∧ eqV z w = true ∧ ∀ (m : Nat) (z' : V), m < j → vs[m]? = some z' → eqV z' w = false
  | [], vs, j, h, r, hj => by simp at hj
  | d :: ds, vs, j, h, r, hj => by
    simp only [RepSL] at r
    obtain ⟨v, s, rfl, q, t⟩ := r
    rw [List.all_cons, Bool.and_eq_true] at h
    rw [List.findIdx?_cons] at hj
    have e := flat_eq h.1 hy q ry
    cases hd : eqD d y with
    | true =>
      rw [hd] at hj
      simp only [if_true, Option.some.injEq] at hj
      subst hj
      exact ⟨v, rfl, by rw [e, hd], fun m z' hm => absurd hm (by omega)⟩
    | false =>
      rw [hd] at hj
      simp only [Bool.false_eq_true, if_false] at hj
      obtain ⟨j', hj', rfl⟩ := Option.map_eq_some_iff.mp hj
      obtain ⟨z, h1, h2, h3⟩ := flat_idx hy ry h.2 t hj'
      refine ⟨z, by simpa using h1, h2, fun m z' hm hz => ?_⟩
      cases m with
      | zero =>
        simp only [List.getElem?_cons_zero, Option.some.injEq] at hz
        subst hz
        rw [e, hd]
      | succ m => exact h3 m z' (by omega) (by simpa using hz)
/-- what the two parts of a method that looks have come to -/
theorem bm_look {m : Bm} {a b : CE} {Q : VK} {P1 : V → Hp → Prop} {Q2 : V → V → Hp → Prop} (sr : SR C K F H σ env L R) (hout : Out C K XE F H σ env L R (CE.bm m a b).quiet (ev cal (.bm m a b) env) Q)
    (fin1 : ∀ x F1 H1 ox lx, Le F1 H1 → RepO C K F1 H1 ox x lx → bmOk m ox = true → P1 x H1)
    (fin : ∀ x y F2 H2 ox lx dy o, Le F2 H2 → RepO C K F2 H2 ox x lx → RepS C K F2 dy y → bmO m ox dy = some o → Fin C K F2 H2 o Q → Q2 x y H2) :
    tV C K cal XE a σ H fun x H1 => P1 x H1 ∧ tV C K cal XE b σ H1 fun y H2 => Q2 x y H2 := by
  refine ⟨F, env, L, R, sr, ?_⟩
  simp only [ev] at hout
  cases h1 : ev cal a env with
  | ex c d e => rw [h1] at hout; exact hout
  | er => rw [h1] at hout; exact hout
  | ok y =>
    obtain ⟨ha, e1⟩ := y
    rw [h1] at hout
    simp only [Res.bind] at hout
    intro x F1 H1 L1 T1 p hx
    split at hout
    case h_2 => exact hout.elim
    rename_i ox g
    split at hout
    case isFalse => exact hout.elim
    rename_i hk
    obtain ⟨hk1, hk2⟩ := Bool.and_eq_true_iff.mp hk
    obtain ⟨lx, r1, hw⟩ := hx.get2 p.sr g
    refine ⟨fin1 x F1 H1 ox lx p.sr.le r1 hk1, F1, e1, L1, T1 ++ R, p.sr, ?_⟩
    cases h2 : ev cal b e1 with
    | ex c d e => rw [h2] at hout; exact Out.exT (Q := Q) hout p
    | er => rw [h2] at hout; exact hout.elim
    | ok z =>
      obtain ⟨hb, e2⟩ := z
      rw [h2] at hout
      simp only [Res.bind] at hout
      intro y F2 H2 L2 T2 p2 hy
      split at hout
      case h_2 => exact hout.elim
      rename_i dy
      split at hout
      case h_2 => exact hout.elim
      rename_i o ho2
      obtain ⟨q1, q2, q3⟩ := p2.qt hk2
      have hs : ∀ a ∈ lx, H2 a = H1 a := fun a ha => by
        rcases hw with ⟨o0, _, rfl⟩ | ⟨_, _, hL⟩
        · exact p2.kp a (.inr (by simp [ha]))
        · exact q3 a (hL a ha)
      exact fin x y F2 H2 ox lx dy o p2.sr.le (RepO.keep p2.fe.le ox x lx hs r1) hy.pS ho2 (Out.fin hout (p.trans p2) fun z => by simpa [CE.quiet] using z)
theorem bm_dict {ox : O} (h : bmOk .get ox = true ∨ ∃ dy o, bmO .get ox dy = some o) : (∃ l, ox = .fr (.dic l)) ∨ ∃ l, ox = .od l := by
  rcases h with h | ⟨dy, o, h⟩
  · cases ox with
    | fr d => cases d <;> first | exact .inl ⟨_, rfl⟩ | cases h
    | od l => exact .inr ⟨l, rfl⟩
    | _ => cases h
  · cases ox with
    | fr d => cases d <;> first | exact .inl ⟨_, rfl⟩ | cases h
    | od l => exact .inr ⟨l, rfl⟩
    | _ => cases h
theorem fin_p {d : D} {v : V} {Q : VK} (f : Fin C K F H (.fr d) Q) (le : Le F H) (r : RepS C K F d v) : Q v H := f v F H [] (New.refl le) ⟨rfl, r⟩
end
section
variable {X : Cx} {C : Nat → Addr} {cal : Nat → List O → CRes} {XE : XP} {K : PySem.W.Frag} {pin : List Nat} {W : Nat} {F F' F1 F2 F3 H H' H1 H2 H3 : Hp} {σ σ1 σ2 : St} {env env1 env2 : Env} {L L1 L2 R T T1 T2 : List Addr} {q q1 q2 : Bool}
theorem s_bmGet {o e : Expr} {apos cpos : Pos} {a b : CE} (hu : X.A.units + 1 < cLine) (ha : EV X C cal XE o a) (hb : EV X C cal XE e b) (m : M1 X o "get" apos e cpos) : EV X C cal XE (.Call (.Attribute o "get" apos) [e] [] cpos) (.bm .get a b) := by
  refine PE.imp (pe_dget1 hu ha hb m) fun σ H Q hq => ?_
  obtain ⟨F, env, L, R, sr, hout⟩ := hq
  have base := bm_look (P1 := fun x H1 => ∃ a, x = .ref a ∧ IsD H1 a) (Q2 := fun x y H2 => ∀ a, x = .ref a → ∃ o, DGet H2 a y o ∧ Q (o.getD .non) H2) sr hout (fun x F1 H1 ox lx le r hk => ?_) fun x y F2 H2 ox lx dy o le r ry hb f => ?_
  · obtain ⟨F', e', L', R', s', ho⟩ := base
    refine ⟨F', e', L', R', s', ?_⟩
    cases h1 : ev cal a e' with
    | ex c d e => rw [h1] at ho; exact ho
    | er => rw [h1] at ho; exact ho
    | ok y =>
      rw [h1] at ho
      intro v F1 H1 L1 T p hx
      obtain ⟨⟨a', rfl, hd⟩, F3, e3, L3, R3, s3, ho3⟩ := ho v F1 H1 L1 T p hx
      refine ⟨a', rfl, hd, F3, e3, L3, R3, s3, ?_⟩
      cases h2 : ev cal b e3 with
      | ex c d e => rw [h2] at ho3; exact ho3
      | er => rw [h2] at ho3; exact ho3
      | ok y =>
        rw [h2] at ho3
        intro v F1 H1 L1 T p hx
        exact ho3 v F1 H1 L1 T p hx a' rfl
  · rcases bm_dict (.inl hk) with ⟨l, rfl⟩ | ⟨l, rfl⟩
    · simp only [RepO, RepS] at r
      obtain ⟨_, a', kvs, rfl, q, _⟩ := r
      exact ⟨a', rfl, .inl ⟨kvs, Rd.le le q⟩⟩
    · simp only [RepO] at r
      obtain ⟨a', kvs, r', rfl, q, _, rfl⟩ := r
      exact ⟨a', rfl, .inl ⟨kvs, .inl q⟩⟩
  · rintro a' rfl
    rcases bm_dict (.inr ⟨dy, o, hb⟩) with ⟨l, rfl⟩ | ⟨l, rfl⟩
    · have hb : ((keyD dy).map fun k => O.fr ((kget l k).getD .non)) = some o := hb
      obtain ⟨k, hk, rfl⟩ := Option.map_eq_some_iff.mp hb
      have ey := keyD_of hk ry
      subst ey
      simp only [RepO, RepS] at r
      obtain ⟨_, a2, kvs, e2, q, t⟩ := r
      cases e2
      obtain ⟨g1, g2⟩ := rep_kget (k := k) t
      refine ⟨_, .inl ⟨kvs, k, Rd.le le q, rfl, rfl⟩, fin_p f le ?_⟩
      cases e : kget l k with
      | none => rw [g2 e]; simp [RepS]
      | some d => obtain ⟨v, hv, rv⟩ := g1 d e; rw [hv]; exact rv
    · have hb : ((keyD dy).bind fun k => match kget l k with
        | none => some (O.fr .non)
        | some (.fr d) => some (.fr d)
        | some _ => none) = some o := hb
      obtain ⟨k, hk, hb⟩ := Option.bind_eq_some_iff.mp hb
      have ey := keyD_of hk ry
      subst ey
      simp only [RepO] at r
      obtain ⟨a2, kvs, r', e2, q, t, rfl⟩ := r
      cases e2
      obtain ⟨g1, g2⟩ := rep_kgetO (k := k) t
      cases e : kget l k with
      | none =>
        rw [e] at hb
        cases hb
        refine ⟨_, .inl ⟨kvs, k, .inl q, rfl, rfl⟩, fin_p f le ?_⟩
        rw [g2 e]; simp [RepS]
      | some o' =>
        rw [e] at hb
        cases o' with
        | fr d =>
          cases hb
          refine ⟨_, .inl ⟨kvs, k, .inl q, rfl, rfl⟩, fin_p f le ?_⟩
          obtain ⟨v, hv, rv⟩ := g1 d e
          rw [hv]; exact rv
        | _ => cases hb
theorem RepO.itemsL {o : O} {v : V} {l : List Addr} {ds : List D} (le : Le F H) (r : RepO C K F H o v l) (e : o.items = some (false, ds)) : ∃ a vs, v = .ref a ∧ RepSL C K F ds vs ∧ H a = some (.lst vs) := by
  obtain ⟨a, vs, rfl, t, q⟩ := r.items le e
  rcases q with ⟨_, q⟩ | ⟨z, _⟩
  · exact ⟨a, vs, rfl, t, q⟩
  · cases z
theorem s_bmL {m : Bm} {nm : Str} {id : String} {o e : Expr} {apos cpos : Pos} {a b : CE} {r : V → List V → Hp → VK → Prop} (hm : m ≠ .get) (slot : Slot "list" nm id) (hty : typeOf (.builtin id) = pure (.type "method_descriptor")) (hr : MtR X id r) (ha : EV X C cal XE o a) (hb : EV X C cal XE e b) (hs : noStar e = true)
    (hbase : attributeBase o nm X.env (eval o X.env) = eval o X.env) (hline : (apos.endLine == cpos.line) = true)
    (fin : ∀ x y F2 H2 ds a vs dy o (Q : VK), Le F2 H2 → x = .ref a → H2 a = some (.lst vs) → RepSL C X.K F2 ds vs → RepS C X.K F2 dy y → bmO m (.fr (.lst ds)) dy = some o → Fin C X.K F2 H2 o Q → r x [y] H2 Q) :
    EV X C cal XE (.Call (.Attribute o nm apos) [e] [] cpos) (.bm m a b) := by
  refine PE.imp (pe_bm PySem.F.plainAttrs_list slot hty hr ha (pa_cons hb pa_nil (star_cons hs _)) hbase (few_of (fun y hy => by simp at hy; rw [hy]; exact hs) (by simp)) hline (star_cons hs _) rfl) fun σ H Q hq => ?_
  obtain ⟨F, env, L, R, sr, hout⟩ := hq
  have base := bm_look (P1 := fun x H1 => tyV X.K "list" x H1) (Q2 := fun x y H2 => r x [y] H2 Q) sr hout (fun x F1 H1 ox lx le rr hk => ?_) fun x y F2 H2 ox lx dy o le rr ry hb f => ?_
  · obtain ⟨F', e', L', R', s', ho⟩ := base
    refine ⟨F', e', L', R', s', ?_⟩
    cases h1 : ev cal a e' with
    | ex c d e => rw [h1] at ho; exact ho
    | er => rw [h1] at ho; exact ho
    | ok y =>
      rw [h1] at ho
      intro v F1 H1 L1 T p hx
      obtain ⟨t1, t2⟩ := ho v F1 H1 L1 T p hx
      exact ⟨t1, t2⟩
  · unfold bmOk at hk
    split at hk
    · exact absurd rfl hm
    · split at hk
      · rename_i ds e
        obtain ⟨a', vs, rfl, _, h⟩ := rr.itemsL le e
        exact .inl ⟨rfl, vs, SqL.of h⟩
      · cases hk
  · have h1 : ∃ ds, ox.items = some (false, ds) := by
      unfold bmO at hb
      cases m with
      | get => exact absurd rfl hm
      | count => simp only at hb; split at hb <;> first | exact ⟨_, by assumption⟩ | cases hb
      | index => simp only at hb; split at hb <;> first | exact ⟨_, by assumption⟩ | cases hb
    obtain ⟨ds, hi⟩ := h1
    obtain ⟨a', vs, rfl, t, h⟩ := rr.itemsL le hi
    refine fin _ y F2 H2 ds a' vs dy o Q le rfl h t ry ?_ f
    rw [← hb]
    cases m with
    | get => exact absurd rfl hm
    | count => unfold bmO; simp only [hi]; rfl
    | index => unfold bmO; simp only [hi]; rfl
theorem s_bmCnt {o e : Expr} {apos cpos : Pos} {a b : CE} (ha : EV X C cal XE o a) (hb : EV X C cal XE e b) (hs : noStar e = true) (hbase : attributeBase o "count" X.env (eval o X.env) = eval o X.env) (hline : (apos.endLine == cpos.line) = true) :
    EV X C cal XE (.Call (.Attribute o "count" apos) [e] [] cpos) (.bm .count a b) := by
  refine s_bmL (by decide) PySem.F.slot_list_count PySem.F.type_list_count mt_countF ha hb hs hbase hline fun x y F2 H2 ds a' vs dy o Q le hx h t ry hb f => ?_
  have hb : (if (flatD dy && ds.all flatD) = true then some (O.fr (.int (ds.countP fun z => eqD z dy : Nat))) else none) = some o := hb
  split at hb
  case isFalse => cases hb
  rename_i hf
  obtain ⟨f1, f2⟩ := Bool.and_eq_true_iff.mp hf
  cases hb
  obtain ⟨g1, g2⟩ := flat_cnt f1 ry f2 t
  refine ⟨a', vs, y, hx, rfl, SqL.of h, flat_v f1 ry, g1, fin_p f le ?_⟩
  rw [g2]; simp [RepS]
theorem s_bmIdx {o e : Expr} {apos cpos : Pos} {a b : CE} (ha : EV X C cal XE o a) (hb : EV X C cal XE e b) (hs : noStar e = true) (hbase : attributeBase o "index" X.env (eval o X.env) = eval o X.env) (hline : (apos.endLine == cpos.line) = true) :
    EV X C cal XE (.Call (.Attribute o "index" apos) [e] [] cpos) (.bm .index a b) := by
  refine s_bmL (by decide) PySem.F.slot_list_index PySem.F.type_list_index mt_index ha hb hs hbase hline fun x y F2 H2 ds a' vs dy o Q le hx h t ry hb f => ?_
  have hb : (if (flatD dy && ds.all flatD && decide (ds.length ≤ 16777216)) = true then (ds.findIdx? fun z => eqD z dy).map fun j => O.fr (.int (j : Nat)) else none) = some o := hb
  split at hb
  case isFalse => cases hb
  rename_i hf
  obtain ⟨hf, _⟩ := Bool.and_eq_true_iff.mp hf
  obtain ⟨f1, f2⟩ := Bool.and_eq_true_iff.mp hf
  obtain ⟨j, hj, rfl⟩ := Option.map_eq_some_iff.mp hb
  obtain ⟨z, h1, h2, h3⟩ := flat_idx f1 ry f2 t hj
  exact ⟨a', vs, y, j, z, hx, rfl, SqL.of h, flat_v f1 ry, (flat_cnt f1 ry f2 t).1, h1, h2, h3, fin_p f le (by simp [RepS])⟩
/-! sorted(d) -/
theorem insI_perm (i : Int) : ∀ l : List Int, (insI i l).Perm (i :: l)
  | [] => List.Perm.refl _
  | j :: l => by
    unfold insI
    split
    · exact List.Perm.refl _
    · exact ((insI_perm i l).cons j).trans (List.Perm.swap i j l)
theorem srtI_perm : ∀ l : List Int, (srtI l).Perm l
  | [] => List.Perm.refl _
  | i :: l => (insI_perm i _).trans ((srtI_perm l).cons i)
theorem insI_le (i : Int) : ∀ l : List Int, l.Pairwise (· ≤ ·) → (insI i l).Pairwise (· ≤ ·)
  | [], _ => by simp [insI]
  | j :: l, h => by
    unfold insI
    obtain ⟨h1, h2⟩ := List.pairwise_cons.mp h
    split
    · rename_i hij
      refine List.pairwise_cons.mpr ⟨fun x hx => ?_, h⟩
      rcases List.mem_cons.mp hx with z | z
      · rw [z]; exact hij
      · have := h1 x z; omega
    · rename_i hij
      refine List.pairwise_cons.mpr ⟨fun x hx => ?_, insI_le i l h2⟩
      rcases List.mem_cons.mp ((insI_perm i l).mem_iff.mp hx) with z | z
      · rw [z]; omega
      · exact h1 x z
theorem srtI_le : ∀ l : List Int, (srtI l).Pairwise (· ≤ ·)
  | [] => List.Pairwise.nil
  | i :: l => insI_le i _ (srtI_le l)
theorem srtI_only {l m : List Int} (h : m.Perm l) (s : m.Pairwise (· ≤ ·)) : m = srtI l :=
  List.Perm.eq_of_pairwise (fun a b _ _ h1 h2 => by omega) s (srtI_le l) (h.trans (srtI_perm l).symm)
theorem intKs_of {α : Type} : ∀ {l : List (Key × α)} {ks : List Int}, intKs l = some ks → l.map (·.1) = ks.map Sum.inl
  | [], ks, h => by simp only [intKs, Option.some.injEq] at h; subst h; rfl
  | (.inl i, _) :: l, ks, h => by
    simp only [intKs] at h
    obtain ⟨ks', e, rfl⟩ := Option.map_eq_some_iff.mp h
    simp [intKs_of e]
  | (.inr _, _) :: l, ks, h => by simp [intKs] at h
theorem RepSK.keys : ∀ {l : List (Key × D)} {vs : List (Key × V)}, RepSK C K F l vs → vs.map (·.1) = l.map (·.1)
  | [], vs, r => by simp only [RepSK] at r; rw [r]; rfl
  | (k, d) :: l, vs, r => by
    simp only [RepSK] at r
    obtain ⟨v, s, rfl, _, t⟩ := r
    simp [RepSK.keys t]
theorem RepOK.keys : ∀ {l : List (Key × O)} {vs : List (Key × V)} {ls : List Addr}, RepOK C K F H l vs ls → vs.map (·.1) = l.map (·.1)
  | [], vs, ls, r => by simp only [RepOK] at r; rw [r.1]; rfl
  | (k, d) :: l, vs, ls, r => by
    simp only [RepOK] at r
    obtain ⟨v, s, l1, l2, rfl, _, t, rfl⟩ := r
    simp [RepOK.keys t]
theorem RepOL.ints : ∀ ks : List Int, RepOL C K F H (ks.map fun i => .fr (.int i)) (ks.map V.int) []
  | [] => by simp [RepOL]
  | k :: ks => by
    simp only [List.map_cons, RepOL, RepO, RepS]
    exact ⟨_, _, [], [], rfl, ⟨rfl, rfl⟩, RepOL.ints ks, rfl⟩
theorem srt_rep {ox o : O} {x : V} {lx : List Addr} {Q : VK} (le : Le F H) (r : RepO C K F H ox x lx) (h : srtO ox = some o) (f : Fin C K F H o Q) :
    ∃ (a : Addr) (kvs : List (Key × V)) (ks : List Int), x = .ref a ∧ Rd H a (.dK kvs) ∧ kvs.map (·.1) = ks.map Sum.inl ∧ ks.length < 64 ∧ ∀ (ys : List Int) (p : Addr), ys.Perm ks → ys.Pairwise (· ≤ ·) → H p = none → Q (.ref p) (upd H p (.lst (ys.map V.int))) := by
  have fin : ∀ ks : List Int, o = .ol ((srtI ks).map fun i => .fr (.int i)) → ∀ (ys : List Int) (p : Addr), ys.Perm ks → ys.Pairwise (· ≤ ·) → H p = none → Q (.ref p) (upd H p (.lst (ys.map V.int))) := by
    rintro ks rfl ys p h1 h2 hp
    have e := srtI_only h1 h2
    subst e
    refine f (.ref p) _ _ _ (New.lst le hp) ?_
    simp only [RepO]
    exact ⟨p, _, [], rfl, upd_same, RepOL.ints _, rfl⟩
  unfold srtO at h
  split at h
  · split at h
    case h_2 => cases h
    rename_i ks hk
    split at h
    case isFalse => cases h
    rename_i hlt
    cases h
    simp only [RepO, RepS] at r
    obtain ⟨_, a, kvs, rfl, q, t⟩ := r
    exact ⟨a, kvs, ks, rfl, Rd.le le q, by rw [t.keys, intKs_of hk], of_decide_eq_true hlt, fin ks rfl⟩
  · split at h
    case h_2 => cases h
    rename_i ks hk
    split at h
    case isFalse => cases h
    rename_i hlt
    cases h
    simp only [RepO] at r
    obtain ⟨a, kvs, r', rfl, q, t, rfl⟩ := r
    exact ⟨a, kvs, ks, rfl, .inl q, by rw [t.keys, intKs_of hk], of_decide_eq_true hlt, fin ks rfl⟩
  · cases h
theorem s_srtD {e : Expr} {a : CE} {p pos : Pos} (hc : X.calm = true) (hg : Gl X "sorted") (hm : X.mg "sorted" = none) (ha : EV X C cal XE e a) (hs : noStar e = true) : EV X C cal XE (.Call (.Name "sorted" p) [e] [] pos) (.srtD a) := by
  refine PE.imp (pe_callB (call_sortedDI hc) hg hm (by decide +kernel) (pa_cons ha pa_nil (star_cons hs _)) (by decide) (by decide) (star_cons hs _) rfl) fun σ H Q hq => ?_
  obtain ⟨F, env, L, R, sr, hout⟩ := hq
  simp only [ev] at hout
  refine one sr hout fun x F1 H1 e1 L1 T1 h p hx ho => ?_
  dsimp only at ho
  split at ho
  case h_2 => exact ho.elim
  rename_i ox g
  split at ho
  case h_2 => exact ho.elim
  rename_i o hso
  obtain ⟨lx, r1, _⟩ := hx.get p.sr g
  obtain ⟨a', kvs, ks, rfl, h1, h2, h3, h4⟩ := srt_rep p.sr.le r1 hso (Out.fin ho p fun z => by simpa [CE.quiet] using z)
  exact ⟨a', kvs, ks, rfl, h1, h2, h3, h4⟩
end
end Cr
end

section
/-! Comprehensions over dicts; dict comprehensions. -/
namespace Cr
open PySem L2
theorem PE.or {X : Cx} {e : Expr} {t t' : TE} (h : PE X e t) (h' : PE X e t') : PE X e (fun σ H Q => t σ H Q ∨ t' σ H Q) := ⟨fun pins s σ H Q I q => q.elim (h.run pins s σ H Q I) (h'.run pins s σ H Q I)⟩
section
variable {X : Cx} {C : Nat → Addr} {cal : Nat → List O → CRes} {XE : XP} {K : PySem.W.Frag} {pin : List Nat} {W : Nat} {F F' F1 F2 F3 H H' H1 H2 H3 : Hp} {σ σ1 σ2 : St} {env env1 env2 : Env} {L L1 L2 R T T1 T2 : List Addr} {q q1 q2 : Bool}
theorem Pst.unlock {d : Addr} {od : Obj} {kvs : List (Key × V)} (hF : F d = some (.dK kvs)) (h : H d = some (.dK kvs)) (p : Pst C K F (upd H d (.frz od (.dK kvs))) σ env L R F1 H1 env1 L1 T q) :
    H1 d = some (.frz od (.dK kvs)) ∧ Pst C K F H σ env L R F1 (upd H1 d (.dK kvs)) env1 L1 T q := by
  have h1 : H1 d = some (.frz od (.dK kvs)) := by rw [p.kp d (.inl (by rw [hF]; simp))]; exact upd_same
  have hF1 := p.fe _ _ hF
  refine ⟨h1, SR.off p.sr hF1 (le_unlock p.sr.le hF1), p.fe, fun a ha => ?_, fun z => ?_⟩
  · by_cases z : a = d
    · subst z; rw [upd_same, h]
    · rw [upd_ne z, p.kp a ha, upd_ne z]
  · obtain ⟨a1, a2, a3⟩ := p.qt z
    refine ⟨a1, a2, fun a ha => ?_⟩
    by_cases z : a = d
    · subst z; rw [upd_same, h]
    · rw [upd_ne z, a3 a ha, upd_ne z]
theorem Out.lock {d : Addr} {od : Obj} {kvs : List (Key × V)} {res : Res (Hd × Env)} {Q : VK} (hX : XKeep XE) (hF : F d = some (.dK kvs)) (h : H d = some (.dK kvs)) (ho : Out C K XE F H σ env L R q res Q) :
    Out C K XE F (upd H d (.frz od (.dK kvs))) σ env L R q res (fun v H' => H' d = some (.frz od (.dK kvs)) ∧ Q v (upd H' d (.dK kvs))) := by
  match res with
  | .ok (hd, e') =>
    intro v F' H' L' T p hx
    have hd' : ∀ a, F' a = none → a ≠ d := fun a ha z => by rw [z, p.fe _ _ hF] at ha; cases ha
    refine ⟨(p.unlock hF h).1, ho v F' _ L' T (p.unlock hF h).2 (hx.keep (Le.refl F') (fun a ha => upd_ne (hd' a (p.sr.fn a (by simp [ha])).1)) fun _ => ⟨rfl, fun a ha => upd_ne (hd' a (p.sr.fn a (by simp [ha])).1)⟩)⟩
  | .ex c d' e' => exact fun F' H' L' p => hX c d' H' d od _ (p.unlock hF h).1 (ho _ _ _ (p.unlock hF h).2)
  | .er => exact ho.elim
theorem RepSK.toO : ∀ {os : List (Key × Cr.D)} {vs : List (Key × V)}, RepSK C K F os vs → RepOK C K F H (os.map fun p => (p.1, .fr p.2)) vs []
  | [], vs, r => by simp only [RepSK] at r; rw [r]; simp [RepOK]
  | (k0, o) :: os, vs, r => by
    simp only [RepSK] at r
    obtain ⟨v, s, rfl, q, t⟩ := r
    simp only [List.map_cons, RepOK, RepO]
    exact ⟨v, s, [], [], rfl, ⟨rfl, q⟩, RepSK.toO t, rfl⟩
theorem wipeE_bind {t : Tg} {d : Cr.D} {e eb : Env} {vs : List Nat} (hb : t.bind d (wipeE e vs) = some eb) (hsl : ∀ i ∈ t.slots, i ∈ vs) (hv : ∀ j ∈ vs, j < e.length) : wipeE eb vs = wipeE e vs := by
  have hl : eb.length = e.length := by rw [bind_len t d _ eb hb, wipeE_len]
  refine List.ext_getElem? fun j => ?_
  by_cases hj : j ∈ vs
  · rw [wipeE_in (by rw [hl]; exact hv j hj) hj, wipeE_in (hv j hj) hj]
  · rw [wipeE_out hj, bind_out t d _ eb hb j (fun z => hj (hsl j z))]
theorem dc_body {t : Tg} {k v : CE} {vs : List Nat} {Q : VK} {H0 : Hp} {J : It} {ds : List Cr.D} {kvs : List (Key × Cr.D)} {tr qs qq : Bool} (hsl : ∀ i ∈ t.slots, i ∈ vs) (hqq : qq = true → qs = true) (p : Pst C K F H σ env L R F1 H1 env1 L1 [] qs) (it : ItOk C K J F1 H1 L1 tr ds) (hown : wipeOk vs env1 = true) (hkq : k.quiet = true) (hvq : v.quiet = true) (hline : ds.length ≤ 16777216)
    (hdc : dcL (fun e => ev cal k e) (fun e => ev cal v e) t (wipeE env1 vs) ds [] = some kvs)
    (ho : Out C K XE F H σ env L R qq (.ok (.t (.od (kvs.map fun p => (p.1, .fr p.2))), env1)) Q) : tDc (fun _ _ R => R J H1) (tTg C K t) tYes (tV C K cal X0 k) (tV C K cal X0 v) vs σ H0 Q := by
  intro D hD
  have sr1 : SR C K F1 H1 σ env1 L1 R := p.sr
  have hvl : ∀ j ∈ vs, j < env1.length ∧ leafOrNone ((env1[j]?).join) = true := fun j hj => by
    have := List.all_eq_true.mp hown j hj
    simpa using this
  have nw := New.dic (kvs := []) sr1.le hD
  have hDn := nw.fresh D (by simp)
  have sr2 : SR C K F1 (upd H1 D (.dK [])) (wipe σ vs) (wipeE env1 vs) L1 (D :: R) := by
    have s := sr1.new nw
    exact ⟨s.le, s.rep.wiped hown, s.nd, s.fn⟩
  have live : ∀ a, (F1 a ≠ none ∨ a ∈ R) → H1 a ≠ none := fun a ha => by
    rcases ha with ha | ha
    · cases e : F1 a with
      | none => exact absurd e ha
      | some u => rcases sr1.le a u e with z | ⟨_, o, z⟩ <;> rw [z] <;> simp
    · exact (sr1.fn a (by simp [ha])).2
  have liD : ∀ a ∈ L1, a ≠ D := fun a ha z => (sr1.fn a (by simp [ha])).2 (z ▸ hD)
  refine ⟨fun i m H' => m = ds.length - i ∧ i ≤ ds.length ∧ ∃ F' acc kv, SR C K F' H' (wipe σ vs) (wipeE env1 vs) L1 (D :: R) ∧ Sub F1 F' ∧ (∀ a, (F1 a ≠ none ∨ a ∈ R) → H' a = H1 a) ∧ H' D = some (.dK kv) ∧ RepSK C K F' acc kv ∧ acc.length ≤ i ∧
    dcL (fun e => ev cal k e) (fun e => ev cal v e) t (wipeE env1 vs) (ds.drop i) acc = some kvs ∧ (∀ a ∈ L1, H' a = H1 a),
    ⟨_, rfl, Nat.zero_le _, F1, [], [], sr2, Sub.refl F1, fun a ha => nw.same a (live a ha), upd_same, by simp [RepSK], Nat.le_refl _, hdc, fun a ha => nw.same a (sr1.fn a (by simp [ha])).2⟩, ?_⟩
  rintro i m H' ⟨rfl, hle, F', acc, kv, srI, subI, kpI, hDI, rI, alen, hrest, hLI⟩
  have itI := it F' H' subI srI.le (fun _ => hLI) (fun a ha => kpI a (.inl ha)) i
  by_cases hi : i < ds.length
  · right
    refine ⟨itI.1 hi, fun H' => i + 1 ≤ ds.length ∧ ∃ F' acc kv, SR C K F' H' (wipe σ vs) (wipeE env1 vs) L1 (D :: R) ∧ Sub F1 F' ∧ (∀ a, (F1 a ≠ none ∨ a ∈ R) → H' a = H1 a) ∧ H' D = some (.dK kv) ∧ RepSK C K F' acc kv ∧ acc.length ≤ i + 1 ∧
      dcL (fun e => ev cal k e) (fun e => ev cal v e) t (wipeE env1 vs) (ds.drop (i + 1)) acc = some kvs ∧ (∀ a ∈ L1, H' a = H1 a), fun H' g => ⟨_, by omega, rfl, g⟩, fun x H3 hy => ?_⟩
    obtain ⟨F3, d, n3, hd, rd⟩ := itI.2.2 x H3 hi hy
    have sr3 : SR C K F3 H3 (wipe σ vs) (wipeE env1 vs) L1 (D :: R) := srI.new n3
    have hdrop : ds.drop i = d :: ds.drop (i + 1) := by
      obtain ⟨h1, h2⟩ := List.getElem?_eq_some_iff.mp hd
      rw [← h2]
      exact List.drop_eq_getElem_cons h1
    rw [hdrop] at hrest
    unfold dcL at hrest
    split at hrest
    case h_2 => cases hrest
    rename_i eb hb
    split at hrest
    case h_2 => cases hrest
    rename_i dk ek dv e5 hk hv
    split at hrest
    case h_2 => cases hrest
    rename_i qk hqk
    refine ⟨F3, wipeE env1 vs, L1, D :: R, d, eb, sr3, rd, hb, fun σ2 L2 s2 hsub hpoor hbut => ⟨?_, ?_⟩⟩
    · rw [wipe_eq (σ := wipe σ vs) hbut.1 fun j hj => hbut.2 j fun z => hj (hsl j z)]
      exact wipe_eq (wipe_length σ vs) fun j hj => wipe_out hj
    have hw2 : wipe σ2 vs = wipe σ vs := by
      rw [wipe_eq (σ := wipe σ vs) hbut.1 fun j hj => hbut.2 j fun z => hj (hsl j z)]
      exact wipe_eq (wipe_length σ vs) fun j hj => wipe_out hj
    have hL2 : L2 = L1 := hpoor fun j hj => by rw [wipeE_in (hvl j (hsl j hj)).1 (hsl j hj)]; rfl
    subst hL2
    simp only [tYes, if_true]
    refine ⟨F3, eb, L2, D :: R, s2, ?_⟩
    rw [hk]
    intro y F4 H4 L4 T4 p4 hx4
    obtain ⟨a1, a2, a3⟩ := p4.qt hkq
    subst a1 a2
    have hT4 : T4 = [] := hx4.1
    subst hT4
    refine ⟨F4, ek, L4, D :: R, p4.sr, ?_⟩
    rw [hv]
    intro z F5 H5 L5 T5 p5 hx5
    obtain ⟨b1, b2, b3⟩ := p5.qt hvq
    subst b1 b2
    have hT5 : T5 = [] := hx5.1
    subst hT5
    have ey := keyD_of hqk (RepS.le p5.fe.le _ _ hx4.pS)
    have h3D : H3 D = some (.dK kv) := (n3.same D (by rw [hDI]; simp)).trans hDI
    have h5D : H5 D = some (.dK kv) := by rw [p5.kp D (.inr (by simp)), p4.kp D (.inr (by simp)), h3D]
    have klen : kv.length = acc.length := RepSK.len rI
    refine ⟨kv, qk, ey, h5D, by rw [sizeLine_eq]; omega, hi, F5, kput acc qk dv, putK kv qk z, ?_, subI.trans (n3.fe.trans (p4.fe.trans p5.fe)), fun a ha => ?_, upd_same, ?_, ?_, hrest, fun a ha => ?_⟩
    · have nd := p5.sr.nd
      have nD : ∀ a ∈ L5, a ≠ D := liD
      have fD := p5.sr.fn D (by simp)
      have le6 : Le F5 (upd H5 D (.dK (putK kv qk z))) := fun a u e => by
        have hne : a ≠ D := fun z => by rw [z, fD.1] at e; cases e
        rw [upd_ne hne]
        exact p5.sr.le a u e
      have wo : wipeOk vs e5 = true := by
        unfold wipeOk
        refine List.all_eq_true.mpr fun j hj => ?_
        have hl : e5.length = env1.length := by rw [bind_len t d _ e5 hb, wipeE_len]
        rw [Bool.and_eq_true, decide_eq_true_eq]
        exact ⟨by rw [hl]; exact (hvl j hj).1, bind_leaf t d _ e5 hb j (by rw [wipeE_in (hvl j hj).1 hj]; rfl)⟩
      refine ⟨le6, ?_, nd, fun a ha => ?_⟩
      · rw [← wipeE_bind hb hsl fun j hj => (hvl j hj).1, ← hw2]
        exact RepE.keep (Le.refl F5) (fun a ha => upd_ne (nD a ha)) (p5.sr.rep.wiped wo)
      · have := p5.sr.fn a ha
        refine ⟨this.1, ?_⟩
        by_cases z : a = D
        · subst z; rw [upd_same]; simp
        · rw [upd_ne z]; exact this.2
    · have hne : a ≠ D := fun z => by
        subst z
        rcases ha with ha | ha
        · exact ha hDn.2.1
        · have := (List.nodup_append.mp sr2.nd).2.1
          exact (List.nodup_cons.mp this).1 ha
      rw [upd_ne hne]
      have hn3 : H' a ≠ none := by rw [kpI a ha]; exact live a ha
      have h3 : H3 a = H1 a := (n3.same a hn3).trans (kpI a ha)
      have f3 : F3 a ≠ none ∨ a ∈ D :: R := by
        rcases ha with ha | ha
        · left
          cases e : F1 a with
          | none => exact absurd e ha
          | some u => rw [n3.fe a u (subI a u e)]; simp
        · right; simp [ha]
      have f4 : F4 a ≠ none ∨ a ∈ D :: R := f3.imp (fun z => by
        cases e : F3 a with
        | none => exact absurd e z
        | some u => rw [p4.fe a u e]; simp) id
      rw [p5.kp a (by simpa using f4), p4.kp a f3, h3]
    · exact RepSK.put hx5.pS (RepSK.le (n3.fe.trans (p4.fe.trans p5.fe)).le _ _ rI)
    · have : (kput acc qk dv).length ≤ acc.length + 1 := by
        unfold kput
        split <;> simp
      omega
    · rw [upd_ne (liD a ha), b3 a ha, a3 a ha, n3.same a (srI.fn a (by simp [ha])).2, hLI a ha]
  · left
    have hi : i = ds.length := by omega
    refine ⟨itI.2.1 (by omega), ?_⟩
    rw [hi, List.drop_length] at hrest
    unfold dcL at hrest
    cases hrest
    have back := RepE.back (s := wipe σ vs) (own := vs) sr1 subI.le srI.rep fun j hj => ⟨by rw [wipeE_len]; exact (hvl j hj).1, (hvl j hj).2, by rw [wipeE_in (hvl j hj).1 hj]; rfl⟩
    rw [undo_wipe] at back
    have eb : backE env1 (wipeE env1 vs) vs = env1 := List.ext_getElem? fun j => backE_wipe (fun j hj => (hvl j hj).1) j
    rw [eb] at back
    refine ho (.ref D) F' H' L1 [D] ⟨⟨srI.le, back, srI.nd, srI.fn⟩, p.fe.trans subI, fun a ha => ?_, fun z => ?_⟩ ?_
    · rw [kpI a, p.kp a ha]
      rcases ha with ha | ha
      · left
        cases e : F a with
        | none => exact absurd e ha
        | some u => rw [p.fe a u e]; simp
      · exact .inr ha
    · obtain ⟨a1, a2, a3⟩ := p.qt (hqq z)
      exact ⟨a1, a2, fun a ha => by rw [hLI a (by rw [a2]; exact ha), a3 a ha]⟩
    · show RepO C K F' H' (.od _) (.ref D) [D]
      simp only [RepO]
      exact ⟨D, kv, [], rfl, hDI, RepSK.toO rI, rfl⟩
end
section
variable {X : Cx} {C : Nat → Addr} {cal : Nat → List O → CRes} {XE : XP} {F F' F1 F2 F3 H H' H1 H2 H3 : Hp} {σ σ1 σ2 : St} {env env1 env2 : Env} {L L1 L2 R T T1 T2 : List Addr} {q q1 q2 : Bool}
theorem dc_in {K : PySem.W.Frag} {vs : List Nat} {t : Tg} {src : Sr} {k v : CE} {Q : VK} (hsl : ∀ i ∈ t.slots, i ∈ vs) (hq : tV C K cal XE (.dc vs t src k v) σ H Q) : tDc (tSr C K cal XE src) (tTg C K t) tYes (tV C K cal X0 k) (tV C K cal X0 v) vs σ H Q := by
  obtain ⟨F, env, L, R, sr, ho⟩ := hq
  simp only [ev] at ho
  refine ⟨F, env, L, R, sr, ?_⟩
  cases hsrc : evSr cal src env with
  | ex c d e => rw [hsrc] at ho; exact ho
  | er => rw [hsrc] at ho; exact ho
  | ok y =>
    obtain ⟨ds, tr, env1⟩ := y
    rw [hsrc] at ho
    simp only [Res.bind] at ho
    intro J F1 H1 L1 p it
    split at ho
    case isFalse => exact ho.elim
    rename_i hcond
    simp only [Bool.and_eq_true, lineOk, decide_eq_true_eq] at hcond
    obtain ⟨⟨⟨h1, h2⟩, h3⟩, h4⟩ := hcond
    split at ho
    case h_2 => exact ho.elim
    rename_i kvs hdc
    exact dc_body (H0 := H) hsl (fun z => by simp only [CE.quiet, Bool.and_eq_true] at z; exact z.1.1) p it h1 h2 h3 h4 hdc ho
theorem s_dc {kx vx tg iter : Expr} {scope : Scope} {own : List (Str × Nat)} {pos : Pos} {t : Tg} {src : Sr} {k v : CE} (hc : X.calm = true) (hN : X.N.Nodup) (hi : PI X tg iter (tSr C X.K cal XE src)) (ok : BlkOk X.N X.env.scope scope own)
    (hg : ∀ (s : Shared) (H : Hp) (A : Addr) (cl : List (Str × Addr)) (fp : List Addr), PG (X.blk s H scope (compEnvC scope cl A X.env) fp) tg (tTg C X.K t))
    (hk : ∀ (s : Shared) (H : Hp) (A : Addr) (cl : List (Str × Addr)) (fp : List Addr), PE (X.blk s H scope (compEnvC scope cl A X.env) fp) kx (tV C X.K cal X0 k))
    (hv : ∀ (s : Shared) (H : Hp) (A : Addr) (cl : List (Str × Addr)) (fp : List Addr), PE (X.blk s H scope (compEnvC scope cl A X.env) fp) vx (tV C X.K cal X0 v)) (hsl : ∀ i ∈ t.slots, i ∈ own.map (·.2)) (hs : ∀ x, foldedSetIterable iter X.env x = pure x) :
    EV X C cal XE (.DictComp kx vx [⟨tg, iter, [], 0⟩] scope pos) (.dc (own.map (·.2)) t src k v) :=
  PE.imp (pe_dc hc hN hi ok hg (fun _ _ _ _ _ => pts_nil) hk hv hs) fun σ H Q hq => dc_in hsl hq
/-- a dict's keys, the dict locked -/
theorem it_keys {d : Addr} {o : Obj} {vs : List (Key × V)} {kvs : List (Key × Cr.D)} {K : PySem.W.Frag} (hrd : Rd F d (.dK vs)) (hrk : RepSK C K F kvs vs) (hko : keysOk kvs = true) (hH : H d = some (.frz o (.dK vs))) : ItOk C K (Itk d o vs) F H L false (kvs.map fun p => keyB p.1) := by
  intro F2 H2 hs le _ kp i
  have h2 : H2 d = some (.frz o (.dK vs)) := by rw [kp d (by rcases hrd with z | ⟨_, z⟩ <;> rw [z] <;> simp), hH]
  rw [List.length_map, ← RepSK.len hrk]
  refine ⟨fun hj => ⟨h2, hj⟩, fun hj => ⟨h2, hj⟩, fun y H3 hj hy => ?_⟩
  obtain ⟨rfl, k, v, hk, rfl⟩ := hy
  obtain ⟨dd, hdd, rd⟩ := RepSK.nth hrk hk
  have hkk : keyOk k = true := List.all_eq_true.mp hko (k, dd) (List.mem_of_getElem? hdd)
  exact ⟨F2, keyB k, New.refl le, by rw [List.getElem?_map, hdd]; rfl, keyB_rep hkk⟩
theorem AtP.upd {i : Nat} {f : Option Str} {v : V} {d : Addr} {u w : HO} (h : AtP C σ H i f v) (hd : H d = some w) (hw : ∀ c dx fs, w ≠ .ins c dx fs) : AtP C σ (upd H d u) i f v := by
  cases f with
  | none => exact h
  | some f =>
    obtain ⟨a, c, dx, fs, h1, h2, h3⟩ := h
    refine ⟨a, c, dx, fs, h1, ?_, h3⟩
    rw [upd_ne (fun z => ?_)]
    · exact h2
    · rw [z, hd] at h2; cases h2; exact hw _ _ _ rfl
theorem Out.pre2 {res : Res (Hd × Env)} {Q : VK} (p : Pst C K F H σ env L R F1 H1 env1 L1 [] q1) (ho : Out C K XE F H σ env L R false res Q) : Out C K XE F1 H1 σ env1 L1 R q2 res Q := by
  match res with
  | .ok (h, e') => exact fun v F' H' L' T p2 hx => ho v F' H' L' T ((p.seq p2).q_of fun z => by cases z) hx
  | .ex c d e' => exact fun F' H' L' p2 => ho F' H' L' ((p.seq p2).q_of fun z => by cases z)
  | .er => exact ho.elim
/-- the dict that is walked: frozen if it's to be; locked if it isn't -/
def tKeys (C : Nat → Addr) (K : PySem.W.Frag) (XE : XP) (fz qb : Bool) (i : Nat) (f : Option Str) (G : Env → List (Key × Cr.D) → Res (Hd × Env)) : TE := fun σ H Q => ∃ F env L R, SR C K F H σ env L R ∧ Out C K XE F H σ env L R (!fz && qb) (match (if fz = true then frzS env i else some env) with
      | some e => match itemsOf e i f with
        | some kvs => if keysOk kvs = true then G e kvs else .er
        | none => .er
      | none => .er) Q
theorem keys_or {K : PySem.W.Frag} {t : TE} {fz qb : Bool} {i : Nat} {f : Option Str} {G : Env → List (Key × Cr.D) → Res (Hd × Env)} (hX : XKeep XE)
    (main : ∀ (σ : St) (H : Hp) (o : Obj) (Q : VK) (F : Hp) (env : Env) (L R : List Addr) (d : Addr) (vs : List (Key × V)) (kvs : List (Key × Cr.D)), SR C K F H σ env L R → AtP C σ H i f (.ref d) → Rd F d (.dK vs) → RepSK C K F kvs vs → keysOk kvs = true → H d = some (.frz o (.dK vs)) → Out C K XE F H σ env L R qb (G env kvs) Q → t σ H Q)
    {σ : St} {H : Hp} {Q : VK} (h : tKeys C K XE fz qb i f G σ H Q) : t σ H Q ∨ tLockE t σ H Q := by
  obtain ⟨F, env, L, R, sr, ho⟩ := h
  have hz : ∃ F env L, SR C K F H σ env L R ∧ Out C K XE F H σ env L R qb (match itemsOf env i f with
        | some kvs => if keysOk kvs = true then G env kvs else .er
        | none => .er) Q := by
    cases fz with
    | false => exact ⟨F, env, L, sr, ho⟩
    | true =>
      simp only [if_true] at ho
      split at ho
      case h_2 => exact ho.elim
      rename_i e1 hfz
      unfold frzS at hfz
      split at hfz
      case h_2 => cases hfz
      rename_i o hso
      cases hfz
      obtain ⟨v, F', L', _, _, p⟩ := sr.freeze hso
      exact ⟨F', _, L', p.sr, Out.pre2 p ho⟩
  clear sr ho
  obtain ⟨F, e1, L, sr, ho⟩ := hz
  split at ho
  case h_2 => exact ho.elim
  rename_i kvs hit
  split at ho
  case isFalse => exact ho.elim
  rename_i hko
  obtain ⟨d, vs, hat, hrd, hrk⟩ := itemsOf_at sr hit
  rcases hrd with hF | ⟨o, hF⟩
  · rcases sr.le _ _ hF with hH | ⟨_, o, hH⟩
    · right
      exact ⟨d, _, hH, trivial, fun od => main σ _ od _ F e1 L R d vs kvs (SR.off sr hF (le_lock sr.le hF hH)) (hat.upd hH fun _ _ _ z => by cases z) (.inl hF) hrk hko upd_same (Out.lock hX hF hH ho)⟩
    · exact .inl (main σ H o Q F e1 L R d vs kvs sr hat (.inl hF) hrk hko hH ho)
  · exact .inl (main σ H o Q F e1 L R d vs kvs sr hat (.inr ⟨o, hF⟩) hrk hko (sr.le.at hF (fun _ z => by cases z)) ho)
theorem pe_keys {e : Expr} {t : TE} {te : TE} (base : PE X e t) (h : ∀ σ H Q, te σ H Q → t σ H Q ∨ tLockE t σ H Q) : PE X e te := PE.imp (PE.or base (pe_lock base)) fun σ H Q q => h σ H Q q
theorem ps_keys {st : Stmt} {t : TE} {i : Nat} {c : CE} {pin : List Nat} {W : Nat} (hp : i ∉ pin) (base : PS X st (tAsg t (gName i))) (h : ∀ σ H Q, tV C X.K cal XE c σ H Q → t σ H Q ∨ tLockE t σ H Q) : PS X st (tS C X.K cal XE pin W (.set i c)) :=
  PS.imp (PS.or base (ps_lock base)) fun D σ H q => (h σ H _ (set_in hp q)).imp (fun z => z) fun ⟨d, u, hd, mu, z⟩ => ⟨d, u, hd, mu, fun od => z od⟩
/-- name = {..} on one line, the name a local -/
theorem ps_setDc {i : Nat} {y : Str} {py : Pos} {kx vx tg iter : Expr} {ifs : List Expr} {scope : Scope} {own : List (Str × Nat)} {pos spos : Pos} {wi : TI} {g : TG} {tt : TT} {tk tv : TE} (hc : X.calm = true) (hN : X.N.Nodup) (hy : X.N[i]? = some y) (hyl : X.env.scope.names.lookup y = some .local)
    (hsw : swapsWith (.DictComp kx vx [⟨tg, iter, ifs, 0⟩] scope pos) (some (.Name y py)) spos.line X.env = pure true) (hi : PI X tg iter wi) (ok : BlkOk X.N X.env.scope scope own)
    (hg : ∀ (s : Shared) (H : Hp) (A : Addr) (cl : List (Str × Addr)) (fp : List Addr), PG (X.blk s H scope (compEnvC scope cl A X.env) fp) tg g) (ht : ∀ (s : Shared) (H : Hp) (A : Addr) (cl : List (Str × Addr)) (fp : List Addr), PTs (X.blk s H scope (compEnvC scope cl A X.env) fp) ifs tt)
    (hk : ∀ (s : Shared) (H : Hp) (A : Addr) (cl : List (Str × Addr)) (fp : List Addr), PE (X.blk s H scope (compEnvC scope cl A X.env) fp) kx tk)
    (hv : ∀ (s : Shared) (H : Hp) (A : Addr) (cl : List (Str × Addr)) (fp : List Addr), PE (X.blk s H scope (compEnvC scope cl A X.env) fp) vx tv) (hs : ∀ x, foldedSetIterable iter X.env x = pure x) :
    PS X (.Assign [.Name y py] (.DictComp kx vx [⟨tg, iter, ifs, 0⟩] scope pos) spos) (tAsg (tDc wi g tt tk tv (own.map (·.2))) (gName i)) := by
  refine ⟨fun pins sh τ hp D inv hh => ?_⟩
  rw [PySem.exec_Assign_Name_used _ _ _ _ hsw]
  refine wpAny_bind (wpAny_standAt (wpAny_bind ?_))
  have hh : tDc wi g tt tk tv (own.map (·.2)) τ hp (fun x H1 => gName i x τ H1 D.nx) := hh
  show wpAny _ X.A (do let _ ← comprehension (.DictComp kx vx [⟨tg, iter, ifs, 0⟩] scope pos) scope X.env (firstIterPos [⟨tg, iter, ifs, 0⟩] pos) newDict false (eval iter X.env) (some (assign (.Name y py) X.env))) _ _ sh
  refine wpAny_bind (thn (dc_core (Qf := fun _ s' => SP X pins D .next s') hc hN inv hi ok hg ht hk hv hs hh fun Lx Cx s' m H' I' q hn f => ?_) fun _ s' hq => wpAny_pure (wpAny_pure hq))
  show wpAny _ _ (assign (.Name y py) X.env (.ref Lx)) _ _ _
  refine wpAny_assign_Name (store_ok2 (v := V.ref Lx) I' hN hy (.inl hyl) rfl (fun s2 I2 ⟨a, sb, ha⟩ => ?_) (.inr hyl))
  obtain ⟨f0, f1, f2, f3, f4, f5⟩ := f
  have hne : Cx ≠ a := ha.elim (fun z => by rw [z]; exact f1) fun z e => f4 y a z e.symm
  exact ⟨m, hn.sameBut sb hne, fun h3 sb3 => ⟨_, H', I2.turned (t' := s2.toks) (fun b o hb e => (sb3.2 b hb).trans e) f0 f1 f3 f4 f5, q⟩⟩
def gLcK (cal : Nat → List O → CRes) (vs : List Nat) (t : Tg) (cs : List CE) (cx : CE) (e : Env) (kvs : List (Key × Cr.D)) : Res (Hd × Env) := if wipeOk vs e = true then (Res.noEx (lcL (lcF (fun e => evC cal cs e) (fun e => ev cal cx e) t vs) (kvs.map fun p => keyB p.1) (wipeE e vs))).bind fun y => if lineOk (kvs.map fun p => keyB p.1).length = true then .ok (.t (.ol y.1), backE e y.2 vs) else .er else .er
def gDcK (cal : Nat → List O → CRes) (vs : List Nat) (t : Tg) (k v : CE) (e : Env) (kvs : List (Key × Cr.D)) : Res (Hd × Env) := if (wipeOk vs e && k.quiet && v.quiet && lineOk (kvs.map fun p => keyB p.1).length) = true then
          match dcL (fun e => ev cal k e) (fun e => ev cal v e) t (wipeE e vs) (kvs.map fun p => keyB p.1) [] with
          | some kvs => .ok (.t (.od (kvs.map fun p => (p.1, .fr p.2))), e)
          | none => .er
        else .er
theorem lcK_main {vs : List Nat} {i : Nat} {f : Option Str} {t : Tg} {cs : List CE} {cx : CE} {K : PySem.W.Frag} (na : ∀ g, f = some g → ∀ c, Cls K (C c) ∧ NoAttr K (C c) g) (hcs : cs.length ≤ 1) (hsl : ∀ i ∈ t.slots, i ∈ vs) : ∀ (σ : St) (H : Hp) (o : Obj) (Q : VK) (F : Hp) (env : Env) (L R : List Addr) (d : Addr) (ws : List (Key × V)) (kvs : List (Key × Cr.D)), SR C K F H σ env L R → AtP C σ H i f (.ref d) → Rd F d (.dK ws) → RepSK C K F kvs ws → keysOk kvs = true → H d = some (.frz o (.dK ws)) → Out C K XE F H σ env L R (quietL cs && cx.quiet) (gLcK cal vs t cs cx env kvs) Q →
    tLc (iKeys (tP K i f)) (tTg C K t) (tCs C K cal X0 cs) (tV C K cal X0 cx) vs σ H Q := fun σ H o Q F env L R d ws kvs sr hat hrd hrk hko hH ho => by
  refine tP_of na hat ⟨d, o, rfl, .inl ⟨ws, hH, ?_⟩⟩
  refine lc_body (XE := XE) (H0 := H) (qs := true) (tr := false) hcs hsl (fun z => ⟨rfl, z⟩) (Pst.refl sr) (it_keys hrd hrk hko hH) ?_
  unfold gLcK at ho
  split at ho
  case isFalse => exact ho.elim
  rename_i hw
  rw [if_pos (by rw [hw]; rfl)]
  exact ho
theorem dcK_main {vs : List Nat} {i : Nat} {f : Option Str} {t : Tg} {k v : CE} {K : PySem.W.Frag} (na : ∀ g, f = some g → ∀ c, Cls K (C c) ∧ NoAttr K (C c) g) (hsl : ∀ i ∈ t.slots, i ∈ vs) : ∀ (σ : St) (H : Hp) (o : Obj) (Q : VK) (F : Hp) (env : Env) (L R : List Addr) (d : Addr) (ws : List (Key × V)) (kvs : List (Key × Cr.D)), SR C K F H σ env L R → AtP C σ H i f (.ref d) → Rd F d (.dK ws) → RepSK C K F kvs ws → keysOk kvs = true → H d = some (.frz o (.dK ws)) → Out C K XE F H σ env L R (k.quiet && v.quiet) (gDcK cal vs t k v env kvs) Q →
    tDc (iKeys (tP K i f)) (tTg C K t) tYes (tV C K cal X0 k) (tV C K cal X0 v) vs σ H Q := fun σ H o Q F env L R d ws kvs sr hat hrd hrk hko hH ho => by
  refine tP_of na hat ⟨d, o, rfl, .inl ⟨ws, hH, ?_⟩⟩
  unfold gDcK at ho
  split at ho
  case isFalse => exact ho.elim
  rename_i hcond
  simp only [Bool.and_eq_true, lineOk, decide_eq_true_eq] at hcond
  obtain ⟨⟨⟨h1, h2⟩, h3⟩, h4⟩ := hcond
  split at ho
  case h_2 => exact ho.elim
  rename_i kvs2 hdc
  exact dc_body (XE := XE) (H0 := H) (qs := true) (tr := false) hsl (fun z => rfl) (Pst.refl sr) (it_keys hrd hrk hko hH) h1 h2 h3 h4 hdc ho
theorem keys_out {K : PySem.W.Frag} {ce : CE} {fz qb : Bool} {i : Nat} {f : Option Str} {G G' : Env → List (Key × Cr.D) → Res (Hd × Env)} (hq : ce.quiet = (!fz && qb)) (he : ∀ env, ev cal ce env = (match (if fz = true then frzS env i else some env) with
      | some e => match itemsOf e i f with
        | some kvs => G' e kvs
        | none => .er
      | none => .er)) (hG : ∀ e kvs, G' e kvs = if keysOk kvs = true then G e kvs else .er) {Q : VK} (h : tV C K cal XE ce σ H Q) : tKeys C K XE fz qb i f G σ H Q := by
  obtain ⟨F, env, L, R, sr, ho⟩ := h
  refine ⟨F, env, L, R, sr, ?_⟩
  rw [he, hq] at ho
  simp only [hG] at ho
  exact ho
theorem lcK_out {K : PySem.W.Frag} {fz : Bool} {i : Nat} {f : Option Str} {vs : List Nat} {t : Tg} {cs : List CE} {cx : CE} {Q : VK} (h : tV C K cal XE (.lcK fz i f vs t cs cx) σ H Q) : tKeys C K XE fz (quietL cs && cx.quiet) i f (fun e kvs => gLcK cal vs t cs cx e kvs) σ H Q :=
  keys_out (G' := fun e kvs => if (keysOk kvs && wipeOk vs e) = true then (Res.noEx (lcL (lcF (fun e => evC cal cs e) (fun e => ev cal cx e) t vs) (kvs.map fun p => keyB p.1) (wipeE e vs))).bind fun y => if lineOk (kvs.map fun p => keyB p.1).length = true then .ok (.t (.ol y.1), backE e y.2 vs) else .er else .er) (by simp only [CE.quiet, Bool.and_assoc]) (fun env => by simp only [ev]; first | done | rfl) (fun e kvs => by
    unfold gLcK
    cases keysOk kvs <;> simp [-Res.bind]) h
theorem dcK_out {K : PySem.W.Frag} {fz : Bool} {i : Nat} {f : Option Str} {vs : List Nat} {t : Tg} {k v : CE} {Q : VK} (h : tV C K cal XE (.dcK fz i f vs t k v) σ H Q) : tKeys C K XE fz (k.quiet && v.quiet) i f (fun e kvs => gDcK cal vs t k v e kvs) σ H Q :=
  keys_out (G' := fun e kvs => if (keysOk kvs && (wipeOk vs e && k.quiet && v.quiet && lineOk (kvs.map fun p => keyB p.1).length)) = true then
          match dcL (fun e => ev cal k e) (fun e => ev cal v e) t (wipeE e vs) (kvs.map fun p => keyB p.1) [] with
          | some kvs => .ok (.t (.od (kvs.map fun p => (p.1, .fr p.2))), e)
          | none => .er
        else .er) (by simp only [CE.quiet, Bool.and_assoc]) (fun env => by simp only [ev]; first | done | rfl) (fun e kvs => by
    unfold gDcK
    cases keysOk kvs <;> simp [-Res.bind]) h
theorem s_lcK {fz : Bool} {i : Nat} {f : Option Str} {x : Str} {px : Pos} {elt tg rv : Expr} {ifs : List Expr} {scope : Scope} {own : List (Str × Nat)} {pos : Pos} {t : Tg} {cs : List CE} {cx : CE} (hX : XKeep XE) (hc : X.calm = true) (hN : X.N.Nodup)
    (na : ∀ g, f = some g → ∀ c, Cls X.K (C c) ∧ NoAttr X.K (C c) g) (hr : IsRecv x px f rv) (hNi : X.N[i]? = some x) (hv : Vis X.env.scope x) (hd : (x == ("__debug__" : Str)) = false) (hcd : (x == ("__classdict__" : Str)) = false) (ok : BlkOk X.N X.env.scope scope own)
    (hg : ∀ (s : Shared) (H : Hp) (A : Addr) (cl : List (Str × Addr)) (fp : List Addr), PG (X.blk s H scope (compEnvC scope cl A X.env) fp) tg (tTg C X.K t)) (ht : ∀ (s : Shared) (H : Hp) (A : Addr) (cl : List (Str × Addr)) (fp : List Addr), PTs (X.blk s H scope (compEnvC scope cl A X.env) fp) ifs (tCs C X.K cal X0 cs))
    (he : ∀ (s : Shared) (H : Hp) (A : Addr) (cl : List (Str × Addr)) (fp : List Addr), PE (X.blk s H scope (compEnvC scope cl A X.env) fp) elt (tV C X.K cal X0 cx)) (hcs : cs.length ≤ 1) (hsl : ∀ i ∈ t.slots, i ∈ own.map (·.2)) (hs : ∀ y, foldedSetIterable rv X.env y = pure y) :
    EV X C cal XE (.ListComp elt [⟨tg, rv, ifs, 0⟩] scope pos) (.lcK fz i f (own.map (·.2)) t cs cx) := by
  refine PE.imp (t := tKeys C X.K XE fz (quietL cs && cx.quiet) i f (fun e kvs => gLcK cal (own.map (·.2)) t cs cx e kvs)) ?_ fun σ H Q hq => lcK_out hq
  exact pe_keys (pe_lc hc hN (pi_keys (pe_recv hr hNi hv hd hcd)) ok hg ht he hs) fun σ H Q hq => keys_or hX (lcK_main na hcs hsl) hq
theorem s_dcK {fz : Bool} {i : Nat} {f : Option Str} {x : Str} {px : Pos} {kx vx tg rv : Expr} {scope : Scope} {own : List (Str × Nat)} {pos : Pos} {t : Tg} {k v : CE} (hX : XKeep XE) (hc : X.calm = true) (hN : X.N.Nodup)
    (na : ∀ g, f = some g → ∀ c, Cls X.K (C c) ∧ NoAttr X.K (C c) g) (hr : IsRecv x px f rv) (hNi : X.N[i]? = some x) (hvi : Vis X.env.scope x) (hd : (x == ("__debug__" : Str)) = false) (hcd : (x == ("__classdict__" : Str)) = false) (ok : BlkOk X.N X.env.scope scope own)
    (hg : ∀ (s : Shared) (H : Hp) (A : Addr) (cl : List (Str × Addr)) (fp : List Addr), PG (X.blk s H scope (compEnvC scope cl A X.env) fp) tg (tTg C X.K t))
    (hk : ∀ (s : Shared) (H : Hp) (A : Addr) (cl : List (Str × Addr)) (fp : List Addr), PE (X.blk s H scope (compEnvC scope cl A X.env) fp) kx (tV C X.K cal X0 k))
    (hv : ∀ (s : Shared) (H : Hp) (A : Addr) (cl : List (Str × Addr)) (fp : List Addr), PE (X.blk s H scope (compEnvC scope cl A X.env) fp) vx (tV C X.K cal X0 v)) (hsl : ∀ i ∈ t.slots, i ∈ own.map (·.2)) (hs : ∀ y, foldedSetIterable rv X.env y = pure y) :
    EV X C cal XE (.DictComp kx vx [⟨tg, rv, [], 0⟩] scope pos) (.dcK fz i f (own.map (·.2)) t k v) := by
  refine PE.imp (t := tKeys C X.K XE fz (k.quiet && v.quiet) i f (fun e kvs => gDcK cal (own.map (·.2)) t k v e kvs)) ?_ fun σ H Q hq => dcK_out hq
  exact pe_keys (pe_dc hc hN (pi_keys (pe_recv hr hNi hvi hd hcd)) ok hg (fun _ _ _ _ _ => pts_nil) hk hv hs) fun σ H Q hq => keys_or hX (dcK_main na hsl) hq
section
variable {pin : List Nat} {W : Nat}
theorem b_setDc {i : Nat} {y : Str} {py : Pos} {kx vx tg iter : Expr} {scope : Scope} {own : List (Str × Nat)} {pos spos : Pos} {t : Tg} {src : Sr} {k v : CE} (hc : X.calm = true) (hN : X.N.Nodup) (hy : X.N[i]? = some y) (hyl : X.env.scope.names.lookup y = some .local) (hp : i ∉ pin)
    (hsw : swapsWith (.DictComp kx vx [⟨tg, iter, [], 0⟩] scope pos) (some (.Name y py)) spos.line X.env = pure true) (hi : PI X tg iter (tSr C X.K cal XE src)) (ok : BlkOk X.N X.env.scope scope own)
    (hg : ∀ (s : Shared) (H : Hp) (A : Addr) (cl : List (Str × Addr)) (fp : List Addr), PG (X.blk s H scope (compEnvC scope cl A X.env) fp) tg (tTg C X.K t))
    (hk : ∀ (s : Shared) (H : Hp) (A : Addr) (cl : List (Str × Addr)) (fp : List Addr), PE (X.blk s H scope (compEnvC scope cl A X.env) fp) kx (tV C X.K cal X0 k))
    (hv : ∀ (s : Shared) (H : Hp) (A : Addr) (cl : List (Str × Addr)) (fp : List Addr), PE (X.blk s H scope (compEnvC scope cl A X.env) fp) vx (tV C X.K cal X0 v)) (hsl : ∀ i ∈ t.slots, i ∈ own.map (·.2)) (hs : ∀ x, foldedSetIterable iter X.env x = pure x) :
    PS X (.Assign [.Name y py] (.DictComp kx vx [⟨tg, iter, [], 0⟩] scope pos) spos) (tS C X.K cal XE pin W (.set i (.dc (own.map (·.2)) t src k v))) :=
  PS.imp (ps_setDc hc hN hy hyl hsw hi ok hg (fun _ _ _ _ _ => pts_nil) hk hv hs) fun D σ H h => dc_in hsl (set_in hp h)
theorem b_setLcK {fz : Bool} {i0 : Nat} {f : Option Str} {x0 : Str} {px : Pos} {i : Nat} {y : Str} {py : Pos} {elt tg rv : Expr} {ifs : List Expr} {scope : Scope} {own : List (Str × Nat)} {pos spos : Pos} {t : Tg} {cs : List CE} {cx : CE} (hX : XKeep XE) (hc : X.calm = true) (hN : X.N.Nodup)
    (na : ∀ g, f = some g → ∀ c, Cls X.K (C c) ∧ NoAttr X.K (C c) g) (hr : IsRecv x0 px f rv) (hNi : X.N[i0]? = some x0) (hv : Vis X.env.scope x0) (hd : (x0 == ("__debug__" : Str)) = false) (hcd : (x0 == ("__classdict__" : Str)) = false) (hy : X.N[i]? = some y) (hyl : X.env.scope.names.lookup y = some .local) (hp : i ∉ pin)
    (hsw : swapsWith (.ListComp elt [⟨tg, rv, ifs, 0⟩] scope pos) (some (.Name y py)) spos.line X.env = pure true) (ok : BlkOk X.N X.env.scope scope own)
    (hg : ∀ (s : Shared) (H : Hp) (A : Addr) (cl : List (Str × Addr)) (fp : List Addr), PG (X.blk s H scope (compEnvC scope cl A X.env) fp) tg (tTg C X.K t)) (ht : ∀ (s : Shared) (H : Hp) (A : Addr) (cl : List (Str × Addr)) (fp : List Addr), PTs (X.blk s H scope (compEnvC scope cl A X.env) fp) ifs (tCs C X.K cal X0 cs))
    (he : ∀ (s : Shared) (H : Hp) (A : Addr) (cl : List (Str × Addr)) (fp : List Addr), PE (X.blk s H scope (compEnvC scope cl A X.env) fp) elt (tV C X.K cal X0 cx)) (hcs : cs.length ≤ 1) (hsl : ∀ i ∈ t.slots, i ∈ own.map (·.2)) (hs : ∀ y, foldedSetIterable rv X.env y = pure y) :
    PS X (.Assign [.Name y py] (.ListComp elt [⟨tg, rv, ifs, 0⟩] scope pos) spos) (tS C X.K cal XE pin W (.set i (.lcK fz i0 f (own.map (·.2)) t cs cx))) :=
  ps_keys hp (ps_setLc hc hN hy hyl hsw (pi_keys (pe_recv hr hNi hv hd hcd)) ok hg ht he hs) fun σ H Q hq => keys_or hX (lcK_main na hcs hsl) (lcK_out hq)
theorem b_setDcK {fz : Bool} {i0 : Nat} {f : Option Str} {x0 : Str} {px : Pos} {i : Nat} {y : Str} {py : Pos} {kx vx tg rv : Expr} {scope : Scope} {own : List (Str × Nat)} {pos spos : Pos} {t : Tg} {k v : CE} (hX : XKeep XE) (hc : X.calm = true) (hN : X.N.Nodup)
    (na : ∀ g, f = some g → ∀ c, Cls X.K (C c) ∧ NoAttr X.K (C c) g) (hr : IsRecv x0 px f rv) (hNi : X.N[i0]? = some x0) (hvi : Vis X.env.scope x0) (hd : (x0 == ("__debug__" : Str)) = false) (hcd : (x0 == ("__classdict__" : Str)) = false) (hy : X.N[i]? = some y) (hyl : X.env.scope.names.lookup y = some .local) (hp : i ∉ pin)
    (hsw : swapsWith (.DictComp kx vx [⟨tg, rv, [], 0⟩] scope pos) (some (.Name y py)) spos.line X.env = pure true) (ok : BlkOk X.N X.env.scope scope own)
    (hg : ∀ (s : Shared) (H : Hp) (A : Addr) (cl : List (Str × Addr)) (fp : List Addr), PG (X.blk s H scope (compEnvC scope cl A X.env) fp) tg (tTg C X.K t))
    (hk : ∀ (s : Shared) (H : Hp) (A : Addr) (cl : List (Str × Addr)) (fp : List Addr), PE (X.blk s H scope (compEnvC scope cl A X.env) fp) kx (tV C X.K cal X0 k))
    (hv : ∀ (s : Shared) (H : Hp) (A : Addr) (cl : List (Str × Addr)) (fp : List Addr), PE (X.blk s H scope (compEnvC scope cl A X.env) fp) vx (tV C X.K cal X0 v)) (hsl : ∀ i ∈ t.slots, i ∈ own.map (·.2)) (hs : ∀ y, foldedSetIterable rv X.env y = pure y) :
    PS X (.Assign [.Name y py] (.DictComp kx vx [⟨tg, rv, [], 0⟩] scope pos) spos) (tS C X.K cal XE pin W (.set i (.dcK fz i0 f (own.map (·.2)) t k v))) :=
  ps_keys hp (ps_setDc hc hN hy hyl hsw (pi_keys (pe_recv hr hNi hvi hd hcd)) ok hg (fun _ _ _ _ _ => pts_nil) hk hv hs) fun σ H Q hq => keys_or hX (dcK_main na hsl) (dcK_out hq)
end
theorem swD_true {kx vx : Expr} {gs : List Comprehension} {scope : Scope} {pos py : Pos} {y : Str} {l : Nat} {env : PySem.Env} (hk : env.scope.kind = .function) (hy : env.scope.names.lookup y = some .local) (hl : (py.line == pos.line) = true)
    (ha : (scope.names.any fun (n, k) => n == y && (k == .local || k == .cell)) = false) : swapsWith (.DictComp kx vx gs scope pos) (some (.Name y py)) l env = pure true := by
  have ky : env.kindOf y = some .local := hy
  have hb : env.blockKind = .function := by unfold Env.blockKind; rw [hk]; rfl
  unfold swapsWith
  simp only [hb, ky, ha, Expr.pos, hl]
  all_goals rfl
theorem swD_false {kx vx : Expr} {gs : List Comprehension} {scope : Scope} {pos py : Pos} {y : Str} {l : Nat} {env : PySem.Env} (hy : env.scope.names.lookup y ≠ some .local) : swapsWith (.DictComp kx vx gs scope pos) (some (.Name y py)) l env = pure false := by
  have ky : (env.kindOf y == some .local) = false := by
    rw [beq_eq_false_iff_ne]
    exact hy
  unfold swapsWith
  simp only [ky, Bool.and_false, Bool.false_and]
  all_goals rfl
end
end Cr
end

section
/-! The checker: a core term stands for an expression. -/
namespace Cr
open PySem L2

/-- names that are known -/
structure Tb where
  fns : List (Str × (Nat × Nat × List Nat))
  gls : List (Str × D)
  flds : List Str
  mths : List ((Str × Nat) × (Nat × Nat × List Nat))
  mks : List (Str × (Nat × Nat × Nat))
/-- a block's names; the cells that were made for it -/
structure Sc where
  s : Scope
  f : Str → Bool
def Sc.blk (sc : Sc) (scope : Scope) : Sc := ⟨relS scope sc.s, fun x => scope.names.lookup x == some .cell⟩
def isGl (sc : Sc) (x : Str) : Bool := decide (sc.s.names.lookup x = some .globalImplicit)
def visC (sc : Sc) (x : Str) : Bool := match sc.s.names.lookup x with
  | some .local => true | some .cell => true | some .free => true | _ => false
def nameC (x : Str) : Bool := !(x == ("__debug__" : Str)) && !(x == ("__classdict__" : Str))
def slotC (N : List Str) (sc : Sc) (i : Nat) (x : Str) : Bool := decide (N[i]? = some x) && visC sc x && nameC x
def localC (N : List Str) (sc : Sc) (i : Nat) (x : Str) : Bool := decide (N[i]? = some x) && (decide (sc.s.names.lookup x = some .local) || (decide (sc.s.names.lookup x = some .cell) && sc.f x))
def litC : Expr → D → Bool
  | .Constant (.int i) _ _, .int j => decide (i = j)
  | .Constant (.str s) _ _, .str t => decide (s = t) && decide (s.length ≤ sizeLine) && (PyData.str s).canLay0
  | .Constant (.bool b) _ _, .bl c => b == c
  | .Constant .none _ _, .non => true
  | .UnaryOp .USub (.Constant (.int i) _ _) _, .int j => decide (j = -i)
  | _, _ => false
def noSet : Expr → Bool
  | .Set _ _ _ => false
  | _ => true
def noSlice : Expr → Bool
  | .Slice _ _ _ _ => false
  | _ => true
def noCall : Expr → Bool
  | .Call _ _ _ _ => false
  | _ => true
def isiC (t : Str) : Bool := decide (t = ("bool" : Str)) || decide (t = ("int" : Str)) || decide (t = ("str" : Str))
/-- a test like its value -/
def asIs : Expr → Bool
  | .UnaryOp .Not _ _ => false
  | .BoolOp _ _ _ => false
  | .IfExp _ _ _ _ => false
  | _ => true
def noComp : Expr → Bool
  | .ListComp _ _ _ _ => false
  | .SetComp _ _ _ _ => false
  | .DictComp _ _ _ _ _ => false
  | _ => true
def noTup : Expr → Bool
  | .Tuple _ _ _ => false
  | _ => true
def ownP (N : List Str) (own : List Nat) : List (Str × Nat) := own.map fun i => ((N[i]?).getD "", i)
mutual
def eqS : D → D → Bool
  | .non, .non => true
  | .bl a, .bl b => a == b
  | .int a, .int b => decide (a = b)
  | .str a, .str b => decide (a = b)
  | .tup a, .tup b => eqSL a b
  | _, _ => false
def eqSL : List D → List D → Bool
  | [], [] => true
  | a :: l, b :: m => eqS a b && eqSL l m
  | _, _ => false
end
mutual
theorem eqS_eq : ∀ (a b : D), eqS a b = true → a = b
  | .non, .non, _ => rfl
  | .bl a, .bl b, h => by simp [eqS] at h; rw [h]
  | .int a, .int b, h => by simp [eqS] at h; rw [h]
  | .str a, .str b, h => by simp [eqS] at h; rw [h]
  | .tup a, .tup b, h => by simp only [eqS] at h; rw [eqSL_eq a b h]
  | .non, .bl _, h | .non, .int _, h | .non, .str _, h | .non, .tup _, h | .non, .lst _, h | .non, .dic _, h | .non, .ins _ _, h | .non, .scr _, h | .non, .bad, h => by simp [eqS] at h
  | .bl _, .non, h | .bl _, .int _, h | .bl _, .str _, h | .bl _, .tup _, h | .bl _, .lst _, h | .bl _, .dic _, h | .bl _, .ins _ _, h | .bl _, .scr _, h | .bl _, .bad, h => by simp [eqS] at h
  | .int _, .non, h | .int _, .bl _, h | .int _, .str _, h | .int _, .tup _, h | .int _, .lst _, h | .int _, .dic _, h | .int _, .ins _ _, h | .int _, .scr _, h | .int _, .bad, h => by simp [eqS] at h
  | .str _, .non, h | .str _, .bl _, h | .str _, .int _, h | .str _, .tup _, h | .str _, .lst _, h | .str _, .dic _, h | .str _, .ins _ _, h | .str _, .scr _, h | .str _, .bad, h => by simp [eqS] at h
  | .tup _, .non, h | .tup _, .bl _, h | .tup _, .int _, h | .tup _, .str _, h | .tup _, .lst _, h | .tup _, .dic _, h | .tup _, .ins _ _, h | .tup _, .scr _, h | .tup _, .bad, h => by simp [eqS] at h
  | .lst _, _, h | .dic _, _, h | .ins _ _, _, h | .scr _, _, h | .bad, _, h => by simp [eqS] at h
theorem eqSL_eq : ∀ (a b : List D), eqSL a b = true → a = b
  | [], [], _ => rfl
  | a :: l, b :: m, h => by
    simp only [eqSL, Bool.and_eq_true] at h
    rw [eqS_eq a b h.1, eqSL_eq l m h.2]
  | [], _ :: _, h => by simp [eqSL] at h
  | _ :: _, [], h => by simp [eqSL] at h
end
mutual
def chkTg (N : List Str) (sc : Sc) : Tg → Expr → Bool
  | .v i, .Name x _ => localC N sc i x
  | .tup ts, .Tuple es _ _ => chkTgs N sc ts es
  | _, _ => false
def chkTgs (N : List Str) (sc : Sc) : List Tg → List Expr → Bool
  | [], [] => true
  | t :: ts, e :: es => noStar e && chkTg N sc t e && chkTgs N sc ts es
  | _, _ => false
end
section
variable (G : Tb) (N : List Str)
def recvC (sc : Sc) (i : Nat) : Option Str → Expr → Bool
  | none, .Name x _ => slotC N sc i x
  | some f, .Attribute (.Name x _) f' _ => decide (f = f') && G.flds.contains f && slotC N sc i x
  | _, _ => false
def Bm.nm : Bm → Str
  | .get => "get"
  | .count => "count"
  | .index => "index"
mutual
def chk (sc : Sc) : Bool → CE → Expr → Bool
  | _, .lit d, e => litC e d
  | _, .glob g d, .Name x _ => decide (x = g) && isGl sc x && nameC x && (match G.gls.lookup x with | some d' => eqS d d' | none => false)
  | _, .var i, .Name x _ => slotC N sc i x
  | _, .io i, .Name x _ => slotC N sc i x
  | _, .mv i, .Name x _ => slotC N sc i x
  | _, .fz i, .Name x _ => slotC N sc i x
  | _, .tup cs, .Tuple es _ _ => chkEs sc cs es
  | _, .lst cs, .List es _ => chkEs sc cs es
  | _, .bin op a b, .BinOp l o r _ => decide (op = o) && chk sc false a l && chk sc false b r
  | _, .cmp op a b, .Compare l [o] [r] _ => decide (op = o) && !behindInMarks o r && chk sc false a l && chk sc false b r
  | _, .cmp2 o1 o2 a b c, .Compare l [p1, p2] [m, r] _ => decide (o1 = p1) && decide (o2 = p2) && !lastMarks [p1, p2] [m, r] && chk sc false a l && chk sc false b m && chk sc false c r
  | false, .and cs, .BoolOp .And xs _ => !cs.isEmpty && chkEs sc cs xs
  | false, .or cs, .BoolOp .Or xs _ => !cs.isEmpty && chkEs sc cs xs
  | true, .and cs, .BoolOp .And xs _ => !cs.isEmpty && chkTs sc cs xs
  | true, .or cs, .BoolOp .Or xs _ => !cs.isEmpty && chkTs sc cs xs
  | t, .not a, .UnaryOp .Not x _ => chk sc t a x
  | false, .ife k a b, .IfExp c x y _ => chk sc true k c && chk sc false a x && chk sc false b y
  | _, .sub a i, .Subscript l r _ => noSlice r && chk sc false a l && chk sc false i r
  | _, .slice a lo hi, .Subscript l (.Slice lo' hi' none _) _ => chk sc false a l && chkO sc lo lo' && chkO sc hi hi'
  | _, .call f io cs, .Call (.Name x _) es [] _ => (match G.fns.lookup x with | some (f', np, io') => decide (f = f') && decide (io = io') && decide (cs.length = np) | none => false) && !es.isEmpty && isGl sc x && nameC x && chkEs sc cs es
  | _, .bi b cs, .Call (.Name x _) es [] _ => decide (x = b.name) && !es.isEmpty && isGl sc x && chkEs sc cs es
  | _, .lc own t src cs x, .ListComp elt [⟨tg, iter, ifs, k⟩] scope _ => decide (k = 0) && blkC N sc.s scope (ownP N own) && chkSr sc src tg iter && chkTg N (sc.blk scope) t tg && chkCs (sc.blk scope) cs ifs && chk (sc.blk scope) false x elt && decide (∀ i ∈ t.slots, i ∈ own) && noSet iter
  | _, .no, _ => true
  | _, .dict0, .Dict [] [] _ => true
  | _, .fld a f, .Attribute e f' _ => decide (f = f') && G.flds.contains f && noCall e && chk sc false a e
  | _, .lens a, .Call (.Name x _) [.Call (.Name y _) [e] [] _] [] _ => decide (x = "len") && decide (y = "set") && isGl sc x && isGl sc y && noStar e && chk sc false a e
  | _, .isi t a, .Call (.Name x _) [e, .Name y _] [] _ => decide (x = "isinstance") && decide (y = t) && isiC t && isGl sc x && isGl sc y && noStar e && chk sc false a e
  | false, .fzt a, e => chk sc false a e
  | _, .mk c f cs, .Call (.Name x _) es [] _ => (match G.mks.lookup x with | some (c', f', np) => decide (c = c') && decide (f = f') && decide (cs.length + 1 = np) | none => false) && isGl sc x && nameC x && chkEs sc cs es
  | _, .mcall m c f io a cs, .Call (.Attribute o m' apos) es [] pos => (match G.mths.lookup (m, c) with | some (f', np, io') => decide (f = f') && decide (io = io') && decide (cs.length + 1 = np) | none => false) && decide (m = m') && noCall o && decide (es.length < 30) && (apos.endLine == pos.line) && chk sc false a o && chkEs sc cs es
  | _, .popi i c, .Call (.Attribute (.Name x _) m apos) [e] [] pos => decide (m = "pop") && slotC N sc i x && noStar e && (apos.endLine == pos.line) && chk sc false c e
  | _, .listR (.rng cs), .Call (.Name x _) [.Call (.Name y _) es [] _] [] _ => decide (x = "list") && decide (y = "range") && isGl sc x && isGl sc y && !es.isEmpty && chkEs sc cs es
  | _, .bm m a b, .Call (.Attribute o m' apos) [e] [] pos => decide (m' = m.nm) && noCall o && noStar e && (apos.endLine == pos.line) && chk sc false a o && chk sc false b e
  | _, .srtD a, .Call (.Name x _) [e] [] _ => decide (x = "sorted") && isGl sc x && noStar e && chk sc false a e
  | _, .dc own t src k v, .DictComp kx vx [⟨tg, iter, [], n⟩] scope _ => decide (n = 0) && blkC N sc.s scope (ownP N own) && chkSr sc src tg iter && chkTg N (sc.blk scope) t tg && chk (sc.blk scope) false k kx && chk (sc.blk scope) false v vx && decide (∀ i ∈ t.slots, i ∈ own) && noSet iter
  | _, .lcK _ i f own t cs x, .ListComp elt [⟨tg, rv, ifs, n⟩] scope _ => decide (n = 0) && blkC N sc.s scope (ownP N own) && recvC G N sc i f rv && chkTg N (sc.blk scope) t tg && chkCs (sc.blk scope) cs ifs && chk (sc.blk scope) false x elt && decide (∀ i ∈ t.slots, i ∈ own) && noSet rv
  | _, .dcK _ i f own t k v, .DictComp kx vx [⟨tg, rv, [], n⟩] scope _ => decide (n = 0) && blkC N sc.s scope (ownP N own) && recvC G N sc i f rv && chkTg N (sc.blk scope) t tg && chk (sc.blk scope) false k kx && chk (sc.blk scope) false v vx && decide (∀ i ∈ t.slots, i ∈ own) && noSet rv
  | _, _, _ => false
def chkEs (sc : Sc) : List CE → List Expr → Bool
  | [], [] => true
  | c :: cs, e :: es => noStar e && chk sc false c e && chkEs sc cs es
  | _, _ => false
def chkTs (sc : Sc) : List CE → List Expr → Bool
  | [], [] => true
  | c :: cs, e :: es => chk sc true c e && chkTs sc cs es
  | _, _ => false
def chkO (sc : Sc) : Option CE → Option Expr → Bool
  | none, none => true
  | some c, some e => chk sc false c e
  | _, _ => false
def chkCs (sc : Sc) : List CE → List Expr → Bool
  | [], [] => true
  | c :: cs, e :: es => cs.isEmpty && es.isEmpty && chk sc true c e
  | _, _ => false
def chkSr (sc : Sc) : Sr → Expr → Expr → Bool
  | .seq c, _, e => chk sc false c e
  | .rng cs, _, .Call (.Name x _) es [] _ => decide (x = "range") && isGl sc x && decide (0 < cs.length) && decide (cs.length ≤ 3) && chkEs sc cs es
  | .enum c, .Tuple _ _ _, .Call (.Name x _) [e] [] _ => decide (x = "enumerate") && isGl sc x && noStar e && chk sc false c e
  | _, _, _ => false
end
end
def bltNames : List Str := ["len", "list", "sum", "max", "min", "tuple", "range", "enumerate", "all", "any", "int", "dict", "set", "isinstance", "bool", "str", "sorted"]
/-- what a context must know -/
structure Ctx (G : Tb) (C : Nat → Addr) (cal : Nat → List O → CRes) (N : List Str) (sc : Sc) (X : Cx) : Prop where
  calm : X.calm = true
  hN : X.N = N
  nd : N.Nodup
  fn : X.fn = sc.f
  sc : X.env.scope = sc.s
  un : X.A.units + 65 < cLine
  blt : ∀ x : Str, x ∈ bltNames → X.mg x = none
  cls : ∀ f ∈ G.flds, ∀ c, Cls X.K (C c) ∧ NoAttr X.K (C c) f
  mths : ∀ m i f np io, G.mths.lookup (m, i) = some (f, np, io) → ∃ k a fd ps, FnOk X.prog X.w X.K X.mg X.base (L2.CX X.prog X.w) k a fd ps (spF C X.K (fun _ => X0) cal f np io) ∧ Room k X.A ∧ Cls X.K (C i) ∧ Meth X.K (C i) m a ∧ Binds X.K fd ps []
  mks : ∀ x i f np, G.mks.lookup x = some (i, f, np) → ∃ k a fd ps, FnOk X.prog X.w X.K X.mg X.base (L2.CX X.prog X.w) k a fd ps (spF C X.K (fun _ => X0) cal f np [0]) ∧ Room (k + 1) X.A ∧ Mk X.K (C i) a ∧ X.mg x = some (.ref (C i)) ∧ Binds X.K fd ps []
  fns : ∀ x f np io, G.fns.lookup x = some (f, np, io) → ∃ k a fd ps, FnOk X.prog X.w X.K X.mg X.base (L2.CX X.prog X.w) k a fd ps (spF C X.K (fun _ => X0) cal f np io) ∧ Room k X.A ∧ X.mg x = some (.ref a) ∧ PySem.W.keepIn X.K (.ref a) = true ∧ Binds X.K fd ps []
  gls : ∀ x d, G.gls.lookup x = some d → ∃ v u, X.mg x = some u ∧ RelV v u ∧ ∀ F, RepS C X.K F d v
end Cr
end

section
/-! The checker is right: expressions. -/
namespace Cr
open PySem L2

section
variable {G : Tb} {C : Nat → Addr} {cal : Nat → List O → CRes} {N : List Str} {sc : Sc} {X : Cx}
theorem Ctx.blk (c : Ctx G C cal N sc X) (s : Shared) (H : Hp) (scope : Scope) (A : Addr) (cl : List (Str × Addr)) (fp : List Addr) : Ctx G C cal N (sc.blk scope) (X.blk s H scope (compEnvC scope cl A X.env) fp) := by
  refine ⟨c.calm, c.hN, c.nd, rfl, ?_, c.un, c.blt, c.cls, c.mths, c.mks, c.fns, c.gls⟩
  show _ = relS scope sc.s
  rw [← c.sc]
  rfl
theorem vis_of (c : Ctx G C cal N sc X) {x : Str} (h : visC sc x = true) : Vis X.env.scope x := by
  rw [c.sc]
  unfold visC at h
  split at h
  · rename_i e; exact .inl e
  · rename_i e; exact .inr (.inl e)
  · rename_i e; exact .inr (.inr e)
  · cases h
theorem gl_of (c : Ctx G C cal N sc X) {x : Str} (h : isGl sc x = true) : Gl X x := by
  have h := of_decide_eq_true h
  show X.env.scope.names.lookup x = _
  rw [c.sc]; exact h
theorem et_of {e : Expr} {ce : CE} (h : EV X C cal X0 e ce) (he : asIs e = true) (hc : ∀ l o r p, e ≠ .Compare l o r p) : ET X C cal X0 e ce := by
  refine pt_val h ?_
  intro w
  cases e <;> first | rfl | (exact absurd rfl (hc _ _ _ _)) | (cases he) | skip
  rename_i op x p
  cases op <;> first | rfl | cases he
theorem slot_of (c : Ctx G C cal N sc X) {i : Nat} {x : Str} (h : slotC N sc i x = true) : X.N[i]? = some x ∧ Vis X.env.scope x ∧ (x == ("__debug__" : Str)) = false ∧ (x == ("__classdict__" : Str)) = false := by
  unfold slotC nameC at h
  simp only [Bool.and_eq_true, decide_eq_true_eq, Bool.not_eq_true'] at h
  exact ⟨by rw [c.hN]; exact h.1.1, vis_of c h.1.2, h.2.1, h.2.2⟩
theorem lit_ok {d : D} {e : Expr} (h : litC e d = true) : EV X C cal X0 e (.lit d) := by
  unfold litC at h
  split at h
  · rename_i i _ _ j
    have := of_decide_eq_true h
    subst this
    exact s_pd (d := .int i) pe_int (fun _ => by simp only [ev]) (fun _ => by simp only [RepS])
  · rename_i x _ _ j
    simp only [Bool.and_eq_true, decide_eq_true_eq] at h
    obtain ⟨⟨rfl, h1⟩, h2⟩ := h
    exact s_pd (d := .str x) pe_str (fun _ => by simp only [ev]) (fun _ => by simp only [RepS]; exact ⟨trivial, h1, h2⟩)
  · rename_i b _ _ j
    have := eq_of_beq h
    subst this
    exact s_pd (d := .bl b) pe_bl (fun _ => by simp only [ev]) (fun _ => by simp only [RepS])
  · exact s_pd (d := .non) pe_non (fun _ => by simp only [ev]) (fun _ => by simp only [RepS])
  · rename_i i _ _ _ j
    have := of_decide_eq_true h
    subst this
    exact s_pd (d := .int (-i)) s_neg (fun _ => by simp only [ev]) (fun _ => by simp only [RepS])
  · cases h
theorem lit_as {d : D} {e : Expr} (h : litC e d = true) : asIs e = true ∧ ∀ l o r p, e ≠ .Compare l o r p := by
  unfold litC at h
  split at h <;> first | exact ⟨rfl, fun _ _ _ _ z => by cases z⟩ | cases h
theorem both {e : Expr} {ce : CE} {t : Bool} (h : EV X C cal X0 e ce) (he : asIs e = true) (hc : ∀ l o r p, e ≠ .Compare l o r p) : (t = false → EV X C cal X0 e ce) ∧ (t = true → ET X C cal X0 e ce) := ⟨fun _ => h, fun _ => et_of h he hc⟩
theorem pa_of : ∀ {cs : List CE} {es : List Expr}, EVL (EV X C cal X0) cs es → (∀ e ∈ es, noStar e = true) → PA X es (tVs C X.K cal X0 cs)
  | [], [], _, _ => a_nil
  | c :: cs, e :: es, h, hs => a_cons (star_cons (hs e (by simp)) _) h.1 (pa_of h.2 fun e he => hs e (by simp [he]))
  | [], _ :: _, h, _ => h.elim
  | _ :: _, [], h, _ => h.elim
theorem local_of (c : Ctx G C cal N sc X) {i : Nat} {x : Str} (h : localC N sc i x = true) : X.N.Nodup ∧ X.N[i]? = some x ∧ Loc X.env.scope x ∧ (X.fn x = true ∨ X.env.scope.names.lookup x = some .local) := by
  unfold localC at h
  simp only [Bool.and_eq_true, Bool.or_eq_true, decide_eq_true_eq] at h
  refine ⟨by rw [c.hN]; exact c.nd, by rw [c.hN]; exact h.1, ?_⟩
  rw [c.sc]
  rcases h.2 with z | ⟨z, z2⟩
  · exact ⟨.inl z, .inr z⟩
  · exact ⟨.inr z, .inl (by rw [c.fn]; exact z2)⟩
theorem tg_ok : ∀ (t : Tg) {e : Expr}, Ctx G C cal N sc X → chkTg N sc t e = true → PG X e (tTg C X.K t) ∧ PG X e (tTgO C X.K t) := fun t => by
  suffices h : ∀ n : Nat, (∀ (t : Tg) (e : Expr), sizeOf t < n → Ctx G C cal N sc X → chkTg N sc t e = true → PG X e (tTg C X.K t) ∧ PG X e (tTgO C X.K t)) ∧
      (∀ (ts : List Tg) (es : List Expr), sizeOf ts < n → Ctx G C cal N sc X → chkTgs N sc ts es = true → PGs X es (tTgs C X.K ts) ∧ PGs X es (tTgOs C X.K ts) ∧ (assignEach es X.env).length = ts.length ∧ (assignEach es X.env).findIdx? (·.1) = none) from
    fun {e} => (h (sizeOf t + 1)).1 t e (Nat.lt_succ_self _)
  intro n
  induction n with
  | zero => exact ⟨fun _ _ h => absurd h (Nat.not_lt_zero _), fun _ _ h => absurd h (Nat.not_lt_zero _)⟩
  | succ n ih =>
    refine ⟨fun t e hs c h => ?_, fun ts es hs c h => ?_⟩
    · unfold chkTg at h
      split at h
      · obtain ⟨hN, hi, hx, hf⟩ := local_of c h
        exact ⟨g_name hN hi hx hf, go_name hN hi hx hf⟩
      · obtain ⟨a, b, l, f⟩ := ih.2 _ _ (by simp at hs; omega) c h
        exact ⟨g_tup c.calm a l f, go_tup c.calm b l f⟩
      · cases h
    · unfold chkTgs at h
      split at h
      · exact ⟨g_nil, go_nil, rfl, rfl⟩
      · rename_i t ts e es
        simp only [Bool.and_eq_true] at h
        obtain ⟨a1, b1⟩ := ih.1 t e (by simp at hs; omega) c h.1.2
        obtain ⟨a2, b2, l2, f2⟩ := ih.2 ts es (by simp at hs; omega) c h.2
        have hst : assignEach (e :: es) X.env = (false, assign e X.env) :: assignEach es X.env := by
          have := h.1.1
          cases e <;> first | rfl | cases this
        refine ⟨g_cons a1 a2 (by rw [hst]; rfl), go_cons b1 b2 (by rw [hst]; rfl), by rw [hst]; simp [l2], ?_⟩
        rw [hst, List.findIdx?_cons]
        simp [f2]
      · cases h
theorem fold_of {e : Expr} (h : noSet e = true) (env : PySem.Env) : ∀ x, foldedSetIterable e env x = pure x := by
  intro x
  cases e <;> first | rfl | cases h
theorem plain_of {e : Expr} (h : noSlice e = true) : PlainIx e := by
  intro o i
  cases e <;> first | rfl | cases h
theorem call_ok (c : Ctx G C cal N sc X) {f np : Nat} {io : List Nat} {cs : List CE} {x : Str} {p pos : Pos} {e : Expr} {es : List Expr} (hx : G.fns.lookup x = some (f, np, io)) (hnp : cs.length = np) (hg : isGl sc x = true) (hd : (x == ("__debug__" : Str)) = false)
    (ha : PA X (e :: es) (tVs C X.K cal X0 cs)) (hs : ∀ y ∈ e :: es, noStar y = true) : EV X C cal X0 (.Call (.Name x p) (e :: es) [] pos) (.call f io cs) := by
  obtain ⟨k, a, fd, ps, F, hr, hm, hk, hb⟩ := c.fns x f np io hx
  refine PE.imp (pe_call F hr (gl_of c hg) hm hk hb .nil passL ha hd (star_cons (hs e (by simp)) _) (star_any fun y hy => hs y (by simp [hy]))) fun σ H Q hq => ?_
  exact call_core (E := E0) (xe := fun _ => X0) hnp hq
theorem glob_ok (c : Ctx G C cal N sc X) {x : Str} {d d' : D} {p : Pos} (hg : isGl sc x = true) (hd : nameC x = true) (hl : G.gls.lookup x = some d') (he : eqS d d' = true) : EV X C cal X0 (.Name x p) (.glob x d) := by
  obtain ⟨v, u, hm, r, rs⟩ := c.gls x d' hl
  rw [eqS_eq d d' he]
  unfold nameC at hd
  simp only [Bool.and_eq_true, Bool.not_eq_true'] at hd
  exact s_pd (pe_glob (gl_of c hg) hm r hd.1) (fun _ => by simp only [ev]) rs
theorem bi_ok (c : Ctx G C cal N sc X) {b : Bi} {cs : List CE} {x : Str} {p pos : Pos} {es : List Expr} (hx : x = b.name) (hn : es.isEmpty = false) (hg : isGl sc x = true) (ha : PA X es (tVs C X.K cal X0 cs)) (hs : ∀ y ∈ es, noStar y = true) (hc : cs.length = es.length) :
    EV X C cal X0 (.Call (.Name x p) es [] pos) (.bi b cs) := by
  cases es with
  | nil => cases hn
  | cons e es =>
    cases cs with
    | nil => cases hc
    | cons k cs =>
      subst hx
      exact s_bi c.calm (gl_of c hg) (c.blt _ (by cases b <;> simp [Bi.name, bltNames])) ha (star_cons (hs e (by simp)) _) (star_any fun y hy => hs y (by simp [hy]))
theorem mk_ok (c : Ctx G C cal N sc X) {i f np : Nat} {cs : List CE} {x : Str} {p pos : Pos} {es : List Expr} (hx : G.mks.lookup x = some (i, f, np)) (hnp : cs.length + 1 = np) (hg : isGl sc x = true) (hd : nameC x = true) (ha : PA X es (tVs C X.K cal X0 cs)) (hs : ∀ y ∈ es, noStar y = true) (hc : cs.length = es.length) :
    EV X C cal X0 (.Call (.Name x p) es [] pos) (.mk i f cs) := by
  obtain ⟨k, a, fd, ps, h1, h2, h3, h4, h5⟩ := c.mks x i f np hx
  unfold nameC at hd
  simp only [Bool.and_eq_true, Bool.not_eq_true'] at hd
  exact s_mk h3 h1 h2 (gl_of c hg) h4 h5 ha hc hnp hs hd.1
theorem base_of {o : Expr} (h : noCall o = true) (m : Str) (env : PySem.Env) (w : Sem Value) : attributeBase o m env w = w := by
  cases o <;> first | rfl | cases h
theorem mcall_ok (c : Ctx G C cal N sc X) {m : Str} {i f np : Nat} {io : List Nat} {a : CE} {cs : List CE} {o : Expr} {apos pos : Pos} {es : List Expr} (hx : G.mths.lookup (m, i) = some (f, np, io)) (hnp : cs.length + 1 = np) (ho : EV X C cal X0 o a) (hb : noCall o = true) (ha : PA X es (tVs C X.K cal X0 cs)) (hs : ∀ y ∈ es, noStar y = true) (hc : cs.length = es.length) (hl : es.length < 30) (hline : (apos.endLine == pos.line) = true) :
    EV X C cal X0 (.Call (.Attribute o m apos) es [] pos) (.mcall m i f io a cs) := by
  obtain ⟨k, ad, fd, ps, h1, h2, h3, h4, h5⟩ := c.mths m i f np io hx
  exact s_mcall h3 h4 h1 h2 h5 ho ha hc hnp hs (base_of hb _ _ _) hl hline
theorem no_ok {e : Expr} : EV X C cal X0 e .no ∧ ET X C cal X0 e .no := ⟨s_no, ⟨fun pins s σ H Q I hq => by
  obtain ⟨F, env, L, R, sr, ho⟩ := hq
  simp only [ev] at ho
  exact ho.elim⟩⟩
theorem flds_of (c : Ctx G C cal N sc X) {f : Str} (h : G.flds.contains f = true) : ∀ i, Cls X.K (C i) ∧ NoAttr X.K (C i) f := c.cls f (by simpa using h)
theorem recv_of (c : Ctx G C cal N sc X) {i : Nat} {f : Option Str} {rv : Expr} (h : recvC G N sc i f rv = true) : ∃ x px, IsRecv x px f rv ∧ (∀ g, f = some g → ∀ c, Cls X.K (C c) ∧ NoAttr X.K (C c) g) ∧ X.N[i]? = some x ∧ Vis X.env.scope x ∧ (x == ("__debug__" : Str)) = false ∧ (x == ("__classdict__" : Str)) = false := by
  unfold recvC at h
  split at h
  · rename_i x px
    exact ⟨x, px, rfl, (fun g z => by cases z), slot_of c h⟩
  · rename_i f x px f' pa
    simp only [Bool.and_eq_true, decide_eq_true_eq] at h
    obtain ⟨⟨rfl, h1⟩, h2⟩ := h
    exact ⟨x, px, ⟨pa, rfl⟩, (fun g z => by cases z; exact flds_of c h1), slot_of c h2⟩
  · cases h
mutual
theorem chk_ok (G : Tb) (C : Nat → Addr) (cal : Nat → List O → CRes) (N : List Str) : ∀ (ce : CE) (t : Bool) (sc : Sc) (X : Cx) (e : Expr), Ctx G C cal N sc X → chk G N sc t ce e = true → (t = false → EV X C cal X0 e ce) ∧ (t = true → ET X C cal X0 e ce)
  | .lit d, t, sc, X, e, c, h => by
    have h : litC e d = true := by unfold chk at h; exact h
    exact both (lit_ok h) (lit_as h).1 (lit_as h).2
  | .glob g d, t, sc, X, e, c, h => by
    unfold chk at h
    split at h <;> rename_i e1 <;> first | cases e1 | cases h
    rename_i t x p
    simp only [Bool.and_eq_true, decide_eq_true_eq] at h
    obtain ⟨⟨⟨rfl, h1⟩, h2⟩, h3⟩ := h
    split at h3
    · rename_i d' hl
      exact both (glob_ok c h1 h2 hl h3) rfl (fun _ _ _ _ z => by cases z)
    · cases h3
  | .var i, t, sc, X, e, c, h => by
    unfold chk at h
    split at h <;> rename_i e1 <;> first | cases e1 | cases h
    obtain ⟨a1, a2, a3, a4⟩ := slot_of c h
    exact both (s_var a1 a2 a3 a4) rfl (fun _ _ _ _ z => by cases z)
  | .io i, t, sc, X, e, c, h => by
    unfold chk at h
    split at h <;> rename_i e1 <;> first | cases e1 | cases h
    obtain ⟨a1, a2, a3, a4⟩ := slot_of c h
    exact both (s_io a1 a2 a3 a4) rfl (fun _ _ _ _ z => by cases z)
  | .mv i, t, sc, X, e, c, h => by
    unfold chk at h
    split at h <;> rename_i e1 <;> first | cases e1 | cases h
    obtain ⟨a1, a2, a3, a4⟩ := slot_of c h
    exact both (s_mv a1 a2 a3 a4) rfl (fun _ _ _ _ z => by cases z)
  | .fz i, t, sc, X, e, c, h => by
    unfold chk at h
    split at h <;> rename_i e1 <;> first | cases e1 | cases h
    obtain ⟨a1, a2, a3, a4⟩ := slot_of c h
    exact both (s_fz a1 a2 a3 a4) rfl (fun _ _ _ _ z => by cases z)
  | .tup cs, t, sc, X, e, c, h => by
    unfold chk at h
    split at h <;> rename_i e1 <;> first | cases e1 | cases h
    have r := chkEs_ok G C cal N cs sc X _ c h
    exact both (s_tup (pa_of r.1 r.2.1)) rfl (fun _ _ _ _ z => by cases z)
  | .lst cs, t, sc, X, e, c, h => by
    unfold chk at h
    split at h <;> rename_i e1 <;> first | cases e1 | cases h
    have r := chkEs_ok G C cal N cs sc X _ c h
    exact both (s_lst (pa_of r.1 r.2.1)) rfl (fun _ _ _ _ z => by cases z)
  | .bin op a b, t, sc, X, e, c, h => by
    unfold chk at h
    split at h <;> rename_i e1 <;> first | cases e1 | cases h
    simp only [Bool.and_eq_true, decide_eq_true_eq] at h
    obtain ⟨⟨rfl, h1⟩, h2⟩ := h
    exact both (s_bin ((chk_ok G C cal N a false sc X _ c h1).1 rfl) ((chk_ok G C cal N b false sc X _ c h2).1 rfl)) rfl (fun _ _ _ _ z => by cases z)
  | .cmp op a b, t, sc, X, e, c, h => by
    unfold chk at h
    split at h <;> rename_i e1 <;> first | cases e1 | cases h
    simp only [Bool.and_eq_true, decide_eq_true_eq, Bool.not_eq_true'] at h
    obtain ⟨⟨⟨rfl, h0⟩, h1⟩, h2⟩ := h
    have r := s_cmp (pos := default) c.un h0 ((chk_ok G C cal N a false sc X _ c h1).1 rfl) ((chk_ok G C cal N b false sc X _ c h2).1 rfl)
    exact ⟨fun _ => (s_cmp c.un h0 ((chk_ok G C cal N a false sc X _ c h1).1 rfl) ((chk_ok G C cal N b false sc X _ c h2).1 rfl)).1, fun _ => (s_cmp c.un h0 ((chk_ok G C cal N a false sc X _ c h1).1 rfl) ((chk_ok G C cal N b false sc X _ c h2).1 rfl)).2⟩
  | .cmp2 o1 o2 a b k, t, sc, X, e, c, h => by
    unfold chk at h
    split at h <;> rename_i e1 <;> first | cases e1 | cases h
    simp only [Bool.and_eq_true, decide_eq_true_eq, Bool.not_eq_true'] at h
    obtain ⟨⟨⟨⟨⟨rfl, rfl⟩, h0⟩, h1⟩, h2⟩, h3⟩ := h
    have ra := (chk_ok G C cal N a false sc X _ c h1).1 rfl
    have rb := (chk_ok G C cal N b false sc X _ c h2).1 rfl
    have rc := (chk_ok G C cal N k false sc X _ c h3).1 rfl
    exact ⟨fun _ => (s_cmp2 c.un h0 ra rb rc).1, fun _ => (s_cmp2 c.un h0 ra rb rc).2⟩
  | .and cs, t, sc, X, e, c, h => by
    unfold chk at h
    split at h <;> rename_i e1 <;> first | cases e1 | cases h
    · simp only [Bool.and_eq_true, Bool.not_eq_true', List.isEmpty_eq_false_iff] at h
      exact ⟨fun _ => s_and h.1 (chkEs_ok G C cal N cs sc X _ c h.2).1, fun z => by cases z⟩
    · simp only [Bool.and_eq_true, Bool.not_eq_true', List.isEmpty_eq_false_iff] at h
      exact ⟨(fun z => by cases z), fun _ => s_andt h.1 (chkTs_ok G C cal N cs sc X _ c h.2)⟩
  | .or cs, t, sc, X, e, c, h => by
    unfold chk at h
    split at h <;> rename_i e1 <;> first | cases e1 | cases h
    · simp only [Bool.and_eq_true, Bool.not_eq_true', List.isEmpty_eq_false_iff] at h
      exact ⟨fun _ => s_or h.1 (chkEs_ok G C cal N cs sc X _ c h.2).1, fun z => by cases z⟩
    · simp only [Bool.and_eq_true, Bool.not_eq_true', List.isEmpty_eq_false_iff] at h
      exact ⟨(fun z => by cases z), fun _ => s_ort h.1 (chkTs_ok G C cal N cs sc X _ c h.2)⟩
  | .not a, t, sc, X, e, c, h => by
    unfold chk at h
    split at h <;> rename_i e1 <;> first | cases e1 | cases h
    have r := chk_ok G C cal N a _ sc X _ c h
    exact ⟨fun z => s_not (r.1 z), fun z => s_nott (r.2 z)⟩
  | .ife k a b, t, sc, X, e, c, h => by
    unfold chk at h
    split at h <;> rename_i e1 <;> first | cases e1 | cases h
    simp only [Bool.and_eq_true] at h
    obtain ⟨⟨h1, h2⟩, h3⟩ := h
    exact ⟨fun _ => s_ife ((chk_ok G C cal N k true sc X _ c h1).2 rfl) ((chk_ok G C cal N a false sc X _ c h2).1 rfl) ((chk_ok G C cal N b false sc X _ c h3).1 rfl), fun z => by cases z⟩
  | .sub a i, t, sc, X, e, c, h => by
    unfold chk at h
    split at h <;> rename_i e1 <;> first | cases e1 | cases h
    simp only [Bool.and_eq_true] at h
    obtain ⟨⟨h0, h1⟩, h2⟩ := h
    exact both (s_sub c.un (plain_of h0) ((chk_ok G C cal N a false sc X _ c h1).1 rfl) ((chk_ok G C cal N i false sc X _ c h2).1 rfl)) rfl (fun _ _ _ _ z => by cases z)
  | .slice a lo hi, t, sc, X, e, c, h => by
    unfold chk at h
    split at h <;> rename_i e1 <;> first | cases e1 | cases h
    simp only [Bool.and_eq_true] at h
    obtain ⟨⟨h1, h2⟩, h3⟩ := h
    exact both (s_slice ((chk_ok G C cal N a false sc X _ c h1).1 rfl) (chkO_ok G C cal N lo sc X _ c h2) (chkO_ok G C cal N hi sc X _ c h3)) rfl (fun _ _ _ _ z => by cases z)
  | .call f io cs, t, sc, X, e, c, h => by
    unfold chk at h
    split at h <;> rename_i e1 <;> first | cases e1 | cases h
    rename_i x p es pos
    simp only [Bool.and_eq_true, Bool.not_eq_true', List.isEmpty_eq_false_iff] at h
    obtain ⟨⟨⟨⟨h1, h2⟩, h3⟩, h4⟩, h5⟩ := h
    split at h1
    · rename_i f' np io' hl
      simp only [Bool.and_eq_true, decide_eq_true_eq] at h1
      obtain ⟨⟨rfl, rfl⟩, hnp⟩ := h1
      have r := chkEs_ok G C cal N cs sc X es c h5
      unfold nameC at h4
      simp only [Bool.and_eq_true, Bool.not_eq_true'] at h4
      cases es with
      | nil => exact absurd rfl h2
      | cons e0 es => exact both (call_ok c hl hnp h3 h4.1 (pa_of r.1 r.2.1) r.2.1) rfl (fun _ _ _ _ z => by cases z)
    · cases h1
  | .bi b cs, t, sc, X, e, c, h => by
    unfold chk at h
    split at h <;> rename_i e1 <;> first | cases e1 | cases h
    simp only [Bool.and_eq_true, Bool.not_eq_true', decide_eq_true_eq] at h
    obtain ⟨⟨⟨h1, h2⟩, h3⟩, h4⟩ := h
    have r := chkEs_ok G C cal N cs sc X _ c h4
    exact both (bi_ok c h1 h2 h3 (pa_of r.1 r.2.1) r.2.1 r.2.2) rfl (fun _ _ _ _ z => by cases z)
  | .lc own t' src cs x, t, sc, X, e, c, h => by
    unfold chk at h
    split at h <;> rename_i e1 <;> first | cases e1 | cases h
    rename_i elt tg iter ifs k scope pos
    simp only [Bool.and_eq_true, decide_eq_true_eq] at h
    obtain ⟨⟨⟨⟨⟨⟨⟨rfl, h1⟩, h2⟩, h3⟩, h4⟩, h5⟩, h6⟩, h7⟩ := h
    have ok : BlkOk X.N X.env.scope scope (ownP N own) := by
      rw [c.hN, c.sc]
      exact blkOk_by h1
    have own2 : (ownP N own).map (·.2) = own := by
      unfold ownP
      rw [List.map_map]
      exact List.map_id own
    have cc := chkCs_ok G C cal N cs (sc.blk scope) ifs h4
    have main := s_lc (pos := pos) (t := t') c.calm (by rw [c.hN]; exact c.nd) (chkSr_ok G C cal N src sc X tg iter c h2) ok (fun s H A cl fp => (tg_ok t' (c.blk s H scope A cl fp) h3).1)
      (fun s H A cl fp => cc.2 _ (c.blk s H scope A cl fp)) (fun s H A cl fp => (chk_ok G C cal N x false (sc.blk scope) _ elt (c.blk s H scope A cl fp) h5).1 rfl) cc.1 (by rw [own2]; exact h6) (fold_of h7 _)
    rw [own2] at main
    exact both main rfl (fun _ _ _ _ z => by cases z)
  | .listR (.rng cs), t, sc, X, e, c, h => by
    unfold chk at h
    split at h <;> rename_i e1 <;> first | cases e1 | cases h
    simp only [Bool.and_eq_true, Bool.not_eq_true', decide_eq_true_eq] at h
    obtain ⟨⟨⟨⟨⟨rfl, rfl⟩, h1⟩, h2⟩, h3⟩, h4⟩ := h
    rename_i p p2 es pos2 pos
    have r := chkEs_ok G C cal N cs sc X es c h4
    cases es with
    | nil => cases h3
    | cons e0 es =>
      exact both (s_listR c.calm (gl_of c h2) (c.blt _ (by simp [bltNames])) (gl_of c h1) (c.blt _ (by simp [bltNames])) (pa_of r.1 r.2.1) (star_cons (r.2.1 e0 (by simp)) _) (star_any fun y hy => r.2.1 y (by simp [hy])) rfl) rfl (fun _ _ _ _ z => by cases z)
  | .no, t, sc, X, e, c, h => ⟨fun _ => no_ok.1, fun _ => no_ok.2⟩
  | .dict0, t, sc, X, e, c, h => by
    unfold chk at h
    split at h <;> rename_i e1 <;> first | cases e1 | cases h
    exact both s_dict0 rfl (fun _ _ _ _ z => by cases z)
  | .fld a f, t, sc, X, e, c, h => by
    unfold chk at h
    split at h <;> rename_i e1 <;> first | cases e1 | cases h
    simp only [Bool.and_eq_true, decide_eq_true_eq] at h
    obtain ⟨⟨⟨rfl, h1⟩, h2⟩, h3⟩ := h
    exact both (s_fld (fun i => (flds_of c h1 i).1) (fun i => (flds_of c h1 i).2) (base_of h2 _ _ _) ((chk_ok G C cal N a false sc X _ c h3).1 rfl)) rfl (fun _ _ _ _ z => by cases z)
  | .lens a, t, sc, X, e, c, h => by
    unfold chk at h
    split at h <;> rename_i e1 <;> first | cases e1 | cases h
    simp only [Bool.and_eq_true, decide_eq_true_eq] at h
    obtain ⟨⟨⟨⟨⟨rfl, rfl⟩, h1⟩, h2⟩, h3⟩, h4⟩ := h
    exact both (s_lens c.calm (gl_of c h1) (c.blt _ (by simp [bltNames])) (gl_of c h2) (c.blt _ (by simp [bltNames])) ((chk_ok G C cal N a false sc X _ c h4).1 rfl) (star_cons h3 _)) rfl (fun _ _ _ _ z => by cases z)
  | .isi ty a, t, sc, X, e, c, h => by
    unfold chk at h
    split at h <;> rename_i e1 <;> first | cases e1 | cases h
    simp only [Bool.and_eq_true, decide_eq_true_eq, isiC, Bool.or_eq_true] at h
    obtain ⟨⟨⟨⟨⟨⟨rfl, rfl⟩, h0⟩, h1⟩, h2⟩, h3⟩, h4⟩ := h
    have ra := (chk_ok G C cal N a false sc X _ c h4).1 rfl
    have m1 : X.mg "isinstance" = none := c.blt _ (by simp [bltNames])
    rcases h0 with (rfl | rfl) | rfl
    · exact both (s_isi (t := "bool") (.inl rfl) (gl_of c h1) m1 (gl_of c h2) (c.blt _ (by simp [bltNames])) ra (star_cons h3 _)) rfl (fun _ _ _ _ z => by cases z)
    · exact both (s_isi (t := "int") (.inr (.inl rfl)) (gl_of c h1) m1 (gl_of c h2) (c.blt _ (by simp [bltNames])) ra (star_cons h3 _)) rfl (fun _ _ _ _ z => by cases z)
    · exact both (s_isi (t := "str") (.inr (.inr rfl)) (gl_of c h1) m1 (gl_of c h2) (c.blt _ (by simp [bltNames])) ra (star_cons h3 _)) rfl (fun _ _ _ _ z => by cases z)
  | .fzt a, t, sc, X, e, c, h => by
    unfold chk at h
    split at h <;> rename_i e1 <;> first | cases e1 | cases h
    exact ⟨fun _ => s_fzt ((chk_ok G C cal N a false sc X _ c h).1 rfl), fun z => by cases z⟩
  | .mk i f cs, t, sc, X, e, c, h => by
    unfold chk at h
    split at h <;> rename_i e1 <;> first | cases e1 | cases h
    rename_i x p es pos
    simp only [Bool.and_eq_true] at h
    obtain ⟨⟨⟨h1, h3⟩, h4⟩, h5⟩ := h
    split at h1
    · rename_i c' f' np hl
      simp only [Bool.and_eq_true, decide_eq_true_eq] at h1
      obtain ⟨⟨rfl, rfl⟩, hnp⟩ := h1
      have r := chkEs_ok G C cal N cs sc X es c h5
      exact both (mk_ok c hl hnp h3 h4 (pa_of r.1 r.2.1) r.2.1 r.2.2) rfl (fun _ _ _ _ z => by cases z)
    · cases h1
  | .mcall m i f io a cs, t, sc, X, e, c, h => by
    unfold chk at h
    split at h <;> rename_i e1 <;> first | cases e1 | cases h
    rename_i o m' apos es pos
    simp only [Bool.and_eq_true, decide_eq_true_eq] at h
    obtain ⟨⟨⟨⟨⟨⟨h1, rfl⟩, h2⟩, h3⟩, h4⟩, h5⟩, h6⟩ := h
    split at h1
    · rename_i f' np io' hl
      simp only [Bool.and_eq_true, decide_eq_true_eq] at h1
      obtain ⟨⟨rfl, rfl⟩, hnp⟩ := h1
      have r := chkEs_ok G C cal N cs sc X es c h6
      exact both (mcall_ok c hl hnp ((chk_ok G C cal N a false sc X _ c h5).1 rfl) h2 (pa_of r.1 r.2.1) r.2.1 r.2.2 h3 h4) rfl (fun _ _ _ _ z => by cases z)
    · cases h1
  | .popi i k, t, sc, X, e, c, h => by
    unfold chk at h
    split at h <;> rename_i e1 <;> first | cases e1 | cases h
    simp only [Bool.and_eq_true, decide_eq_true_eq] at h
    obtain ⟨⟨⟨⟨rfl, h1⟩, h2⟩, h3⟩, h4⟩ := h
    obtain ⟨a1, a2, a3, a4⟩ := slot_of c h1
    exact both (s_popi a1 a2 a3 a4 ((chk_ok G C cal N k false sc X _ c h4).1 rfl) h2 h3) rfl (fun _ _ _ _ z => by cases z)
  | .bm m a b, t, sc, X, e, c, h => by
    unfold chk at h
    split at h <;> rename_i e1 <;> first | cases e1 | cases h
    rename_i o m' apos y pos
    simp only [Bool.and_eq_true, decide_eq_true_eq] at h
    obtain ⟨⟨⟨⟨⟨rfl, h2⟩, h3⟩, h4⟩, h5⟩, h6⟩ := h
    have ra := (chk_ok G C cal N a false sc X _ c h5).1 rfl
    have rb := (chk_ok G C cal N b false sc X _ c h6).1 rfl
    have hu := c.un
    cases m with
    | get => exact both (s_bmGet (by omega) ra rb ⟨base_of h2 _ _ _, few_of (fun z hz => by simp at hz; rw [hz]; exact h3) (by simp), h4, by rw [star_cons h3]; rfl⟩) rfl (fun _ _ _ _ z => by cases z)
    | count => exact both (s_bmCnt ra rb h3 (base_of h2 _ _ _) h4) rfl (fun _ _ _ _ z => by cases z)
    | index => exact both (s_bmIdx ra rb h3 (base_of h2 _ _ _) h4) rfl (fun _ _ _ _ z => by cases z)
  | .srtD a, t, sc, X, e, c, h => by
    unfold chk at h
    split at h <;> rename_i e1 <;> first | cases e1 | cases h
    simp only [Bool.and_eq_true, decide_eq_true_eq] at h
    obtain ⟨⟨⟨rfl, h1⟩, h2⟩, h3⟩ := h
    exact both (s_srtD c.calm (gl_of c h1) (c.blt _ (by simp [bltNames])) ((chk_ok G C cal N a false sc X _ c h3).1 rfl) h2) rfl (fun _ _ _ _ z => by cases z)
  | .dc own t' src k v, t, sc, X, e, c, h => by
    unfold chk at h
    split at h <;> rename_i e1 <;> first | cases e1 | cases h
    rename_i kx vx tg iter n scope pos
    simp only [Bool.and_eq_true, decide_eq_true_eq] at h
    obtain ⟨⟨⟨⟨⟨⟨⟨rfl, h1⟩, h2⟩, h3⟩, h4⟩, h5⟩, h6⟩, h7⟩ := h
    have ok : BlkOk X.N X.env.scope scope (ownP N own) := by
      rw [c.hN, c.sc]
      exact blkOk_by h1
    have own2 : (ownP N own).map (·.2) = own := by
      unfold ownP
      rw [List.map_map]
      exact List.map_id own
    have main := s_dc (pos := pos) (t := t') c.calm (by rw [c.hN]; exact c.nd) (chkSr_ok G C cal N src sc X tg iter c h2) ok (fun s H A cl fp => (tg_ok t' (c.blk s H scope A cl fp) h3).1)
      (fun s H A cl fp => (chk_ok G C cal N k false (sc.blk scope) _ kx (c.blk s H scope A cl fp) h4).1 rfl) (fun s H A cl fp => (chk_ok G C cal N v false (sc.blk scope) _ vx (c.blk s H scope A cl fp) h5).1 rfl) (by rw [own2]; exact h6) (fold_of h7 _)
    rw [own2] at main
    exact both main rfl (fun _ _ _ _ z => by cases z)
  | .lcK fz i f own t' cs x, t, sc, X, e, c, h => by
    unfold chk at h
    split at h <;> rename_i e1 <;> first | cases e1 | cases h
    rename_i elt tg rv ifs n scope pos
    simp only [Bool.and_eq_true, decide_eq_true_eq] at h
    obtain ⟨⟨⟨⟨⟨⟨⟨rfl, h1⟩, h2⟩, h3⟩, h4⟩, h5⟩, h6⟩, h7⟩ := h
    have ok : BlkOk X.N X.env.scope scope (ownP N own) := by
      rw [c.hN, c.sc]
      exact blkOk_by h1
    have own2 : (ownP N own).map (·.2) = own := by
      unfold ownP
      rw [List.map_map]
      exact List.map_id own
    have cc := chkCs_ok G C cal N cs (sc.blk scope) ifs h4
    obtain ⟨x0, px, hr, na, a1, a2, a3, a4⟩ := recv_of c h2
    have main := s_lcK (cal := cal) (XE := X0) (fz := fz) (pos := pos) (t := t') (fun _ _ _ _ _ _ _ z => z.elim) c.calm (by rw [c.hN]; exact c.nd) na hr a1 a2 a3 a4 ok (fun s H A cl fp => (tg_ok t' (c.blk s H scope A cl fp) h3).1)
      (fun s H A cl fp => cc.2 _ (c.blk s H scope A cl fp)) (fun s H A cl fp => (chk_ok G C cal N x false (sc.blk scope) _ elt (c.blk s H scope A cl fp) h5).1 rfl) cc.1 (by rw [own2]; exact h6) (fold_of h7 _)
    rw [own2] at main
    exact both main rfl (fun _ _ _ _ z => by cases z)
  | .dcK fz i f own t' k v, t, sc, X, e, c, h => by
    unfold chk at h
    split at h <;> rename_i e1 <;> first | cases e1 | cases h
    rename_i kx vx tg rv n scope pos
    simp only [Bool.and_eq_true, decide_eq_true_eq] at h
    obtain ⟨⟨⟨⟨⟨⟨⟨rfl, h1⟩, h2⟩, h3⟩, h4⟩, h5⟩, h6⟩, h7⟩ := h
    have ok : BlkOk X.N X.env.scope scope (ownP N own) := by
      rw [c.hN, c.sc]
      exact blkOk_by h1
    have own2 : (ownP N own).map (·.2) = own := by
      unfold ownP
      rw [List.map_map]
      exact List.map_id own
    obtain ⟨x0, px, hr, na, a1, a2, a3, a4⟩ := recv_of c h2
    have main := s_dcK (cal := cal) (XE := X0) (fz := fz) (pos := pos) (t := t') (fun _ _ _ _ _ _ _ z => z.elim) c.calm (by rw [c.hN]; exact c.nd) na hr a1 a2 a3 a4 ok (fun s H A cl fp => (tg_ok t' (c.blk s H scope A cl fp) h3).1)
      (fun s H A cl fp => (chk_ok G C cal N k false (sc.blk scope) _ kx (c.blk s H scope A cl fp) h4).1 rfl) (fun s H A cl fp => (chk_ok G C cal N v false (sc.blk scope) _ vx (c.blk s H scope A cl fp) h5).1 rfl) (by rw [own2]; exact h6) (fold_of h7 _)
    rw [own2] at main
    exact both main rfl (fun _ _ _ _ z => by cases z)
  | .listR (.seq _), t, sc, X, e, c, h => by
    unfold chk at h
    cases h
  | .listR (.enum _), t, sc, X, e, c, h => by
    unfold chk at h
    cases h
theorem chkEs_ok (G : Tb) (C : Nat → Addr) (cal : Nat → List O → CRes) (N : List Str) : ∀ (cs : List CE) (sc : Sc) (X : Cx) (es : List Expr), Ctx G C cal N sc X → chkEs G N sc cs es = true → EVL (EV X C cal X0) cs es ∧ (∀ e ∈ es, noStar e = true) ∧ cs.length = es.length
  | [], sc, X, [], c, h => ⟨trivial, (fun e he => by cases he), rfl⟩
  | [], sc, X, _ :: _, c, h => by simp [chkEs] at h
  | _ :: _, sc, X, [], c, h => by simp [chkEs] at h
  | k :: cs, sc, X, e :: es, c, h => by
    simp only [chkEs, Bool.and_eq_true] at h
    have r := chkEs_ok G C cal N cs sc X es c h.2
    refine ⟨⟨(chk_ok G C cal N k false sc X e c h.1.2).1 rfl, r.1⟩, fun y hy => ?_, by simp [r.2.2]⟩
    rcases List.mem_cons.mp hy with z | z
    · rw [z]; exact h.1.1
    · exact r.2.1 y z
theorem chkTs_ok (G : Tb) (C : Nat → Addr) (cal : Nat → List O → CRes) (N : List Str) : ∀ (cs : List CE) (sc : Sc) (X : Cx) (es : List Expr), Ctx G C cal N sc X → chkTs G N sc cs es = true → EVL (ET X C cal X0) cs es
  | [], sc, X, [], c, h => trivial
  | [], sc, X, _ :: _, c, h => by simp [chkTs] at h
  | _ :: _, sc, X, [], c, h => by simp [chkTs] at h
  | k :: cs, sc, X, e :: es, c, h => by
    simp only [chkTs, Bool.and_eq_true] at h
    exact ⟨(chk_ok G C cal N k true sc X e c h.1).2 rfl, chkTs_ok G C cal N cs sc X es c h.2⟩
theorem chkO_ok (G : Tb) (C : Nat → Addr) (cal : Nat → List O → CRes) (N : List Str) : ∀ (k : Option CE) (sc : Sc) (X : Cx) (e : Option Expr), Ctx G C cal N sc X → chkO G N sc k e = true → PVO X C cal X0 e k
  | none, sc, X, none, c, h => trivial
  | none, sc, X, some _, c, h => by simp [chkO] at h
  | some _, sc, X, none, c, h => by simp [chkO] at h
  | some k, sc, X, some e, c, h => by
    simp only [chkO] at h
    exact (chk_ok G C cal N k false sc X e c h).1 rfl
theorem chkCs_ok (G : Tb) (C : Nat → Addr) (cal : Nat → List O → CRes) (N : List Str) : ∀ (cs : List CE) (sc : Sc) (es : List Expr), chkCs G N sc cs es = true → cs.length ≤ 1 ∧ ∀ X, Ctx G C cal N sc X → PTs X es (tCs C X.K cal X0 cs)
  | [], sc, [], h => ⟨Nat.zero_le _, fun X c => pts_nil⟩
  | [], sc, _ :: _, h => by simp [chkCs] at h
  | _ :: _, sc, [], h => by simp [chkCs] at h
  | [k], sc, e :: es, h => by
    simp only [chkCs, Bool.and_eq_true, List.isEmpty_iff] at h
    obtain ⟨⟨_, rfl⟩, h⟩ := h
    exact ⟨Nat.le_refl _, fun X c => pts_one ((chk_ok G C cal N k true sc X e c h).2 rfl)⟩
  | k :: _ :: _, sc, e :: es, h => by simp [chkCs] at h
theorem chkSr_ok (G : Tb) (C : Nat → Addr) (cal : Nat → List O → CRes) (N : List Str) : ∀ (s : Sr) (sc : Sc) (X : Cx) (tg e : Expr), Ctx G C cal N sc X → chkSr G N sc s tg e = true → PI X tg e (tSr C X.K cal X0 s)
  | .seq k, sc, X, tg, e, c, h => by
    have h : chk G N sc false k e = true := by unfold chkSr at h; exact h
    exact sr_seq ((chk_ok G C cal N k false sc X e c h).1 rfl)
  | .rng cs, sc, X, tg, e, c, h => by
    unfold chkSr at h
    split at h <;> rename_i e1 <;> first | cases e1 | cases h
    rename_i x p es pos
    simp only [Bool.and_eq_true, decide_eq_true_eq] at h
    obtain ⟨⟨⟨⟨rfl, h1⟩, h2⟩, h3⟩, h4⟩ := h
    have r := chkEs_ok G C cal N cs sc X es c h4
    have pa := pa_of r.1 r.2.1
    have hm := c.blt "range" (by simp [bltNames])
    have hg := gl_of c h1
    match es, r.2.2, r.2.1, pa with
    | [], hl, hs, pa => exact absurd hl (by simp only [List.length_nil]; omega)
    | [a], hl, hs, pa => exact sr_rng1 (by simpa using hl) hg hm pa (star_cons (hs a (by simp)) _)
    | [a, b], hl, hs, pa =>
      refine sr_rng2 (by simpa using hl) hg hm pa ?_ (star_cons (hs b (by simp)) _)
      rw [star_cons (hs a (by simp)), star_cons (hs b (by simp))]
      rfl
    | [a, b, k], hl, hs, pa => exact sr_rng3 (by simpa using hl) hg hm pa (star_cons (hs a (by simp)) _) (star_any fun y hy => hs y (List.mem_cons_of_mem _ hy))
    | _ :: _ :: _ :: _ :: _, hl, hs, pa => exact absurd hl (by simp; omega)
  | .enum k, sc, X, tg, e, c, h => by
    unfold chkSr at h
    split at h <;> rename_i e1 <;> first | cases e1 | cases h
    simp only [Bool.and_eq_true, decide_eq_true_eq] at h
    obtain ⟨⟨⟨rfl, h1⟩, h2⟩, h3⟩ := h
    exact sr_enum (gl_of c h1) (c.blt _ (by simp [bltNames])) ((chk_ok G C cal N k false sc X _ c h3).1 rfl) (star_cons h2 _)
end
end
end Cr
end

section
/-! The checker: statements. -/
namespace Cr
open PySem L2

def nmL (sc : Scope) : Expr → Bool
  | .Name x _ => decide (sc.names.lookup x = some .local)
  | _ => false
def noSwap (sc : Scope) (ts : List Expr) : Expr → Bool
  | .Tuple _ _ _ => ts.any fun t => !nmL sc t
  | _ => true
section
variable (G : Tb) (N : List Str) (pin : List Nat)
def lcC (sc : Sc) (y : Str) (py : Pos) : Expr → Bool
  | .ListComp _ _ scope pos => py.line == pos.line && !(scope.names.any fun (n, k) => n == y && (k == .local || k == .cell))
  | .DictComp _ _ _ scope pos => py.line == pos.line && !(scope.names.any fun (n, k) => n == y && (k == .local || k == .cell))
  | _ => false
mutual
def chS (sc : Sc) : CS → Stmt → Bool
  | .pass, .Expr (.Constant (.str _) _ _) _ => true
  | .pass, .Pass _ => true
  | .expr c, .Expr e _ => noComp e && chk G N sc false c e
  | .set i (.lc own t src cs x), .Assign [.Name y py] (.ListComp elt gs scope pos) _ => localC N sc i y && decide (i ∉ pin) && (!decide (sc.s.names.lookup y = some .local) || lcC sc y py (.ListComp elt gs scope pos)) && chk G N sc false (.lc own t src cs x) (.ListComp elt gs scope pos)
  | .set i (.dc own t src k v), .Assign [.Name y py] (.DictComp kx vx gs scope pos) _ => localC N sc i y && decide (i ∉ pin) && (!decide (sc.s.names.lookup y = some .local) || lcC sc y py (.DictComp kx vx gs scope pos)) && chk G N sc false (.dc own t src k v) (.DictComp kx vx gs scope pos)
  | .set i (.lcK fz i0 f own t cs x), .Assign [.Name y py] (.ListComp elt gs scope pos) _ => localC N sc i y && decide (i ∉ pin) && (!decide (sc.s.names.lookup y = some .local) || lcC sc y py (.ListComp elt gs scope pos)) && chk G N sc false (.lcK fz i0 f own t cs x) (.ListComp elt gs scope pos)
  | .set i (.dcK fz i0 f own t k v), .Assign [.Name y py] (.DictComp kx vx gs scope pos) _ => localC N sc i y && decide (i ∉ pin) && (!decide (sc.s.names.lookup y = some .local) || lcC sc y py (.DictComp kx vx gs scope pos)) && chk G N sc false (.dcK fz i0 f own t k v) (.DictComp kx vx gs scope pos)
  | .set i c, .Assign [.Name x _] e _ => localC N sc i x && decide (i ∉ pin) && noComp e && chk G N sc false c e
  | .par i j a b, .Assign [.Tuple [.Name x px, .Name y py] _ _] (.Tuple [ea, eb] _ _) _ => localC N sc i x && localC N sc j y && decide (sc.s.names.lookup x = some .local) && decide (sc.s.names.lookup y = some .local) && decide (i ≠ j) && decide (x ≠ y) && decide (i ∉ pin) && decide (j ∉ pin) && px.line == py.line && noStar ea && noStar eb &&
      !([ea, eb].all (foldedForSure 8)) && !([ea, eb].all (constantsAlone 8)) && chk G N sc false a ea && chk G N sc false b eb
  | .par3 i j l a b c, .Assign [.Tuple [.Name x px, .Name y py, .Name z pz] _ _] (.Tuple [ea, eb, ec] _ _) _ => localC N sc i x && localC N sc j y && localC N sc l z && decide (sc.s.names.lookup x = some .local) && decide (sc.s.names.lookup y = some .local) && decide (sc.s.names.lookup z = some .local) && decide (i ≠ j) && decide (i ≠ l) && decide (j ≠ l) && decide ([x, y, z].Nodup) && decide (i ∉ pin) && decide (j ∉ pin) && decide (l ∉ pin) && (px.line == py.line) && (px.line == pz.line) && noStar ea && noStar eb && noStar ec &&
      !([ea, eb, ec].all (foldedForSure 8)) && !([ea, eb, ec].all (constantsAlone 8)) && chk G N sc false a ea && chk G N sc false b eb && chk G N sc false c ec
  | .unp t c, .Assign [.Tuple es k p] e _ => noSwap sc.s es e && noComp e && chkTg N sc t (.Tuple es k p) && decide (∀ i ∈ t.slots, i ∉ pin) && chk G N sc false c e
  | .seti i none ci c, .Assign [.Subscript (.Name x _) ix _] e _ => slotC N sc i x && noSlice ix && noComp e && chk G N sc false ci ix && chk G N sc false c e
  | .seti i (some cp) ci c, .Assign [.Subscript (.Subscript (.Name x _) ip _) ix _] e _ => slotC N sc i x && noSlice ip && noSlice ix && noComp e && chk G N sc false cp ip && chk G N sc false ci ix && chk G N sc false c e
  | .augi i op ci c, .AugAssign (.Subscript (.Name x _) ix _) op' e _ => slotC N sc i x && noSlice ix && decide (op = op') && (decide (op = .Add) || decide (op = .Sub)) && chk G N sc false ci ix && chk G N sc false c e
  | .aug i op c, .AugAssign (.Name x _) op' e _ => localC N sc i x && decide (i ∉ pin) && decide (op = op') && (decide (op = .Add) || decide (op = .Sub)) && chk G N sc false c e
  | .setf i f c, .Assign [.Attribute (.Name x _) f' _] e _ => decide (f = f') && G.flds.contains f && slotC N sc i x && noComp e && chk G N sc false c e
  | .dput i f ck c, .Assign [.Subscript rv k _] e _ => recvC G N sc i f rv && noSlice k && noComp e && chk G N sc false ck k && chk G N sc false c e
  | .mut i f m cs, .Expr (.Call (.Attribute rv m' pa) es [] pc) _ => decide (m' = m.nm) && recvC G N sc i f rv && !es.isEmpty && decide (es.length < 30) && (pa.endLine == pc.line) && chkEs G N sc cs es
  | .forI _ i f t b, .For (.Tuple elts kk tpos) (.Call (.Attribute rv m' pa) [] [] pc) bs [] _ => decide (m' = "items") && recvC G N sc i f rv && (pa.endLine == pc.line) && chkTg N sc t (.Tuple elts kk tpos) && decide (∀ i ∈ t.slots, i ∉ pin) && chSs sc b bs
  | .if_ c a b, .If e as bs _ => chk G N sc true c e && chSs sc a as && chSs sc b bs
  | .while_ c b, .While e bs [] _ => chk G N sc true c e && chSs sc b bs
  | .for_ t s b, .For tg it bs [] _ => chkSr G N sc s tg it && chkTg N sc t tg && decide (∀ i ∈ t.slots, i ∉ pin) && noSet it && chSs sc b bs
  | .ret c, .Return (some e) _ => chk G N sc false c e
  | .brk, .Break _ => true
  | .cont, .Continue _ => true
  | .never, _ => true
  | _, _ => false
def chSs (sc : Sc) : List CS → List Stmt → Bool
  | [], [] => true
  | c :: cs, s :: ss => chS sc c s && chSs sc cs ss
  | _, _ => false
end
end
section
variable {G : Tb} {C : Nat → Addr} {cal : Nat → List O → CRes} {N : List Str} {sc : Sc} {X : Cx}
theorem swaps_of {e : Expr} (h : noComp e = true) (t : Option Expr) (l : Nat) (env : PySem.Env) : swapsWith e t l env = pure false := by
  cases e <;> first | rfl | cases h
theorem loc_of (c : Ctx G C cal N sc X) {x : Str} (h : decide (sc.s.names.lookup x = some .local) = true) : X.env.scope.names.lookup x = some .local := by
  rw [c.sc]; exact of_decide_eq_true h
theorem sw_false {elt : Expr} {gs : List Comprehension} {scope : Scope} {pos py : Pos} {y : Str} {l : Nat} {env : PySem.Env} (hy : env.scope.names.lookup y ≠ some .local) : swapsWith (.ListComp elt gs scope pos) (some (.Name y py)) l env = pure false := by
  have ky : (env.kindOf y == some .local) = false := by
    rw [beq_eq_false_iff_ne]
    exact hy
  unfold swapsWith
  simp only [ky, Bool.and_false, Bool.false_and]
theorem few {α β : Type} (f : α → Option β) : ∀ {l : List α}, (∃ a ∈ l, f a = none) → (l.filterMap f).length ≠ l.length
  | [], h => by obtain ⟨a, ha, _⟩ := h; cases ha
  | a :: l, h => by
    have hle : (l.filterMap f).length ≤ l.length := List.length_filterMap_le f l
    rw [List.filterMap_cons]
    cases e : f a with
    | none => simp only [List.length_cons]; omega
    | some b =>
      obtain ⟨a', ha, e'⟩ := h
      rcases List.mem_cons.mp ha with rfl | ha
      · rw [e] at e'; cases e'
      · have := few f ⟨a', ha, e'⟩
        simp only [List.length_cons]
        omega
theorem swapped_of {env : PySem.Env} {x y : Str} {px py pt pt2 : Pos} {kt k2 : Nat} {a b : Expr} (hk : env.scope.kind = .function) (hx : env.scope.names.lookup x = some .local) (hy : env.scope.names.lookup y = some .local) (hxy : x ≠ y) (hl : (px.line == py.line) = true)
    (ha : noStar a = true) (hb : noStar b = true) (h1 : ([a, b].all (foldedForSure 8)) = false) (h2 : ([a, b].all (constantsAlone 8)) = false) :
    swappedStores [.Tuple [.Name x px, .Name y py] kt pt] (.Tuple [a, b] k2 pt2) env = pure (some [x, y]) := by
  have kx : env.kindOf x = some .local := hx
  have ky : env.kindOf y = some .local := hy
  have kb : env.blockKind = .function := by unfold Env.blockKind; rw [hk]; rfl
  have one : ∀ e : Expr, noStar e = true → ¬ ((match e with | .Starred .. => true | _ => false : Bool) = true) := by
    intro e he z
    cases e <;> first | (cases he; done) | (cases z; done)
  have hne : (y == x) = false := by
    rw [beq_eq_false_iff_ne]
    exact Ne.symm hxy
  have hll : (py.line == px.line) = true := by
    rw [beq_iff_eq] at hl ⊢
    exact hl.symm
  unfold swappedStores
  simp only [kb, h1, h2, kx, ky, Expr.pos, hl, hll, List.filterMap, List.head?, Option.map, Option.getD]
  simp [List.eraseDups, List.eraseDupsBy, List.eraseDupsBy.loop, hne]
  intro z
  rcases z with z | z
  · exact absurd z (one a ha)
  · exact absurd z (one b hb)
theorem swapped3_of {env : PySem.Env} {x y z : Str} {px py pz pt pt2 : Pos} {kt k2 : Nat} {a b c : Expr} (hk : env.scope.kind = .function) (hx : env.scope.names.lookup x = some .local) (hy : env.scope.names.lookup y = some .local) (hz : env.scope.names.lookup z = some .local) (hn : [x, y, z].Nodup) (hl : (px.line == py.line) = true) (hl2 : (px.line == pz.line) = true)
    (ha : noStar a = true) (hb : noStar b = true) (hc : noStar c = true) (h1 : ([a, b, c].all (foldedForSure 8)) = false) (h2 : ([a, b, c].all (constantsAlone 8)) = false) :
    swappedStores [.Tuple [.Name x px, .Name y py, .Name z pz] kt pt] (.Tuple [a, b, c] k2 pt2) env = pure (some [x, y, z]) := by
  have kx : env.kindOf x = some .local := hx
  have ky : env.kindOf y = some .local := hy
  have kz : env.kindOf z = some .local := hz
  have kb : env.blockKind = .function := by unfold Env.blockKind; rw [hk]; rfl
  have one : ∀ e : Expr, noStar e = true → ¬ ((match e with | .Starred .. => true | _ => false : Bool) = true) := by
    intro e he z
    cases e <;> first | (cases he; done) | (cases z; done)
  simp only [List.nodup_cons, List.mem_cons, List.not_mem_nil, or_false, not_or] at hn
  have n1 : (y == x) = false := by rw [beq_eq_false_iff_ne]; exact Ne.symm hn.1.1
  have n2 : (z == x) = false := by rw [beq_eq_false_iff_ne]; exact Ne.symm hn.1.2
  have n3 : (z == y) = false := by rw [beq_eq_false_iff_ne]; exact Ne.symm hn.2.1
  have hll : (py.line == px.line) = true := by
    rw [beq_iff_eq] at hl ⊢
    exact hl.symm
  have hll2 : (pz.line == px.line) = true := by
    rw [beq_iff_eq] at hl2 ⊢
    exact hl2.symm
  unfold swappedStores
  simp only [kb, h1, h2, kx, ky, kz, Expr.pos, hl, hl2, hll, hll2, List.filterMap, List.head?, Option.map, Option.getD]
  simp [List.eraseDups, List.eraseDupsBy, List.eraseDupsBy.loop, n1, n2, n3]
  intro w
  rcases w with w | w | w
  · exact absurd w (one a ha)
  · exact absurd w (one b hb)
  · exact absurd w (one c hc)
theorem sole_of {e t : Expr} (h : noComp e = true) (l : Nat) (env : PySem.Env) : swapsWithSole [t] e l env = pure false := swaps_of h (some t) l env
theorem stores_tup {e : Expr} {es : List Expr} {k : Nat} {p : Pos} {env : PySem.Env} (h : noSwap env.scope es e = true) : swappedStores [.Tuple es k p] e env = pure none := by
  cases e with
  | Tuple vs k2 p2 =>
    simp only [noSwap, List.any_eq_true, Bool.not_eq_true'] at h
    obtain ⟨t, ht, hn⟩ := h
    unfold swappedStores
    dsimp only
    split
    · rfl
    · split
      · rfl
      · split
        · rfl
        · rename_i h3
          refine absurd ?_ h3
          simp only [Bool.or_eq_true, bne_iff_ne]
          refine .inl (few _ ⟨t, ht, ?_⟩)
          cases t with
          | Name x px =>
            simp only [nmL, decide_eq_false_iff_not] at hn
            have : (env.kindOf x == some .local) = false := by
              rw [beq_eq_false_iff_ne]; exact hn
            simp [this]
          | _ => rfl
  | _ => rfl
theorem stores_sub {e o i : Expr} {p : Pos} {env : PySem.Env} : swappedStores [.Subscript o i p] e env = pure none := by
  cases e <;> rfl
theorem asg_sub {o i : Expr} {p : Pos} {env : PySem.Env} (h : noSlice i = true) : ∀ v, assign (.Subscript o i p) env v = (do
      let ov ← holding [v] (eval o env)
      let iv ← holding [v, ov] (eval i env)
      standAt p
      holding [v, ov, iv] (setItem ov iv v)
      release [v, ov, iv] []) := by
  intro v
  cases i <;> first | rfl | cases h
theorem aug_sub {i : Expr} (h : noSlice i = true) : ∀ ov iv new, augStore i ov iv new = (do holding [new, ov, iv] (setItem ov iv new); release [new, ov, iv] []; pure .next) := by
  intro ov iv new
  cases i <;> first | rfl | cases h
theorem recv_base {x : Str} {px : Pos} {f : Option Str} {rv : Expr} (h : IsRecv x px f rv) (m : Str) (env : PySem.Env) (w : Sem Value) : attributeBase rv m env w = w := by
  cases f with
  | none => rw [show rv = .Name x px from h]; rfl
  | some f => obtain ⟨p2, rfl⟩ := h; rfl
mutual
theorem chS_ok (G : Tb) (C : Nat → Addr) (cal : Nat → List O → CRes) (N : List Str) (pin : List Nat) (W : Nat) (sc : Sc) (X : Cx) (c : Ctx G C cal N sc X) (hf : sc.s.kind = .function) (hp : PassesOwn (model X.prog X.w) X.A X.env X.xe) : ∀ (k : CS) (s : Stmt), chS G N pin sc k s = true → PS X s (tS C X.K cal X0 pin W k)
  | .pass, s, h => by
    unfold chS at h
    split at h <;> rename_i e1 <;> first | cases e1 | cases h
    · exact b_doc
    · exact b_pass
  | .expr k, s, h => by
    unfold chS at h
    split at h <;> rename_i e1 <;> first | cases e1 | cases h
    simp only [Bool.and_eq_true] at h
    exact b_expr ((chk_ok G C cal N k false sc X _ c h.2).1 rfl) (swaps_of h.1 _ _ _)
  | .set i k, s, h => by
    unfold chS at h
    split at h <;> rename_i e1 <;> first | cases e1 | cases h
    · rename_i own t src cs x y py elt gs scope pos spos
      simp only [Bool.and_eq_true, decide_eq_true_eq] at h
      obtain ⟨⟨⟨h1, h2⟩, h3⟩, h4⟩ := h
      obtain ⟨hN, hi, hL, hfn⟩ := local_of c h1
      by_cases hloc : sc.s.names.lookup y = some .local
      rotate_left
      · exact b_set hN hi hL hfn h2 ((chk_ok G C cal N _ false sc X _ c h4).1 rfl) (sw_false (by rw [c.sc]; exact hloc))
      have hx : X.env.scope.names.lookup y = some .local := by rw [c.sc]; exact hloc
      simp only [hloc, decide_true, Bool.not_true, Bool.false_or, lcC, Bool.and_eq_true, Bool.not_eq_true'] at h3
      unfold chk at h4
      split at h4 <;> rename_i e1 <;> first | cases e1 | cases h4
      all_goals (rename_i e2; cases e2)
      rename_i tg iter ifs _
      simp only [Bool.and_eq_true, decide_eq_true_eq] at h4
      obtain ⟨⟨⟨⟨⟨⟨⟨rfl, g1⟩, g2⟩, g3⟩, g4⟩, g5⟩, g6⟩, g7⟩ := h4
      have ok : BlkOk X.N X.env.scope scope (ownP N own) := by
        rw [c.hN, c.sc]
        exact blkOk_by g1
      have own2 : (ownP N own).map (·.2) = own := by
        unfold ownP
        rw [List.map_map]
        exact List.map_id own
      have cc := chkCs_ok G C cal N cs (sc.blk scope) ifs g4
      have main := b_setLc (pin := pin) (W := W) (py := py) (pos := pos) (spos := spos) (t := t) c.calm hN hi hx h2 (sw_true (by rw [c.sc]; exact hf) hx h3.1 h3.2) (chkSr_ok G C cal N src sc X tg iter c g2) ok
        (fun s H A cl fp => (tg_ok t (c.blk s H scope A cl fp) g3).1) (fun s H A cl fp => cc.2 _ (c.blk s H scope A cl fp)) (fun s H A cl fp => (chk_ok G C cal N x false (sc.blk scope) _ elt (c.blk s H scope A cl fp) g5).1 rfl) cc.1 (by rw [own2]; exact g6) (fold_of g7 _)
      rw [own2] at main
      exact main
    · rename_i own t src k v y py kx vx gs scope pos spos
      simp only [Bool.and_eq_true, decide_eq_true_eq] at h
      obtain ⟨⟨⟨h1, h2⟩, h3⟩, h4⟩ := h
      obtain ⟨hN, hi, hL, hfn⟩ := local_of c h1
      by_cases hloc : sc.s.names.lookup y = some .local
      rotate_left
      · exact b_set hN hi hL hfn h2 ((chk_ok G C cal N _ false sc X _ c h4).1 rfl) (swD_false (by rw [c.sc]; exact hloc))
      have hx : X.env.scope.names.lookup y = some .local := by rw [c.sc]; exact hloc
      simp only [hloc, decide_true, Bool.not_true, Bool.false_or, lcC, Bool.and_eq_true, Bool.not_eq_true'] at h3
      unfold chk at h4
      split at h4 <;> rename_i e1 <;> first | cases e1 | cases h4
      all_goals (rename_i e2; cases e2)
      rename_i tg iter _
      simp only [Bool.and_eq_true, decide_eq_true_eq] at h4
      obtain ⟨⟨⟨⟨⟨⟨⟨rfl, g1⟩, g2⟩, g3⟩, g4⟩, g5⟩, g6⟩, g7⟩ := h4
      have ok : BlkOk X.N X.env.scope scope (ownP N own) := by
        rw [c.hN, c.sc]
        exact blkOk_by g1
      have own2 : (ownP N own).map (·.2) = own := by
        unfold ownP
        rw [List.map_map]
        exact List.map_id own
      have main := b_setDc (pin := pin) (W := W) (py := py) (pos := pos) (spos := spos) (t := t) c.calm hN hi hx h2 (swD_true (by rw [c.sc]; exact hf) hx h3.1 h3.2) (chkSr_ok G C cal N src sc X tg iter c g2) ok
        (fun s H A cl fp => (tg_ok t (c.blk s H scope A cl fp) g3).1) (fun s H A cl fp => (chk_ok G C cal N k false (sc.blk scope) _ kx (c.blk s H scope A cl fp) g4).1 rfl) (fun s H A cl fp => (chk_ok G C cal N v false (sc.blk scope) _ vx (c.blk s H scope A cl fp) g5).1 rfl) (by rw [own2]; exact g6) (fold_of g7 _)
      rw [own2] at main
      exact main
    · rename_i fz i0 f own t cs x y py elt gs scope pos spos
      simp only [Bool.and_eq_true, decide_eq_true_eq] at h
      obtain ⟨⟨⟨h1, h2⟩, h3⟩, h4⟩ := h
      obtain ⟨hN, hi, hL, hfn⟩ := local_of c h1
      by_cases hloc : sc.s.names.lookup y = some .local
      rotate_left
      · exact b_set hN hi hL hfn h2 ((chk_ok G C cal N _ false sc X _ c h4).1 rfl) (sw_false (by rw [c.sc]; exact hloc))
      have hx : X.env.scope.names.lookup y = some .local := by rw [c.sc]; exact hloc
      simp only [hloc, decide_true, Bool.not_true, Bool.false_or, lcC, Bool.and_eq_true, Bool.not_eq_true'] at h3
      unfold chk at h4
      split at h4 <;> rename_i e1 <;> first | cases e1 | cases h4
      all_goals (rename_i e2; cases e2)
      rename_i tg rv ifs _
      simp only [Bool.and_eq_true, decide_eq_true_eq] at h4
      obtain ⟨⟨⟨⟨⟨⟨⟨rfl, g1⟩, g2⟩, g3⟩, g4⟩, g5⟩, g6⟩, g7⟩ := h4
      have ok : BlkOk X.N X.env.scope scope (ownP N own) := by
        rw [c.hN, c.sc]
        exact blkOk_by g1
      have own2 : (ownP N own).map (·.2) = own := by
        unfold ownP
        rw [List.map_map]
        exact List.map_id own
      have cc := chkCs_ok G C cal N cs (sc.blk scope) ifs g4
      obtain ⟨x0, px, hr, na, a1, a2, a3, a4⟩ := recv_of c g2
      have main := b_setLcK (cal := cal) (XE := X0) (fz := fz) (pin := pin) (W := W) (py := py) (pos := pos) (spos := spos) (t := t) (fun _ _ _ _ _ _ _ z => z.elim) c.calm hN na hr a1 a2 a3 a4 hi hx h2 (sw_true (by rw [c.sc]; exact hf) hx h3.1 h3.2) ok
        (fun s H A cl fp => (tg_ok t (c.blk s H scope A cl fp) g3).1) (fun s H A cl fp => cc.2 _ (c.blk s H scope A cl fp)) (fun s H A cl fp => (chk_ok G C cal N x false (sc.blk scope) _ elt (c.blk s H scope A cl fp) g5).1 rfl) cc.1 (by rw [own2]; exact g6) (fold_of g7 _)
      rw [own2] at main
      exact main
    · rename_i fz i0 f own t k v y py kx vx gs scope pos spos
      simp only [Bool.and_eq_true, decide_eq_true_eq] at h
      obtain ⟨⟨⟨h1, h2⟩, h3⟩, h4⟩ := h
      obtain ⟨hN, hi, hL, hfn⟩ := local_of c h1
      by_cases hloc : sc.s.names.lookup y = some .local
      rotate_left
      · exact b_set hN hi hL hfn h2 ((chk_ok G C cal N _ false sc X _ c h4).1 rfl) (swD_false (by rw [c.sc]; exact hloc))
      have hx : X.env.scope.names.lookup y = some .local := by rw [c.sc]; exact hloc
      simp only [hloc, decide_true, Bool.not_true, Bool.false_or, lcC, Bool.and_eq_true, Bool.not_eq_true'] at h3
      unfold chk at h4
      split at h4 <;> rename_i e1 <;> first | cases e1 | cases h4
      all_goals (rename_i e2; cases e2)
      rename_i tg rv _
      simp only [Bool.and_eq_true, decide_eq_true_eq] at h4
      obtain ⟨⟨⟨⟨⟨⟨⟨rfl, g1⟩, g2⟩, g3⟩, g4⟩, g5⟩, g6⟩, g7⟩ := h4
      have ok : BlkOk X.N X.env.scope scope (ownP N own) := by
        rw [c.hN, c.sc]
        exact blkOk_by g1
      have own2 : (ownP N own).map (·.2) = own := by
        unfold ownP
        rw [List.map_map]
        exact List.map_id own
      obtain ⟨x0, px, hr, na, a1, a2, a3, a4⟩ := recv_of c g2
      have main := b_setDcK (cal := cal) (XE := X0) (fz := fz) (pin := pin) (W := W) (py := py) (pos := pos) (spos := spos) (t := t) (fun _ _ _ _ _ _ _ z => z.elim) c.calm hN na hr a1 a2 a3 a4 hi hx h2 (swD_true (by rw [c.sc]; exact hf) hx h3.1 h3.2) ok
        (fun s H A cl fp => (tg_ok t (c.blk s H scope A cl fp) g3).1) (fun s H A cl fp => (chk_ok G C cal N k false (sc.blk scope) _ kx (c.blk s H scope A cl fp) g4).1 rfl) (fun s H A cl fp => (chk_ok G C cal N v false (sc.blk scope) _ vx (c.blk s H scope A cl fp) g5).1 rfl) (by rw [own2]; exact g6) (fold_of g7 _)
      rw [own2] at main
      exact main
    · simp only [Bool.and_eq_true, decide_eq_true_eq] at h
      obtain ⟨⟨⟨h1, h2⟩, h3⟩, h4⟩ := h
      obtain ⟨hN, hi, hx, hfn⟩ := local_of c h1
      exact b_set hN hi hx hfn h2 ((chk_ok G C cal N _ false sc X _ c h4).1 rfl) (swaps_of h3 _ _ _)
  | .par i j a b, s, h => by
    unfold chS at h
    split at h <;> rename_i e1 <;> first | cases e1 | cases h
    rename_i x px y py kt pt ea eb k2 pt2 pos
    simp only [Bool.and_eq_true, decide_eq_true_eq, Bool.not_eq_true'] at h
    obtain ⟨⟨⟨⟨⟨⟨⟨⟨⟨⟨⟨⟨⟨⟨h1, h2⟩, g1⟩, g2⟩, h3⟩, h4⟩, h5⟩, h6⟩, h7⟩, h8⟩, h9⟩, h10⟩, h11⟩, h12⟩, h13⟩ := h
    obtain ⟨hN, hi, _, _⟩ := local_of c h1
    obtain ⟨_, hj, _, _⟩ := local_of c h2
    have hx := loc_of c (decide_eq_true g1)
    have hy := loc_of c (decide_eq_true g2)
    have ra := (chk_ok G C cal N a false sc X _ c h12).1 rfl
    have rb := (chk_ok G C cal N b false sc X _ c h13).1 rfl
    exact b_par c.calm hN hi hj h3 h5 h6 hx hy (a_cons (star_cons h8 _) ra (a_cons (star_cons h9 _) rb a_nil)) (swapped_of (by rw [c.sc]; exact hf) hx hy h4 h7 h8 h9 h10 h11) rfl
  | .par3 i j l a b k, s, h => by
    unfold chS at h
    split at h <;> rename_i e1 <;> first | cases e1 | cases h
    rename_i x px y py z pz kt pt ea eb ec k2 pt2 pos
    simp only [Bool.and_eq_true, decide_eq_true_eq, Bool.not_eq_true'] at h
    obtain ⟨⟨⟨⟨⟨⟨⟨⟨⟨⟨⟨⟨⟨⟨⟨⟨⟨⟨⟨⟨⟨⟨h1, h2⟩, h3⟩, g1⟩, g2⟩, g3⟩, n1⟩, n2⟩, n3⟩, n4⟩, p1⟩, p2⟩, p3⟩, l1⟩, l2⟩, s1⟩, s2⟩, s3⟩, q1⟩, q2⟩, k1⟩, k2⟩, k3⟩ := h
    obtain ⟨hN, hi, _, _⟩ := local_of c h1
    obtain ⟨_, hj, _, _⟩ := local_of c h2
    obtain ⟨_, hl, _, _⟩ := local_of c h3
    have hx := loc_of c (decide_eq_true g1)
    have hy := loc_of c (decide_eq_true g2)
    have hz := loc_of c (decide_eq_true g3)
    have ra := (chk_ok G C cal N a false sc X _ c k1).1 rfl
    have rb := (chk_ok G C cal N b false sc X _ c k2).1 rfl
    have rc := (chk_ok G C cal N k false sc X _ c k3).1 rfl
    exact b_par3 c.calm hN hi hj hl n1 n2 n3 p1 p2 p3 hx hy hz (a_cons (star_cons s1 _) ra (a_cons (star_cons s2 _) rb (a_cons (star_cons s3 _) rc a_nil))) (swapped3_of (by rw [c.sc]; exact hf) hx hy hz n4 l1 l2 s1 s2 s3 q1 q2) rfl
  | .unp t k, s, h => by
    unfold chS at h
    split at h <;> rename_i e1 <;> first | cases e1 | cases h
    simp only [Bool.and_eq_true, decide_eq_true_eq] at h
    obtain ⟨⟨⟨⟨h1, h2⟩, h3⟩, h4⟩, h5⟩ := h
    exact b_unp ((chk_ok G C cal N k false sc X _ c h5).1 rfl) (tg_ok t c h3).2 (sole_of h2 _ _) (stores_tup (by rw [c.sc]; exact h1)) rfl h4
  | .seti i none ci k, s, h => by
    unfold chS at h
    split at h <;> rename_i e1 <;> first | cases e1 | cases h
    simp only [Bool.and_eq_true] at h
    obtain ⟨⟨⟨⟨h1, h2⟩, h3⟩, h4⟩, h5⟩ := h
    obtain ⟨a1, a2, a3, a4⟩ := slot_of c h1
    exact b_seti a1 a2 a3 a4 ((chk_ok G C cal N ci false sc X _ c h4).1 rfl) ((chk_ok G C cal N k false sc X _ c h5).1 rfl) (asg_sub h2) (sole_of h3 _ _) stores_sub rfl
  | .seti i (some cp) ci k, s, h => by
    unfold chS at h
    split at h <;> rename_i e1 <;> first | cases e1 | cases h
    simp only [Bool.and_eq_true] at h
    obtain ⟨⟨⟨⟨⟨⟨h1, h2⟩, h3⟩, h4⟩, h5⟩, h6⟩, h7⟩ := h
    obtain ⟨a1, a2, a3, a4⟩ := slot_of c h1
    exact b_seti2 a1 a2 a3 a4 ((chk_ok G C cal N cp false sc X _ c h5).1 rfl) (plain_of h2) ((chk_ok G C cal N ci false sc X _ c h6).1 rfl) ((chk_ok G C cal N k false sc X _ c h7).1 rfl) (asg_sub h3) (sole_of h4 _ _) stores_sub rfl
  | .augi i op ci k, s, h => by
    unfold chS at h
    split at h <;> rename_i e1 <;> first | cases e1 | cases h
    simp only [Bool.and_eq_true, Bool.or_eq_true, decide_eq_true_eq] at h
    obtain ⟨⟨⟨⟨⟨h1, h2⟩, rfl⟩, h4⟩, h5⟩, h6⟩ := h
    obtain ⟨a1, a2, a3, a4⟩ := slot_of c h1
    exact b_augi a1 a2 a3 a4 ((chk_ok G C cal N ci false sc X _ c h5).1 rfl) ((chk_ok G C cal N k false sc X _ c h6).1 rfl) (aug_sub h2) h4
  | .aug i op k, s, h => by
    unfold chS at h
    split at h <;> rename_i e1 <;> first | cases e1 | cases h
    simp only [Bool.and_eq_true, Bool.or_eq_true, decide_eq_true_eq] at h
    obtain ⟨⟨⟨⟨h1, h2⟩, rfl⟩, h4⟩, h5⟩ := h
    obtain ⟨hN, hi, hx, hfn⟩ := local_of c h1
    exact b_aug hN hi hx hfn h2 ((chk_ok G C cal N k false sc X _ c h5).1 rfl) h4
  | .setf i f k, s, h => by
    unfold chS at h
    split at h <;> rename_i e1 <;> first | cases e1 | cases h
    simp only [Bool.and_eq_true, decide_eq_true_eq] at h
    obtain ⟨⟨⟨⟨rfl, h1⟩, h2⟩, h3⟩, h4⟩ := h
    obtain ⟨a1, a2, a3, a4⟩ := slot_of c h2
    exact b_setf (fun i => (flds_of c h1 i).1) (fun i => (flds_of c h1 i).2) a1 a2 a3 a4 ((chk_ok G C cal N k false sc X _ c h4).1 rfl) (swaps_of h3 _ _ _)
  | .dput i f ck k, s, h => by
    unfold chS at h
    split at h <;> rename_i e1 <;> first | cases e1 | cases h
    simp only [Bool.and_eq_true] at h
    obtain ⟨⟨⟨⟨h1, h2⟩, h3⟩, h4⟩, h5⟩ := h
    obtain ⟨x, px, hr, na, a1, a2, a3, a4⟩ := recv_of c h1
    exact b_dput c.un na hr a1 a2 a3 a4 ((chk_ok G C cal N ck false sc X _ c h4).1 rfl) ((chk_ok G C cal N k false sc X _ c h5).1 rfl) (swaps_of h3 _ _ _)
  | .mut i f m cs, s, h => by
    unfold chS at h
    split at h <;> rename_i e1 <;> first | cases e1 | cases h
    rename_i rv m' pa es pc pos
    simp only [Bool.and_eq_true, decide_eq_true_eq, Bool.not_eq_true'] at h
    obtain ⟨⟨⟨⟨⟨rfl, h1⟩, h2⟩, h3⟩, h4⟩, h5⟩ := h
    obtain ⟨x, px, hr, na, a1, a2, a3, a4⟩ := recv_of c h1
    have r := chkEs_ok G C cal N cs sc X es c h5
    cases es with
    | nil => cases h2
    | cons e0 es => exact b_mut na hr a1 a2 a3 a4 (pa_of r.1 r.2.1) r.2.1 h3 h4
  | .forI fz i f t b, s, h => by
    unfold chS at h
    split at h <;> rename_i e1 <;> first | cases e1 | cases h
    rename_i elts kk tpos rv m' pa pc bs pos
    simp only [Bool.and_eq_true, decide_eq_true_eq] at h
    obtain ⟨⟨⟨⟨⟨rfl, h1⟩, h2⟩, h3⟩, h4⟩, h5⟩ := h
    obtain ⟨x, px, hr, na, a1, a2, a3, a4⟩ := recv_of c h1
    exact b_forI (fun _ _ _ _ _ _ _ z => z.elim) hp c.calm na hr a1 a2 a3 a4 (recv_base hr _ _ _) h2 (tg_ok t c h3).1 (chSs_ok G C cal N pin W sc X c hf hp b _ h5) (fun _ => rfl) h4
  | .if_ k a b, s, h => by
    unfold chS at h
    split at h <;> rename_i e1 <;> first | cases e1 | cases h
    simp only [Bool.and_eq_true] at h
    obtain ⟨⟨h1, h2⟩, h3⟩ := h
    exact b_if ((chk_ok G C cal N k true sc X _ c h1).2 rfl) (chSs_ok G C cal N pin W sc X c hf hp a _ h2) (chSs_ok G C cal N pin W sc X c hf hp b _ h3)
  | .while_ k b, s, h => by
    unfold chS at h
    split at h <;> rename_i e1 <;> first | cases e1 | cases h
    simp only [Bool.and_eq_true] at h
    exact b_while hp ((chk_ok G C cal N k true sc X _ c h.1).2 rfl) (chSs_ok G C cal N pin W sc X c hf hp b _ h.2)
  | .for_ t sr b, s, h => by
    unfold chS at h
    split at h <;> rename_i e1 <;> first | cases e1 | cases h
    simp only [Bool.and_eq_true, decide_eq_true_eq] at h
    obtain ⟨⟨⟨⟨h1, h2⟩, h3⟩, h4⟩, h5⟩ := h
    exact b_for hp c.calm (chkSr_ok G C cal N sr sc X _ _ c h1) (tg_ok t c h2).1 (chSs_ok G C cal N pin W sc X c hf hp b _ h5) (fold_of h4 _) h3
  | .ret k, s, h => by
    unfold chS at h
    split at h <;> rename_i e1 <;> first | cases e1 | cases h
    exact b_ret ((chk_ok G C cal N k false sc X _ c h).1 rfl)
  | .brk, s, h => by
    unfold chS at h
    split at h <;> rename_i e1 <;> first | cases e1 | cases h
    exact b_brk
  | .cont, s, h => by
    unfold chS at h
    split at h <;> rename_i e1 <;> first | cases e1 | cases h
    exact b_cont
  | .never, s, h => b_never
theorem chSs_ok (G : Tb) (C : Nat → Addr) (cal : Nat → List O → CRes) (N : List Str) (pin : List Nat) (W : Nat) (sc : Sc) (X : Cx) (c : Ctx G C cal N sc X) (hf : sc.s.kind = .function) (hp : PassesOwn (model X.prog X.w) X.A X.env X.xe) : ∀ (ks : List CS) (ss : List Stmt), chSs G N pin sc ks ss = true → PSs X ss (tSs C X.K cal X0 pin W ks)
  | [], [], h => b_nil
  | [], _ :: _, h => by simp [chSs] at h
  | _ :: _, [], h => by simp [chSs] at h
  | k :: ks, s :: ss, h => by
    simp only [chSs, Bool.and_eq_true] at h
    exact b_cons (chS_ok G C cal N pin W sc X c hf hp k s h.1) (chSs_ok G C cal N pin W sc X c hf hp ks ss h.2)
end
end
end Cr
end

section
/-! Functions. -/
namespace Cr
open PySem L2

section
variable {C : Nat → Addr} {K : PySem.W.Frag} {F F' H H' : Hp} {σ σ' : St} {env env' : Env} {L L' R T : List Addr}
theorem RepE.pad : ∀ {env : Env} {σ : St} {L : List Addr} (n : Nat), RepE C K F H env σ L → RepE C K F H (env ++ List.replicate n none) (σ ++ List.replicate n none) L
  | [], σ, L, n, r => by
    simp only [RepE] at r
    obtain ⟨rfl, rfl⟩ := r
    simp only [List.nil_append]
    induction n with
    | zero => simp [RepE]
    | succ n ih =>
      simp only [List.replicate_succ, RepE]
      exact ⟨none, _, rfl, ih⟩
  | none :: e, σ, L, n, r => by
    simp only [RepE] at r
    obtain ⟨x, s, rfl, t⟩ := r
    simp only [List.cons_append, RepE]
    exact ⟨x, _, rfl, RepE.pad n t⟩
  | some o :: e, σ, L, n, r => by
    simp only [RepE] at r
    obtain ⟨v, s, l1, l2, rfl, q, t, rfl⟩ := r
    simp only [List.cons_append, RepE]
    exact ⟨v, _, l1, l2, rfl, q, RepE.pad n t, rfl⟩
theorem outs_ok {io : List Nat} {σ0 : St} {env0 : Env} {L0 : List Addr} {F0 H0 : Hp} {vs : List V} {outs : List O} {n : Nat} (hio : io.length ≤ 1) (hv : ∀ i ∈ io, i < vs.length) (hσ : σ0 = vs.map some ++ List.replicate n none)
    (s : Sst C K io F0 H0 σ0 env0 L0 R F' H' σ' env' L' T) (ho : outsOf env' io = some outs) : ∃ L2, SR C K F' H' ((io.filterMap fun i => vs[i]?).map some) (outs.map some) L2 (T ++ R) := by
  match io, hio with
  | [], _ =>
    simp only [outsOf, List.map_nil, allSome, Option.some.injEq] at ho
    subst ho
    refine ⟨[], s.sr.le, by simp [RepE], ?_, fun a ha => s.sr.fn a (List.mem_append_right _ (by simpa using ha))⟩
    simpa using (List.nodup_append.mp s.sr.nd).2.1
  | [i], _ =>
    simp only [outsOf, List.map_cons, List.map_nil] at ho
    cases e : (env'[i]?).join with
    | none => rw [e] at ho; cases ho
    | some o =>
      rw [e] at ho
      simp only [allSome, Option.map_some, Option.some.injEq] at ho
      subst ho
      obtain ⟨v, La, l, Lb, c, hs, r⟩ := s.sr.slot e
      have hi := hv i (by simp)
      have h1 := s.pn i (by simp)
      rw [hs, hσ, List.getElem?_append_left (by simpa using hi)] at h1
      have h2 : vs[i]? = some v := by
        simp only [List.getElem?_map] at h1
        cases e2 : vs[i]? with
        | none => rw [e2] at h1; cases h1
        | some w => rw [e2] at h1; simp at h1; rw [h1]
      have hsub : List.Sublist (l ++ (T ++ R)) (L' ++ (T ++ R)) := by
        rw [c.eq]
        exact List.Sublist.append_right ((List.sublist_append_left l Lb).trans (List.sublist_append_right La _)) _
      refine ⟨l, s.sr.le, ?_, s.sr.nd.sublist hsub, fun a ha => s.sr.fn a (hsub.subset ha)⟩
      simp only [List.filterMap_cons, h2, List.filterMap_nil, List.map_cons, List.map_nil, RepE]
      exact ⟨v, [], l, [], rfl, r, ⟨rfl, rfl⟩, by simp⟩
end

/-- a def of the program -/
structure FnD where
  x : Str
  qual : Str
  st : Stmt
  N : List Str
  fn : Fn
  cl : Option Str := none
def FnD.at_ (d : FnD) : Str × Option Str := match d.cl with
  | none => (d.x, none)
  | some c => (c, some d.x)
def fnOkC (G : Tb) (d : FnD) : Bool :=
  decide (d.fn.ns = d.N.length) && decide (d.fn.np ≤ d.N.length) && decide (d.fn.io.length ≤ 1) && d.fn.io.all (fun i => decide (i < d.fn.np)) && (match (defScope d.st).kind with | .function => true | _ => false) && chSs G d.N d.fn.io ⟨defScope d.st, fun _ => true⟩ d.fn.body (defBody d.st)
section
variable {P : Program} {w : World} {K : PySem.W.Frag} {mg : Str → Option Value} {base : Heap} {G : Tb} {C : Nat → Addr}
theorem body_ok {d : FnD} {f i k W : Nat} {a : Addr} {fd : FuncData} {core : List Fn} (F : FunD K d.x d.qual (defArgs d.st) (defBody d.st) (defScope d.st) [] [] a fd) (S : FnScope d.N (d.N.take d.fn.np) (defScope d.st)) (hc : core[f]? = some d.fn) (hk : fnOkC G d = true)
    (blt : ∀ x : Str, x ∈ bltNames → mg x = none) (cls : ∀ f ∈ G.flds, ∀ c, Cls K (C c) ∧ NoAttr K (C c) f)
    (mths : ∀ m i f np io, G.mths.lookup (m, i) = some (f, np, io) → ∃ a fd ps, FnOk P w K mg base (L2.CX P w) (2 * k) a fd ps (spF C K (fun _ => X0) (run core W k) f np io) ∧ Cls K (C i) ∧ Meth K (C i) m a ∧ Binds K fd ps [])
    (mks : ∀ x i f np, G.mks.lookup x = some (i, f, np) → ∃ a fd ps, FnOk P w K mg base (L2.CX P w) (2 * k) a fd ps (spF C K (fun _ => X0) (run core W k) f np [0]) ∧ Mk K (C i) a ∧ mg x = some (.ref (C i)) ∧ Binds K fd ps [])
    (fns : ∀ x f np io, G.fns.lookup x = some (f, np, io) → ∃ a fd ps, FnOk P w K mg base (L2.CX P w) (2 * k) a fd ps (spF C K (fun _ => X0) (run core W k) f np io) ∧ mg x = some (.ref a) ∧ PySem.W.keepIn K (.ref a) = true ∧ Binds K fd ps [])
    (gls : ∀ x d, G.gls.lookup x = some d → ∃ v u, mg x = some u ∧ RelV v u ∧ ∀ F, RepS C K F d v) :
    FnOk P w K mg base (L2.CX P w) (2 * k + 2) a fd (d.N.take d.fn.np) (spF C K (fun _ => X0) (run core W (k + 1)) f d.fn.np d.fn.io) := by
  unfold fnOkC at hk
  simp only [Bool.and_eq_true, decide_eq_true_eq] at hk
  obtain ⟨⟨⟨⟨⟨h1, h2⟩, h3⟩, h4⟩, h5⟩, h6⟩ := hk
  have hkind : (defScope d.st).kind = .function := by
    split at h5
    · assumption
    · cases h5
  refine FunD.ok F S (fun vs H Q E h => ?_) fun cdv A outer s H vs Q E hr h => ?_
  · obtain ⟨_, _, _, _, hl, _⟩ := h
    rw [List.length_take, hl]
    omega
  · obtain ⟨F0, R, os, L, hl, sr, ho⟩ := h
    refine ⟨_, chSs_ok G C (run core W k) d.N d.fn.io W ⟨defScope d.st, fun _ => true⟩ _ ⟨rfl, rfl, S.nd, rfl, rfl, ?_, blt, cls, fun m i f np io hx => ?_, fun x i f np hx => ?_, fun x f np io hx => ?_, gls⟩ hkind (passes_of rfl) d.fn.body _ h6, ?_⟩
    · have := hr.un
      show (A.deeper _).units + 65 < cLine
      omega
    · obtain ⟨a, fd, ps, h1, h2, h3, h4⟩ := mths m i f np io hx
      exact ⟨2 * k, a, fd, ps, h1, hr.mono (Nat.le_succ _), h2, h3, h4⟩
    · obtain ⟨a, fd, ps, h1, h2, h3, h4⟩ := mks x i f np hx
      exact ⟨2 * k, a, fd, ps, h1, hr, h2, h3, h4⟩
    · obtain ⟨a, fd, ps, h1, h2, h3, h4⟩ := fns x f np io hx
      exact ⟨2 * k, a, fd, ps, h1, hr.mono (Nat.le_succ _), h2, h3, h4⟩
    · have hos : os.length = d.fn.np := by
        have := sr.len
        simpa [hl] using this.symm
      simp only [run, hc, runB, hos, beq_self_eq_true, if_true] at ho
      have sr0 : SR C K F0 H (L2.start d.N vs) (os.map some ++ List.replicate (d.fn.ns - d.fn.np) none) L R := by
        refine ⟨sr.le, ?_, sr.nd, sr.fn⟩
        unfold L2.start
        rw [h1, hl]
        exact sr.rep.pad _
      have hv : ∀ i ∈ d.fn.io, i < vs.length := fun i hi => by
        rw [hl]
        simpa using List.all_eq_true.mp h4 i hi
      refine ⟨F0, _, L, R, sr0, ?_⟩
      generalize hres : evSs (run core W k) W d.fn.body (os.map some ++ List.replicate (d.fn.ns - d.fn.np) none) = res at ho ⊢
      match res, ho with
      | .ok (.next, e'), ho =>
        simp only at ho
        cases eo : outsOf e' d.fn.io with
        | none => rw [eo] at ho; exact ho.elim
        | some outs =>
          rw [eo] at ho
          intro F' H' σ' L' s'
          obtain ⟨L2, sr2⟩ := outs_ok h3 hv rfl s' eo
          exact ho .non F' H' [] L2 sr2 (by simp [RepO, RepS]) s'.fe s'.kp
      | .ok (.ret o, e'), ho =>
        simp only at ho
        cases eo : outsOf e' d.fn.io with
        | none => rw [eo] at ho; exact ho.elim
        | some outs =>
          rw [eo] at ho
          intro v F' H' σ' L' T s' r
          obtain ⟨L2, sr2⟩ := outs_ok h3 hv rfl s' eo
          exact ho v F' H' T L2 sr2 r s'.fe s'.kp
      | .ok (.brk, e'), ho => exact ho.elim
      | .ok (.cont, e'), ho => exact ho.elim
      | .ex c dd e', ho =>
        simp only at ho
        cases eo : outsOf e' d.fn.io with
        | none => rw [eo] at ho; exact ho.elim
        | some outs =>
          rw [eo] at ho
          intro F' H' σ' L' s'
          obtain ⟨L2, sr2⟩ := outs_ok h3 hv rfl s' eo
          exact ho F' H' L2 sr2 s'.fe s'.kp
      | .er, ho => exact ho.elim
/-- all the defs, by the depth of the calls -/
structure Prg (K : PySem.W.Frag) (mg : Str → Option Value) (G : Tb) (C : Nat → Addr) (ds : List FnD) (ad : Nat → Addr) (fd : Nat → FuncData) : Prop where
  fun_ : ∀ (i : Nat) (d : FnD), ds[i]? = some d → FunD K d.x d.qual (defArgs d.st) (defBody d.st) (defScope d.st) [] [] (ad i) (fd i)
  scp : ∀ (i : Nat) (d : FnD), ds[i]? = some d → FnScope d.N (d.N.take d.fn.np) (defScope d.st)
  bnd : ∀ (i : Nat) (d : FnD), ds[i]? = some d → Binds K (fd i) (d.N.take d.fn.np) []
  mgf : ∀ (i : Nat) (d : FnD), ds[i]? = some d → d.cl = none → mg d.x = some (.ref (ad i))
  chk : ∀ (i : Nat) (d : FnD), ds[i]? = some d → fnOkC G d = true
  tab : ∀ x f np io, G.fns.lookup x = some (f, np, io) → ∃ d, ds[f]? = some d ∧ d.cl = none ∧ d.x = x ∧ d.fn.np = np ∧ d.fn.io = io
  mths : ∀ m i f np io, G.mths.lookup (m, i) = some (f, np, io) → ∃ d, ds[f]? = some d ∧ Cls K (C i) ∧ Meth K (C i) m (ad f) ∧ d.fn.np = np ∧ d.fn.io = io
  mks : ∀ x i f np, G.mks.lookup x = some (i, f, np) → ∃ d, ds[f]? = some d ∧ Mk K (C i) (ad f) ∧ mg x = some (.ref (C i)) ∧ d.fn.np = np ∧ d.fn.io = [0]
  cls : ∀ f ∈ G.flds, ∀ c, Cls K (C c) ∧ NoAttr K (C c) f
  blt : ∀ x : Str, x ∈ bltNames → mg x = none
  gls : ∀ x d, G.gls.lookup x = some d → ∃ v u, mg x = some u ∧ RelV v u ∧ ∀ F, RepS C K F d v
theorem Prg.ok {ds : List FnD} {ad : Nat → Addr} {fd : Nat → FuncData} (p : Prg K mg G C ds ad fd) (W : Nat) : ∀ (k i : Nat) (d : FnD), ds[i]? = some d →
    FnOk P w K mg base (L2.CX P w) (2 * k) (ad i) (fd i) (d.N.take d.fn.np) (spF C K (fun _ => X0) (run (ds.map (·.fn)) W k) i d.fn.np d.fn.io)
  | 0, i, d, hd => by
    refine ⟨fun vs H Q E h => ?_, fun A outer s H args us vs Q E _ _ _ _ h => ?_⟩
    · obtain ⟨_, _, _, _, _, _, ho⟩ := h
      simp only [run] at ho
    · obtain ⟨_, _, _, _, _, _, ho⟩ := h
      simp only [run] at ho
  | k + 1, i, d, hd => by
    refine body_ok (i := i) (p.fun_ i d hd) (p.scp i d hd) (by simp [hd]) (p.chk i d hd) p.blt p.cls (fun m j f np io hx => ?_) (fun x j f np hx => ?_) (fun x f np io hx => ?_) p.gls
    · obtain ⟨d2, hd2, hc, hm, rfl, rfl⟩ := p.mths m j f np io hx
      exact ⟨ad f, fd f, _, Prg.ok p W k f d2 hd2, hc, hm, p.bnd f d2 hd2⟩
    · obtain ⟨d2, hd2, hm, hg, rfl, hio⟩ := p.mks x j f np hx
      have q : FnOk P w K mg base (L2.CX P w) (2 * k) (ad f) (fd f) (d2.N.take d2.fn.np) (spF C K (fun _ => X0) (run (ds.map (·.fn)) W k) f d2.fn.np d2.fn.io) := Prg.ok p W k f d2 hd2
      rw [hio] at q
      exact ⟨ad f, fd f, _, q, hm, hg, p.bnd f d2 hd2⟩
    · obtain ⟨d2, hd2, hcl, rfl, rfl, rfl⟩ := p.tab x f np io hx
      exact ⟨ad f, fd f, _, Prg.ok p W k f d2 hd2, p.mgf f d2 hd2 hcl, (p.fun_ f d2 hd2).kp, p.bnd f d2 hd2⟩
end
end Cr
end

section
/-! From what the top leaves to the law. -/
namespace Cr
open PySem L2

def FnD.toD (d : FnD) : He.DefD := ⟨d.at_, d.x, d.qual, defArgs d.st, defBody d.st, defScope d.st, [], []⟩
def glFa : Str × D → He.Fa
  | (x, .int i) => .int x i
  | (x, .str s) => .str x s
  | (x, _) => .glo x
def glC : Str × D → Bool
  | (_, .int _) => true
  | (_, .str s) => decide (s.length ≤ sizeLine) && (PyData.str s).canLay0
  | _ => false
def tabOf : Nat → List FnD → List (Str × (Nat × Nat × List Nat))
  | _, [] => []
  | i, d :: ds => match d.cl with
    | none => (d.x, (i, d.fn.np, d.fn.io)) :: tabOf (i + 1) ds
    | some _ => tabOf (i + 1) ds
/-- methods: of the class with a number -/
def mthOf (cls : List Str) : Nat → List FnD → List ((Str × Nat) × (Nat × Nat × List Nat))
  | _, [] => []
  | i, d :: ds => match d.cl with
    | none => mthOf cls (i + 1) ds
    | some c => match cls.idxOf? c with
      | some j => ((d.x, j), (i, d.fn.np, d.fn.io)) :: mthOf cls (i + 1) ds
      | none => mthOf cls (i + 1) ds
def mkOf (cls : List Str) : Nat → List FnD → List (Str × (Nat × Nat × Nat))
  | _, [] => []
  | i, d :: ds => match d.cl with
    | none => mkOf cls (i + 1) ds
    | some c => match cls.idxOf? c with
      | some j => if d.x = ("__init__" : Str) ∧ d.fn.io = [0] then (c, (j, i, d.fn.np)) :: mkOf cls (i + 1) ds else mkOf cls (i + 1) ds
      | none => mkOf cls (i + 1) ds
/-- classes, fields -/
structure Cf where
  cls : List Str
  flds : List Str
def Cf.at_ (cf : Cf) (c : Nat) : Str := (cf.cls[c]?).getD (cf.cls.headD "")
def tbOf (gls : List (Str × D)) (cf : Cf) (ds : List FnD) : Tb := ⟨tabOf 0 ds, gls, cf.flds, mthOf cf.cls 0 ds, mkOf cf.cls 0 ds⟩
def fnFa (d : FnD) : He.Fa := match d.cl with
  | none => .glo d.x
  | some c => .meth c d.x
def faOf (gls : List (Str × D)) (cf : Cf) (ds : List FnD) : List He.Fa := ds.map fnFa ++ (bltNames.map He.Fa.free ++ (gls.map glFa ++ (cf.cls.map He.Fa.glo ++ (cf.cls.map He.Fa.cls ++ (cf.cls.map He.Fa.mkr ++ (cf.cls.map fun c => cf.flds.map fun f => He.Fa.noat c f).flatten)))))
def fnOf (ds : List FnD) : List He.DefD := ds.map FnD.toD
theorem tab_ok : ∀ (ds : List FnD) (i : Nat) (x : Str) (f np : Nat) (io : List Nat), (tabOf i ds).lookup x = some (f, np, io) → ∃ d, i ≤ f ∧ ds[f - i]? = some d ∧ d.cl = none ∧ d.x = x ∧ d.fn.np = np ∧ d.fn.io = io
  | [], i, x, f, np, io, h => by simp [tabOf] at h
  | d :: ds, i, x, f, np, io, h => by
    have more : (tabOf (i + 1) ds).lookup x = some (f, np, io) → ∃ d', i ≤ f ∧ (d :: ds)[f - i]? = some d' ∧ d'.cl = none ∧ d'.x = x ∧ d'.fn.np = np ∧ d'.fn.io = io := fun h => by
      obtain ⟨d2, h1, h2, h3⟩ := tab_ok ds (i + 1) x f np io h
      refine ⟨d2, by omega, ?_, h3⟩
      have : f - i = (f - (i + 1)) + 1 := by omega
      rw [this]
      simpa using h2
    unfold tabOf at h
    split at h
    · rename_i hc
      rw [List.lookup_cons] at h
      by_cases e : x = d.x
      · subst e
        simp at h
        obtain ⟨rfl, rfl, rfl⟩ := h
        exact ⟨d, Nat.le_refl _, by simp, hc, rfl, rfl, rfl⟩
      · have e' : (x == d.x) = false := by simpa using e
        rw [e'] at h
        exact more h
    · exact more h
theorem mth_ok {cls : List Str} : ∀ (ds : List FnD) (i : Nat) (m : Str) (j f np : Nat) (io : List Nat), (mthOf cls i ds).lookup (m, j) = some (f, np, io) → ∃ d c, i ≤ f ∧ ds[f - i]? = some d ∧ d.cl = some c ∧ cls.idxOf? c = some j ∧ d.x = m ∧ d.fn.np = np ∧ d.fn.io = io
  | [], i, m, j, f, np, io, h => by simp [mthOf] at h
  | d :: ds, i, m, j, f, np, io, h => by
    have more : (mthOf cls (i + 1) ds).lookup (m, j) = some (f, np, io) → ∃ d' c, i ≤ f ∧ (d :: ds)[f - i]? = some d' ∧ d'.cl = some c ∧ cls.idxOf? c = some j ∧ d'.x = m ∧ d'.fn.np = np ∧ d'.fn.io = io := fun h => by
      obtain ⟨d2, c, h1, h2, h3⟩ := mth_ok ds (i + 1) m j f np io h
      refine ⟨d2, c, by omega, ?_, h3⟩
      have : f - i = (f - (i + 1)) + 1 := by omega
      rw [this]
      simpa using h2
    unfold mthOf at h
    split at h
    · exact more h
    · rename_i c hc
      split at h
      · rename_i j' hj
        rw [List.lookup_cons] at h
        by_cases e : (m, j) = (d.x, j')
        · cases e
          simp at h
          obtain ⟨rfl, rfl, rfl⟩ := h
          exact ⟨d, c, Nat.le_refl _, by simp, hc, hj, rfl, rfl, rfl⟩
        · have e' : ((m, j) == (d.x, j')) = false := by simpa using e
          rw [e'] at h
          exact more h
      · exact more h
theorem mk_tab {cls : List Str} : ∀ (ds : List FnD) (i : Nat) (x : Str) (j f np : Nat), (mkOf cls i ds).lookup x = some (j, f, np) → ∃ d, i ≤ f ∧ ds[f - i]? = some d ∧ d.cl = some x ∧ cls.idxOf? x = some j ∧ d.x = ("__init__" : Str) ∧ d.fn.np = np ∧ d.fn.io = [0]
  | [], i, x, j, f, np, h => by simp [mkOf] at h
  | d :: ds, i, x, j, f, np, h => by
    have more : (mkOf cls (i + 1) ds).lookup x = some (j, f, np) → ∃ d', i ≤ f ∧ (d :: ds)[f - i]? = some d' ∧ d'.cl = some x ∧ cls.idxOf? x = some j ∧ d'.x = ("__init__" : Str) ∧ d'.fn.np = np ∧ d'.fn.io = [0] := fun h => by
      obtain ⟨d2, h1, h2, h3⟩ := mk_tab ds (i + 1) x j f np h
      refine ⟨d2, by omega, ?_, h3⟩
      have : f - i = (f - (i + 1)) + 1 := by omega
      rw [this]
      simpa using h2
    unfold mkOf at h
    split at h
    · exact more h
    · rename_i c hc
      split at h
      · rename_i j' hj
        split at h
        · rename_i hh
          rw [List.lookup_cons] at h
          by_cases e : x = c
          · subst e
            simp at h
            obtain ⟨rfl, rfl, rfl⟩ := h
            exact ⟨d, Nat.le_refl _, by simp, hc, hj, hh.1, rfl, hh.2⟩
          · have e' : (x == c) = false := by simpa using e
            rw [e'] at h
            exact more h
        · exact more h
      · exact more h
theorem lookup_mem {α : Type} {x : Str} {a : α} : ∀ {l : List (Str × α)}, l.lookup x = some a → (x, a) ∈ l
  | [], h => by simp at h
  | (y, b) :: l, h => by
    simp only [List.lookup_cons] at h
    by_cases e : x = y
    · subst e
      simp at h
      subst h
      simp
    · have e' : (x == y) = false := by simpa using e
      rw [e'] at h
      exact List.mem_cons_of_mem _ (lookup_mem h)
def BindsOk (d : FnD) : Prop := ∀ (kV doc pm : Value) (an : Option Addr) (cdv ct : Value) (us : List Value), us.length = (d.N.take d.fn.np).length → bindArgs (PySem.W.fnOf d.x d.qual (defArgs d.st) (defBody d.st) (defScope d.st) .none kV doc pm an cdv ct) ⟨us, []⟩ = pure ((d.N.take d.fn.np).zip us)
def scpC (d : FnD) : Bool := (match (defScope d.st).kind with | .function => true | _ => false) && !(defScope d.st).isCoroutine && !(defScope d.st).isGenerator && decide d.N.Nodup &&
  (d.N.take d.fn.np).all (fun x => decide ((defScope d.st).names.lookup x = some .local) || decide ((defScope d.st).names.lookup x = some .cell)) && (defScope d.st).names.all (fun y => decide (y.2 ≠ .free))
theorem scp_of {d : FnD} (h : scpC d = true) : FnScope d.N (d.N.take d.fn.np) (defScope d.st) := by
  unfold scpC at h
  simp only [Bool.and_eq_true, Bool.not_eq_true', decide_eq_true_eq, List.all_eq_true, Bool.or_eq_true] at h
  obtain ⟨⟨⟨⟨⟨h1, h2⟩, h3⟩, h4⟩, h5⟩, h6⟩ := h
  refine ⟨?_, h2, h3, h4, ?_, h5, h6⟩
  · split at h1
    · assumption
    · cases h1
  · rw [List.length_take]
    rcases Nat.le_total d.fn.np d.N.length with z | z
    · rw [Nat.min_eq_left z]
    · rw [Nat.min_eq_right z, List.take_length, List.take_of_length_le z]
structure Texts (gls : List (Str × D)) (cf : Cf) (ds : List FnD) : Prop where
  scp : ds.all scpC = true
  bnd : ∀ d ∈ ds, BindsOk d
  chk : ds.all (fnOkC (tbOf gls cf ds)) = true
  cf : (cf.flds.isEmpty || !cf.cls.isEmpty) = true
  gl : gls.all glC = true
section
variable {P : Program} {w : World} {K : PySem.W.Frag} {mg : Str → Option Value} {h : Heap}
theorem prg_of {gls : List (Str × D)} {cf : Cf} {ds : List FnD} (t : Texts gls cf ds) (X : K.In h) (G : h.Ns mainGlobals mg) (c : He.SaysD (faOf gls cf ds) (fnOf ds) K) :
    ∃ fd : Nat → FuncData, Prg K mg (tbOf gls cf ds) (fun c => He.ga K (cf.at_ c)) ds (fun i => (ds[i]?.map fun d => He.fAd K d.at_).getD 0) fd ∧ ∀ (i : Nat) (d : FnD), ds[i]? = some d → FunD K d.x d.qual (defArgs d.st) (defBody d.st) (defScope d.st) [] [] (He.fAd K d.at_) (fd i) := by
  have hf : ∀ i : Nat, ∃ fd : FuncData, ∀ d, ds[i]? = some d → FunD K d.x d.qual (defArgs d.st) (defBody d.st) (defScope d.st) [] [] (He.fAd K d.at_) fd := fun i => by
    cases e : ds[i]? with
    | none => exact ⟨default, fun d z => by cases z⟩
    | some d =>
      have hm : d.toD ∈ fnOf ds := List.mem_map.mpr ⟨d, List.mem_of_getElem? e, rfl⟩
      obtain ⟨fd, F⟩ := c.defs hm
      exact ⟨fd, fun d' z => by cases z; exact F⟩
  let fd : Nat → FuncData := fun i => Classical.choose (hf i)
  have hfd : ∀ (i : Nat) (d : FnD), ds[i]? = some d → FunD K d.x d.qual (defArgs d.st) (defBody d.st) (defScope d.st) [] [] (He.fAd K d.at_) (fd i) := fun i d e => Classical.choose_spec (hf i) d e
  have adr : ∀ (i : Nat) (d : FnD), ds[i]? = some d → (ds[i]?.map fun d => He.fAd K d.at_).getD 0 = He.fAd K d.at_ := fun i d e => by rw [e]; rfl
  have fact : ∀ f ∈ faOf gls cf ds, f.ok K = true := fun f hf => c.facts hf
  have hfa : ∀ (i : Nat) (d : FnD), ds[i]? = some d → (fnFa d).ok K = true := fun i d e => fact _ (List.mem_append_left _ (List.mem_map.mpr ⟨d, List.mem_of_getElem? e, rfl⟩))
  have hcl : ∀ x ∈ cf.cls, Cls K (He.ga K x) := fun x hx => He.cls_ok (fact _ (by simp only [faOf, List.mem_append, List.mem_map]; exact .inr (.inr (.inr (.inr (.inl ⟨x, hx, rfl⟩))))))
  have hmk : ∀ x ∈ cf.cls, Mk K (He.ga K x) (He.ma K (He.ga K x) "__init__") := fun x hx => He.mkr_ok (fact _ (by simp only [faOf, List.mem_append, List.mem_map]; exact .inr (.inr (.inr (.inr (.inr (.inl ⟨x, hx, rfl⟩)))))))
  have hgl : ∀ x ∈ cf.cls, mg x = some (.ref (He.ga K x)) := fun x hx => He.glo_ok X G (fact _ (by simp only [faOf, List.mem_append, List.mem_map]; exact .inr (.inr (.inr (.inl ⟨x, hx, rfl⟩)))))
  have hno : ∀ x ∈ cf.cls, ∀ f ∈ cf.flds, NoAttr K (He.ga K x) f := fun x hx f hf => He.noat_ok (fact _ (by
    simp only [faOf, List.mem_append, List.mem_flatten, List.mem_map]
    exact .inr (.inr (.inr (.inr (.inr (.inr ⟨_, ⟨x, hx, rfl⟩, List.mem_map.mpr ⟨f, hf, rfl⟩⟩)))))))
  have hat : ∀ f ∈ cf.flds, ∀ i, cf.at_ i ∈ cf.cls := fun f hf i => by
    have hc := t.cf
    cases e : cf.cls with
    | nil =>
      cases e2 : cf.flds with
      | nil => rw [e2] at hf; cases hf
      | cons _ _ => rw [e, e2] at hc; cases hc
    | cons a l =>
      unfold Cf.at_
      rw [e]
      cases e3 : (a :: l)[i]? with
      | none => simp
      | some b => exact List.mem_of_getElem? e3
  have hix : ∀ x j, cf.cls.idxOf? x = some j → x ∈ cf.cls ∧ cf.at_ j = x := fun x j h => by
    have h1 : cf.cls[j]? = some x := by
      rw [List.idxOf?, List.findIdx?_eq_some_iff_getElem] at h
      obtain ⟨hlt, h2, _⟩ := h
      rw [List.getElem?_eq_getElem hlt]
      simpa using h2
    exact ⟨List.mem_of_getElem? h1, by unfold Cf.at_; rw [h1]; rfl⟩
  refine ⟨fd, ⟨fun i d e => by rw [adr i d e]; exact hfd i d e, fun i d e => scp_of (List.all_eq_true.mp t.scp d (List.mem_of_getElem? e)), fun i d e => (hfd i d e).bindsN (t.bnd d (List.mem_of_getElem? e)), fun i d e hc => ?_, fun i d e => List.all_eq_true.mp t.chk d (List.mem_of_getElem? e), fun x f np io hx => ?_, fun m j f np io hx => ?_, fun x j f np hx => ?_, fun f hf i => ⟨hcl _ (hat f hf i), hno _ (hat f hf i) f hf⟩, fun x hx => He.free_ok X G (fact _ ?_), fun x d hx => ?_⟩, hfd⟩
  · rw [adr i d e]
    have h1 := hfa i d e
    unfold fnFa at h1
    rw [hc] at h1
    have h2 : d.at_ = (d.x, none) := by unfold FnD.at_; rw [hc]
    rw [h2]
    exact He.glo_ok X G h1
  · obtain ⟨d, _, h2, h3⟩ := tab_ok ds 0 x f np io hx
    exact ⟨d, by simpa using h2, h3⟩
  · obtain ⟨d, x, _, h2, h3, h4, h5, h6, h7⟩ := mth_ok ds 0 m j f np io hx
    have h2 : ds[f]? = some d := by simpa using h2
    obtain ⟨hm, hj⟩ := hix x j h4
    have h1 := hfa f d h2
    unfold fnFa at h1
    rw [h3] at h1
    refine ⟨d, h2, by rw [hj]; exact hcl x hm, ?_, h6, h7⟩
    rw [adr f d h2, hj]
    have h8 : d.at_ = (x, some d.x) := by unfold FnD.at_; rw [h3]
    rw [h8, ← h5]
    exact He.meth_ok h1
  · obtain ⟨d, _, h2, h3, h4, h5, h6, h7⟩ := mk_tab ds 0 x j f np hx
    have h2 : ds[f]? = some d := by simpa using h2
    obtain ⟨hm, hj⟩ := hix x j h4
    have h8 : d.at_ = (x, some d.x) := by unfold FnD.at_; rw [h3]
    refine ⟨d, h2, ?_, by rw [hj]; exact hgl x hm, h6, h7⟩
    rw [adr f d h2, hj, h8, h5]
    exact hmk x hm
  · exact List.mem_append_right _ (List.mem_append_left _ (List.mem_map.mpr ⟨x, hx, rfl⟩))
  · have hm := lookup_mem hx
    have hc := List.all_eq_true.mp t.gl _ hm
    have hfa : (glFa (x, d)).ok K = true := fact _ (List.mem_append_right _ (List.mem_append_right _ (List.mem_append_left _ (List.mem_map.mpr ⟨_, hm, rfl⟩))))
    cases d with
    | int i =>
      obtain ⟨tk, e⟩ := He.int_ok X G hfa
      exact ⟨.int i, _, e, ⟨tk, rfl⟩, fun F => by simp only [RepS]⟩
    | str s =>
      obtain ⟨tk, e⟩ := He.str_ok X G hfa
      simp only [glC, Bool.and_eq_true, decide_eq_true_eq] at hc
      exact ⟨.str s, _, e, ⟨tk, rfl⟩, fun F => by simp only [RepS]; exact ⟨trivial, hc⟩⟩
    | _ => cases hc
/-- the law's def -/
theorem law_of {gls : List (Str × D)} {cf : Cf} {ds : List FnD} (t : Texts gls cf ds) (X : K.In h) (G : h.Ns mainGlobals mg) (c : He.SaysD (faOf gls cf ds) (fnOf ds) K) {i : Nat} {d : FnD} {x : Str} {fa : Addr} {n k W : Nat} (hd : ds[i]? = some d) (hcl : d.cl = none) (hx : d.N.take d.fn.np = [x]) (hio : d.fn.io = []) (hfa : mg d.x = some (.ref fa))
    (law : ∀ ns : List Int, ns.length ≤ n → run (ds.map (·.fn)) W k i [.fr (.scr ns)] = .ok (.fr (.bl true)) []) :
    ∃ (fd : FuncData) (sp : Sp), (∀ (s : Shared) (u : Value), BindsTo s fd ⟨[u], []⟩ [(x, u)]) ∧
      (∀ (H : Hp) (a : Addr) (ns : List Int), ns.length ≤ n → Only H → SqL K H a (ns.map V.int) → sp [.ref a] H (fun v _ => v = .bl true) fun _ _ _ => False) ∧
        ∀ base : Heap, K.In base → base.Ns mainGlobals mg → FnOk P w K mg base (L2.CX P w) (2 * k) fa fd [x] sp := by
  obtain ⟨fd, p, hfd⟩ := prg_of t X G c
  have hg := p.mgf i d hd hcl
  have e := hfa.symm.trans hg
  cases e
  refine ⟨fd i, spF (fun c => He.ga K (cf.at_ c)) K (fun _ => X0) (run (ds.map (·.fn)) W k) i d.fn.np d.fn.io, fun s u => ?_, fun H a ns hl hO hS => ?_, fun base _ _ => ?_⟩
  · have b := (hfd i d hd).bindsA (ps := [x]) (by
      have := t.bnd d (List.mem_of_getElem? hd)
      unfold BindsOk at this
      rw [hx] at this
      exact this) s [u] rfl
    exact b
  · have hnp : d.fn.np = 1 := by
      have h1 := congrArg List.length hx
      have h2 := t.chk
      have h3 := List.all_eq_true.mp h2 d (List.mem_of_getElem? hd)
      unfold fnOkC at h3
      simp only [Bool.and_eq_true, decide_eq_true_eq] at h3
      rw [List.length_take, Nat.min_eq_left h3.1.1.1.1.2] at h1
      exact h1
    refine ⟨H, [], [.fr (.scr ns)], [], by rw [hnp]; rfl, ⟨Le.refl H, ?_, by simp, fun a ha => by simp at ha⟩, ?_⟩
    · simp only [List.map_cons, List.map_nil, RepE, RepO, RepS]
      exact ⟨_, _, [], [], rfl, ⟨rfl, a, rfl, hS⟩, ⟨rfl, rfl⟩, rfl⟩
    · rw [law ns hl, hio]
      intro v F' H' T L' _ r _ _
      have := r.2
      simpa only [RepS] using this
  · rw [← hx]
    exact p.ok W k i d hd
end
/-- the law's walk: what it may let out hangs on the world -/
theorem walk_law {l : PySem.W.OpenLaw} {n k : Nat} {q : Program} {loose : List Str} {XP : (Str → Option Value) → Heap → Prop} {YP : World → Heap → Prop} {d : DefRec} {x : Str} (most : l.most = some n) (line : n ≤ sizeLine) (plain : d.params.defaults = []) (room : Room k callerA)
    (hF : ∀ (w : World) (mg : Str → Option Value) (fa : Addr) (h : Heap), YP w h → h.Ns mainGlobals mg → mg d.name = some (.ref fa) → ∃ (K : PySem.W.Frag) (fd : FuncData) (sp : Sp), K.In h ∧ (∀ (s : Shared) (u : Value), BindsTo s fd ⟨[u], []⟩ [(x, u)]) ∧
      (∀ (H : Hp) (a : Addr) (ns : List Int), ns.length ≤ n → Only H → SqL K H a (ns.map V.int) → sp [.ref a] H (fun v _ => v = .bl true) fun _ _ _ => False) ∧ ∀ base : Heap, K.In base → base.Ns mainGlobals mg → FnOk l.prog w K mg base (L2.CX l.prog w) k fa fd [x] sp) :
    PySem.W.WalkO q loose XP YP l.row.toRowW d [] (fun f vs => PySem.call f vs) := by
  have none_out : ∀ (w : World) (H : Hp) (s : Shared) (e : Value) (s' : Shared), L2.CX l.prog w [] H s (fun _ _ _ => False) e s' → False := by
    rintro w H s e s' ⟨_, _, _, _, _, _, _, _, _, _, _, _, z⟩
    exact z.elim
  apply Att.attach_call most plain
  intro w sA sB mg mb fa o pm cd doc a vs ns G Y _ _ _ isFa hob hin hlen hgl
  obtain ⟨K, fd, sp, inK, binds, prom, ok⟩ := hF w mg fa _ Y G.T.g isFa
  exact law_call inK G.T.g G.T.b G.T.builtins G.T.nolimit hgl hob hin (Nat.le_trans hlen line) room ok binds (fun H hO hS => prom H a ns hlen hO hS) (fun H e s' => none_out w H sB e s')
end Cr
end

section
/-! Reading a core program: what `simp` needs, and what the laws share. -/
namespace Cr
open PySem L2
/-! ### the evaluator step by step -/
section
variable {α β : Type} {a : α} {f : α → Res β} {d d' : D} {o : O} {e : Env} {i j : Int} {n : Nat}
@[simp] theorem bok : (Res.ok a).bind f = f a := rfl
@[simp] theorem ber : (Res.er : Res α).bind f = .er := rfl
@[simp] theorem get_p : (Hd.p d).get e = some (.fr d) := rfl
@[simp] theorem get_t : (Hd.t o).get e = some o := rfl
@[simp] theorem get_q : (Hd.q o).get e = some o := rfl
@[simp] theorem get_n : (Hd.n n).get e = (e[n]?).join := rfl
@[simp] theorem get_io : (Hd.io n).get e = (e[n]?).join := rfl
@[simp] theorem isq_p : (Hd.p d).isQ = false := rfl
@[simp] theorem isq_t : (Hd.t o).isQ = false := rfl
@[simp] theorem isq_n : (Hd.n n).isQ = false := rfl
@[simp] theorem isq_q : (Hd.q o).isQ = true := rfl
@[simp] theorem isq_io : (Hd.io n).isQ = false := rfl
@[simp] theorem istr_p : (Hd.p d).isTr = false := rfl
@[simp] theorem istr_t : (Hd.t o).isTr = false := rfl
@[simp] theorem istr_n : (Hd.n n).isTr = true := rfl
@[simp] theorem istr_q : (Hd.q o).isTr = true := rfl
@[simp] theorem val_p : (Hd.p d).val = some (.fr d) := rfl
@[simp] theorem val_t : (Hd.t o).val = some o := rfl
@[simp] theorem view_p : (Hd.p d).view e = some d := rfl
@[simp] theorem view_t : (Hd.t o).view e = some o.frz := rfl
@[simp] theorem view_q : (Hd.q o).view e = some o.frz := rfl
theorem view_n : (Hd.n n).view e = ((e[n]?).join).map O.frz := rfl
theorem view_io : (Hd.io n).view e = ((e[n]?).join).map O.frz := rfl
@[simp] theorem mkh_fr : mkH (.fr d) = .p d := rfl
@[simp] theorem mkh_ol {l : List O} : mkH (.ol l) = .t (.ol l) := rfl
@[simp] theorem mkh_ot {l : List O} : mkH (.ot l) = .t (.ot l) := rfl
@[simp] theorem part_fr {h : Hd} : h.part (.fr d) = .p d := rfl
@[simp] theorem part_n {l : List O} : (Hd.n n).part (.ol l) = .q (.ol l) := rfl
@[simp] theorem part_t {l : List O} : (Hd.t o).part (.ol l) = .t (.ol l) := rfl
@[simp] theorem part_q {l : List O} : (Hd.q o).part (.ol l) = .q (.ol l) := rfl
@[simp] theorem join_some {γ : Type} {x : Option γ} : (some x).join = x := rfl
@[simp] theorem add_int : binO .Add (.fr (.int i)) (.fr (.int j)) = some (.fr (.int (i + j))) := rfl
@[simp] theorem sub_int : binO .Sub (.fr (.int i)) (.fr (.int j)) = some (.fr (.int (i - j))) := rfl
theorem mul_int (h : bigOk i j = true) : binO .Mult (.fr (.int i)) (.fr (.int j)) = some (.fr (.int (i * j))) := by simp [binO, h]
theorem bigL (h : i.natAbs < 18446744073709551616) : bigOk i j = true := by simp [bigOk, h]
theorem bigR (h : j.natAbs < 18446744073709551616) : bigOk i j = true := by simp [bigOk, h]
theorem mod_int (h : 0 < j) : binO .Mod (.fr (.int i)) (.fr (.int j)) = some (.fr (.int (i % j))) := by simp [binO, h]
theorem div_int (h : 0 < j) (h2 : j.natAbs.log2 < 9000) : binO .FloorDiv (.fr (.int i)) (.fr (.int j)) = some (.fr (.int (i / j))) := by simp [binO, h, h2]
@[simp] theorem frz_fr : (O.fr d).frz = d := rfl
@[simp] theorem frz_ol {l : List O} : (O.ol l).frz = .lst (frzL l) := by simp [O.frz]
@[simp] theorem frz_ot {l : List O} : (O.ot l).frz = .tup (frzL l) := by simp [O.frz]
@[simp] theorem boolh {b : Bool} : boolH (.p (.bl b)) = some b := rfl
@[simp] theorem lt_int : cmpD .Lt (.int i) (.int j) = some (decide (i < j)) := rfl
@[simp] theorem le_int : cmpD .LtE (.int i) (.int j) = some (decide (i ≤ j)) := rfl
@[simp] theorem gt_int : cmpD .Gt (.int i) (.int j) = some (decide (j < i)) := rfl
@[simp] theorem ge_int : cmpD .GtE (.int i) (.int j) = some (decide (j ≤ i)) := rfl
theorem line_ok (h : n ≤ 16777216) : lineOk n = true := decide_eq_true h
end
/-! ### rules forward -/
section
variable {cal : Nat → List O → CRes} {W : Nat} {e e1 e2 e3 : Env} {a b c x p ix : CE} {h ha hb hc : Hd} {o o0 xo yo : O} {i : Nat} {d k : D} {fl : Fl} {s : CS} {ss t u : List CS}
theorem x_lit : ev cal (.lit d) e = .ok (.p d, e) := by rw [ev]
theorem x_glob {g : Str} : ev cal (.glob g d) e = .ok (.p d, e) := by rw [ev]
theorem x_var (hs : (e[i]?).join = some (.fr d)) : ev cal (.var i) e = .ok (.p d, e) := by rw [ev, hs]
theorem x_varl {l : List O} (hs : (e[i]?).join = some (.ol l)) : ev cal (.var i) e = .ok (.n i, e) := by rw [ev, hs]
theorem x_io {l : List O} (hs : (e[i]?).join = some (.ol l)) : ev cal (.io i) e = .ok (.io i, e) := by rw [ev, hs]
theorem x_fz (hs : (e[i]?).join = some o) : ev cal (.fz i) e = .ok (.p o.frz, e.set i (some (.fr o.frz))) := by rw [ev, hs]
theorem x_mv (hs : (e[i]?).join = some o) : ev cal (.mv i) e = .ok (mkH o, e.set i none) := by rw [ev, hs]
theorem x_bin {op : Operator} (h1 : ev cal a e = .ok (ha, e1)) (h2 : ev cal b e1 = .ok (hb, e2)) (hq : (!ha.isQ || b.quiet) = true) (g1 : ha.get e2 = some xo) (g2 : hb.get e2 = some yo) (h3 : binO op xo yo = some o) : ev cal (.bin op a b) e = .ok (mkH o, e2) := by
  rw [ev, h1]
  simp only [bok]
  rw [h2]
  simp only [bok, hq, if_true, g1, g2, h3]
theorem x_cmp {op : CmpOp} {dx dy : D} {r : Bool} (h1 : ev cal a e = .ok (ha, e1)) (h2 : ev cal b e1 = .ok (hb, e2)) (hq : (!ha.isQ || b.quiet) = true) (g1 : ha.view e2 = some dx) (g2 : hb.view e2 = some dy) (h3 : cmpD op dx dy = some r) : ev cal (.cmp op a b) e = .ok (.p (.bl r), e2) := by
  rw [ev, h1]
  simp only [bok]
  rw [h2]
  simp only [bok, hq, if_true, g1, g2, h3]
theorem x_not {r : Bool} (h1 : ev cal a e = .ok (.p (.bl r), e1)) : ev cal (.not a) e = .ok (.p (.bl (!r)), e1) := by
  rw [ev, h1]
  simp only [bok, boolh]
theorem x_sub {dy : D} (h1 : ev cal a e = .ok (ha, e1)) (h2 : ev cal b e1 = .ok (.p dy, e2)) (hq : (!ha.isQ || b.quiet) = true) (g1 : ha.get e2 = some xo) (h3 : atO xo dy = some o) : ev cal (.sub a b) e = .ok (ha.part o, e2) := by
  rw [ev, h1]
  simp only [bok]
  rw [h2]
  simp only [bok, hq, if_true, g1, h3]
theorem x_ss {fl : Fl} (h1 : evS cal W s e = .ok (.next, e1)) (h2 : evSs cal W ss e1 = .ok (fl, e2)) : evSs cal W (s :: ss) e = .ok (fl, e2) := by
  rw [evSs, h1]
  simp only [bok, h2]
theorem x_ssr (h1 : evS cal W s e = .ok (.ret o, e1)) : evSs cal W (s :: ss) e = .ok (.ret o, e1) := by
  rw [evSs, h1]
  simp only [bok]
theorem x_ss0 : evSs cal W [] e = .ok (.next, e) := by rw [evSs]
theorem x_set (h1 : ev cal a e = .ok (h, e1)) (hv : h.val = some o) (hi : i < e1.length) : evS cal W (.set i a) e = .ok (.next, e1.set i (some o)) := by
  rw [evS, h1]
  simp only [bok, hv, setS, hi, if_true]
theorem x_ret (h1 : ev cal a e = .ok (h, e1)) (hv : h.val = some o) : evS cal W (.ret a) e = .ok (.ret o, e1) := by
  rw [evS, h1]
  simp only [bok, hv]
theorem x_if {r : Bool} {res : Res (Fl × Env)} (h1 : ev cal a e = .ok (.p (.bl r), e1)) (h2 : (if r = true then evSs cal W t e1 else evSs cal W u e1) = res) : evS cal W (.if_ a t u) e = res := by
  rw [evS, h1]
  cases r <;> simpa [-Res.bind] using h2
theorem x_ift {r : Bool} {res : Res (Fl × Env)} (h1 : ev cal a e = .ok (.p (.bl r), e1)) (hr : r = true) (h2 : evSs cal W t e1 = res) : evS cal W (.if_ a t u) e = res := x_if h1 (by rw [if_pos hr]; exact h2)
theorem x_iff {r : Bool} {res : Res (Fl × Env)} (h1 : ev cal a e = .ok (.p (.bl r), e1)) (hr : r = false) (h2 : evSs cal W u e1 = res) : evS cal W (.if_ a t u) e = res := x_if h1 (by rw [hr]; exact h2)
theorem x_expr (h1 : ev cal a e = .ok (h, e1)) : evS cal W (.expr a) e = .ok (.next, e1) := by
  rw [evS, h1]
  simp only [bok]
theorem x_seti {a0 a1 : O} (h1 : ev cal x e = .ok (h, e1)) (hv : h.val = some o) (hs : (e1[i]?).join = some o0) (h2 : ev cal ix e1 = .ok (.p k, e2)) (hs2 : (e2[i]?).join = some a0) (ha : setAt a0 k o = some a1) (hi : i < e2.length) : evS cal W (.seti i none ix x) e = .ok (.next, e2.set i (some a1)) := by
  rw [evS, h1]
  simp only [bok, hv, hs]
  rw [h2]
  simp only [bok, hs2, ha, Option.bind, setS, hi, if_true]
theorem x_seti2 {xs : List O} {b0 b1 a1 : O} {pk : Int} (h1 : ev cal x e = .ok (h, e1)) (hv : h.val = some o) (hs : (e1[i]?).join = some o0) (hp : ev cal p e1 = .ok (.p (.int pk), e2)) (hs2 : (e2[i]?).join = some (.ol xs)) (hat : atI xs pk = some b0) (hix : ev cal ix e2 = .ok (.p k, e3)) (hq : ix.quiet = true)
    (hb : setAt b0 k o = some b1) (ha : setAt (.ol xs) (.int pk) b1 = some a1) (hi : i < e3.length) : evS cal W (.seti i (some p) ix x) e = .ok (.next, e3.set i (some a1)) := by
  rw [evS, h1]
  simp only [bok, hv, hs]
  rw [hp]
  simp only [bok, hs2, hat]
  rw [hix]
  simp only [bok, hq, if_true, hb, ha, Option.bind, setS, hi]
end
theorem leafs_ints : ∀ l : List Int, leafs (l.map fun i => O.fr (.int i)) = some (l.map D.int)
  | [] => rfl
  | i :: l => by simp [leafs, leafs_ints l]
theorem frzL_ints : ∀ l : List Int, frzL (l.map fun i => O.fr (.int i)) = l.map D.int
  | [] => rfl
  | i :: l => by simp [frzL, O.frz, frzL_ints l]
theorem cleanL_ints : ∀ l : List Int, cleanL (l.map fun i => O.fr (.int i)) = true
  | [] => rfl
  | i :: l => by simp [cleanL, O.clean, D.imm, cleanL_ints l]
def mixFn : Fn := ⟨2, 4, [], [.set 2 (.var 1),
  .for_ (.v 3) (.seq (.var 0)) [.set 2 (.bin .Mod (.bin .Add (.bin .Add (.bin .Mult (.var 2) (.lit (.int 48271))) (.bin .Mod (.var 3) (.lit (.int 2147483629)))) (.lit (.int 1))) (.lit (.int 2147483647)))],
  .ret (.lst [.var 2, .bi .list [.var 0], .lit (.int 0)])]⟩
def nextFn : Fn := ⟨2, 3, [0], [.set 2 (.sub (.bin .Add (.sub (.var 0) (.lit (.int 1))) (.lst [.lit (.int 0)])) (.bin .Mod (.sub (.var 0) (.lit (.int 2))) (.bi .max2 [.lit (.int 1), .bi .len [.sub (.var 0) (.lit (.int 1))]]))),
  .if_ (.cmp .GtE (.var 2) (.bin .Pow (.lit (.int 10)) (.lit (.int 18)))) [.seti 0 (some (.lit (.int 1))) (.bin .Mod (.sub (.var 0) (.lit (.int 2))) (.bi .len [.sub (.var 0) (.lit (.int 1))])) (.bin .FloorDiv (.var 2) (.var 1)),
    .ret (.bin .Mod (.var 2) (.var 1))] [],
  .seti 0 none (.lit (.int 0)) (.bin .Mod (.bin .Add (.bin .Add (.bin .Mult (.sub (.var 0) (.lit (.int 0))) (.lit (.int 48271))) (.bin .Mult (.var 2) (.lit (.int 69621)))) (.lit (.int 11))) (.lit (.int 2147483647))),
  .seti 0 none (.lit (.int 2)) (.bin .Add (.sub (.var 0) (.lit (.int 2))) (.lit (.int 1))),
  .ret (.bin .Mod (.bin .FloorDiv (.sub (.var 0) (.lit (.int 0))) (.lit (.int 7))) (.var 1))]⟩
/-- the script's state: a mixed number, what is left of the script, a count -/
def hst (m : Int) (l : List Int) (c : Int) : O := .ol [.fr (.int m), .ol (l.map fun i => .fr (.int i)), .fr (.int c)]
theorem at3_0 {a b c : O} : atO (.ol [a, b, c]) (.int 0) = some a := rfl
theorem at3_1 {a b c : O} : atO (.ol [a, b, c]) (.int 1) = some b := rfl
theorem at3_2 {a b c : O} : atO (.ol [a, b, c]) (.int 2) = some c := rfl
section
variable {cal : Nat → List O → CRes} {a b x : O} {n : Option O}
/-- the three readings of the state -/
theorem rd0 {m : Int} {l : List Int} {c : Int} {r : List (Option O)} : ev cal (.sub (.var 0) (.lit (.int 0))) (some (hst m l c) :: r) = .ok (.p (.int m), some (hst m l c) :: r) := by
  simp [-Res.bind, ev, hst, at3_0]
theorem rd1 {m : Int} {l : List Int} {c : Int} {r : List (Option O)} : ev cal (.sub (.var 0) (.lit (.int 1))) (some (hst m l c) :: r) = .ok (.q (.ol (l.map fun i => .fr (.int i))), some (hst m l c) :: r) := by
  simp [-Res.bind, ev, hst, at3_1]
theorem rd2 {m : Int} {l : List Int} {c : Int} {r : List (Option O)} : ev cal (.sub (.var 0) (.lit (.int 2))) (some (hst m l c) :: r) = .ok (.p (.int c), some (hst m l c) :: r) := by
  simp [-Res.bind, ev, hst, at3_2]
theorem rdlen {m : Int} {l : List Int} {c : Int} {r : List (Option O)} : ev cal (.bi .len [.sub (.var 0) (.lit (.int 1))]) (some (hst m l c) :: r) = .ok (.p (.int l.length), some (hst m l c) :: r) := by
  rw [ev]
  simp only [evs, rd1, bok]
  simp [-Res.bind, stayOk, quietL, allSome, biO, frzL_ints]
/-- where the script is read -/
def posI (l : List Int) (c : Int) : Int := c % max 1 (l.length : Int)
def cellI (l : List Int) (c : Int) : Int := (l ++ [0]).getD (posI l c).toNat 0
theorem posI_lt (l : List Int) (c : Int) : 0 ≤ posI l c ∧ posI l c < max 1 (l.length : Int) := by
  unfold posI
  exact ⟨Int.emod_nonneg _ (by omega), Int.emod_lt_of_pos _ (by omega)⟩
theorem max2_int {i j : Int} : biO .max2 [.fr (.int i), .fr (.int j)] = some (.fr (.int (max i j))) := by
  have h : (if j > i then j else i) = max i j := by split <;> omega
  simp only [biO, h]
theorem min2_int {i j : Int} : biO .min2 [.fr (.int i), .fr (.int j)] = some (.fr (.int (min i j))) := by
  have h : (if j < i then j else i) = min i j := by split <;> omega
  simp only [biO, h]
theorem rdpos {m : Int} {l : List Int} {c : Int} {r : List (Option O)} : ev cal (.bin .Mod (.sub (.var 0) (.lit (.int 2))) (.bi .max2 [.lit (.int 1), .bi .len [.sub (.var 0) (.lit (.int 1))]])) (some (hst m l c) :: r) = .ok (.p (.int (posI l c)), some (hst m l c) :: r) := by
  have e1 : ev cal (.bi .max2 [.lit (.int 1), .bi .len [.sub (.var 0) (.lit (.int 1))]]) (some (hst m l c) :: r) = .ok (.p (.int (max 1 (l.length : Int))), some (hst m l c) :: r) := by
    rw [ev]
    simp only [evs, ev.eq_1, rdlen, bok]
    simp [-Res.bind, stayOk, quietL, allSome, max2_int]
  rw [ev]
  simp only [rd2, e1, bok, isq_p, get_p, Bool.not_false, Bool.true_or, if_true]
  rw [mod_int (by omega)]
  rfl
theorem atI_nn {α : Type} {l : List α} {k : Int} (h0 : 0 ≤ k) (h1 : k < l.length) : atI l k = l[k.toNat]? := by
  unfold atI ixN
  rw [if_pos h0, if_pos h1]
  rfl
theorem ixN_nn {n : Nat} {k : Int} (h0 : 0 ≤ k) (h1 : k < n) : ixN n k = some k.toNat := by
  unfold ixN
  rw [if_pos h0, if_pos h1]
theorem cell_at (l : List Int) (c : Int) : atI ((l ++ [0]).map D.int) (posI l c) = some (.int (cellI l c)) := by
  have h := posI_lt l c
  rw [atI_nn h.1 (by simp; omega)]
  unfold cellI
  have hlt : (posI l c).toNat < (l ++ [0]).length := by simp; omega
  rw [List.getElem?_map, List.getElem?_eq_getElem hlt, List.getD_eq_getElem?_getD, List.getElem?_eq_getElem hlt]
  rfl
theorem rdcell {m : Int} {l : List Int} {c : Int} {r : List (Option O)} (hl : l.length ≤ 1000) : ev cal (.sub (.bin .Add (.sub (.var 0) (.lit (.int 1))) (.lst [.lit (.int 0)])) (.bin .Mod (.sub (.var 0) (.lit (.int 2))) (.bi .max2 [.lit (.int 1), .bi .len [.sub (.var 0) (.lit (.int 1))]]))) (some (hst m l c) :: r) = .ok (.p (.int (cellI l c)), some (hst m l c) :: r) := by
  have e1 : ev cal (.lst [.lit (.int 0)]) (some (hst m l c) :: r) = .ok (.t (.ol [.fr (.int 0)]), some (hst m l c) :: r) := by
    rw [ev]
    simp only [evs, ev.eq_1, bok]
    simp [-Res.bind, allSome, lineOk]
  have e2 : ev cal (.bin .Add (.sub (.var 0) (.lit (.int 1))) (.lst [.lit (.int 0)])) (some (hst m l c) :: r) = .ok (.t (.ol ((l ++ [0]).map fun i => .fr (.int i))), some (hst m l c) :: r) := by
    rw [ev]
    simp only [rd1, e1, bok, isq_q, get_q, get_t, Bool.not_true, Bool.false_or]
    have e3 : binO .Add (.ol (l.map fun i => O.fr (.int i))) (.ol [.fr (.int 0)]) = some (.ol ((l ++ [0]).map fun i => .fr (.int i))) := by
      have h1 : (O.ol (l.map fun i => O.fr (.int i))).items = some (false, l.map D.int) := by simp [O.items, leafs_ints]
      have h2 : (O.ol [O.fr (.int 0)]).items = some (false, [D.int 0]) := rfl
      unfold binO
      simp only [h1, h2]
      simp [line_ok (n := l.length + 1) (by omega)]
    rw [e3]
    simp [CE.quiet, quietL]
  rw [ev]
  simp only [e2, rdpos, bok, isq_t, get_t, Bool.not_false, Bool.true_or, if_true]
  have e4 : atO (.ol ((l ++ [0]).map fun i => O.fr (.int i))) (.int (posI l c)) = some (.fr (.int (cellI l c))) := by
    have := cell_at l c
    unfold atO
    simp only
    have h := posI_lt l c
    rw [atI_nn h.1 (by simp; omega)] at this ⊢
    simp only [List.getElem?_map] at this ⊢
    cases e : (l ++ [0])[(posI l c).toNat]? with
    | none => rw [e] at this; simp at this
    | some x => rw [e] at this; simp at this; simp [this]
  rw [e4]
  rfl
end
theorem pow1018 {cal : Nat → List O → CRes} {e : Env} : ev cal (.bin .Pow (.lit (.int 10)) (.lit (.int 18))) e = .ok (.p (.int 1000000000000000000), e) := by
  rw [ev]
  simp only [ev.eq_1, bok, isq_p, get_p, Bool.not_false, Bool.true_or, if_true]
  have : binO .Pow (.fr (.int 10)) (.fr (.int 18)) = some (.fr (.int 1000000000000000000)) := by simp [binO]
  rw [this]
  rfl
theorem hst_set0 (m v : Int) (l : List Int) (c : Int) : setAt (hst m l c) (.int 0) (.fr (.int v)) = some (hst v l c) := rfl
theorem hst_set2 (m v : Int) (l : List Int) (c : Int) : setAt (hst m l c) (.int 2) (.fr (.int v)) = some (hst m l v) := rfl
theorem map_set_int (l : List Int) (j : Nat) (v : Int) : (l.map fun i => O.fr (.int i)).set j (.fr (.int v)) = (l.set j v).map fun i => O.fr (.int i) := by
  rw [List.map_set]
theorem next_ok {P : List Fn} {W k i : Nat} (h : P[i]? = some nextFn) (m : Int) (l : List Int) (c many : Int) (h0 : 0 < many) (h1 : many < 1000000000) (hl : l.length ≤ 1000) :
    ∃ v m' l' c', run P W (k + 1) i [hst m l c, .fr (.int many)] = .ok (.fr (.int v)) [hst m' l' c'] ∧ 0 ≤ v ∧ v < many ∧ l'.length = l.length := by
  have hlog : many.natAbs.log2 < 9000 := by
    have : many.natAbs < 2 ^ 30 := by omega
    have := (Nat.log2_lt (n := many.natAbs) (k := 30) (by omega)).mpr this
    omega
  have v0 : ∀ r : List (Option O), ev (run P W k) (.var 1) (some (hst m l c) :: some (.fr (.int many)) :: r) = .ok (.p (.int many), some (hst m l c) :: some (.fr (.int many)) :: r) := fun r => x_var rfl
  have v2 : ∀ (m c : Int) (l : List Int) (cell : Int), ev (run P W k) (.var 2) [some (hst m l c), some (.fr (.int many)), some (.fr (.int cell))] = .ok (.p (.int cell), [some (hst m l c), some (.fr (.int many)), some (.fr (.int cell))]) := fun m c l cell => x_var rfl
  have first : evS (run P W k) W (nextFn.body.getD 0 .never) [some (hst m l c), some (.fr (.int many)), none] = .ok (.next, [some (hst m l c), some (.fr (.int many)), some (.fr (.int (cellI l c)))]) := x_set (rdcell hl) rfl (by simp)
  have ec : ev (run P W k) (.cmp .GtE (.var 2) (.bin .Pow (.lit (.int 10)) (.lit (.int 18)))) [some (hst m l c), some (.fr (.int many)), some (.fr (.int (cellI l c)))] = .ok (.p (.bl (decide (1000000000000000000 ≤ cellI l c))), [some (hst m l c), some (.fr (.int many)), some (.fr (.int (cellI l c)))]) :=
    x_cmp (v2 m c l _) pow1018 rfl rfl rfl rfl
  have close : ∀ (v : Int) (m' c' : Int) (l' : List Int) (e : Env), evSs (run P W k) W nextFn.body [some (hst m l c), some (.fr (.int many)), none] = .ok (.ret (.fr (.int v)), e) → e[0]? = some (some (hst m' l' c')) → 0 ≤ v ∧ v < many ∧ l'.length = l.length →
      ∃ v m' l' c', run P W (k + 1) i [hst m l c, .fr (.int many)] = .ok (.fr (.int v)) [hst m' l' c'] ∧ 0 ≤ v ∧ v < many ∧ l'.length = l.length := fun v m' c' l' e h1 h2 h3 => by
    refine ⟨v, m', l', c', ?_, h3⟩
    simp only [run, h]
    unfold runB
    rw [if_pos (show ([hst m l c, O.fr (.int many)].length == nextFn.np) = true from rfl)]
    have e0 : ([hst m l c, O.fr (.int many)].map some ++ List.replicate (nextFn.ns - nextFn.np) none) = [some (hst m l c), some (.fr (.int many)), none] := rfl
    rw [e0, h1]
    simp only [outsOf, nextFn, List.map_cons, List.map_nil, h2, join_some, allSome, Option.map_some]
  by_cases hc : (1000000000000000000 : Int) ≤ cellI l c
  · have hne : 0 < l.length := by
      cases l with
      | nil =>
        have : cellI [] c = 0 := by
          unfold cellI
          have := posI_lt [] c
          have e : posI [] c = 0 := by simp at this; omega
          rw [e]; rfl
        rw [this] at hc
        omega
      | cons => simp
    have hp : posI l c = c % (l.length : Int) := by
      unfold posI
      rw [show max 1 (l.length : Int) = l.length by omega]
    have hb := posI_lt l c
    have ep : ev (run P W k) (.bin .Mod (.sub (.var 0) (.lit (.int 2))) (.bi .len [.sub (.var 0) (.lit (.int 1))])) [some (hst m l c), some (.fr (.int many)), some (.fr (.int (cellI l c)))] = .ok (.p (.int (posI l c)), [some (hst m l c), some (.fr (.int many)), some (.fr (.int (cellI l c)))]) := by
      rw [hp]
      exact x_bin rd2 rdlen rfl rfl rfl (mod_int (by omega))
    have hset : setAt (.ol (l.map fun i => O.fr (.int i))) (.int (posI l c)) (.fr (.int (cellI l c / many))) = some (.ol ((l.set (posI l c).toNat (cellI l c / many)).map fun i => .fr (.int i))) := by
      unfold Cr.setAt
      simp only
      rw [ixN_nn hb.1 (by simp; omega)]
      simp only [Option.map_some, map_set_int]
    exact close (cellI l c % many) m c (l.set (posI l c).toNat (cellI l c / many)) _ (x_ss first (x_ssr (x_ift ec (by simpa using hc) (x_ss (x_seti2 (x_bin (v2 m c l _) (v0 _) rfl rfl rfl (div_int h0 hlog)) rfl rfl x_lit rfl rfl ep rfl hset rfl (by simp)) (x_ssr (x_ret (x_bin (x_var rfl) (x_var rfl) rfl rfl rfl (mod_int h0)) rfl)))))) rfl ⟨Int.emod_nonneg _ (by omega), Int.emod_lt_of_pos _ h0, by simp⟩
  · refine close _ _ _ l _ (x_ss first (x_ss (x_iff ec (by simpa using hc) x_ss0) (x_ss (x_seti (x_bin (x_bin (x_bin (x_bin rd0 x_lit rfl rfl rfl (mul_int (bigR (by decide)))) (x_bin (v2 m c l _) x_lit rfl rfl rfl (mul_int (bigR (by decide)))) rfl rfl rfl rfl) x_lit rfl rfl rfl rfl) x_lit rfl rfl rfl (mod_int (by decide))) rfl rfl x_lit rfl (hst_set0 _ _ _ _) (by simp))
      (x_ss (x_seti (x_bin (rd2 (m := _) (l := l) (c := c)) x_lit rfl rfl rfl rfl) rfl rfl x_lit rfl (hst_set2 _ _ _ _) (by simp)) (x_ssr (x_ret (x_bin (x_bin (rd0 (l := l) (c := c + 1)) x_lit rfl rfl rfl (div_int (by decide) (by decide))) (x_var rfl) rfl rfl rfl (mod_int h0)) rfl)))))) rfl ⟨Int.emod_nonneg _ (by omega), Int.emod_lt_of_pos _ h0, rfl⟩
/-! ### loops -/
theorem forL_ok {f : D → Env → Res (Fl × Env)} {Inv : Nat → Env → Prop} : ∀ (ds : List D) (k : Nat) (e : Env), Inv k e → (∀ i d e, ds[i]? = some d → Inv (k + i) e → ∃ e', f d e = .ok (.next, e') ∧ Inv (k + i + 1) e') → ∃ e', forL f ds e = .ok (.next, e') ∧ Inv (k + ds.length) e'
  | [], k, e, h0, st => ⟨e, rfl, h0⟩
  | d :: ds, k, e, h0, st => by
    obtain ⟨e1, h1, h2⟩ := st 0 d e rfl h0
    obtain ⟨e2, h3, h4⟩ := forL_ok ds (k + 1) e1 h2 fun i d e hd hi => by
      have := st (i + 1) d e (by simpa using hd) (by rw [show k + (i + 1) = k + 1 + i by omega]; exact hi)
      rw [show k + (i + 1) + 1 = k + 1 + i + 1 by omega] at this
      exact this
    refine ⟨e2, ?_, ?_⟩
    · simp only [forL, h1, bok, h3]
    · rw [List.length_cons, show k + (ds.length + 1) = k + 1 + ds.length by omega]
      exact h4
section
variable {cal : Nat → List O → CRes} {W : Nat} {e e1 e2 : Env} {t : Tg} {s : Sr} {b : List CS} {ds : List D} {fl : Fl} {a : CE} {h : Hd} {o : O} {i : Nat} {as : List CE} {hs : List Hd} {os : List O} {l : List D} {d : D}
def bodyF (cal : Nat → List O → CRes) (W : Nat) (t : Tg) (b : List CS) (d : D) (e : Env) : Res (Fl × Env) := match t.bind d e with
  | some e => evSs cal W b e
  | none => .er
theorem x_for (h1 : evSr cal s e = .ok (ds, false, e1)) (h2 : forL (bodyF cal W t b) ds e1 = .ok (fl, e2)) : evS cal W (.for_ t s b) e = .ok (fl, e2) := by
  rw [evS, h1]
  exact h2
theorem x_body {eb : Env} (h1 : t.bind d e = some eb) (h2 : evSs cal W b eb = .ok (fl, e2)) : bodyF cal W t b d e = .ok (fl, e2) := by
  unfold bodyF
  rw [h1]
  exact h2
theorem x_seq {bb : Bool} (h1 : ev cal a e = .ok (.p d, e1)) (h2 : (O.fr d).walk = some (bb, ds)) : evSr cal (.seq a) e = .ok (ds, false, e1) := by
  rw [evSr, h1]
  cases d <;> first | (simp only [bok, get_p, h2, istr_p]; done) | cases h2
theorem x_as0 : evs cal [] e = .ok ([], e) := by rw [evs]
theorem x_as (h1 : ev cal a e = .ok (h, e1)) (h2 : evs cal as e1 = .ok (hs, e2)) : evs cal (a :: as) e = .ok (h :: hs, e2) := by
  rw [evs, h1]
  simp only [bok, h2]
theorem x_lst (h1 : evs cal as e = .ok (hs, e1)) (h2 : allSome (hs.map Hd.val) = some os) (h3 : os.length ≤ 16777216) : ev cal (.lst as) e = .ok (.t (.ol os), e1) := by
  rw [ev, h1]
  simp only [bok, h2, line_ok h3, if_true]
theorem x_tup (h1 : evs cal as e = .ok (hs, e1)) (h2 : allSome (hs.map Hd.val) = some os) (h3 : os.length ≤ 16777216) : ev cal (.tup as) e = .ok (mkH (mkT os), e1) := by
  rw [ev, h1]
  simp only [bok, h2, line_ok h3, if_true]
theorem x_bi {bi : Bi} (h1 : evs cal as e = .ok (hs, e1)) (hk : stayOk hs as = true) (h2 : allSome (hs.map fun h => h.get e1) = some os) (h3 : biO bi os = some o) : ev cal (.bi bi as) e = .ok (mkH o, e1) := by
  rw [ev, h1]
  simp only [bok, hk, if_true, h2, h3]
end
theorem mix_ok {P : List Fn} {W k i : Nat} (h : P[i]? = some mixFn) (ns : List Int) (seed : Int) : ∃ m, run P W (k + 1) i [.fr (.scr ns), .fr (.int seed)] = .ok (hst m ns 0) [] := by
  obtain ⟨e', h1, m, x, rfl⟩ := forL_ok (f := bodyF (run P W k) W (.v 3) [.set 2 (.bin .Mod (.bin .Add (.bin .Add (.bin .Mult (.var 2) (.lit (.int 48271))) (.bin .Mod (.var 3) (.lit (.int 2147483629)))) (.lit (.int 1))) (.lit (.int 2147483647)))])
    (Inv := fun _ e => ∃ (m : Int) (x : Option O), e = [some (.fr (.scr ns)), some (.fr (.int seed)), some (.fr (.int m)), x]) (ns.map D.int) 0 [some (.fr (.scr ns)), some (.fr (.int seed)), some (.fr (.int seed)), none] ⟨seed, none, rfl⟩ (by
      rintro j d e hd ⟨m, x, rfl⟩
      obtain ⟨n, _, rfl⟩ := List.mem_map.mp (List.mem_of_getElem? hd)
      exact ⟨_, x_body (eb := [some (.fr (.scr ns)), some (.fr (.int seed)), some (.fr (.int m)), some (.fr (.int n))]) rfl (x_ss (x_set (x_bin (x_bin (x_bin (x_bin (x_var rfl) x_lit rfl rfl rfl (mul_int (bigR (by decide)))) (x_bin (x_var rfl) x_lit rfl rfl rfl (mod_int (by decide))) rfl rfl rfl rfl) x_lit rfl rfl rfl rfl) x_lit rfl rfl rfl (mod_int (by decide))) rfl (by simp)) x_ss0), _, _, rfl⟩)
  refine ⟨m, ?_⟩
  simp only [run, h]
  unfold runB
  rw [if_pos (show ([O.fr (.scr ns), O.fr (.int seed)].length == mixFn.np) = true from rfl)]
  have e0 : ([O.fr (.scr ns), O.fr (.int seed)].map some ++ List.replicate (mixFn.ns - mixFn.np) none) = [some (.fr (.scr ns)), some (.fr (.int seed)), none, none] := rfl
  have main : evSs (run P W k) W mixFn.body [some (.fr (.scr ns)), some (.fr (.int seed)), none, none] = .ok (.ret (hst m ns 0), [some (.fr (.scr ns)), some (.fr (.int seed)), some (.fr (.int m)), x]) :=
    x_ss (x_set (x_var rfl) rfl (by simp)) (x_ss (x_for (x_seq (x_var rfl) rfl) h1) (x_ssr (x_ret (x_lst (x_as (x_var rfl) (x_as (x_bi (x_as (x_var rfl) x_as0) rfl rfl rfl) (x_as x_lit x_as0))) rfl (by simp)) (by simp [hst, Function.comp_def]))))
  rw [e0, main]
  rfl
/-! ### calls, while, chains, slices -/
section
variable {cal : Nat → List O → CRes} {W : Nat} {e e1 e2 e3 : Env} {a b c : CE} {as : List CE} {hs : List Hd} {os outs : List O} {o r : O} {f : Nat} {io : List Nat} {ha : Hd} {x y z : D} {o1 o2 : CmpOp} {k : Bool} {cs : List CS}
theorem x_call (h1 : evs cal as e = .ok (hs, e1)) (h2 : (stayOk hs as && ioOk hs && ioPos hs 0 == io) = true) (h3 : allSome (hs.map fun h => h.arg e1) = some os) (h4 : cal f os = .ok r outs) (h5 : putOuts (ioSlots hs) outs e1 = some e2) (h6 : (r.clean && cleanL outs) = true) : ev cal (.call f io as) e = .ok (mkH r, e2) := by
  rw [ev, h1]
  simp only [bok, callF, h2, if_true, h3, h4, h5, h6]
theorem x_cmp2 (h1 : ev cal a e = .ok (.p x, e1)) (h2 : ev cal b e1 = .ok (.p y, e2)) (h3 : cmpD o1 x y = some true) (h4 : ev cal c e2 = .ok (.p z, e3)) (h5 : cmpD o2 y z = some k) : ev cal (.cmp2 o1 o2 a b c) e = .ok (.p (.bl k), e3) := by
  rw [ev, h1]
  simp only [bok]
  rw [h2]
  simp only [bok, h3]
  rw [h4]
  simp only [bok, h5]
def condF (cal : Nat → List O → CRes) (c : CE) (e : Env) : Res (Bool × Env) := (ev cal c e).bind fun (h, e) => match boolH h with
  | some k => .ok (k, e)
  | none => .er
theorem x_cond (h1 : ev cal c e = .ok (.p (.bl k), e1)) : condF cal c e = .ok (k, e1) := by
  unfold condF
  rw [h1]
  simp only [bok, boolh]
theorem x_while {fl : Fl} (h : whL (condF cal c) (fun e => evSs cal W cs e) W e = .ok (fl, e1)) : evS cal W (.while_ c cs) e = .ok (fl, e1) := by
  rw [evS]
  exact h
theorem whL_ok {cf : Env → Res (Bool × Env)} {bf : Env → Res (Fl × Env)} {Inv : Nat → Env → Prop} {Post : Env → Prop} (st : ∀ n e, Inv n e → (∃ e1, cf e = .ok (false, e1) ∧ Post e1) ∨ ∃ e1 e2 n', cf e = .ok (true, e1) ∧ bf e1 = .ok (.next, e2) ∧ n' < n ∧ Inv n' e2) :
    ∀ (W n : Nat) (e : Env), n < W → Inv n e → ∃ e1, whL cf bf W e = .ok (.next, e1) ∧ Post e1
  | 0, n, e, h, _ => absurd h (Nat.not_lt_zero _)
  | W + 1, n, e, h, hi => by
    rcases st n e hi with ⟨e1, h1, h2⟩ | ⟨e1, e2, n', h1, h2, h3, h4⟩
    · exact ⟨e1, by simp only [whL, h1, bok, Bool.false_eq_true, if_false], h2⟩
    · obtain ⟨e3, h5, h6⟩ := whL_ok st W n' e2 (by omega) h4
      exact ⟨e3, by simp only [whL, h1, bok, if_true, h2, h5], h6⟩
theorem x_par {i j : Nat} {hb : Hd} {xo yo : O} (h1 : ev cal a e = .ok (ha, e1)) (h2 : ev cal b e1 = .ok (hb, e2)) (v1 : ha.val = some xo) (v2 : hb.val = some yo) (hi : i < e2.length) (hj : j < e2.length) : evS cal W (.par i j a b) e = .ok (.next, (e2.set i (some xo)).set j (some yo)) := by
  rw [evS, h1]
  simp only [bok]
  rw [h2]
  simp only [bok, v1, v2, setS, hi, if_true, Option.bind, List.length_set, hj]
theorem x_slice1 {i : Int} {xo : O} (h1 : ev cal a e = .ok (ha, e1)) (h2 : ev cal b e1 = .ok (.p (.int i), e2)) (hq : (!ha.isQ || b.quiet) = true) (g : ha.get e2 = some xo) (h3 : cutO xo (some i) none = some o) : ev cal (.slice a (some b) none) e = .ok (mkH o, e2) := by
  rw [ev, h1]
  simp only [bok, evO]
  rw [h2]
  have hq' : (!ha.isQ || (quietO (some b) && quietO none)) = true := by simpa [quietO] using hq
  simp only [bok, hq', if_true, g, h3]
theorem x_augi {i : Nat} {kx old dd : Int} {xs ys : List O} {o0 : O} {ix xx : CE} {a1 : O} (hs : (e[i]?).join = some o0) (h1 : ev cal ix e = .ok (.p (.int kx), e1)) (hs1 : (e1[i]?).join = some (.ol xs)) (hat : atI xs kx = some (.fr (.int old))) (h2 : ev cal xx e1 = .ok (.p (.int dd), e2)) (hs2 : (e2[i]?).join = some (.ol ys))
    (h3 : setAt (.ol ys) (.int kx) (.fr (.int (old + dd))) = some a1) (hi : i < e2.length) : evS cal W (.augi i .Add ix xx) e = .ok (.next, e2.set i (some a1)) := by
  rw [evS, hs]
  simp only
  rw [h1]
  simp only [bok, hs1, hat]
  rw [h2]
  simp only [bok, hs2, h3, Option.bind, setS, hi, if_true]
theorem x_rng {ds : List D} (h1 : evs cal as e = .ok (hs, e1)) (h2 : allSome (hs.map Hd.val) = some os) (h3 : (leafs os).bind rngOf = some ds) : evSr cal (.rng as) e = .ok (ds, false, e1) := by
  rw [evSr, h1]
  simp only [bok, h2, h3]
theorem x_enum {ds : List D} (h1 : ev cal a e = .ok (.p x, e1)) (h2 : (O.fr x).items = some (false, ds)) : evSr cal (.enum a) e = .ok (numd 0 ds, false, e1) := by
  rw [evSr, h1]
  simp only [bok, get_p, h2, istr_p]
end
/-- a def that changes no argument -/
theorem run_of {P : List Fn} {W k i : Nat} {fn : Fn} {os : List O} {r : O} {e : Env} (h : P[i]? = some fn) (hn : os.length = fn.np) (hio : fn.io = []) (hb : evSs (run P W k) W fn.body (os.map some ++ List.replicate (fn.ns - fn.np) none) = .ok (.ret r, e)) : run P W (k + 1) i os = .ok r [] := by
  simp only [run, h]
  unfold runB
  rw [if_pos (by simp [hn]), hb, hio]
  rfl
theorem run_of0 {P : List Fn} {W k i : Nat} {fn : Fn} {os : List O} {e : Env} (h : P[i]? = some fn) (hn : os.length = fn.np) (hio : fn.io = []) (hb : evSs (run P W k) W fn.body (os.map some ++ List.replicate (fn.ns - fn.np) none) = .ok (.next, e)) : run P W (k + 1) i os = .ok (.fr .non) [] := by
  simp only [run, h]
  unfold runB
  rw [if_pos (by simp [hn]), hb, hio]
  rfl
/-! ### list comprehensions that change nothing else -/
theorem lcL_map {f : D → Env → Res (Option O × Env)} {e : Env} {g : D → Option O} : ∀ (ds : List D), (∀ d ∈ ds, f d e = .ok (g d, e)) → lcL f ds e = .ok (ds.filterMap g, e)
  | [], _ => rfl
  | d :: ds, h => by
    have h1 := h d (by simp)
    have h2 := lcL_map ds fun d hd => h d (by simp [hd])
    simp only [lcL, h1, bok, h2]
    cases e1 : g d with
    | none => simp [e1]
    | some o => simp [e1]
theorem back_same {e : Env} {own : List Nat} (h : wipeOk own e = true) : backE e (wipeE e own) own = e := by
  refine List.ext_getElem? fun j => backE_wipe (fun j hj => ?_) j
  have := List.all_eq_true.mp h j hj
  simp only [Bool.and_eq_true, decide_eq_true_eq] at this
  exact this.1
section
variable {cal : Nat → List O → CRes} {e : Env} {own : List Nat} {tg : Tg} {s : Sr} {cs : List CE} {x : CE} {ds : List D} {g : D → Option O}
theorem x_lc (h1 : evSr cal s e = .ok (ds, false, e)) (hw : wipeOk own e = true) (hl : ds.length ≤ 16777216) (h : ∀ d ∈ ds, lcF (fun e => evC cal cs e) (fun e => ev cal x e) tg own d (wipeE e own) = .ok (g d, wipeE e own)) : ev cal (.lc own tg s cs x) e = .ok (.t (.ol (ds.filterMap g)), e) := by
  rw [ev, h1]
  simp only [bok, hw, Bool.not_false, Bool.true_or, Bool.and_self, if_true]
  rw [lcL_map ds h]
  simp only [Res.noEx, bok, line_ok hl, if_true, back_same hw]
theorem x_turn {d : D} {e1 : Env} {h : Hd} {o : O} (hb : tg.bind d (wipeE e own) = some e1) (hx : ev cal x e1 = .ok (h, e1)) (hv : h.val = some o) (hw : wipeOk own e1 = true) (hs : wipeE e1 own = wipeE e own) : lcF (fun e => evC cal [] e) (fun e => ev cal x e) tg own d (wipeE e own) = .ok (some o, wipeE e own) := by
  unfold lcF
  rw [hb]
  simp only [evC, bok, if_true, hx, hv, hw, hs]
theorem x_turnC {d : D} {e1 : Env} {h : Hd} {o : O} {c : CE} {k : Bool} (hb : tg.bind d (wipeE e own) = some e1) (hc : ev cal c e1 = .ok (.p (.bl k), e1)) (hx : k = true → ev cal x e1 = .ok (h, e1)) (hv : h.val = some o) (hw : wipeOk own e1 = true) (hs : wipeE e1 own = wipeE e own) :
    lcF (fun e => evC cal [c] e) (fun e => ev cal x e) tg own d (wipeE e own) = .ok (if k = true then some o else none, wipeE e own) := by
  unfold lcF
  rw [hb]
  simp only [evC, hc, bok, boolh]
  cases k with
  | true => simp only [evC, bok, if_true, hx rfl, hv, hw, hs]
  | false => simp only [bok, Bool.false_eq_true, if_false, hw, if_true, hs]
end
end Cr
end

section
/-! Running a core program by hand: what holds behind it. -/
namespace Cr
open PySem L2
inductive WP {α : Type} (r : Res (α × Env)) (Q : α → Env → Prop) : Prop
  | mk (a : α) (e : Env) (h1 : r = .ok (a, e)) (h2 : Q a e) : WP r Q
section
variable {α β : Type} {r : Res (α × Env)} {Q Q' : α → Env → Prop} {e : Env} {a : α}
theorem WP.mono (h : WP r Q) (k : ∀ a e, Q a e → Q' a e) : WP r Q' := by
  obtain ⟨a, e, h1, h2⟩ := h
  exact ⟨a, e, h1, k a e h2⟩
theorem WP_ok : WP (.ok (a, e)) Q ↔ Q a e := ⟨fun ⟨_, _, h1, h2⟩ => by cases h1; exact h2, fun h => ⟨_, _, rfl, h⟩⟩
theorem WP_of_eq {r' : Res (α × Env)} (h : r = r') (k : WP r' Q) : WP r Q := by rw [h]; exact k
theorem WP_bind {f : α × Env → Res (β × Env)} {R : β → Env → Prop} : WP (r.bind f) R ↔ WP r fun a e => WP (f (a, e)) R := by
  constructor
  · rintro ⟨b, e, h1, h2⟩
    cases r with
    | ok x => exact ⟨x.1, x.2, rfl, b, e, h1, h2⟩
    | ex _ _ _ => cases h1
    | er => cases h1
  · rintro ⟨a, e, rfl, h⟩
    exact h
end
/-- the statements behind one -/
inductive After (cal : Nat → List O → CRes) (W : Nat) (ss : List CS) (Q : Fl → Env → Prop) (fl : Fl) (e : Env) : Prop
  | next (h : fl = .next) (k : WP (evSs cal W ss e) Q) : After cal W ss Q fl e
  | ret (o : O) (h : fl = .ret o) (k : Q fl e) : After cal W ss Q fl e
theorem rng_small {n : Nat} (h : n ≤ 1000000) : rngOk 0 (n : Int) 1 = true := by
  unfold rngOk
  simp only [Bool.and_eq_true, Bool.or_eq_true, decide_eq_true_eq]
  have e : (2 : Int) ^ 60 = 1152921504606846976 := by decide +kernel
  rw [e]
  refine ⟨⟨⟨⟨.inr ⟨by decide, by decide⟩, by decide⟩, by decide⟩, by omega⟩, by omega⟩
theorem rng_l {n : Nat} : rngL 0 (n : Int) 1 = (List.range n).map fun (k : Nat) => D.int k := by
  have hn : rngN 0 (n : Int) 1 = n := by
    unfold rngN
    rw [if_neg (by decide)]
    simp
  unfold rngL
  rw [hn]
  simp
theorem rngOf_small {n : Nat} (h : n ≤ 1000000) : rngOf [.int (n : Int)] = some (rngL 0 n 1) := by
  show (if rngOk 0 (n : Int) 1 = true then some (rngL 0 (n : Int) 1) else none) = _
  rw [rng_small h]
  rfl
theorem rng_n {n : Nat} (h : n ≤ 1000000) : rngOf [.int (n : Int)] = some ((List.range n).map fun (k : Nat) => D.int k) := (rngOf_small h).trans (congrArg some rng_l)
section
variable {cal : Nat → List O → CRes} {W : Nat} {s : CS} {ss : List CS} {Q : Fl → Env → Prop} {e e1 : Env} {a : CE} {as : List CE} {t : Tg} {b : List CS}
theorem w_ss (h : WP (evS cal W s e) (After cal W ss Q)) : WP (evSs cal W (s :: ss) e) Q := by
  obtain ⟨fl, e1, h1, h2⟩ := h
  rw [evSs, h1]
  rcases h2 with ⟨rfl, h2⟩ | ⟨o, rfl, h2⟩
  · exact h2
  · exact ⟨_, _, rfl, h2⟩
theorem w_ss0 (h : Q .next e) : WP (evSs cal W [] e) Q := ⟨_, _, by rw [evSs], h⟩
theorem after_next (h : WP (evSs cal W ss e) Q) : After cal W ss Q .next e := .next rfl h
theorem after_ret {o : O} (h : Q (.ret o) e) : After cal W ss Q (.ret o) e := .ret o rfl h
/-- a loop over n numbers -/
theorem w_forN {Inv : Nat → Env → Prop} {R : Fl → Env → Prop} (h : WP (ev cal a e) fun h e1 => ∃ n : Nat, h = .p (.int n) ∧ n ≤ 1000 ∧ Inv 0 e1 ∧ (∀ i e, i < n → Inv i e → ∃ eb, t.bind (.int i) e = some eb ∧ WP (evSs cal W b eb) fun fl e' => fl = .next ∧ Inv (i + 1) e') ∧ ∀ e2, Inv n e2 → R .next e2) :
    WP (evS cal W (.for_ t (.rng [a]) b) e) R := by
  obtain ⟨h, e1, h1, n, rfl, hn, i0, st, fin⟩ := h
  have hr : evSr cal (.rng [a]) e = .ok ((List.range n).map fun (k : Nat) => D.int k, false, e1) := by
    refine x_rng (x_as h1 x_as0) (os := [.fr (.int n)]) rfl ?_
    have hb : leafs [O.fr (.int n)] = some [.int n] := rfl
    rw [hb, Option.bind_some]
    exact rng_n (by omega)
  obtain ⟨e2, h2, h3⟩ := forL_ok (f := bodyF cal W t b) (Inv := Inv) ((List.range n).map fun (k : Nat) => D.int k) 0 e1 i0 (fun i d e hd hi => by
    rw [Nat.zero_add] at hi ⊢
    have hlt : i < n := by
      have := (List.getElem?_eq_some_iff.mp hd).1
      simpa using this
    rw [List.getElem?_map, List.getElem?_range hlt] at hd
    simp only [Option.map_some, Option.some.injEq] at hd
    subst hd
    obtain ⟨eb, hb, fl, e', h4, rfl, h5⟩ := st i e hlt hi
    exact ⟨e', x_body hb h4, h5⟩)
  refine ⟨_, _, x_for hr h2, fin e2 ?_⟩
  simpa using h3
/-- a loop over what stands still -/
theorem w_forD {Inv : Nat → Env → Prop} {R : Fl → Env → Prop} {ds : List D} {bb : Bool} {d0 : D} (h1 : ev cal a e = .ok (.p d0, e1)) (hw : (O.fr d0).walk = some (bb, ds)) (i0 : Inv 0 e1) (st : ∀ i d e, ds[i]? = some d → Inv i e → ∃ eb, t.bind d e = some eb ∧ WP (evSs cal W b eb) fun fl e' => fl = .next ∧ Inv (i + 1) e')
    (fin : ∀ e2, Inv ds.length e2 → R .next e2) : WP (evS cal W (.for_ t (.seq a) b) e) R := by
  obtain ⟨e2, h2, h3⟩ := forL_ok (f := bodyF cal W t b) (Inv := Inv) ds 0 e1 i0 (fun i d e hd hi => by
    rw [Nat.zero_add] at hi ⊢
    obtain ⟨eb, hb, fl, e', h4, rfl, h5⟩ := st i d e hd hi
    exact ⟨e', x_body hb h4, h5⟩)
  refine ⟨_, _, x_for (x_seq h1 hw) h2, fin e2 ?_⟩
  simpa using h3
/-- a call -/
theorem w_call {f : Nat} {io : List Nat} {hs : List Hd} {os outs : List O} {r : O} {e2 : Env} {R : Hd → Env → Prop} (h2 : (stayOk hs as && ioOk hs && ioPos hs 0 == io) = true) (h3 : allSome (hs.map fun h => h.arg e) = some os) (h4 : cal f os = .ok r outs) (h5 : putOuts (ioSlots hs) outs e = some e2) (h6 : (r.clean && cleanL outs) = true) (h : R (mkH r) e2) :
    WP (callF cal f io as hs e) R := by
  refine ⟨_, _, ?_, h⟩
  unfold callF
  simp only [h2, if_true, h3, h4, h5, h6]
end
theorem w_draw {P : List Fn} {W k i : Nat} {m c many : Int} {l : List Int} {e : Env} {a : CE} {R : Hd → Env → Prop} (h0 : P[0]? = some nextFn) (he : (e[i]?).join = some (hst m l c)) (m0 : 0 < many) (m1 : many < 1000000000) (hl : l.length ≤ 1000)
    (h : ∀ v m' c' l', 0 ≤ v → v < many → l'.length ≤ 1000 → R (.p (.int v)) (e.set i (some (hst m' l' c')))) : WP (callF (run P W (k + 1)) 0 [0] [.io i, a] [.io i, .p (.int many)] e) R := by
  obtain ⟨v, m', l', c', hr, v0, v1, hl'⟩ := next_ok (W := W) (k := k) h0 m l c many m0 m1 hl
  refine w_call (os := [hst m l c, .fr (.int many)]) (e2 := e.set i (some (hst m' l' c'))) rfl ?_ hr ?_ (by simp [O.clean, D.imm, cleanL, hst, cleanL_ints]) (h v m' c' l' v0 v1 (by omega))
  · simp [allSome, Hd.arg, he, hst, Hd.view, Hd.get, O.frz]
  · have hi : i < e.length := by
      have := getE he
      exact (List.getElem?_eq_some_iff.mp this).1
    simp [ioSlots, putOuts, setS, hi]
theorem leafs_fr : ∀ ds : List D, leafs (ds.map O.fr) = some ds
  | [] => rfl
  | d :: ds => by simp [leafs, leafs_fr ds]
section
variable {cal : Nat → List O → CRes} {e : Env} {own : List Nat} {tg : Tg} {s : Sr} {cs : List CE} {x : CE} {ds : List D} {g : D → Option O} {i : Nat}
theorem x_seqL (h : (e[i]?).join = some (.ol (ds.map O.fr))) : evSr cal (.seq (.var i)) e = .ok (ds, true, e) := by
  have h1 : ev cal (.var i) e = .ok (.n i, e) := x_varl h
  rw [evSr, h1]
  simp only [bok, get_n, h, O.walk, O.items, leafs_fr, Option.map_some, istr_n]
theorem x_lcT (h1 : evSr cal s e = .ok (ds, true, e)) (hq : (quietL cs && x.quiet) = true) (hw : wipeOk own e = true) (hl : ds.length ≤ 16777216) (h : ∀ d ∈ ds, lcF (fun e => evC cal cs e) (fun e => ev cal x e) tg own d (wipeE e own) = .ok (g d, wipeE e own)) : ev cal (.lc own tg s cs x) e = .ok (.t (.ol (ds.filterMap g)), e) := by
  rw [ev, h1]
  simp only [bok, hw, hq, Bool.not_true, Bool.false_or, Bool.and_self, if_true]
  rw [lcL_map ds h]
  simp only [Res.noEx, bok, line_ok hl, if_true, back_same hw]
end
end Cr
end

section
/-! The core programs of the package, each function once. -/
namespace Sh
open PySem L2 Cr
def f__law_next : Fn := ⟨2, 3, [0], [.set 2 (.sub (.bin .Add (.sub (.var 0) (.lit (.int 1))) (.lst [.lit (.int 0)])) (.bin .Mod (.sub (.var 0) (.lit (.int 2))) (.bi .max2 [.lit (.int 1), .bi .len [.sub (.var 0) (.lit (.int 1))]]))),
  .if_ (.cmp .GtE (.var 2) (.bin .Pow (.lit (.int 10)) (.lit (.int 18)))) [.seti 0 (some (.lit (.int 1))) (.bin .Mod (.sub (.var 0) (.lit (.int 2))) (.bi .len [.sub (.var 0) (.lit (.int 1))])) (.bin .FloorDiv (.var 2) (.var 1)),
    .ret (.bin .Mod (.var 2) (.var 1))] [],
  .seti 0 none (.lit (.int 0)) (.bin .Mod (.bin .Add (.bin .Add (.bin .Mult (.sub (.var 0) (.lit (.int 0))) (.lit (.int 48271))) (.bin .Mult (.var 2) (.lit (.int 69621)))) (.lit (.int 11))) (.lit (.int 2147483647))),
  .seti 0 none (.lit (.int 2)) (.bin .Add (.sub (.var 0) (.lit (.int 2))) (.lit (.int 1))),
  .ret (.bin .Mod (.bin .FloorDiv (.sub (.var 0) (.lit (.int 0))) (.lit (.int 7))) (.var 1))]⟩
def f__law_mix : Fn := ⟨2, 4, [], [.set 2 (.var 1),
  .for_ (.v 3) (.seq (.var 0)) [.set 2 (.bin .Mod (.bin .Add (.bin .Add (.bin .Mult (.var 2) (.lit (.int 48271))) (.bin .Mod (.var 3) (.lit (.int 2147483629)))) (.lit (.int 1))) (.lit (.int 2147483647)))],
  .ret (.lst [.var 2, .bi .list [.var 0], .lit (.int 0)])]⟩
def f__law_tree : Fn := ⟨3, 14, [0], [.par 3 4 (.lst []) (.lst []),
  .for_ (.v 5) (.rng [.bin .Add (.lit (.int 1)) (.call 0 [0] [.io 0, .var 1])]) [.mut 3 none .app [.tup [.bin .Add (.lit (.str "e")) (.sub (.lit (.str "abcdefghij")) (.var 5)), .sub (.lst [.lit (.int 0), .lit (.int 1000), .call 0 [0] [.io 0, .lit (.int 1001)]]) (.bi .min2 [.lit (.int 2), .call 0 [0] [.io 0, .lit (.int 9)]])]]],
  .set 7 (.lc [6] (.v 6) (.seq (.var 3)) [] (.sub (.var 6) (.lit (.int 0)))),
  .for_ (.v 5) (.rng [.call 0 [0] [.io 0, .bin .Add (.var 2) (.lit (.int 1))]]) [.par 8 9 (.bi .list [.var 7]) (.lst []),
    .for_ (.v 10) (.rng [.bi .min2 [.bi .len [.var 8], .bin .Add (.lit (.int 1)) (.call 0 [0] [.io 0, .lit (.int 4)])]]) [.set 11 (.sub (.lst [.bin .Sub (.bi .len [.var 8]) (.lit (.int 1)), .call 0 [0] [.io 0, .bi .len [.var 8]]]) (.call 0 [0] [.io 0, .lit (.int 2)])),
      .mut 9 none .app [.popi 8 (.var 11)]],
    .set 12 (.sub (.lst [.lit (.str "and"), .lit (.str "or"), .lit (.str "some")]) (.call 0 [0] [.io 0, .lit (.int 3)])),
    .set 13 (.ife (.cmp .Eq (.var 12) (.lit (.str "some"))) (.bin .Add (.lit (.int 1)) (.call 0 [0] [.io 0, .bi .len [.var 9]])) (.lit (.int 0))),
    .mut 4 none .app [.tup [.bin .Add (.lit (.str "r")) (.sub (.lit (.str "abcdefghijkl")) (.var 5)), .var 12, .var 13, .bi .tuple [.var 9]]],
    .mut 7 none .app [.sub (.sub (.var 4) (.lit (.int (-1)))) (.lit (.int 0))]],
  .ret (.tup [.bi .tuple [.var 3], .bi .tuple [.var 4]])]⟩
def f__law_names : Fn := ⟨1, 2, [], [.ret (.lc [1] (.v 1) (.seq (.bin .Add (.sub (.var 0) (.lit (.int 0))) (.sub (.var 0) (.lit (.int 1))))) [] (.sub (.var 1) (.lit (.int 0))))]⟩
def f__law_case : Fn := ⟨3, 16, [0], [.par3 3 4 5 (.lst []) (.lst []) (.call 3 [] [.var 1]),
  .for_ (.v 6) (.rng [.call 0 [0] [.io 0, .bin .Add (.var 2) (.lit (.int 1))]]) [.set 7 (.bin .Add (.bin .Add (.lit (.str "c")) (.sub (.lit (.str "abcdefghijklmnopqrstuvwxyz")) (.bin .Mod (.var 6) (.lit (.int 26))))) (.sub (.lit (.str "xy")) (.bin .FloorDiv (.var 6) (.lit (.int 26))))),
    .par 8 9 (.call 0 [0] [.io 0, .lit (.int 8)]) (.bi .list [.var 4]),
    .set 10 (.sub (.lst [.call 0 [0] [.io 0, .lit (.int 20)], .bin .Sub (.lit (.int 9999)) (.call 0 [0] [.io 0, .lit (.int 20)])]) (.bin .FloorDiv (.call 0 [0] [.io 0, .lit (.int 8)]) (.lit (.int 7)))),
    .set 11 (.tup [.lit (.str "ground"), .var 7, .var 10, .call 0 [0] [.io 0, .sub (.lst [.lit (.int 20), .lit (.int 10000)]) (.bin .FloorDiv (.call 0 [0] [.io 0, .lit (.int 6)]) (.lit (.int 5)))]]),
    .if_ (.cmp .Eq (.var 8) (.lit (.int 2))) [.set 11 (.tup [.lit (.str "guess"), .var 7, .cmp .Gt (.call 0 [0] [.io 0, .lit (.int 4)]) (.lit (.int 0))])] [.if_ (.cmp .Eq (.var 8) (.lit (.int 3))) [.set 12 (.sub (.lst [.lit (.int 1), .lit (.int 1000000), .bin .Add (.lit (.int 1)) (.call 0 [0] [.io 0, .lit (.int 1000)])]) (.bi .min2 [.lit (.int 2), .call 0 [0] [.io 0, .lit (.int 8)]])),
        .set 11 (.tup [.lit (.str "bound"), .var 7, .sub (.var 5) (.call 0 [0] [.io 0, .bi .len [.var 5]]), .call 0 [0] [.io 0, .bin .Add (.var 12) (.lit (.int 1))], .var 12])] [.if_ (.cmp .Eq (.var 8) (.lit (.int 4))) [.set 11 (.tup [.lit (.str "spare"), .var 7, .sub (.var 5) (.call 0 [0] [.io 0, .bi .len [.var 5]]), .call 0 [0] [.io 0, .sub (.lst [.lit (.int 3), .lit (.int 7)]) (.call 0 [0] [.io 0, .lit (.int 2)])]])] [.if_ (.and [.cmp .Gt (.var 8) (.lit (.int 4)), .cmp .NotEq (.var 4) (.lst [])]) [.set 13 (.lst []),
            .for_ (.v 14) (.rng [.bi .min2 [.bi .len [.var 9], .bin .Add (.lit (.int 1)) (.call 0 [0] [.io 0, .lit (.int 6)])]]) [.mut 13 none .app [.popi 9 (.sub (.lst [.bin .Sub (.bi .len [.var 9]) (.lit (.int 1)), .call 0 [0] [.io 0, .bi .len [.var 9]]]) (.call 0 [0] [.io 0, .lit (.int 2)]))]],
            .set 15 (.sub (.lst [.lit (.str "all"), .lit (.str "any"), .lit (.str "some")]) (.call 0 [0] [.io 0, .lit (.int 3)])),
            .set 11 (.tup [.lit (.str "claim"), .var 7, .var 15, .ife (.cmp .Eq (.var 15) (.lit (.str "some"))) (.bin .Add (.lit (.int 1)) (.call 0 [0] [.io 0, .bi .len [.var 13]])) (.lit (.int 0)), .bi .tuple [.var 13]])] []]]],
    .mut 3 none .app [.var 11],
    .mut 4 none .app [.var 7]],
  .ret (.mv 3)]⟩
def f_is_name : Fn := ⟨1, 2, [], [.ret (.and [.cmp2 .LtE .LtE (.lit (.int 1)) (.bi .len [.var 0]) (.glob "MOST_SIGNS" (.int 8)), .bi .all [.lc [1] (.v 1) (.seq (.var 0)) [] (.cmp .In (.var 1) (.glob "LETTERS" (.str "abcdefghijklmnopqrstuvwxyz")))]])]⟩
def f_Tree___init__ : Fn := ⟨2, 11, [0], [.unp (.tup [.v 2, .v 3]) (.var 1),
  .setf 0 "chances" (.dict0),
  .setf 0 "needs" (.dict0),
  .for_ (.tup [.v 4, .tup [.v 5, .v 6]]) (.enum (.var 2)) [.if_ (.or [.cmp .Eq (.var 4) (.glob "MOST_EVENTS" (.int 10)), .not (.call 5 [] [.var 5]), .cmp .In (.var 5) (.fld (.var 0) "chances"), .not (.cmp2 .LtE .LtE (.lit (.int 0)) (.var 6) (.glob "WHOLE" (.int 1000)))]) [.never] [],
    .dput 0 (some "chances") (.var 5) (.var 6)],
  .if_ (.cmp .Eq (.fld (.var 0) "chances") (.dict0)) [.never] [],
  .for_ (.tup [.v 4, .v 7]) (.enum (.var 3)) [.if_ (.or [.cmp .Eq (.var 4) (.glob "MOST_ROWS" (.int 12)), .not (.mcall "is_row" 0 8 [] (.var 0) [.var 7])]) [.never] [],
    .unp (.tup [.v 5, .v 8, .v 9, .v 10]) (.var 7),
    .dput 0 (some "needs") (.var 5) (.tup [.ife (.cmp .Eq (.var 8) (.glob "AND" (.str "and"))) (.bi .len [.var 10]) (.ife (.cmp .Eq (.var 8) (.glob "OR" (.str "or"))) (.lit (.int 1)) (.var 9)), .bi .tuple [.var 10]])]]⟩
def f_Tree_is_there : Fn := ⟨2, 2, [], [.ret (.or [.cmp .In (.var 1) (.fld (.var 0) "chances"), .cmp .In (.var 1) (.fld (.var 0) "needs")])]⟩
def f_Tree_is_row : Fn := ⟨2, 7, [], [.unp (.tup [.v 2, .v 3, .v 4, .v 5]) (.var 1),
  .if_ (.or [.not (.call 5 [] [.var 2]), .mcall "is_there" 0 7 [] (.var 0) [.var 2], .cmp .NotIn (.var 3) (.tup [.glob "AND" (.str "and"), .glob "OR" (.str "or"), .glob "SOME" (.str "some")])]) [.ret (.lit (.bl false))] [],
  .if_ (.or [.not (.cmp2 .LtE .LtE (.lit (.int 1)) (.bi .len [.var 5]) (.glob "MOST_INPUTS" (.int 6))), .cmp .Lt (.lens (.var 5)) (.bi .len [.var 5])]) [.ret (.lit (.bl false))] [],
  .if_ (.not (.bi .all [.lc [6] (.v 6) (.seq (.var 5)) [] (.mcall "is_there" 0 7 [] (.var 0) [.var 6])])) [.ret (.lit (.bl false))] [],
  .ret (.ife (.cmp .Eq (.var 3) (.glob "SOME" (.str "some"))) (.cmp2 .LtE .LtE (.lit (.int 1)) (.var 4) (.bi .len [.var 5])) (.cmp .Eq (.var 4) (.lit (.int 0))))]⟩
def f_Case___init__ : Fn := ⟨3, 5, [0], [.setf 0 "tree" (.var 1),
  .setf 0 "book" (.mk 0 6 [.var 1]),
  .setf 0 "rows" (.dict0),
  .for_ (.tup [.v 3, .v 4]) (.enum (.var 2)) [.if_ (.or [.cmp .Eq (.var 3) (.glob "MOST_CASE" (.int 30)), .not (.mcall "is_row" 1 11 [] (.var 0) [.var 4])]) [.never] [],
    .dput 0 (some "rows") (.sub (.var 4) (.lit (.int 1))) (.var 4)]]⟩
def f_Case_is_row : Fn := ⟨2, 4, [], [.unp (.tup [.v 2, .v 3]) (.slice (.var 1) none (some (.lit (.int 2)))),
  .if_ (.or [.not (.call 5 [] [.var 3]), .cmp .In (.var 3) (.fld (.var 0) "rows")]) [.ret (.lit (.bl false))] [],
  .if_ (.cmp .Eq (.var 2) (.glob "GROUND" (.str "ground"))) [.ret (.and [.cmp2 .LtE .LtE (.lit (.int 0)) (.sub (.var 1) (.lit (.int 2))) (.glob "LAST_DAY" (.int 9999)), .cmp2 .LtE .LtE (.lit (.int 0)) (.sub (.var 1) (.lit (.int 3))) (.glob "LAST_DAY" (.int 9999))])] [],
  .if_ (.cmp .Eq (.var 2) (.glob "GUESS" (.str "guess"))) [.ret (.isi "bool" (.sub (.var 1) (.lit (.int 2))))] [],
  .if_ (.cmp .Eq (.var 2) (.glob "CLAIM" (.str "claim"))) [.ret (.mcall "is_claim" 1 12 [] (.var 0) [.var 1])] [],
  .if_ (.not (.mcall "is_there" 0 7 [] (.fld (.var 0) "book") [.sub (.var 1) (.lit (.int 2))])) [.ret (.lit (.bl false))] [],
  .if_ (.cmp .Eq (.var 2) (.glob "SPARE" (.str "spare"))) [.ret (.cmp2 .LtE .LtE (.lit (.int 0)) (.sub (.var 1) (.lit (.int 3))) (.glob "MOST_INPUTS" (.int 6)))] [],
  .ret (.and [.cmp .Eq (.var 2) (.glob "BOUND" (.str "bound")), .cmp2 .LtE .LtE (.lit (.int 0)) (.sub (.var 1) (.lit (.int 3))) (.sub (.var 1) (.lit (.int 4))), .cmp2 .LtE .LtE (.lit (.int 1)) (.sub (.var 1) (.lit (.int 4))) (.glob "MOST_WHOLE" (.int 1000000))])]⟩
def f_Case_is_claim : Fn := ⟨2, 6, [], [.unp (.tup [.v 2, .v 3, .v 4]) (.slice (.var 1) (some (.lit (.int 2))) none),
  .if_ (.or [.cmp .NotIn (.var 2) (.tup [.glob "ALL" (.str "all"), .glob "ANY" (.str "any"), .glob "SOME" (.str "some")]), .not (.cmp2 .LtE .LtE (.lit (.int 1)) (.bi .len [.var 4]) (.glob "MOST_INPUTS" (.int 6)))]) [.ret (.lit (.bl false))] [],
  .if_ (.or [.cmp .Lt (.lens (.var 4)) (.bi .len [.var 4]), .not (.bi .all [.lc [5] (.v 5) (.seq (.var 4)) [] (.cmp .In (.var 5) (.fld (.var 0) "rows"))])]) [.ret (.lit (.bl false))] [],
  .ret (.ife (.cmp .Eq (.var 2) (.glob "SOME" (.str "some"))) (.cmp2 .LtE .LtE (.lit (.int 1)) (.var 3) (.bi .len [.var 4])) (.cmp .Eq (.var 3) (.lit (.int 0))))]⟩
def f_Case_need_name : Fn := ⟨2, 2, [], [.if_ (.cmp .NotIn (.var 1) (.fld (.var 0) "rows")) [.never] []]⟩
def f_resting : Fn := ⟨3, 8, [], [.set 3 (.mk 1 10 [.var 0, .var 1]),
  .for_ (.v 4) (.seq (.var 2)) [.expr (.mcall "need_name" 1 13 [] (.var 3) [.var 4])],
  .set 5 (.lst []),
  .forI true 3 (some "rows") (.tup [.v 4, .v 6]) [.if_ (.or [.cmp .In (.var 4) (.var 2), .and [.cmp .Eq (.sub (.var 6) (.lit (.int 0))) (.glob "CLAIM" (.str "claim")), .bi .any [.lc [7] (.v 7) (.seq (.sub (.var 6) (.lit (.int 4)))) [] (.cmp .In (.var 7) (.var 5))]]]) [.mut 5 none .app [.var 4]] []],
  .ret (.mv 5)]⟩
def f_need_count : Fn := ⟨3, 3, [], [.if_ (.not (.cmp2 .LtE .LtE (.var 1) (.var 0) (.var 2))) [.never] []]⟩
def f_House___init__ : Fn := ⟨2, 2, [0], [.setf 0 "tree" (.var 1),
  .expr (.mk 1 10 [.var 1, .tup []]),
  .setf 0 "editions" (.lst [.tup []]),
  .setf 0 "marks" (.lst [])]⟩
def f_House_put : Fn := ⟨2, 5, [0], [.set 2 (.bi .list [.sub (.fld (.var 0) "editions") (.lit (.int (-1)))]),
  .set 4 (.lc [3] (.v 3) (.seq (.var 2)) [] (.sub (.var 3) (.lit (.int 1)))),
  .if_ (.cmp .In (.sub (.var 1) (.lit (.int 1))) (.var 4)) [.seti 2 none (.bm .index (.var 4) (.sub (.var 1) (.lit (.int 1)))) (.var 1)] [.mut 2 none .app [.var 1]],
  .expr (.mk 1 10 [.fld (.var 0) "tree", .var 2]),
  .mut 0 (some "editions") .app [.bi .tuple [.var 2]],
  .ret (.bin .Sub (.bi .len [.fld (.var 0) "editions"]) (.lit (.int 1)))]⟩
def f_House_touched : Fn := ⟨3, 8, [], [.expr (.call 15 [] [.var 1, .lit (.int 0), .bin .Sub (.bi .len [.fld (.var 0) "editions"]) (.lit (.int 1))]),
  .expr (.call 15 [] [.var 2, .var 1, .bin .Sub (.bi .len [.fld (.var 0) "editions"]) (.lit (.int 1))]),
  .set 4 (.dc [3] (.v 3) (.seq (.sub (.fld (.var 0) "editions") (.var 1))) (.sub (.var 3) (.lit (.int 1))) (.var 3)),
  .set 5 (.lst []),
  .for_ (.v 3) (.seq (.sub (.fld (.var 0) "editions") (.var 2))) [.set 6 (.ife (.cmp .Eq (.sub (.var 3) (.lit (.int 0))) (.glob "CLAIM" (.str "claim"))) (.sub (.var 3) (.lit (.int 4))) (.tup [])),
    .if_ (.or [.cmp .NotEq (.bm .get (.var 4) (.sub (.var 3) (.lit (.int 1)))) (.var 3), .bi .any [.lc [7] (.v 7) (.seq (.var 6)) [] (.cmp .In (.var 7) (.var 5))]]) [.mut 5 none .app [.sub (.var 3) (.lit (.int 1))]] []],
  .ret (.mv 5)]⟩
def f_House_mark : Fn := ⟨4, 5, [0], [.expr (.call 15 [] [.var 1, .lit (.int 0), .bin .Sub (.glob "MOST_JUDGES" (.int 9)) (.lit (.int 1))]),
  .if_ (.cmp .NotIn (.var 2) (.lc [4] (.v 4) (.seq (.sub (.fld (.var 0) "editions") (.lit (.int (-1))))) [] (.sub (.var 4) (.lit (.int 1))))) [.never] [],
  .mut 0 (some "marks") .app [.tup [.var 1, .var 2, .bin .Sub (.bi .len [.fld (.var 0) "editions"]) (.lit (.int 1)), .var 3]]]⟩
def f_House_is_touched : Fn := ⟨3, 5, [], [.for_ (.v 3) (.rng [.bin .Add (.var 2) (.lit (.int 1)), .bi .len [.fld (.var 0) "editions"]]) [.if_ (.or [.cmp .NotIn (.var 1) (.lc [4] (.v 4) (.seq (.sub (.fld (.var 0) "editions") (.var 3))) [] (.sub (.var 4) (.lit (.int 1)))), .cmp .In (.var 1) (.mcall "touched" 2 20 [] (.var 0) [.bin .Sub (.var 3) (.lit (.int 1)), .var 3])]) [.ret (.lit (.bl true))] []],
  .ret (.lit (.bl false))]⟩
def f_House_verdicts : Fn := ⟨2, 9, [], [.if_ (.cmp .NotIn (.var 1) (.lc [2] (.v 2) (.seq (.sub (.fld (.var 0) "editions") (.lit (.int (-1))))) [] (.sub (.var 2) (.lit (.int 1))))) [.never] [],
  .set 3 (.dict0),
  .for_ (.tup [.v 4, .v 5, .v 6, .v 7]) (.seq (.fld (.var 0) "marks")) [.if_ (.cmp .Eq (.var 5) (.var 1)) [.dput 3 none (.var 4) (.tup [.var 6, .var 7])] []],
  .set 8 (.lc [4] (.v 4) (.seq (.srtD (.var 3))) [.not (.mcall "is_touched" 2 22 [] (.var 0) [.var 1, .sub (.sub (.var 3) (.var 4)) (.lit (.int 0))])] (.tup [.var 4, .sub (.sub (.var 3) (.var 4)) (.lit (.int 1))])),
  .ret (.mv 8)]⟩
def f_House_is_accepted : Fn := ⟨3, 6, [], [.set 5 (.lc [3, 4] (.tup [.v 3, .v 4]) (.seq (.mcall "verdicts" 2 23 [] (.var 0) [.var 1])) [] (.var 4)),
  .expr (.call 15 [] [.var 2, .lit (.int 1), .glob "MOST_JUDGES" (.int 9)]),
  .ret (.and [.cmp .GtE (.bi .len [.var 5]) (.var 2), .bi .all [.var 5]])]⟩
def f_House_to_do : Fn := ⟨2, 3, [], [.expr (.call 15 [] [.var 1, .lit (.int 1), .glob "MOST_JUDGES" (.int 9)]),
  .ret (.lc [2] (.v 2) (.seq (.sub (.fld (.var 0) "editions") (.lit (.int (-1))))) [.not (.mcall "is_accepted" 2 24 [] (.var 0) [.sub (.var 2) (.lit (.int 1)), .var 1])] (.sub (.var 2) (.lit (.int 1))))]⟩
def f_House_rows_of : Fn := ⟨2, 2, [], [.expr (.call 15 [] [.var 1, .lit (.int 0), .bin .Sub (.bi .len [.fld (.var 0) "editions"]) (.lit (.int 1))]),
  .ret (.bi .list [.sub (.fld (.var 0) "editions") (.var 1)])]⟩
def f_Tree_need_name : Fn := ⟨2, 2, [], [.if_ (.not (.mcall "is_there" 0 7 [] (.var 0) [.var 1])) [.never] []]⟩
def f_Tree_is_lost : Fn := ⟨3, 7, [], [.if_ (.cmp .In (.var 1) (.fld (.var 0) "chances")) [.ret (.bm .get (.var 2) (.var 1))] [],
  .unp (.tup [.v 3, .v 4]) (.sub (.fld (.var 0) "needs") (.var 1)),
  .set 6 (.lc [5] (.v 5) (.seq (.var 4)) [] (.mcall "is_lost" 0 27 [] (.var 0) [.var 5, .var 2])),
  .if_ (.cmp .GtE (.bm .count (.var 6) (.lit (.bl true))) (.var 3)) [.ret (.lit (.bl true))] [],
  .ret (.ife (.cmp .Lt (.bin .Sub (.bi .len [.var 4]) (.bm .count (.var 6) (.lit (.bl false)))) (.var 3)) (.lit (.bl false)) (.lit (.non)))]⟩
def f_chosen : Fn := ⟨2, 6, [], [.set 3 (.bin .Add (.lst [.lst [.tup []]]) (.lc [2] (.v 2) (.rng [.var 1]) [] (.fzt (.lst [])))),
  .for_ (.v 4) (.seq (.var 0)) [.for_ (.v 5) (.rng [.var 1, .lit (.int 0), .lit (.int (-1))]) [.seti 3 none (.var 5) (.call 30 [] [.bin .Add (.sub (.var 3) (.var 5)) (.call 31 [] [.sub (.var 3) (.bin .Sub (.var 5) (.lit (.int 1))), .var 4])])]],
  .ret (.sub (.var 3) (.var 1))]⟩
def f_sets_of : Fn := ⟨3, 6, [], [.if_ (.cmp .In (.var 1) (.fld (.var 0) "chances")) [.ret (.lst [.tup [.var 1]])] [],
  .unp (.tup [.v 3, .v 4]) (.sub (.fld (.var 0) "needs") (.var 1)),
  .set 3 (.ife (.var 2) (.var 3) (.bin .Add (.bin .Sub (.bi .len [.var 4]) (.var 3)) (.lit (.int 1)))),
  .ret (.call 32 [] [.lc [5] (.v 5) (.seq (.var 4)) [] (.fzt (.call 33 [] [.var 0, .var 5, .var 2])), .var 3])]⟩
def f_least : Fn := ⟨2, 3, [], [.set 2 (.mk 0 6 [.var 0]),
  .expr (.mcall "need_name" 0 9 [] (.var 2) [.var 1]),
  .ret (.call 33 [] [.var 2, .var 1, .lit (.bl true)])]⟩
def f_lowest : Fn := ⟨2, 4, [], [.par 2 3 (.var 0) (.var 1),
  .while_ (.cmp .NotEq (.var 3) (.lit (.int 0))) [.par 2 3 (.var 3) (.bin .Mod (.var 2) (.var 3))],
  .ret (.tup [.bin .FloorDiv (.var 0) (.var 2), .bin .FloorDiv (.var 1) (.var 2)])]⟩
def f_part_of : Fn := ⟨4, 14, [], [.set 4 (.mcall "is_lost" 0 27 [] (.var 0) [.var 1, .var 2]),
  .if_ (.cmp .IsNot (.var 4) (.lit (.non))) [.ret (.tup [.bi .int1 [.var 4], .lit (.int 1)])] [],
  .par 5 6 (.sub (.var 3) (.lit (.int 0))) (.slice (.var 3) (some (.lit (.int 1))) none),
  .set 7 (.lit (.int 0)),
  .set 8 (.lit (.int 1)),
  .for_ (.tup [.v 9, .v 10]) (.seq (.tup [.tup [.lit (.bl true), .sub (.fld (.var 0) "chances") (.var 5)], .tup [.lit (.bl false), .bin .Sub (.glob "WHOLE" (.int 1000)) (.sub (.fld (.var 0) "chances") (.var 5))]])) [.set 11 (.bi .dictP [.var 2]),
    .dput 11 none (.var 5) (.var 9),
    .unp (.tup [.v 12, .v 13]) (.call 37 [] [.var 0, .var 1, .var 11, .var 6]),
    .par 7 8 (.bin .Add (.bin .Mult (.var 7) (.var 13)) (.bin .Mult (.bin .Mult (.var 10) (.var 12)) (.var 8))) (.bin .Mult (.var 8) (.var 13))],
  .ret (.call 36 [] [.var 7, .bin .Mult (.var 8) (.glob "WHOLE" (.int 1000))])]⟩
def f_chance_of : Fn := ⟨3, 4, [], [.ret (.call 37 [] [.var 0, .var 1, .var 2, .lcK false 0 (some "chances") [3] (.v 3) [.cmp .NotIn (.var 3) (.var 2)] (.var 3)])]⟩
def f_chance : Fn := ⟨2, 3, [], [.set 2 (.mk 0 6 [.var 0]),
  .expr (.mcall "need_name" 0 9 [] (.var 2) [.var 1]),
  .ret (.call 38 [] [.var 2, .var 1, .dict0])]⟩
def f_Case_leaf_stands : Fn := ⟨3, 6, [], [.if_ (.cmp .Eq (.sub (.var 1) (.lit (.int 0))) (.glob "GROUND" (.str "ground"))) [.ret (.cmp2 .LtE .LtE (.sub (.var 1) (.lit (.int 2))) (.var 2) (.bin .Add (.sub (.var 1) (.lit (.int 2))) (.sub (.var 1) (.lit (.int 3)))))] [],
  .if_ (.cmp .Eq (.sub (.var 1) (.lit (.int 0))) (.glob "GUESS" (.str "guess"))) [.ret (.sub (.var 1) (.lit (.int 2)))] [],
  .if_ (.cmp .Eq (.sub (.var 1) (.lit (.int 0))) (.glob "SPARE" (.str "spare"))) [.ret (.bi .all [.lc [3] (.v 3) (.seq (.call 34 [] [.fld (.var 0) "tree", .sub (.var 1) (.lit (.int 2))])) [] (.cmp .Gt (.bi .len [.var 3]) (.sub (.var 1) (.lit (.int 3))))])] [],
  .unp (.tup [.v 4, .v 5]) (.call 39 [] [.fld (.var 0) "tree", .sub (.var 1) (.lit (.int 2))]),
  .ret (.cmp .LtE (.bin .Mult (.var 4) (.sub (.var 1) (.lit (.int 4)))) (.bin .Mult (.sub (.var 1) (.lit (.int 3))) (.var 5)))]⟩
def f_Case_stands : Fn := ⟨3, 8, [], [.unp (.tup [.v 3, .v 4, .v 5]) (.slice (.var 1) (some (.lit (.int 2))) none),
  .set 7 (.lc [6] (.v 6) (.seq (.var 5)) [] (.sub (.var 2) (.var 6))),
  .if_ (.cmp .Eq (.var 3) (.glob "ALL" (.str "all"))) [.ret (.bi .all [.var 7])] [],
  .ret (.ife (.cmp .Eq (.var 3) (.glob "ANY" (.str "any"))) (.bi .any [.var 7]) (.cmp .GtE (.bm .count (.var 7) (.lit (.bl true))) (.var 4)))]⟩
def f_Case_states : Fn := ⟨3, 7, [], [.set 3 (.dict0),
  .forI true 0 (some "rows") (.tup [.v 4, .v 5]) [.set 6 (.ife (.cmp .Eq (.sub (.var 5) (.lit (.int 0))) (.glob "CLAIM" (.str "claim"))) (.mcall "stands" 1 51 [] (.var 0) [.var 5, .var 3]) (.mcall "leaf_stands" 1 50 [] (.var 0) [.var 5, .var 1])),
    .dput 3 none (.var 4) (.cmp .NotEq (.var 6) (.cmp .Eq (.var 4) (.var 2)))],
  .ret (.mv 3)]⟩
def f_Tree_need_events : Fn := ⟨2, 3, [], [.for_ (.v 2) (.seq (.var 1)) [.if_ (.cmp .NotIn (.var 2) (.fld (.var 0) "chances")) [.never] []]]⟩
def f_Tree_all_lost : Fn := ⟨2, 4, [], [.set 3 (.dcK false 0 (some "chances") [2] (.v 2) (.var 2) (.cmp .In (.var 2) (.var 1))),
  .ret (.lc [2] (.v 2) (.seq (.bin .Add (.bi .list [.fld (.var 0) "chances"]) (.bi .list [.fld (.var 0) "needs"]))) [.mcall "is_lost" 0 27 [] (.var 0) [.var 2, .var 3]] (.var 2))]⟩
def f_lost : Fn := ⟨2, 3, [], [.set 2 (.mk 0 6 [.var 0]),
  .expr (.mcall "need_events" 0 26 [] (.var 2) [.var 1]),
  .ret (.mcall "all_lost" 0 28 [] (.var 2) [.var 1])]⟩
def f_broken : Fn := ⟨3, 8, [], [.set 3 (.mk 1 10 [.var 0, .var 1]),
  .set 4 (.call 29 [] [.var 0, .var 2]),
  .set 5 (.lst []),
  .forI true 3 (some "rows") (.tup [.v 6, .v 7]) [.if_ (.and [.cmp .Eq (.sub (.var 7) (.lit (.int 0))) (.glob "SPARE" (.str "spare")), .cmp .In (.sub (.var 7) (.lit (.int 2))) (.var 4), .cmp .LtE (.lens (.var 2)) (.sub (.var 7) (.lit (.int 3)))]) [.mut 5 none .app [.var 6]] [.if_ (.and [.cmp .Eq (.sub (.var 7) (.lit (.int 0))) (.glob "BOUND" (.str "bound")), .cmp .In (.sub (.var 7) (.lit (.int 2))) (.var 4), .cmp .Eq (.sub (.var 7) (.lit (.int 3))) (.lit (.int 0))]) [.mut 5 none .app [.var 6]] []]],
  .ret (.call 14 [] [.var 0, .var 1, .var 5])]⟩
def f_less : Fn := ⟨2, 2, [], [.ret (.call 36 [] [.bin .Sub (.bin .Mult (.sub (.var 0) (.lit (.int 0))) (.sub (.var 1) (.lit (.int 1)))) (.bin .Mult (.sub (.var 1) (.lit (.int 0))) (.sub (.var 0) (.lit (.int 1)))), .bin .Mult (.sub (.var 0) (.lit (.int 1))) (.sub (.var 1) (.lit (.int 1)))])]⟩
def f_weights : Fn := ⟨2, 8, [], [.set 2 (.mk 0 6 [.var 0]),
  .expr (.mcall "need_name" 0 9 [] (.var 2) [.var 1]),
  .set 4 (.lcK true 2 (some "chances") [3] (.v 3) [] (.tup [.var 3, .call 41 [] [.var 2, .var 1, .var 3]])),
  .set 5 (.lst []),
  .for_ (.v 6) (.seq (.fz 4)) [.set 7 (.lit (.int 0)),
    .while_ (.and [.cmp .Lt (.var 7) (.bi .len [.var 5]), .cmp .GtE (.sub (.call 40 [] [.sub (.sub (.var 5) (.var 7)) (.lit (.int 1)), .sub (.var 6) (.lit (.int 1))]) (.lit (.int 0))) (.lit (.int 0))]) [.aug 7 .Add (.lit (.int 1))],
    .mut 5 none .ins [.var 7, .var 6]],
  .ret (.mv 5)]⟩
def f__law_some : Fn := ⟨1, 4, [], [.set 1 (.lst [.tup []]),
  .for_ (.v 2) (.seq (.var 0)) [.set 1 (.bin .Add (.var 1) (.lc [3] (.v 3) (.seq (.var 1)) [] (.bin .Add (.var 3) (.tup [.var 2]))))],
  .ret (.mv 1)]⟩
def f_holding : Fn := ⟨2, 3, [], [.set 2 (.mk 0 6 [.var 0]),
  .expr (.mcall "need_name" 0 9 [] (.var 2) [.var 1]),
  .ret (.call 33 [] [.var 2, .var 1, .lit (.bl false)])]⟩
end Sh
end

section
namespace Sh
open PySem L2 Cr
theorem io0 {cal : Nat → List O → CRes} {m c : Int} {l : List Int} {r : List (Option O)} : ev cal (.io 0) (some (hst m l c) :: r) = .ok (.io 0, some (hst m l c) :: r) := x_io rfl
theorem io1 {cal : Nat → List O → CRes} {m c : Int} {l : List Int} {x : Option O} {r : List (Option O)} : ev cal (.io 1) (x :: some (hst m l c) :: r) = .ok (.io 1, x :: some (hst m l c) :: r) := x_io rfl
theorem val_ok {α : Type} {a : α} : (some a).map (fun x : α => x) = some a := rfl
local macro_rules
  | `(tactic| infer_instance) => `(tactic| repeat (first | rw [WP_bind] | rw [WP_ok] | (refine WP_of_eq (by simp only [io0, io1, ev.eq_1, ev.eq_2, ev.eq_3, ev.eq_5, ev.eq_6, ev.eq_7, ev.eq_8, ev.eq_9, ev.eq_10, ev.eq_12, ev.eq_13, ev.eq_14, ev.eq_15, ev.eq_16, ev.eq_17, ev.eq_18, ev.eq_19, ev.eq_23, ev.eq_28, ev.eq_29, ev.eq_30, evs, evS.eq_1, evS.eq_2, evS.eq_3, evS.eq_4, evS.eq_5, evS.eq_8, evS.eq_9, evS.eq_10, evS.eq_11, evS.eq_13, evS.eq_16, place, putPlace, Option.isNone_none, evAnd, evOr, boolH, List.getElem?_cons_zero, List.getElem?_cons_succ, join_some, get_p, get_t, get_q, get_n, isq_p, isq_t, isq_n, isq_q, val_p, val_t, view_p, view_t, view_q, view_n, mkh_fr, mkh_ol, mkh_ot, part_fr, part_n, part_t, part_q, add_int, sub_int, min2_int, lt_int, le_int, gt_int, ge_int, Bool.not_false, Bool.not_true, Bool.true_or, Bool.or_true, Bool.false_or, if_true, if_false, Bool.false_eq_true, setS, List.length_cons, List.length_nil, Nat.reduceAdd, Nat.reduceLT, List.set_cons_zero, List.set_cons_succ, List.map_cons, List.map_nil, allSome, Option.map_some, Option.bind_some, lineOk, Nat.zero_le, Nat.reduceLeDiff, decide_true, stayOk, Bool.and_true, Bool.true_and, Bool.and_self, mkT, leafs, Bool.not_eq_true', Option.isNone_some]; exact rfl) ?_)))

theorem mu_app {xs : List O} {o : O} (h : xs.length + 1 ≤ 16777216) : muO .app (.ol xs) [o] = some (.ol (xs ++ [o])) := by
  simp only [muO, lineOk, h, decide_true, if_true]
def evCh (i : Nat) : Str := ⟨#[("abcdefghij" : Str).cps.toList.getD i 0]⟩
def evName (i : Nat) : Str := ("e" : Str) ++ evCh i
theorem ev_at : ∀ {i : Nat}, i < 10 → atO (.fr (.str "abcdefghij")) (.int (i : Nat)) = some (.fr (.str (evCh i)))
  | 0, _ => by kernel_rfl | 1, _ => by kernel_rfl | 2, _ => by kernel_rfl | 3, _ => by kernel_rfl | 4, _ => by kernel_rfl
  | 5, _ => by kernel_rfl | 6, _ => by kernel_rfl | 7, _ => by kernel_rfl | 8, _ => by kernel_rfl | 9, _ => by kernel_rfl
  | _ + 10, h => by omega
theorem ev_add : ∀ {i : Nat}, i < 10 → binO .Add (.fr (.str "e")) (.fr (.str (evCh i))) = some (.fr (.str (evName i)))
  | 0, _ => by kernel_rfl | 1, _ => by kernel_rfl | 2, _ => by kernel_rfl | 3, _ => by kernel_rfl | 4, _ => by kernel_rfl
  | 5, _ => by kernel_rfl | 6, _ => by kernel_rfl | 7, _ => by kernel_rfl | 8, _ => by kernel_rfl | 9, _ => by kernel_rfl
  | _ + 10, h => by omega
def evO (x : Str × Int) : O := .fr (.tup [.str x.1, .int x.2])
def EvOk (es : List (Str × Int)) : Prop := es.map (·.1) = (List.range es.length).map evName ∧ ∀ x ∈ es, 0 ≤ x.2 ∧ x.2 ≤ 1000
theorem EvOk.add {es : List (Str × Int)} (h : EvOk es) {c : Int} (c0 : 0 ≤ c) (c1 : c ≤ 1000) : EvOk (es ++ [(evName es.length, c)]) := by
  refine ⟨by simp [h.1, List.range_succ], fun x hx => ?_⟩
  rcases List.mem_append.mp hx with z | z
  · exact h.2 x z
  · simp only [List.mem_singleton] at z
    subst z
    exact ⟨c0, c1⟩
abbrev Te (h : Option O) (E R : Nat) (s3 s4 s5 s6 s7 s8 s9 s10 s11 s12 s13 : Option O) : Cr.Env := [h, some (.fr (.int E)), some (.fr (.int R)), s3, s4, s5, s6, s7, s8, s9, s10, s11, s12, s13]
def treeB1 : List CS := [.mut 3 none .app [.tup [.bin .Add (.lit (.str "e")) (.sub (.lit (.str "abcdefghij")) (.var 5)), .sub (.lst [.lit (.int 0), .lit (.int 1000), .call 0 [0] [.io 0, .lit (.int 1001)]]) (.bi .min2 [.lit (.int 2), .call 0 [0] [.io 0, .lit (.int 9)]])]]]
theorem three {v u : Int} (u0 : 0 ≤ u) (v0 : 0 ≤ v) (v1 : v < 1001) : ∃ c, atO (.ol [.fr (.int 0), .fr (.int 1000), .fr (.int v)]) (.int (min 2 u)) = some (.fr (.int c)) ∧ 0 ≤ c ∧ c ≤ 1000 := by
  have h : min 2 u = 0 ∨ min 2 u = 1 ∨ min 2 u = 2 := by omega
  rcases h with h | h | h <;> rw [h]
  · exact ⟨0, rfl, by decide, by decide⟩
  · exact ⟨1000, rfl, by decide, by decide⟩
  · exact ⟨v, rfl, v0, by omega⟩
theorem ok62 {q : Int} (q0 : 0 ≤ q) (q1 : q < 1000) : (decide (-2 ^ 62 ≤ q) && decide (q < 2 ^ 62)) = true := by
  have e : (2 : Int) ^ 62 = 4611686018427387904 := by decide +kernel
  rw [e, Bool.and_eq_true, decide_eq_true_eq, decide_eq_true_eq]
  exact ⟨by omega, by omega⟩
theorem erase_map {α β : Type} (f : α → β) : ∀ (l : List α) (j : Nat), (l.map f).eraseIdx j = (l.eraseIdx j).map f
  | [], j => rfl
  | a :: l, 0 => rfl
  | a :: l, j + 1 => by simp [erase_map f l j]
theorem erase_perm {α : Type} : ∀ (l : List α) {j : Nat} (h : j < l.length), (l[j] :: l.eraseIdx j).Perm l
  | [], j, h => by simp at h
  | a :: l, 0, h => List.Perm.refl _
  | a :: l, j + 1, h => (List.Perm.swap a _ _).trans ((erase_perm l (by simpa using h)).cons a)
theorem two {v u : Int} {n : Nat} (u0 : 0 ≤ u) (u1 : u < 2) (v0 : 0 ≤ v) (v1 : v < n) : ∃ q : Int, atO (.ol [.fr (.int ((n : Int) - 1)), .fr (.int v)]) (.int u) = some (.fr (.int q)) ∧ 0 ≤ q ∧ q < n := by
  have h : u = 0 ∨ u = 1 := by omega
  rcases h with rfl | rfl
  · exact ⟨(n : Int) - 1, rfl, by omega, by omega⟩
  · exact ⟨v, rfl, v0, v1⟩
section
variable {P : List Fn} {k W : Nat} {m c : Int} {l : List Int} {E R : Nat} {s3 s4 s5 s6 s7 s8 s9 s10 s11 s12 s13 : Option O}
theorem events_ok (h0 : P[0]? = some nextFn) (hl : l.length ≤ 1000) (hE : 1 ≤ E) (hE2 : E ≤ 10) {Q : Fl → Cr.Env → Prop}
    (fin : ∀ m c l x5 es, l.length ≤ 1000 → 1 ≤ es.length → es.length ≤ E → EvOk es → Q .next (Te (some (hst m l c)) E R (some (.ol (es.map evO))) s4 x5 s6 s7 s8 s9 s10 s11 s12 s13)) :
    WP (evS (run P W (k + 1)) W (.for_ (.v 5) (.rng [.bin .Add (.lit (.int 1)) (.call 0 [0] [.io 0, .var 1])]) treeB1) (Te (some (hst m l c)) E R (some (.ol [])) s4 s5 s6 s7 s8 s9 s10 s11 s12 s13)) Q := by
  refine w_forN (Inv := fun i e => ∃ m c l x5 es, l.length ≤ 1000 ∧ es.length = i ∧ EvOk es ∧ e = Te (some (hst m l c)) E R (some (.ol (es.map evO))) s4 x5 s6 s7 s8 s9 s10 s11 s12 s13) ?_
  infer_instance
  refine w_draw h0 rfl (by omega) (by omega) hl fun v m c l v0 v1 hl => ?_
  infer_instance
  refine ⟨(1 + v).toNat, ?_, by omega, ⟨m, c, l, s5, [], hl, rfl, ⟨rfl, fun x z => by cases z⟩, rfl⟩, ?_, ?_⟩
  · rw [show ((1 + v).toNat : Int) = 1 + v by omega]
  · rintro i e hi ⟨m, c, l, x5, es, hl, hes, ok, rfl⟩
    refine ⟨_, rfl, ?_⟩
    unfold treeB1
    refine w_ss ?_
    infer_instance
    rw [ev_at (by omega)]
    infer_instance
    rw [ev_add (by omega)]
    infer_instance
    refine w_draw h0 rfl (by omega) (by omega) hl fun v m c l v0 v1 hl => ?_
    infer_instance
    refine w_draw h0 rfl (by omega) (by omega) hl fun u m c l u0 u1 hl => ?_
    infer_instance
    obtain ⟨ch, h3, c0, c1⟩ := three u0 v0 v1
    rw [h3]
    infer_instance
    rw [mu_app (by simp; omega)]
    infer_instance
    refine after_next (w_ss0 ⟨rfl, m, c, l, some (.fr (.int i)), es ++ [(evName i, ch)], hl, by simp [hes], ?_, ?_⟩)
    · rw [← hes]; exact ok.add c0 c1
    · simp [evO]
  · rintro e ⟨m, c, l, x5, es, hl, hes, ok, rfl⟩
    exact fin m c l x5 es hl (by omega) (by omega) ok
/-! the rows -/
theorem leafs_fr : ∀ ds : List D, leafs (ds.map O.fr) = some ds
  | [] => rfl
  | d :: ds => by simp [leafs, leafs_fr ds]
def evD (x : Str × Int) : D := .tup [.str x.1, .int x.2]
theorem evO_map (es : List (Str × Int)) : es.map evO = (es.map evD).map O.fr := by simp [evO, evD]
abbrev strO (l : List Str) : O := .ol (l.map fun s => .fr (.str s))
theorem frzL_map : ∀ l : List D, frzL (l.map O.fr) = l
  | [] => rfl
  | d :: l => by simp [frzL, O.frz, frzL_map l]
theorem strO_eq (l : List Str) : strO l = .ol ((l.map D.str).map O.fr) := by simp [strO]
theorem len_str (l : List Str) : biO .len [strO l] = some (.fr (.int l.length)) := by
  rw [strO_eq]
  simp only [biO, O.frz, frzL_map, List.length_map]
theorem names_ok {cal : Nat → List O → CRes} {h : Option O} {es : List (Str × Int)} (hn : es.length ≤ 1000) {Q : Fl → Cr.Env → Prop} (fin : Q .next (Te h E R (some (.ol (es.map evO))) s4 s5 none (some (strO (es.map (·.1)))) s8 s9 s10 s11 s12 s13)) :
    WP (evS cal W (.set 7 (.lc [6] (.v 6) (.seq (.var 3)) [] (.sub (.var 6) (.lit (.int 0))))) (Te h E R (some (.ol (es.map evO))) s4 s5 none s7 s8 s9 s10 s11 s12 s13)) Q := by
  have hsrc : evSr cal (.seq (.var 3)) (Te h E R (some (.ol (es.map evO))) s4 s5 none s7 s8 s9 s10 s11 s12 s13) = .ok (es.map evD, true, Te h E R (some (.ol (es.map evO))) s4 s5 none s7 s8 s9 s10 s11 s12 s13) := x_seqL (by rw [evO_map]; rfl)
  have h1 : ev cal (.lc [6] (.v 6) (.seq (.var 3)) [] (.sub (.var 6) (.lit (.int 0)))) (Te h E R (some (.ol (es.map evO))) s4 s5 none s7 s8 s9 s10 s11 s12 s13) = .ok (.t (.ol ((es.map evD).filterMap fun d => atO (.fr d) (.int 0))), Te h E R (some (.ol (es.map evO))) s4 s5 none s7 s8 s9 s10 s11 s12 s13) := by
    refine x_lcT hsrc rfl rfl (by simp; omega) fun d hd => ?_
    obtain ⟨x, _, rfl⟩ := List.mem_map.mp hd
    exact x_turn (e1 := Te h E R (some (.ol (es.map evO))) s4 s5 (some (.fr (evD x))) s7 s8 s9 s10 s11 s12 s13) (h := .p (.str x.1)) rfl (x_sub (o := .fr (.str x.1)) (x_var rfl) x_lit rfl rfl rfl) rfl rfl rfl
  refine ⟨_, _, x_set h1 rfl (show 7 < 14 by decide), ?_⟩
  have e2 : (es.map evD).filterMap (fun d => atO (.fr d) (.int 0)) = (es.map (·.1)).map fun s => O.fr (.str s) := by
    rw [List.filterMap_map, List.map_map]
    have e3 : ((fun d => atO (O.fr d) (D.int 0)) ∘ evD) = fun x : Str × Int => some (O.fr (.str x.1)) := by funext x; rfl
    rw [e3, List.filterMap_eq_map']
    rfl
  rw [e2]
  exact fin
structure Rw where
  nm : Str
  kind : Str
  need : Int
  ins : List Str
def rwO (r : Rw) : O := .fr (.tup [.str r.nm, .str r.kind, .int r.need, .tup (r.ins.map D.str)])
def rwCh (i : Nat) : Str := ⟨#[("abcdefghijkl" : Str).cps.toList.getD i 0]⟩
def rwName (i : Nat) : Str := ("r" : Str) ++ rwCh i
theorem rw_at : ∀ {i : Nat}, i < 12 → atO (.fr (.str "abcdefghijkl")) (.int (i : Nat)) = some (.fr (.str (rwCh i)))
  | 0, _ => by kernel_rfl | 1, _ => by kernel_rfl | 2, _ => by kernel_rfl | 3, _ => by kernel_rfl | 4, _ => by kernel_rfl
  | 5, _ => by kernel_rfl | 6, _ => by kernel_rfl | 7, _ => by kernel_rfl | 8, _ => by kernel_rfl | 9, _ => by kernel_rfl
  | 10, _ => by kernel_rfl | 11, _ => by kernel_rfl
  | _ + 12, h => by omega
theorem rw_add : ∀ {i : Nat}, i < 12 → binO .Add (.fr (.str "r")) (.fr (.str (rwCh i))) = some (.fr (.str (rwName i)))
  | 0, _ => by kernel_rfl | 1, _ => by kernel_rfl | 2, _ => by kernel_rfl | 3, _ => by kernel_rfl | 4, _ => by kernel_rfl
  | 5, _ => by kernel_rfl | 6, _ => by kernel_rfl | 7, _ => by kernel_rfl | 8, _ => by kernel_rfl | 9, _ => by kernel_rfl
  | 10, _ => by kernel_rfl | 11, _ => by kernel_rfl
  | _ + 12, h => by omega
/-- what a row's words must be -/
def HowOk (kind : Str) (need : Int) (n : Nat) : Prop := (kind = "and" ∧ need = 0) ∨ (kind = "or" ∧ need = 0) ∨ (kind = "some" ∧ 1 ≤ need ∧ need ≤ n)
/-- rows behind some names -/
inductive RwsOk (ns : List Str) : List Rw → Prop
  | nil : RwsOk ns []
  | add {rs : List Rw} {r : Rw} (h : RwsOk ns rs) (nm : r.nm = rwName rs.length) (i0 : 1 ≤ r.ins.length) (i1 : r.ins.length ≤ 4) (nd : r.ins.Nodup) (sub : ∀ x ∈ r.ins, x ∈ ns ++ rs.map (·.nm)) (how : HowOk r.kind r.need r.ins.length) : RwsOk ns (rs ++ [r])
def treeB3 : List CS := [.set 11 (.sub (.lst [.bin .Sub (.bi .len [.var 8]) (.lit (.int 1)), .call 0 [0] [.io 0, .bi .len [.var 8]]]) (.call 0 [0] [.io 0, .lit (.int 2)])),
      .mut 9 none .app [.popi 8 (.var 11)]]
/-- some of what is left is taken -/
theorem pops_ok (h0 : P[0]? = some nextFn) (hl : l.length ≤ 1000) {names : List Str} (hn : 1 ≤ names.length) (hn2 : names.length ≤ 100) {s7 : Option O} {Q : Fl → Cr.Env → Prop}
    (fin : ∀ m c l x10 x11 left ins, l.length ≤ 1000 → 1 ≤ ins.length → ins.length ≤ 4 → (ins ++ left).Perm names → Q .next (Te (some (hst m l c)) E R s3 s4 s5 s6 s7 (some (strO left)) (some (strO ins)) x10 x11 s12 s13)) :
    WP (evS (run P W (k + 1)) W (.for_ (.v 10) (.rng [.bi .min2 [.bi .len [.var 8], .bin .Add (.lit (.int 1)) (.call 0 [0] [.io 0, .lit (.int 4)])]]) treeB3) (Te (some (hst m l c)) E R s3 s4 s5 s6 s7 (some (strO names)) (some (strO [])) s10 s11 s12 s13)) Q := by
  refine w_forN (Inv := fun i e => ∃ m c l x10 x11 left ins, l.length ≤ 1000 ∧ ins.length = i ∧ (ins ++ left).Perm names ∧ e = Te (some (hst m l c)) E R s3 s4 s5 s6 s7 (some (strO left)) (some (strO ins)) x10 x11 s12 s13) ?_
  infer_instance
  rw [len_str]
  infer_instance
  refine w_draw h0 rfl (by omega) (by omega) hl fun v m c l v0 v1 hl => ?_
  infer_instance
  refine ⟨(min (names.length : Int) (1 + v)).toNat, by rw [show (((min (names.length : Int) (1 + v)).toNat : Nat) : Int) = min (names.length : Int) (1 + v) by omega], by omega, ⟨m, c, l, s10, s11, names, [], hl, rfl, by simp, rfl⟩, ?_, ?_⟩
  · rintro i e hi ⟨m, c, l, x10, x11, left, ins, hl, hins, hp, rfl⟩
    have hlen := hp.length_eq
    simp only [List.length_append] at hlen
    refine ⟨_, rfl, ?_⟩
    unfold treeB3
    refine w_ss ?_
    infer_instance
    rw [len_str]
    infer_instance
    rw [len_str]
    infer_instance
    refine w_draw h0 rfl (by omega) (by omega) hl fun v m c l v0 v1 hl => ?_
    infer_instance
    refine w_draw h0 rfl (by omega) (by omega) hl fun u m c l u0 u1 hl => ?_
    infer_instance
    obtain ⟨q, hq, q0, q1⟩ := two (n := left.length) u0 u1 v0 v1
    rw [hq]
    infer_instance
    refine after_next (w_ss ?_)
    infer_instance
    have hj : q.toNat < left.length := by omega
    rw [ixN_nn q0 (by simp only [List.length_map]; exact q1)]
    infer_instance
    rw [List.getElem?_map, List.getElem?_eq_getElem hj, erase_map]
    infer_instance
    rw [ok62 q0 (by omega)]
    infer_instance
    rw [mu_app (by simp only [List.length_map]; omega)]
    infer_instance
    refine after_next (w_ss0 ⟨rfl, m, c, l, some (.fr (.int i)), some (.fr (.int q)), left.eraseIdx q.toNat, ins ++ [left[q.toNat]], hl, by simp [hins], ?_, by simp⟩)
    refine List.Perm.trans ?_ hp
    rw [List.append_assoc]
    exact List.Perm.append_left ins (erase_perm _ hj)
  · rintro e ⟨m, c, l, x10, x11, left, ins, hl, hins, hp, rfl⟩
    exact fin m c l x10 x11 left ins hl (by omega) (by omega) hp
def treeB2 : List CS := [.par 8 9 (.bi .list [.var 7]) (.lst []),
    .for_ (.v 10) (.rng [.bi .min2 [.bi .len [.var 8], .bin .Add (.lit (.int 1)) (.call 0 [0] [.io 0, .lit (.int 4)])]]) treeB3,
    .set 12 (.sub (.lst [.lit (.str "and"), .lit (.str "or"), .lit (.str "some")]) (.call 0 [0] [.io 0, .lit (.int 3)])),
    .set 13 (.ife (.cmp .Eq (.var 12) (.lit (.str "some"))) (.bin .Add (.lit (.int 1)) (.call 0 [0] [.io 0, .bi .len [.var 9]])) (.lit (.int 0))),
    .mut 4 none .app [.tup [.bin .Add (.lit (.str "r")) (.sub (.lit (.str "abcdefghijkl")) (.var 5)), .var 12, .var 13, .bi .tuple [.var 9]]],
    .mut 7 none .app [.sub (.sub (.var 4) (.lit (.int (-1)))) (.lit (.int 0))]]
theorem list_str (l : List Str) : biO .list [strO l] = some (strO l) := by
  rw [strO_eq]
  simp only [biO, O.walk, O.items, leafs_fr, Option.map_some]
theorem tup_str (l : List Str) : biO .tuple [strO l] = some (.fr (.tup (l.map D.str))) := by
  rw [strO_eq]
  simp only [biO, O.items, leafs_fr, Option.map_some]
theorem kinds {u : Int} (u0 : 0 ≤ u) (u1 : u < 3) : ∃ z : Str, atO (.ol [.fr (.str "and"), .fr (.str "or"), .fr (.str "some")]) (.int u) = some (.fr (.str z)) ∧ (z = "and" ∨ z = "or" ∨ z = "some") := by
  have h : u = 0 ∨ u = 1 ∨ u = 2 := by omega
  rcases h with rfl | rfl | rfl
  · exact ⟨_, rfl, .inl rfl⟩
  · exact ⟨_, rfl, .inr (.inl rfl)⟩
  · exact ⟨_, rfl, .inr (.inr rfl)⟩
theorem at_last {xs : List O} {o : O} : atO (.ol (xs ++ [o])) (.int (-1)) = some o := by
  show atI (xs ++ [o]) (-1) = some o
  unfold atI ixN
  rw [if_neg (by decide), if_pos (by simp only [List.length_append, List.length_singleton]; omega)]
  have e : ((-1 : Int) + ((xs ++ [o]).length : Nat)).toNat = xs.length := by simp only [List.length_append, List.length_singleton]; omega
  rw [Option.bind_some, e]
  simp
theorem at_t0 {d : D} {l : List D} : atO (.fr (.tup (d :: l))) (.int 0) = some (.fr d) := by
  show (atI (d :: l) 0).map O.fr = _
  rw [atI_nn (by decide) (by simp)]
  rfl
theorem rws_names {ns : List Str} {rs : List Rw} (h : RwsOk ns rs) : rs.map (·.nm) = (List.range rs.length).map rwName := by
  induction h with
  | nil => rfl
  | add h nm _ _ _ _ _ ih => simp [ih, nm, List.range_succ]
theorem rws_nodup {ns : List Str} {rs : List Rw} (h : RwsOk ns rs) (hl : rs.length ≤ 12) (nd : (ns ++ (List.range 12).map rwName).Nodup) : (ns ++ rs.map (·.nm)).Nodup := by
  rw [rws_names h]
  refine nd.sublist (List.Sublist.append_left ?_ ns)
  exact (List.range_sublist.mpr hl).map rwName
theorem need_ok (h0 : P[0]? = some nextFn) (hl : l.length ≤ 1000) {kd : Str} {ins : List Str} (i1 : 1 ≤ ins.length) (i4 : ins.length ≤ 100) (hk : kd = "and" ∨ kd = "or" ∨ kd = "some") {Q : Fl → Cr.Env → Prop}
    (fin : ∀ m c l need, l.length ≤ 1000 → HowOk kd need ins.length → Q .next (Te (some (hst m l c)) E R s3 s4 s5 s6 s7 s8 (some (strO ins)) s10 s11 (some (.fr (.str kd))) (some (.fr (.int need))))) :
    WP (evS (run P W (k + 1)) W (.set 13 (.ife (.cmp .Eq (.var 12) (.lit (.str "some"))) (.bin .Add (.lit (.int 1)) (.call 0 [0] [.io 0, .bi .len [.var 9]])) (.lit (.int 0)))) (Te (some (hst m l c)) E R s3 s4 s5 s6 s7 s8 (some (strO ins)) s10 s11 (some (.fr (.str kd))) s13)) Q := by
  infer_instance
  rcases hk with rfl | rfl | rfl
  · rw [show cmpD .Eq (.str ("and" : Str)) (.str ("some" : Str)) = some false by kernel_rfl]
    infer_instance
    exact fin m c l 0 hl (.inl ⟨rfl, rfl⟩)
  · rw [show cmpD .Eq (.str ("or" : Str)) (.str ("some" : Str)) = some false by kernel_rfl]
    infer_instance
    exact fin m c l 0 hl (.inr (.inl ⟨rfl, rfl⟩))
  · rw [show cmpD .Eq (.str ("some" : Str)) (.str ("some" : Str)) = some true by kernel_rfl]
    infer_instance
    rw [len_str]
    infer_instance
    refine w_draw h0 rfl (by omega) (by omega) hl fun u m c l u0 u1 hl => ?_
    infer_instance
    exact fin m c l (1 + u) hl (.inr (.inr ⟨rfl, by omega, by omega⟩))
theorem rows_ok (h0 : P[0]? = some nextFn) (hl : l.length ≤ 1000) (hR : R ≤ 11) {ns : List Str} (n1 : 1 ≤ ns.length) (n2 : ns.length ≤ 10) (nd : (ns ++ (List.range 12).map rwName).Nodup) {Q : Fl → Cr.Env → Prop}
    (fin : ∀ m c l x5 x8 x9 x10 x11 x12 x13 rs, l.length ≤ 1000 → rs.length ≤ R → RwsOk ns rs → Q .next (Te (some (hst m l c)) E R s3 (some (.ol (rs.map rwO))) x5 none (some (strO (ns ++ rs.map (·.nm)))) x8 x9 x10 x11 x12 x13)) :
    WP (evS (run P W (k + 1)) W (.for_ (.v 5) (.rng [.call 0 [0] [.io 0, .bin .Add (.var 2) (.lit (.int 1))]]) treeB2) (Te (some (hst m l c)) E R s3 (some (.ol [])) s5 none (some (strO ns)) s8 s9 s10 s11 s12 s13)) Q := by
  refine w_forN (Inv := fun i e => ∃ m c l x5 x8 x9 x10 x11 x12 x13 rs, l.length ≤ 1000 ∧ rs.length = i ∧ RwsOk ns rs ∧ e = Te (some (hst m l c)) E R s3 (some (.ol (rs.map rwO))) x5 none (some (strO (ns ++ rs.map (·.nm)))) x8 x9 x10 x11 x12 x13) ?_
  infer_instance
  refine w_draw h0 rfl (by omega) (by omega) hl fun v m c l v0 v1 hl => ?_
  infer_instance
  refine ⟨v.toNat, by rw [show ((v.toNat : Nat) : Int) = v by omega], by omega, ⟨m, c, l, s5, s8, s9, s10, s11, s12, s13, [], hl, rfl, .nil, by simp⟩, ?_, ?_⟩
  · rintro i e hi ⟨m, c, l, x5, x8, x9, x10, x11, x12, x13, rs, hl, hrs, ok, rfl⟩
    refine ⟨_, rfl, ?_⟩
    unfold treeB2
    refine w_ss ?_
    infer_instance
    rw [list_str]
    infer_instance
    refine after_next (w_ss ?_)
    refine pops_ok h0 hl (by simp; omega) (by simp; omega) fun m c l x10 x11 left ins hl i1 i4 hp => ?_
    refine after_next (w_ss ?_)
    infer_instance
    refine w_draw h0 rfl (by omega) (by omega) hl fun u m c l u0 u1 hl => ?_
    infer_instance
    obtain ⟨kd, hk, hkd⟩ := kinds u0 u1
    rw [hk]
    infer_instance
    refine after_next (w_ss ?_)
    refine need_ok h0 hl i1 (by omega) hkd fun m c l need hl how => ?_
    refine after_next (w_ss ?_)
    infer_instance
    rw [rw_at (by omega)]
    infer_instance
    rw [rw_add (by omega)]
    infer_instance
    rw [tup_str]
    infer_instance
    rw [mu_app (by simp; omega)]
    infer_instance
    refine after_next (w_ss ?_)
    infer_instance
    rw [at_last]
    infer_instance
    rw [at_t0]
    infer_instance
    rw [mu_app (by simp; omega)]
    infer_instance
    refine after_next (w_ss0 ⟨rfl, m, c, l, some (.fr (.int i)), some (strO left), some (strO ins), x10, x11, some (.fr (.str kd)), some (.fr (.int need)), rs ++ [⟨rwName i, kd, need, ins⟩], hl, by simp [hrs], ?_, by simp [rwO]⟩)
    have nd2 : (ns ++ rs.map (·.nm)).Nodup := rws_nodup ok (by omega) nd
    have nd3 : (ins ++ left).Nodup := hp.nodup_iff.mpr nd2
    exact ok.add (by rw [hrs]) i1 i4 (List.nodup_append.mp nd3).1 (fun x hx => hp.mem_iff.mp (by simp [hx])) how
  · rintro e ⟨m, c, l, x5, x8, x9, x10, x11, x12, x13, rs, hl, hrs, ok, rfl⟩
    exact fin m c l x5 x8 x9 x10 x11 x12 x13 rs hl (by omega) ok
theorem tup_ds (ds : List D) : biO .tuple [.ol (ds.map O.fr)] = some (.fr (.tup ds)) := by
  simp only [biO, O.items, leafs_fr, Option.map_some]
theorem rwO_map (rs : List Rw) : rs.map rwO = (rs.map fun r => D.tup [.str r.nm, .str r.kind, .int r.need, .tup (r.ins.map D.str)]).map O.fr := by simp [rwO]
theorem run_io {i : Nat} {fn : Fn} {os : List O} {r o0 : O} {e : Cr.Env} (h : P[i]? = some fn) (hn : os.length = fn.np) (hio : fn.io = [0]) (hb : evSs (run P W k) W fn.body (os.map some ++ List.replicate (fn.ns - fn.np) none) = .ok (.ret r, e)) (he : (e[0]?).join = some o0) : run P W (k + 1) i os = .ok r [o0] := by
  simp only [Cr.run, h]
  unfold runB
  rw [if_pos (by simp [hn]), hb, hio]
  simp only [outsOf, List.map_cons, List.map_nil, he, allSome, Option.map_some]
/-- a tree -/
def treeD (es : List (Str × Int)) (rs : List Rw) : D := .tup [.tup (es.map evD), .tup (rs.map fun r => .tup [.str r.nm, .str r.kind, .int r.need, .tup (r.ins.map D.str)])]
structure TreeOk (es : List (Str × Int)) (rs : List Rw) (E R : Nat) : Prop where
  e1 : 1 ≤ es.length
  e2 : es.length ≤ E
  ev : EvOk es
  r1 : rs.length ≤ R
  rw : RwsOk (es.map (·.1)) rs
theorem names_apart : ((List.range 10).map evName ++ (List.range 12).map rwName).Nodup := by decide +kernel
theorem ev_apart {es : List (Str × Int)} (h : EvOk es) (hl : es.length ≤ 10) : (es.map (·.1) ++ (List.range 12).map rwName).Nodup := by
  rw [h.1]
  exact names_apart.sublist (List.Sublist.append_right ((List.range_sublist.mpr hl).map evName) _)
theorem tree_ok (h0 : P[0]? = some nextFn) (h2 : P[2]? = some f__law_tree) (hl : l.length ≤ 1000) (hE : 1 ≤ E) (hE2 : E ≤ 10) (hR : R ≤ 11) :
    ∃ m' c' l' es rs, run P W (k + 2) 2 [hst m l c, .fr (.int E), .fr (.int R)] = .ok (.fr (treeD es rs)) [hst m' l' c'] ∧ l'.length ≤ 1000 ∧ TreeOk es rs E R := by
  have main : WP (evSs (run P W (k + 1)) W f__law_tree.body (Te (some (hst m l c)) E R none none none none none none none none none none none)) fun fl e => ∃ m' c' l' es rs r, fl = .ret (.fr (treeD es rs)) ∧ e = some (hst m' l' c') :: r ∧ l'.length ≤ 1000 ∧ TreeOk es rs E R := by
    unfold f__law_tree
    refine w_ss ?_
    infer_instance
    refine after_next (w_ss ?_)
    refine events_ok h0 hl hE hE2 fun m c l x5 es hl e1 e2 eok => ?_
    refine after_next (w_ss ?_)
    refine names_ok (by omega) ?_
    refine after_next (w_ss ?_)
    refine rows_ok h0 hl hR (by simpa using e1) (by simp; omega) (ev_apart eok (by omega)) fun m c l x5 x8 x9 x10 x11 x12 x13 rs hl hrs rok => ?_
    refine after_next (w_ss ?_)
    infer_instance
    rw [evO_map, tup_ds]
    infer_instance
    rw [rwO_map, tup_ds]
    infer_instance
    exact after_ret ⟨m, c, l, es, rs, _, rfl, rfl, hl, ⟨e1, e2, eok, hrs, rok⟩⟩
  obtain ⟨fl, e, hb, m', c', l', es, rs, r, rfl, rfl, hl', ok⟩ := main
  exact ⟨m', c', l', es, rs, run_io h2 rfl rfl hb rfl, hl', ok⟩
end
end Sh
end

section
namespace Sh
open PySem L2 Cr
theorem eq_int {i j : Int} : cmpD .Eq (.int i) (.int j) = some (i == j) := rfl
theorem ne_int {i j : Int} : cmpD .NotEq (.int i) (.int j) = some (!(i == j)) := rfl
local macro_rules
  | `(tactic| infer_instance) => `(tactic| repeat (first | rw [WP_bind] | rw [WP_ok] | (refine WP_of_eq (by simp only [io0, io1, ev.eq_1, ev.eq_2, ev.eq_3, ev.eq_5, ev.eq_6, ev.eq_7, ev.eq_8, ev.eq_9, ev.eq_10, ev.eq_12, ev.eq_13, ev.eq_14, ev.eq_15, ev.eq_16, ev.eq_17, ev.eq_18, ev.eq_19, ev.eq_23, ev.eq_28, ev.eq_29, ev.eq_30, evs, evS.eq_1, evS.eq_2, evS.eq_3, evS.eq_4, evS.eq_5, eq_int, ne_int, evS.eq_8, evS.eq_9, evS.eq_10, evS.eq_11, evS.eq_13, evS.eq_16, place, putPlace, Option.isNone_none, evAnd, evOr, boolH, List.getElem?_cons_zero, List.getElem?_cons_succ, join_some, get_p, get_t, get_q, get_n, isq_p, isq_t, isq_n, isq_q, val_p, val_t, view_p, view_t, view_q, view_n, mkh_fr, mkh_ol, mkh_ot, part_fr, part_n, part_t, part_q, add_int, sub_int, min2_int, lt_int, le_int, gt_int, ge_int, Bool.not_false, Bool.not_true, Bool.true_or, Bool.or_true, Bool.false_or, if_true, if_false, Bool.false_eq_true, setS, List.length_cons, List.length_nil, Nat.reduceAdd, Nat.reduceLT, List.set_cons_zero, List.set_cons_succ, List.map_cons, List.map_nil, allSome, Option.map_some, Option.bind_some, lineOk, Nat.zero_le, Nat.reduceLeDiff, decide_true, stayOk, Bool.and_true, Bool.true_and, Bool.and_self, mkT, leafs, Bool.not_eq_true', Option.isNone_some]; exact rfl) ?_)))


theorem add_str {x y : Str} (h : x.length + y.length ≤ 16777216) : binO .Add (.fr (.str x)) (.fr (.str y)) = some (.fr (.str (x ++ y))) := by
  simp only [binO, lineOk, h, decide_true, if_true]
theorem pick2 {a b x : Int} (h : x = 0 ∨ x = 1) : ∃ q : Int, atO (.ol [.fr (.int a), .fr (.int b)]) (.int x) = some (.fr (.int q)) ∧ (q = a ∨ q = b) := by
  rcases h with rfl | rfl
  · exact ⟨a, rfl, .inl rfl⟩
  · exact ⟨b, rfl, .inr rfl⟩
theorem pick3 {a b c x : Int} (h : x = 0 ∨ x = 1 ∨ x = 2) : ∃ q : Int, atO (.ol [.fr (.int a), .fr (.int b), .fr (.int c)]) (.int x) = some (.fr (.int q)) ∧ (q = a ∨ q = b ∨ q = c) := by
  rcases h with rfl | rfl | rfl
  · exact ⟨a, rfl, .inl rfl⟩
  · exact ⟨b, rfl, .inr (.inl rfl)⟩
  · exact ⟨c, rfl, .inr (.inr rfl)⟩
/-! names of a case's rows -/
def ltr (i : Nat) : Str := ⟨#[("abcdefghijklmnopqrstuvwxyz" : Str).cps.toList.getD i 0]⟩
def xy (i : Nat) : Str := ⟨#[("xy" : Str).cps.toList.getD i 0]⟩
def csName (i : Nat) : Str := ("c" : Str) ++ ltr (i % 26) ++ xy (i / 26)
theorem str_at {s : Str} {i : Nat} (h : i < s.cps.toList.length) : atO (.fr (.str s)) (.int (i : Nat)) = some (.fr (.str ⟨#[s.cps.toList.getD i 0]⟩)) := by
  show ((atI s.cps.toList (i : Int)).map fun c => O.fr (.str ⟨#[c]⟩)) = _
  rw [atI_nn (by omega) (by omega), Int.toNat_natCast, List.getElem?_eq_getElem h, List.getD_eq_getElem?_getD, List.getElem?_eq_getElem h]
  rfl
theorem len_l : ("abcdefghijklmnopqrstuvwxyz" : Str).cps.toList.length = 26 := by kernel_rfl
theorem len_x : ("xy" : Str).cps.toList.length = 2 := by kernel_rfl
theorem nm_len : ∀ i < 30, ("c" : Str).length + (ltr (i % 26)).length ≤ 16777216 ∧ (("c" : Str) ++ ltr (i % 26)).length + (xy (i / 26)).length ≤ 16777216 := by decide +kernel
theorem nm_ev {cal : Nat → List O → CRes} {e : Cr.Env} {i : Nat} (h : (e[6]?).join = some (.fr (.int (i : Nat)))) (hi : i < 30) : ev cal (.bin .Add (.bin .Add (.lit (.str "c")) (.sub (.lit (.str "abcdefghijklmnopqrstuvwxyz")) (.bin .Mod (.var 6) (.lit (.int 26))))) (.sub (.lit (.str "xy")) (.bin .FloorDiv (.var 6) (.lit (.int 26))))) e = .ok (.p (.str (csName i)), e) := by
  have m1 : binO .Mod (.fr (.int (i : Nat))) (.fr (.int 26)) = some (.fr (.int ((i % 26 : Nat) : Int))) := by
    rw [mod_int (by decide)]
    rfl
  have d1 : binO .FloorDiv (.fr (.int (i : Nat))) (.fr (.int 26)) = some (.fr (.int ((i / 26 : Nat) : Int))) := by
    rw [div_int (by decide) (by decide)]
    rfl
  have l := nm_len i hi
  exact x_bin (o := .fr (.str (csName i))) (x_bin (o := .fr (.str (("c" : Str) ++ ltr (i % 26)))) x_lit (x_sub (o := .fr (.str (ltr (i % 26)))) x_lit (x_bin (x_var h) x_lit rfl rfl rfl m1) rfl rfl (str_at (by rw [len_l]; omega))) rfl rfl rfl (add_str l.1)) (x_sub (o := .fr (.str (xy (i / 26)))) x_lit (x_bin (x_var h) x_lit rfl rfl rfl d1) rfl rfl (str_at (by rw [len_x]; omega))) rfl rfl rfl (add_str l.2)
/-! rows of a case -/
inductive CRow where
  | ground (d n : Int) | guess (b : Bool) | bound (p : Str) (a w : Int) | spare (p : Str) (n : Int) | claim (how : Str) (need : Int) (ins : List Str)
  deriving DecidableEq
def crD (nm : Str) : CRow → D
  | .ground d n => .tup [.str "ground", .str nm, .int d, .int n]
  | .guess b => .tup [.str "guess", .str nm, .bl b]
  | .bound p a w => .tup [.str "bound", .str nm, .str p, .int a, .int w]
  | .spare p n => .tup [.str "spare", .str nm, .str p, .int n]
  | .claim how need ins => .tup [.str "claim", .str nm, .str how, .int need, .tup (ins.map D.str)]
def HowC (how : Str) (need : Int) (n : Nat) : Prop := (how = "all" ∧ need = 0) ∨ (how = "any" ∧ need = 0) ∨ (how = "some" ∧ 1 ≤ need ∧ need ≤ n)
def CRowOk (parts ahead : List Str) : CRow → Prop
  | .ground d n => 0 ≤ d ∧ d ≤ 9999 ∧ 0 ≤ n ∧ n ≤ 9999
  | .guess _ => True
  | .bound p a w => p ∈ parts ∧ 0 ≤ a ∧ a ≤ w ∧ 1 ≤ w ∧ w ≤ 1000000
  | .spare p n => p ∈ parts ∧ 0 ≤ n ∧ n ≤ 6
  | .claim how need ins => 1 ≤ ins.length ∧ ins.length ≤ 6 ∧ ins.Nodup ∧ (∀ x ∈ ins, x ∈ ahead) ∧ HowC how need ins.length
abbrev nmsOf (rows : List (Str × CRow)) : List Str := rows.map (·.1)
inductive CsOk (parts : List Str) : List (Str × CRow) → Prop
  | nil : CsOk parts []
  | add {rows : List (Str × CRow)} {r : CRow} (h : CsOk parts rows) (ok : CRowOk parts (nmsOf rows) r) : CsOk parts (rows ++ [(csName rows.length, r)])
def crO (x : Str × CRow) : O := .fr (crD x.1 x.2)
abbrev Ce (h T M s3 s4 s5 s6 s7 s8 s9 s10 s11 s12 s13 s14 s15 : Option O) : Cr.Env := [h, T, M, s3, s4, s5, s6, s7, s8, s9, s10, s11, s12, s13, s14, s15]
def caseB3 : List CS := [.mut 13 none .app [.popi 9 (.sub (.lst [.bin .Sub (.bi .len [.var 9]) (.lit (.int 1)), .call 0 [0] [.io 0, .bi .len [.var 9]]]) (.call 0 [0] [.io 0, .lit (.int 2)]))]]
def caseC : List CS := [.if_ (.cmp .Eq (.var 8) (.lit (.int 2))) [.set 11 (.tup [.lit (.str "guess"), .var 7, .cmp .Gt (.call 0 [0] [.io 0, .lit (.int 4)]) (.lit (.int 0))])] [.if_ (.cmp .Eq (.var 8) (.lit (.int 3))) [.set 12 (.sub (.lst [.lit (.int 1), .lit (.int 1000000), .bin .Add (.lit (.int 1)) (.call 0 [0] [.io 0, .lit (.int 1000)])]) (.bi .min2 [.lit (.int 2), .call 0 [0] [.io 0, .lit (.int 8)]])),
        .set 11 (.tup [.lit (.str "bound"), .var 7, .sub (.var 5) (.call 0 [0] [.io 0, .bi .len [.var 5]]), .call 0 [0] [.io 0, .bin .Add (.var 12) (.lit (.int 1))], .var 12])] [.if_ (.cmp .Eq (.var 8) (.lit (.int 4))) [.set 11 (.tup [.lit (.str "spare"), .var 7, .sub (.var 5) (.call 0 [0] [.io 0, .bi .len [.var 5]]), .call 0 [0] [.io 0, .sub (.lst [.lit (.int 3), .lit (.int 7)]) (.call 0 [0] [.io 0, .lit (.int 2)])]])] [.if_ (.and [.cmp .Gt (.var 8) (.lit (.int 4)), .cmp .NotEq (.var 4) (.lst [])]) [.set 13 (.lst []),
            .for_ (.v 14) (.rng [.bi .min2 [.bi .len [.var 9], .bin .Add (.lit (.int 1)) (.call 0 [0] [.io 0, .lit (.int 6)])]]) caseB3,
            .set 15 (.sub (.lst [.lit (.str "all"), .lit (.str "any"), .lit (.str "some")]) (.call 0 [0] [.io 0, .lit (.int 3)])),
            .set 11 (.tup [.lit (.str "claim"), .var 7, .var 15, .ife (.cmp .Eq (.var 15) (.lit (.str "some"))) (.bin .Add (.lit (.int 1)) (.call 0 [0] [.io 0, .bi .len [.var 13]])) (.lit (.int 0)), .bi .tuple [.var 13]])] []]]],
    .mut 3 none .app [.var 11],
    .mut 4 none .app [.var 7]]
def caseB : List CS := .set 7 (.bin .Add (.bin .Add (.lit (.str "c")) (.sub (.lit (.str "abcdefghijklmnopqrstuvwxyz")) (.bin .Mod (.var 6) (.lit (.int 26))))) (.sub (.lit (.str "xy")) (.bin .FloorDiv (.var 6) (.lit (.int 26))))) ::
    .par 8 9 (.call 0 [0] [.io 0, .lit (.int 8)]) (.bi .list [.var 4]) ::
    .set 10 (.sub (.lst [.call 0 [0] [.io 0, .lit (.int 20)], .bin .Sub (.lit (.int 9999)) (.call 0 [0] [.io 0, .lit (.int 20)])]) (.bin .FloorDiv (.call 0 [0] [.io 0, .lit (.int 8)]) (.lit (.int 7)))) ::
    .set 11 (.tup [.lit (.str "ground"), .var 7, .var 10, .call 0 [0] [.io 0, .sub (.lst [.lit (.int 20), .lit (.int 10000)]) (.bin .FloorDiv (.call 0 [0] [.io 0, .lit (.int 6)]) (.lit (.int 5)))]]) :: caseC
section
variable {P : List Fn} {k W : Nat} {m c : Int} {l : List Int} {T M s3 s4 s5 s6 s7 s8 s9 s10 s11 s12 s13 s14 s15 : Option O}
/-- some of what is left is taken -/
theorem popsC_ok (h0 : P[0]? = some nextFn) (hl : l.length ≤ 1000) {names : List Str} (hn : 1 ≤ names.length) (hn2 : names.length ≤ 100) {Q : Fl → Cr.Env → Prop}
    (fin : ∀ m c l x14 left ins, l.length ≤ 1000 → 1 ≤ ins.length → ins.length ≤ 6 → (ins ++ left).Perm names → Q .next (Ce (some (hst m l c)) T M s3 s4 s5 s6 s7 s8 (some (strO left)) s10 s11 s12 (some (strO ins)) x14 s15)) :
    WP (evS (run P W (k + 1)) W (.for_ (.v 14) (.rng [.bi .min2 [.bi .len [.var 9], .bin .Add (.lit (.int 1)) (.call 0 [0] [.io 0, .lit (.int 6)])]]) caseB3) (Ce (some (hst m l c)) T M s3 s4 s5 s6 s7 s8 (some (strO names)) s10 s11 s12 (some (strO [])) s14 s15)) Q := by
  refine w_forN (Inv := fun i e => ∃ m c l x14 left ins, l.length ≤ 1000 ∧ ins.length = i ∧ (ins ++ left).Perm names ∧ e = Ce (some (hst m l c)) T M s3 s4 s5 s6 s7 s8 (some (strO left)) s10 s11 s12 (some (strO ins)) x14 s15) ?_
  infer_instance
  rw [len_str]
  infer_instance
  refine w_draw h0 rfl (by omega) (by omega) hl fun v m c l v0 v1 hl => ?_
  infer_instance
  refine ⟨(min (names.length : Int) (1 + v)).toNat, by rw [show (((min (names.length : Int) (1 + v)).toNat : Nat) : Int) = min (names.length : Int) (1 + v) by omega], by omega, ⟨m, c, l, s14, names, [], hl, rfl, by simp, rfl⟩, ?_, ?_⟩
  · rintro i e hi ⟨m, c, l, x14, left, ins, hl, hins, hp, rfl⟩
    have hlen := hp.length_eq
    simp only [List.length_append] at hlen
    refine ⟨_, rfl, ?_⟩
    unfold caseB3
    refine w_ss ?_
    infer_instance
    rw [len_str]
    infer_instance
    rw [len_str]
    infer_instance
    refine w_draw h0 rfl (by omega) (by omega) hl fun v m c l v0 v1 hl => ?_
    infer_instance
    refine w_draw h0 rfl (by omega) (by omega) hl fun u m c l u0 u1 hl => ?_
    infer_instance
    obtain ⟨q, hq, q0, q1⟩ := two (n := left.length) u0 u1 v0 v1
    rw [hq]
    infer_instance
    have hj : q.toNat < left.length := by omega
    rw [ixN_nn q0 (by simp only [List.length_map]; exact q1)]
    infer_instance
    rw [List.getElem?_map, List.getElem?_eq_getElem hj, erase_map]
    infer_instance
    rw [ok62 q0 (by omega)]
    infer_instance
    rw [mu_app (by simp only [List.length_map]; omega)]
    infer_instance
    refine after_next (w_ss0 ⟨rfl, m, c, l, some (.fr (.int i)), left.eraseIdx q.toNat, ins ++ [left[q.toNat]], hl, by simp [hins], ?_, by simp⟩)
    refine List.Perm.trans ?_ hp
    rw [List.append_assoc]
    exact List.Perm.append_left ins (erase_perm _ hj)
  · rintro e ⟨m, c, l, x14, left, ins, hl, hins, hp, rfl⟩
    exact fin m c l x14 left ins hl (by omega) (by omega) hp
/-- a row is put behind the others -/
theorem close_ok {cal : Nat → List O → CRes} {parts : List Str} {rows : List (Str × CRow)} (hl : l.length ≤ 1000) (ok : CsOk parts rows) (hr : rows.length ≤ 100) (r : CRow) (rok : CRowOk parts (nmsOf rows) r) {Q : Fl → Cr.Env → Prop}
    (fin : ∀ rows2, rows2.length = rows.length + 1 → CsOk parts rows2 → Q .next (Ce (some (hst m l c)) T M (some (.ol (rows2.map crO))) (some (strO (nmsOf rows2))) s5 s6 (some (.fr (.str (csName rows.length)))) s8 s9 s10 (some (.fr (crD (csName rows.length) r))) s12 s13 s14 s15)) :
    WP (evSs cal W [.mut 3 none .app [.var 11], .mut 4 none .app [.var 7]] (Ce (some (hst m l c)) T M (some (.ol (rows.map crO))) (some (strO (nmsOf rows))) s5 s6 (some (.fr (.str (csName rows.length)))) s8 s9 s10 (some (.fr (crD (csName rows.length) r))) s12 s13 s14 s15)) Q := by
  refine w_ss ?_
  infer_instance
  rw [mu_app (by simp; omega)]
  infer_instance
  refine after_next (w_ss ?_)
  infer_instance
  rw [mu_app (by simp; omega)]
  infer_instance
  refine after_next (w_ss0 ?_)
  have := fin (rows ++ [(csName rows.length, r)]) (by simp) (ok.add rok)
  have e4 : (rows ++ [(csName rows.length, r)]).map crO = rows.map crO ++ [.fr (crD (csName rows.length) r)] := by simp [crO]
  have e5 : strO (nmsOf (rows ++ [(csName rows.length, r)])) = .ol ((nmsOf rows).map (fun s => .fr (.str s)) ++ [.fr (.str (csName rows.length))]) := by simp [strO, nmsOf]
  rw [e4, e5] at this
  exact this
theorem at_str {l : List Str} {v : Int} (v0 : 0 ≤ v) (v1 : v < l.length) : ∃ p, p ∈ l ∧ atO (strO l) (.int v) = some (.fr (.str p)) := by
  have hj : v.toNat < l.length := by omega
  refine ⟨l[v.toNat], List.getElem_mem hj, ?_⟩
  show atI (l.map fun s => O.fr (.str s)) v = _
  rw [atI_nn v0 (by simpa using v1), List.getElem?_map, List.getElem?_eq_getElem hj]
  rfl
theorem shp_strs : ∀ (n : Nat) (l : List Str), shpL n (l.map D.str) = true
  | n, [] => by simp [shpL]
  | n, a :: l => by simp [shpL, shp, shp_strs n l]
theorem frz_str (l : List Str) : (strO l).frz = .lst (l.map D.str) := by
  rw [strO_eq, frz_ol, frzL_map]
theorem ne_nil (l : List Str) : cmpD .NotEq (strO l).frz (O.ol []).frz = some (!l.isEmpty) := by
  rw [frz_str]
  cases l with
  | nil => rfl
  | cons a l => simp [cmpD, shp, shp_strs, shpL, frzL, eqD, eqDL]
theorem clean_strs : ∀ l : List Str, cleanL (l.map fun s => O.fr (.str s)) = true
  | [] => rfl
  | s :: l => by simp [cleanL, O.clean, D.imm, clean_strs l]
theorem kindsC {u : Int} (u0 : 0 ≤ u) (u1 : u < 3) : ∃ z : Str, atO (.ol [.fr (.str "all"), .fr (.str "any"), .fr (.str "some")]) (.int u) = some (.fr (.str z)) ∧ (z = "all" ∨ z = "any" ∨ z = "some") := by
  have h : u = 0 ∨ u = 1 ∨ u = 2 := by omega
  rcases h with rfl | rfl | rfl
  · exact ⟨_, rfl, .inl rfl⟩
  · exact ⟨_, rfl, .inr (.inl rfl)⟩
  · exact ⟨_, rfl, .inr (.inr rfl)⟩
theorem caseC_ok (h0 : P[0]? = some nextFn) (hl : l.length ≤ 1000) {parts : List Str} (p1 : 1 ≤ parts.length) (p2 : parts.length ≤ 100) {rows : List (Str × CRow)} (ok : CsOk parts rows) (hr : rows.length ≤ 30) (nd : (nmsOf rows).Nodup) {w d n : Int} (g : CRowOk parts (nmsOf rows) (.ground d n)) {Q : Fl → Cr.Env → Prop}
    (fin : ∀ m c l rows2 x6 x7 x8 x9 x10 x11 x12 x13 x14 x15, l.length ≤ 1000 → rows2.length = rows.length + 1 → CsOk parts rows2 → Q .next (Ce (some (hst m l c)) T M (some (.ol (rows2.map crO))) (some (strO (nmsOf rows2))) (some (strO parts)) x6 x7 x8 x9 x10 x11 x12 x13 x14 x15)) :
    WP (evSs (run P W (k + 1)) W caseC (Ce (some (hst m l c)) T M (some (.ol (rows.map crO))) (some (strO (nmsOf rows))) (some (strO parts)) s6 (some (.fr (.str (csName rows.length)))) (some (.fr (.int w))) (some (strO (nmsOf rows))) s10 (some (.fr (crD (csName rows.length) (.ground d n)))) s12 s13 s14 s15)) Q := by
  unfold caseC
  refine w_ss ?_
  infer_instance
  cases h2 : (w == 2) with
  | true =>
    infer_instance
    refine w_ss ?_
    infer_instance
    refine w_draw h0 rfl (by omega) (by omega) hl fun v m c l v0 v1 hl => ?_
    infer_instance
    refine after_next (w_ss0 ?_)
    exact after_next (close_ok hl ok (by omega) (.guess _) trivial fun rows2 h1 h2 => fin _ _ _ _ _ _ _ _ _ _ _ _ _ _ hl h1 h2)
  | false =>
    infer_instance
    refine w_ss ?_
    infer_instance
    cases h3 : (w == 3) with
    | true =>
      infer_instance
      refine w_ss ?_
      infer_instance
      refine w_draw h0 rfl (by omega) (by omega) hl fun v m c l v0 v1 hl => ?_
      infer_instance
      refine w_draw h0 rfl (by omega) (by omega) hl fun u m c l u0 u1 hl => ?_
      infer_instance
      obtain ⟨q, hq, hq2⟩ := pick3 (a := 1) (b := 1000000) (c := 1 + v) (x := min 2 u) (by omega)
      rw [hq]
      infer_instance
      refine after_next (w_ss ?_)
      infer_instance
      rw [len_str]
      infer_instance
      refine w_draw h0 rfl (by omega) (by omega) hl fun v m c l v0 v1 hl => ?_
      infer_instance
      obtain ⟨p, hp, hp2⟩ := at_str v0 v1
      rw [hp2]
      infer_instance
      refine w_draw h0 rfl (by omega) (by omega) hl fun u m c l u0 u1 hl => ?_
      infer_instance
      refine after_next (w_ss0 ?_)
      refine after_next (w_ss0 ?_)
      exact after_next (close_ok hl ok (by omega) (.bound p u q) ⟨hp, by omega, by omega, by omega, by omega⟩ fun rows2 h1 h2 => fin _ _ _ _ _ _ _ _ _ _ _ _ _ _ hl h1 h2)
    | false =>
      infer_instance
      refine w_ss ?_
      infer_instance
      cases h4 : (w == 4) with
      | true =>
        infer_instance
        refine w_ss ?_
        infer_instance
        rw [len_str]
        infer_instance
        refine w_draw h0 rfl (by omega) (by omega) hl fun v m c l v0 v1 hl => ?_
        infer_instance
        obtain ⟨p, hp, hp2⟩ := at_str v0 v1
        rw [hp2]
        infer_instance
        refine w_draw h0 rfl (by omega) (by omega) hl fun u m c l u0 u1 hl => ?_
        infer_instance
        obtain ⟨q, hq, hq2⟩ := pick2 (a := 3) (b := 7) (x := u) (by omega)
        rw [hq]
        infer_instance
        refine w_draw h0 rfl (by omega) (by omega) hl fun u m c l u0 u1 hl => ?_
        infer_instance
        refine after_next (w_ss0 ?_)
        refine after_next (w_ss0 ?_)
        refine after_next (w_ss0 ?_)
        exact after_next (close_ok hl ok (by omega) (.spare p u) ⟨hp, by omega, by omega⟩ fun rows2 h1 h2 => fin _ _ _ _ _ _ _ _ _ _ _ _ _ _ hl h1 h2)
      | false =>
        infer_instance
        refine w_ss ?_
        infer_instance
        cases h5 : decide (4 < w) with
        | false =>
          infer_instance
          refine w_ss0 ?_
          refine after_next (w_ss0 ?_)
          refine after_next (w_ss0 ?_)
          refine after_next (w_ss0 ?_)
          exact after_next (close_ok hl ok (by omega) (.ground d n) g fun rows2 h1 h2 => fin _ _ _ _ _ _ _ _ _ _ _ _ _ _ hl h1 h2)
        | true =>
          infer_instance
          rw [ne_nil]
          infer_instance
          cases h6 : (nmsOf rows).isEmpty with
          | true =>
            infer_instance
            refine w_ss0 ?_
            refine after_next (w_ss0 ?_)
            refine after_next (w_ss0 ?_)
            refine after_next (w_ss0 ?_)
            exact after_next (close_ok hl ok (by omega) (.ground d n) g fun rows2 h1 h2 => fin _ _ _ _ _ _ _ _ _ _ _ _ _ _ hl h1 h2)
          | false =>
            infer_instance
            have hne : 1 ≤ (nmsOf rows).length := by
              cases hh : nmsOf rows with
              | nil => rw [hh] at h6; cases h6
              | cons a l => simp
            refine w_ss ?_
            infer_instance
            refine after_next (w_ss ?_)
            refine popsC_ok (names := nmsOf rows) h0 hl hne (by simp; omega) fun m c l x14 left ins hl i1 i6 hp => ?_
            refine after_next (w_ss ?_)
            infer_instance
            refine w_draw h0 rfl (by omega) (by omega) hl fun u m c l u0 u1 hl => ?_
            infer_instance
            obtain ⟨kd, hk, hkd⟩ := kindsC u0 u1
            rw [hk]
            infer_instance
            refine after_next (w_ss ?_)
            have ind : ins.Nodup := (List.nodup_append.mp (hp.nodup_iff.mpr nd)).1
            have isub : ∀ x ∈ ins, x ∈ nmsOf rows := fun x hx => hp.mem_iff.mp (by simp [hx])
            infer_instance
            rcases hkd with rfl | rfl | rfl
            · rw [show cmpD .Eq (.str ("all" : Str)) (.str ("some" : Str)) = some false by kernel_rfl]
              infer_instance
              rw [tup_str]
              infer_instance
              repeat (refine after_next (w_ss0 ?_))
              exact after_next (close_ok hl ok (by omega) (.claim "all" 0 ins) ⟨i1, i6, ind, isub, .inl ⟨rfl, rfl⟩⟩ fun rows2 h1 h2 => fin _ _ _ _ _ _ _ _ _ _ _ _ _ _ hl h1 h2)
            · rw [show cmpD .Eq (.str ("any" : Str)) (.str ("some" : Str)) = some false by kernel_rfl]
              infer_instance
              rw [tup_str]
              infer_instance
              repeat (refine after_next (w_ss0 ?_))
              exact after_next (close_ok hl ok (by omega) (.claim "any" 0 ins) ⟨i1, i6, ind, isub, .inr (.inl ⟨rfl, rfl⟩)⟩ fun rows2 h1 h2 => fin _ _ _ _ _ _ _ _ _ _ _ _ _ _ hl h1 h2)
            · rw [show cmpD .Eq (.str ("some" : Str)) (.str ("some" : Str)) = some true by kernel_rfl]
              infer_instance
              rw [len_str]
              infer_instance
              refine w_draw h0 rfl (by omega) (by omega) hl fun u m c l u0 u1 hl => ?_
              infer_instance
              rw [tup_str]
              infer_instance
              repeat (refine after_next (w_ss0 ?_))
              exact after_next (close_ok hl ok (by omega) (.claim "some" (1 + u) ins) ⟨i1, i6, ind, isub, .inr (.inr ⟨rfl, by omega, by omega⟩)⟩ fun rows2 h1 h2 => fin _ _ _ _ _ _ _ _ _ _ _ _ _ _ hl h1 h2)
theorem cs_names {parts : List Str} {rows : List (Str × CRow)} (h : CsOk parts rows) : nmsOf rows = (List.range rows.length).map csName := by
  induction h with
  | nil => rfl
  | add h ok ih => simp only [nmsOf, List.map_append, List.length_append, List.length_singleton, List.range_succ] at ih ⊢; rw [ih]; rfl
theorem cs_apart : ((List.range 30).map csName).Nodup := by decide +kernel
theorem cs_nodup {parts : List Str} {rows : List (Str × CRow)} (h : CsOk parts rows) (hl : rows.length ≤ 30) : (nmsOf rows).Nodup := by
  rw [cs_names h]
  exact cs_apart.sublist ((List.range_sublist.mpr hl).map csName)
theorem loopC_ok (h0 : P[0]? = some nextFn) (hl : l.length ≤ 1000) {M : Nat} (hM : M ≤ 29) {parts : List Str} (p1 : 1 ≤ parts.length) (p2 : parts.length ≤ 100) {Q : Fl → Cr.Env → Prop}
    (fin : ∀ m c l rows x6 x7 x8 x9 x10 x11 x12 x13 x14 x15, l.length ≤ 1000 → rows.length ≤ M → CsOk parts rows → Q .next (Ce (some (hst m l c)) T (some (.fr (.int M))) (some (.ol (rows.map crO))) (some (strO (nmsOf rows))) (some (strO parts)) x6 x7 x8 x9 x10 x11 x12 x13 x14 x15)) :
    WP (evS (run P W (k + 1)) W (.for_ (.v 6) (.rng [.call 0 [0] [.io 0, .bin .Add (.var 2) (.lit (.int 1))]]) caseB) (Ce (some (hst m l c)) T (some (.fr (.int M))) (some (.ol [])) (some (.ol [])) (some (strO parts)) s6 s7 s8 s9 s10 s11 s12 s13 s14 s15)) Q := by
  refine w_forN (Inv := fun i e => ∃ m c l rows x6 x7 x8 x9 x10 x11 x12 x13 x14 x15, l.length ≤ 1000 ∧ rows.length = i ∧ CsOk parts rows ∧ e = Ce (some (hst m l c)) T (some (.fr (.int M))) (some (.ol (rows.map crO))) (some (strO (nmsOf rows))) (some (strO parts)) x6 x7 x8 x9 x10 x11 x12 x13 x14 x15) ?_
  infer_instance
  refine w_draw h0 rfl (by omega) (by omega) hl fun v m c l v0 v1 hl => ?_
  infer_instance
  refine ⟨v.toNat, by rw [show ((v.toNat : Nat) : Int) = v by omega], by omega, ⟨m, c, l, [], s6, s7, s8, s9, s10, s11, s12, s13, s14, s15, hl, rfl, .nil, rfl⟩, ?_, ?_⟩
  · rintro i e hi ⟨m, c, l, rows, x6, x7, x8, x9, x10, x11, x12, x13, x14, x15, hl, hrs, ok, rfl⟩
    refine ⟨_, rfl, ?_⟩
    unfold caseB
    refine w_ss ?_
    refine ⟨_, _, x_set (nm_ev rfl (by omega)) rfl (show 7 < 16 by decide), ?_⟩
    refine after_next (w_ss ?_)
    infer_instance
    refine w_draw h0 rfl (by omega) (by omega) hl fun w m c l w0 w1 hl => ?_
    infer_instance
    rw [list_str]
    infer_instance
    refine after_next (w_ss ?_)
    infer_instance
    refine w_draw h0 rfl (by omega) (by omega) hl fun a m c l a0 a1 hl => ?_
    infer_instance
    refine w_draw h0 rfl (by omega) (by omega) hl fun b m c l b0 b1 hl => ?_
    infer_instance
    refine w_draw h0 rfl (by omega) (by omega) hl fun v m c l v0 v1 hl => ?_
    infer_instance
    rw [div_int (by decide) (by decide)]
    infer_instance
    obtain ⟨d, hd, hd2⟩ := pick2 (a := a) (b := 9999 - b) (x := v / 7) (by omega)
    rw [hd]
    infer_instance
    refine after_next (w_ss ?_)
    infer_instance
    refine w_draw h0 rfl (by omega) (by omega) hl fun v m c l v0 v1 hl => ?_
    infer_instance
    rw [div_int (by decide) (by decide)]
    infer_instance
    obtain ⟨q, hq, hq2⟩ := pick2 (a := 20) (b := 10000) (x := v / 5) (by omega)
    rw [hq]
    infer_instance
    refine w_draw h0 rfl (by omega) (by omega) hl fun n m c l n0 n1 hl => ?_
    infer_instance
    refine after_next ?_
    subst hrs
    exact caseC_ok h0 hl p1 p2 ok (by omega) (cs_nodup ok (by omega)) (d := d) (n := n) ⟨by omega, by omega, by omega, by omega⟩ fun m c l rows2 x6 x7 x8 x9 x10 x11 x12 x13 x14 x15 hl h1 h2 => ⟨rfl, m, c, l, rows2, x6, x7, x8, x9, x10, x11, x12, x13, x14, x15, hl, h1, h2, rfl⟩
  · rintro e ⟨m, c, l, rows, x6, x7, x8, x9, x10, x11, x12, x13, x14, x15, hl, hrs, ok, rfl⟩
    exact fin m c l rows x6 x7 x8 x9 x10 x11 x12 x13 x14 x15 hl (by omega) ok
def partsOf (es : List (Str × Int)) (rs : List Rw) : List Str := es.map (·.1) ++ rs.map (·.nm)
theorem names_run (h3 : P[3]? = some f__law_names) {es : List (Str × Int)} {rs : List Rw} (hl : es.length + rs.length ≤ 1000) : run P W (k + 1) 3 [.fr (treeD es rs)] = .ok (strO (partsOf es rs)) [] := by
  let ds : List D := es.map evD ++ rs.map fun r => .tup [.str r.nm, .str r.kind, .int r.need, .tup (r.ins.map D.str)]
  have hlen : ds.length = es.length + rs.length := by simp [ds]
  have hadd : binO .Add (.fr (.tup (es.map evD))) (.fr (.tup (rs.map fun r => .tup [.str r.nm, .str r.kind, .int r.need, .tup (r.ins.map D.str)]))) = some (.fr (.tup ds)) := by
    simp only [binO, O.items, lineOk, List.length_map]
    rw [if_pos (by simp only [decide_eq_true_eq]; omega)]
  have hsrc : evSr (run P W k) (.seq (.bin .Add (.sub (.var 0) (.lit (.int 0))) (.sub (.var 0) (.lit (.int 1))))) [some (.fr (treeD es rs)), none] = .ok (ds, false, [some (.fr (treeD es rs)), none]) :=
    x_seq (bb := true) (d := .tup ds) (x_bin (o := .fr (.tup ds)) (x_sub (x_var rfl) x_lit rfl rfl rfl) (x_sub (x_var rfl) x_lit rfl rfl rfl) rfl rfl rfl hadd) rfl
  have h1 : ev (run P W k) (.lc [1] (.v 1) (.seq (.bin .Add (.sub (.var 0) (.lit (.int 0))) (.sub (.var 0) (.lit (.int 1))))) [] (.sub (.var 1) (.lit (.int 0)))) [some (.fr (treeD es rs)), none] = .ok (.t (.ol (ds.filterMap fun d => atO (.fr d) (.int 0))), [some (.fr (treeD es rs)), none]) := by
    refine x_lc hsrc rfl (by omega) fun d hd => ?_
    have hs : ∃ s l, d = .tup (.str s :: l) := by
      rcases List.mem_append.mp hd with z | z
      · obtain ⟨x, _, rfl⟩ := List.mem_map.mp z
        exact ⟨_, _, rfl⟩
      · obtain ⟨x, _, rfl⟩ := List.mem_map.mp z
        exact ⟨_, _, rfl⟩
    obtain ⟨s, l, rfl⟩ := hs
    have h0 : atO (.fr (.tup (.str s :: l))) (.int 0) = some (.fr (.str s)) := at_t0
    rw [h0]
    exact x_turn (e1 := [some (.fr (treeD es rs)), some (.fr (.tup (.str s :: l)))]) (h := .p (.str s)) rfl (x_sub (o := .fr (.str s)) (x_var rfl) x_lit rfl rfl h0) rfl rfl rfl
  have e2 : ds.filterMap (fun d => atO (.fr d) (.int 0)) = (partsOf es rs).map fun s => O.fr (.str s) := by
    simp only [ds, partsOf, List.filterMap_append, List.map_append, List.filterMap_map, List.map_map]
    have e3 : ((fun d => atO (O.fr d) (D.int 0)) ∘ evD) = fun x : Str × Int => some (O.fr (.str x.1)) := by funext x; rfl
    have e4 : ((fun d => atO (O.fr d) (D.int 0)) ∘ fun r : Rw => D.tup [.str r.nm, .str r.kind, .int r.need, .tup (r.ins.map D.str)]) = fun r : Rw => some (O.fr (.str r.nm)) := by funext x; rfl
    rw [e3, e4, List.filterMap_eq_map', List.filterMap_eq_map']
    rfl
  rw [e2] at h1
  exact run_of h3 rfl rfl (x_ssr (x_ret h1 rfl))
theorem case_ok (h0 : P[0]? = some nextFn) (h3 : P[3]? = some f__law_names) (h4 : P[4]? = some f__law_case) (hl : l.length ≤ 1000) {M E R : Nat} (hM : M ≤ 29) {es : List (Str × Int)} {rs : List Rw} (ht : TreeOk es rs E R) (hE : E ≤ 10) (hR : R ≤ 11) :
    ∃ m' c' l' rows, run P W (k + 2) 4 [hst m l c, .fr (treeD es rs), .fr (.int M)] = .ok (.ol (rows.map crO)) [hst m' l' c'] ∧ l'.length ≤ 1000 ∧ rows.length ≤ M ∧ CsOk (partsOf es rs) rows := by
  have e1 := ht.e1
  have e2 := ht.e2
  have r1 := ht.r1
  have main : WP (evSs (run P W (k + 1)) W f__law_case.body (Ce (some (hst m l c)) (some (.fr (treeD es rs))) (some (.fr (.int M))) none none none none none none none none none none none none none)) fun fl e => ∃ m' c' l' rows r, fl = .ret (.ol (rows.map crO)) ∧ e = some (hst m' l' c') :: r ∧ l'.length ≤ 1000 ∧ rows.length ≤ M ∧ CsOk (partsOf es rs) rows := by
    unfold f__law_case
    refine w_ss ?_
    infer_instance
    refine w_call (os := [.fr (treeD es rs)]) rfl rfl (names_run h3 (by omega)) rfl (by simp [O.clean, cleanL, clean_strs]) ?_
    infer_instance
    refine after_next (w_ss ?_)
    refine loopC_ok h0 hl hM (parts := partsOf es rs) (by simp [partsOf]; omega) (by simp [partsOf]; omega) fun m c l rows x6 x7 x8 x9 x10 x11 x12 x13 x14 x15 hl hr ok => ?_
    refine after_next (w_ss ?_)
    infer_instance
    exact after_ret ⟨m, c, l, rows, _, rfl, rfl, hl, hr, ok⟩
  obtain ⟨fl, e, hb, m', c', l', rows, r, rfl, rfl, hl', hr, ok⟩ := main
  exact ⟨m', c', l', rows, run_io h4 rfl rfl hb rfl, hl', hr, ok⟩
end
end Sh
end

section
namespace Sh
open PySem L2 Cr
def odO (l : List (Key × D)) : List (Key × O) := l.map fun p => (p.1, .fr p.2)
abbrev selfT (a b : O) : O := .oi 0 [("chances", a), ("needs", b)]
theorem fld_ch {a b : O} : fldO (selfT a b) "chances" = some a := by kernel_rfl
theorem fld_nd {a b : O} : fldO (selfT a b) "needs" = some b := by kernel_rfl
theorem place_ch {a b : O} {r : List (Option O)} : place (some (selfT a b) :: r) 0 (some "chances") = some a := by kernel_rfl
theorem place_nd {a b : O} {r : List (Option O)} : place (some (selfT a b) :: r) 0 (some "needs") = some b := by kernel_rfl
theorem put_ch {a b o : O} {r : List (Option O)} : putPlace (some (selfT a b) :: r) 0 (some "chances") o = some (some (selfT o b) :: r) := by kernel_rfl
theorem put_nd {a b o : O} {r : List (Option O)} : putPlace (some (selfT a b) :: r) 0 (some "needs") o = some (some (selfT a o) :: r) := by kernel_rfl
theorem part_no {i : Nat} {l : List (Key × O)} : (Hd.n i).part (.od l) = .q (.od l) := rfl
theorem frzK_od : ∀ l : List (Key × D), frzK (odO l) = l
  | [] => rfl
  | (k, d) :: l => by
    show (k, (O.fr d).frz) :: frzK (odO l) = _
    rw [frzK_od l]
    rfl
theorem frz_od {l : List (Key × D)} : (O.od (odO l)).frz = .dic l := by simp only [O.frz, frzK_od]
theorem in_dic {s : Str} {l : List (Key × D)} : cmpD .In (.str s) (.dic l) = some (kget l (.inr s)).isSome := rfl
theorem notin_dic {s : Str} {l : List (Key × D)} : cmpD .NotIn (.str s) (.dic l) = some (!(kget l (.inr s)).isSome) := rfl
theorem kget_none {α : Type} {l : List (Key × α)} {k : Key} (h : ∀ p ∈ l, p.1 ≠ k) : kget l k = none := by
  unfold kget
  rw [List.find?_eq_none.mpr]
  · rfl
  · intro p hp
    simp [h p hp]
theorem kget_some {α : Type} {l : List (Key × α)} {k : Key} (h : k ∈ l.map (·.1)) : (kget l k).isSome = true := by
  unfold kget
  obtain ⟨p, hp, rfl⟩ := List.mem_map.mp h
  rw [Option.isSome_map, List.find?_isSome]
  exact ⟨p, hp, by simp⟩
theorem put_dic {l : List (Key × D)} {s : Str} {d : D} (hl : l.length + 1 ≤ 16777216) (h : ∀ p ∈ l, p.1 ≠ .inr s) : Cr.putAt (.od (odO l)) (.str s) (.fr d) = some (.od (odO (l ++ [(.inr s, d)]))) := by
  have hn : ((odO l).any fun p => decide (p.1 = (.inr s : Key))) = false := by
    rw [List.any_eq_false]
    intro p hp
    obtain ⟨q, hq, rfl⟩ := List.mem_map.mp hp
    simp [h q hq]
  have hk : lineOk ((odO l).length + 1) = true := by simp only [lineOk, odO, List.length_map, hl, decide_true]
  simp only [Cr.putAt, keyD, hk, O.isFr, Bool.and_self, if_true, kput, hn, Bool.false_eq_true, if_false]
  simp [odO]
local macro_rules
  | `(tactic| infer_instance) => `(tactic| repeat (first | rw [WP_bind] | rw [WP_ok] | (refine WP_of_eq (by simp only [io0, io1, ev.eq_1, ev.eq_2, ev.eq_3, ev.eq_5, ev.eq_6, ev.eq_7, ev.eq_8, ev.eq_9, ev.eq_10, ev.eq_12, ev.eq_13, ev.eq_14, ev.eq_15, ev.eq_16, ev.eq_17, ev.eq_18, ev.eq_19, ev.eq_23, ev.eq_28, ev.eq_29, ev.eq_30, evs, evS.eq_1, evS.eq_2, evS.eq_3, evS.eq_4, evS.eq_5, eq_int, ne_int, evS.eq_8, evS.eq_9, evS.eq_10, evS.eq_11, evS.eq_13, evS.eq_16, Option.isNone_none, fld_ch, fld_nd, place_ch, place_nd, put_ch, put_nd, part_no, frz_od, in_dic, evAnd, evOr, boolH, List.getElem?_cons_zero, List.getElem?_cons_succ, join_some, get_p, get_t, get_q, get_n, isq_p, isq_t, isq_n, isq_q, val_p, val_t, view_p, view_t, view_q, view_n, mkh_fr, mkh_ol, mkh_ot, part_fr, part_n, part_t, part_q, add_int, sub_int, min2_int, lt_int, le_int, gt_int, ge_int, Bool.not_false, Bool.not_true, Bool.true_or, Bool.or_true, Bool.false_or, if_true, if_false, Bool.false_eq_true, setS, List.length_cons, List.length_nil, Nat.reduceAdd, Nat.reduceLT, List.set_cons_zero, List.set_cons_succ, List.map_cons, List.map_nil, allSome, Option.map_some, Option.bind_some, lineOk, Nat.zero_le, Nat.reduceLeDiff, decide_true, stayOk, Bool.and_true, Bool.true_and, Bool.and_self, mkT, leafs, Bool.not_eq_true', Option.isNone_some]; exact rfl) ?_)))



/-! names -/
def Good (s : Str) : Prop := 1 ≤ s.length ∧ s.length ≤ 8 ∧ ∀ c ∈ s.cps.toList, c ∈ ("abcdefghijklmnopqrstuvwxyz" : Str).cps.toList
instance (s : Str) : Decidable (Good s) := inferInstanceAs (Decidable (_ ∧ _ ∧ _))
theorem good_ev : ∀ i < 10, Good (evName i) := by decide +kernel
theorem good_rw : ∀ i < 12, Good (rwName i) := by decide +kernel
theorem good_cs : ∀ i < 30, Good (csName i) := by decide +kernel
theorem bools_true : ∀ n : Nat, boolsD (List.replicate n (.bl true)) = some (List.replicate n true)
  | 0 => rfl
  | n + 1 => by simp [List.replicate_succ, boolsD, bools_true n]
theorem all_true (n : Nat) : biO .all [.ol (List.replicate n (.fr (.bl true)))] = some (.fr (.bl true)) := by
  have h : List.replicate n (O.fr (.bl true)) = (List.replicate n (D.bl true)).map O.fr := by simp
  rw [h]
  simp only [biO, O.items, leafs_fr, Option.map_some, bools_true]
  simp
theorem filterMap_const {α β : Type} (b : β) : ∀ l : List α, l.filterMap (fun _ => some b) = List.replicate l.length b
  | [] => rfl
  | a :: l => by simp [List.replicate_succ, filterMap_const b l]
section
variable {P : List Fn} {k W : Nat}
theorem x_and2 {cal : Nat → List O → CRes} {e e1 e2 : Cr.Env} {a b : CE} {h : Hd} (h1 : ev cal a e = .ok (.p (.bl true), e1)) (h2 : ev cal b e1 = .ok (h, e2)) : ev cal (.and [a, b]) e = .ok (h, e2) := by
  rw [ev.eq_12]
  simp only [evAnd, h1, bok, boolh, h2]
theorem x_or2 {cal : Nat → List O → CRes} {e : Cr.Env} {a b : CE} {p q : Bool} (h1 : ev cal a e = .ok (.p (.bl p), e)) (h2 : ev cal b e = .ok (.p (.bl q), e)) : ev cal (.or [a, b]) e = .ok (.p (.bl (p || q)), e) := by
  rw [ev.eq_13]
  cases p with
  | true => simp only [evOr, h1, bok, boolh, Bool.true_or]
  | false => simp only [evOr, h1, h2, bok, boolh, Bool.false_or]
theorem x_seqS {cal : Nat → List O → CRes} {e : Cr.Env} {a : CE} {s : Str} (h : ev cal a e = .ok (.p (.str s), e)) : evSr cal (.seq a) e = .ok (signs s, false, e) := by
  rw [evSr, h]
  rfl
theorem name_run (h5 : P[5]? = some f_is_name) {s : Str} (g : Good s) : run P W (k + 1) 5 [.fr (.str s)] = .ok (.fr (.bl true)) [] := by
  obtain ⟨g1, g2, g3⟩ := g
  have h1 : ev (run P W k) (.lc [1] (.v 1) (.seq (.var 0)) [] (.cmp .In (.var 1) (.glob "LETTERS" (.str "abcdefghijklmnopqrstuvwxyz")))) [some (.fr (.str s)), none] = .ok (.t (.ol ((signs s).filterMap fun _ => some (.fr (.bl true)))), [some (.fr (.str s)), none]) := by
    have hlen : (signs s).length ≤ 16777216 := by
      have e : (signs s).length = s.length := by simp [signs]; rfl
      omega
    refine x_lc (x_seqS (x_var rfl)) rfl hlen fun d hd => ?_
    obtain ⟨c, hc, rfl⟩ := List.mem_map.mp hd
    have hin : cmpD .In (.str ⟨#[c]⟩) (.str "abcdefghijklmnopqrstuvwxyz") = some true := by
      show some (decide (c ∈ ("abcdefghijklmnopqrstuvwxyz" : Str).cps.toList)) = _
      rw [decide_eq_true (g3 c hc)]
    exact x_turn (e1 := [some (.fr (.str s)), some (.fr (.str ⟨#[c]⟩))]) (h := .p (.bl true)) rfl (x_cmp (x_var rfl) x_glob rfl rfl rfl hin) rfl rfl rfl
  rw [filterMap_const] at h1
  have h2 : ev (run P W k) (.bi .all [.lc [1] (.v 1) (.seq (.var 0)) [] (.cmp .In (.var 1) (.glob "LETTERS" (.str "abcdefghijklmnopqrstuvwxyz")))]) [some (.fr (.str s)), none] = .ok (.p (.bl true), [some (.fr (.str s)), none]) := x_bi (x_as h1 x_as0) rfl rfl (all_true _)
  have h3 : ev (run P W k) (.bi .len [.var 0]) [some (.fr (.str s)), none] = .ok (.p (.int s.length), [some (.fr (.str s)), none]) := x_bi (o := .fr (.int s.length)) (x_as (x_var rfl) x_as0) rfl rfl rfl
  have h4 : ev (run P W k) (.cmp2 .LtE .LtE (.lit (.int 1)) (.bi .len [.var 0]) (.glob "MOST_SIGNS" (.int 8))) [some (.fr (.str s)), none] = .ok (.p (.bl true), [some (.fr (.str s)), none]) :=
    x_cmp2 x_lit h3 (by rw [le_int, decide_eq_true (by omega)]) x_glob (by rw [le_int, decide_eq_true (by omega)])
  exact run_of (e := [some (.fr (.str s)), none]) h5 rfl rfl (x_ssr (x_ret (h := .p (.bl true)) (x_and2 h4 h2) rfl))
abbrev bookD (ch nd : List (Key × D)) : D := .ins 0 [("chances", .dic ch), ("needs", .dic nd)]
theorem fldb_ch {ch nd : List (Key × D)} : fldO (.fr (bookD ch nd)) "chances" = some (.fr (.dic ch)) := by kernel_rfl
theorem fldb_nd {ch nd : List (Key × D)} : fldO (.fr (bookD ch nd)) "needs" = some (.fr (.dic nd)) := by kernel_rfl
theorem x_fld {cal : Nat → List O → CRes} {e e1 : Cr.Env} {a : CE} {f : Str} {h : Hd} {o o2 : O} (h1 : ev cal a e = .ok (h, e1)) (g : h.get e1 = some o) (h2 : fldO o f = some o2) : ev cal (.fld a f) e = .ok (h.part o2, e1) := by
  rw [ev.eq_23, h1]
  simp only [bok, g, h2]
theorem there_run (h7 : P[7]? = some f_Tree_is_there) {ch nd : List (Key × D)} {s : Str} : run P W (k + 1) 7 [.fr (bookD ch nd), .fr (.str s)] = .ok (.fr (.bl ((kget ch (.inr s)).isSome || (kget nd (.inr s)).isSome))) [] := by
  have a : ev (run P W k) (.cmp .In (.var 1) (.fld (.var 0) "chances")) [some (.fr (bookD ch nd)), some (.fr (.str s))] = .ok (.p (.bl (kget ch (.inr s)).isSome), [some (.fr (bookD ch nd)), some (.fr (.str s))]) := x_cmp (x_var rfl) (x_fld (x_var rfl) rfl fldb_ch) rfl rfl rfl in_dic
  have b : ev (run P W k) (.cmp .In (.var 1) (.fld (.var 0) "needs")) [some (.fr (bookD ch nd)), some (.fr (.str s))] = .ok (.p (.bl (kget nd (.inr s)).isSome), [some (.fr (bookD ch nd)), some (.fr (.str s))]) := x_cmp (x_var rfl) (x_fld (x_var rfl) rfl fldb_nd) rfl rfl rfl in_dic
  exact run_of (e := [some (.fr (bookD ch nd)), some (.fr (.str s))]) h7 rfl rfl (x_ssr (x_ret (x_or2 a b) rfl))
theorem uniq_app : ∀ (l acc : List Str), (acc ++ l).Nodup → l.foldl addS acc = acc ++ l
  | [], acc, _ => by simp
  | a :: l, acc, h => by
    have ha : a ∉ acc := fun z => by
      have := (List.nodup_append.mp h).2.2 a z a (by simp)
      exact this rfl
    have e : addS acc a = acc ++ [a] := by
      unfold addS
      simp [ha]
    rw [List.foldl_cons, e, uniq_app l (acc ++ [a]) (by simpa using h)]
    simp
theorem uniq_len {l : List Str} (h : l.Nodup) : (uniq l).length = l.length := by
  unfold uniq
  rw [uniq_app l [] (by simpa using h)]
  simp
theorem strs_of : ∀ l : List Str, strsD (l.map D.str) = some l
  | [] => rfl
  | s :: l => by simp [strsD, strs_of l]
theorem cmp_res {op : CmpOp} {dx dy : D} {b : Bool} {E : Cr.Env} (h : cmpD op dx dy = some b) : (match cmpD op dx dy with
    | some k => (Res.ok (Hd.p (.bl k), E) : Res (Hd × Cr.Env))
    | none => .er) = .ok (.p (.bl b), E) := by rw [h]
theorem x_mcall {cal : Nat → List O → CRes} {m : Str} {c f : Nat} {io : List Nat} {a : CE} {as : List CE} {e e1 : Cr.Env} {h : Hd} {o : O} {Q : Hd → Cr.Env → Prop} (h1 : ev cal a e = .ok (h, e1)) (g : h.get e1 = some o) (hc : (clsO o == some c && (fldO o m).isNone) = true)
    (k : WP (evs cal as e1) fun hs e2 => WP (callF cal f io (a :: as) (h :: hs) e2) Q) : WP (ev cal (.mcall m c f io a as) e) Q := by
  obtain ⟨hs, e2, h3, k⟩ := k
  obtain ⟨v, e3, h4, hq⟩ := k
  exact ⟨v, e3, by rw [ev.eq_27, h1]; simp only [bok, g, hc, if_true, h3, h4], hq⟩
theorem x_mcall0 {cal : Nat → List O → CRes} {m : Str} {c f : Nat} {a : CE} {as : List CE} {e e1 e2 : Cr.Env} {h : Hd} {hs : List Hd} {o r : O} {os : List O} (h1 : ev cal a e = .ok (h, e1)) (g : h.get e1 = some o) (hc : (clsO o == some c && (fldO o m).isNone) = true) (h2 : evs cal as e1 = .ok (hs, e2))
    (hk : (stayOk (h :: hs) (a :: as) && ioOk (h :: hs) && ioPos (h :: hs) 0 == []) = true) (ha : allSome ((h :: hs).map fun h => h.arg e2) = some os) (hr : cal f os = .ok r []) (hp : putOuts (ioSlots (h :: hs)) [] e2 = some e2) (hcl : (r.clean && cleanL []) = true) : ev cal (.mcall m c f [] a as) e = .ok (mkH r, e2) := by
  rw [ev.eq_27, h1]
  simp only [bok, g, hc, if_true, h2, callF, hk, ha, hr, hp, hcl]
theorem x_ife {cal : Nat → List O → CRes} {a b c : CE} {e e1 e2 : Cr.Env} {h : Hd} {p : Bool} (h1 : ev cal c e = .ok (.p (.bl p), e1)) (h2 : (if p = true then ev cal a e1 else ev cal b e1) = .ok (h, e2)) : ev cal (.ife c a b) e = .ok (h, e2) := by
  rw [ev.eq_15, h1]
  cases p <;> simpa [-Res.bind] using h2
theorem x_lens {cal : Nat → List O → CRes} {a : CE} {e e1 : Cr.Env} {d : D} {l : List Str} (h1 : ev cal a e = .ok (.p d, e1)) (hd : (O.fr d).items = some (true, l.map D.str)) (hn : l.Nodup) (hl : l.length ≤ 100) : ev cal (.lens a) e = .ok (.p (.int l.length), e1) := by
  have hu : (uniq l).length = l.length := uniq_len hn
  rw [ev.eq_24, h1]
  simp only [bok, get_p, hd, strs_of]
  rw [if_pos (by simp only [decide_eq_true_eq]; omega), hu]
theorem boolF {b : Bool} (h : b = false) : some b = some false := by rw [h]
/-! a row of a tree is let by -/
def rwD (r : Rw) : D := .tup [.str r.nm, .str r.kind, .int r.need, .tup (r.ins.map D.str)]
abbrev Re (s r n kd nd is o : Option O) : Cr.Env := [s, r, n, kd, nd, is, o]
theorem isrow_run (h5 : P[5]? = some f_is_name) (h7 : P[7]? = some f_Tree_is_there) (h8 : P[8]? = some f_Tree_is_row) {ch nd : List (Key × D)} {r : Rw} (g : Good r.nm) (n1 : kget ch (.inr r.nm) = none) (n2 : kget nd (.inr r.nm) = none) (i1 : 1 ≤ r.ins.length) (i6 : r.ins.length ≤ 6) (hn : r.ins.Nodup)
    (ht : ∀ x ∈ r.ins, ((kget ch (.inr x)).isSome || (kget nd (.inr x)).isSome) = true) (how : HowOk r.kind r.need r.ins.length) : run P W (k + 2) 8 [.fr (bookD ch nd), .fr (rwD r)] = .ok (.fr (.bl true)) [] := by
  have main : WP (evSs (run P W (k + 1)) W f_Tree_is_row.body (Re (some (.fr (bookD ch nd))) (some (.fr (rwD r))) none none none none none)) fun fl e => fl = .ret (.fr (.bl true)) := by
    unfold f_Tree_is_row
    refine w_ss ?_
    infer_instance
    refine WP_of_eq (r' := .ok (.next, Re (some (.fr (bookD ch nd))) (some (.fr (rwD r))) (some (.fr (.str r.nm))) (some (.fr (.str r.kind))) (some (.fr (.int r.need))) (some (.fr (.tup (r.ins.map D.str)))) none)) (by rfl) ?_
    rw [WP_ok]
    refine after_next (w_ss ?_)
    infer_instance
    refine w_call (os := [.fr (.str r.nm)]) rfl rfl (name_run h5 g) rfl rfl ?_
    infer_instance
    have ht0 : run P W (k + 1) 7 [.fr (bookD ch nd), .fr (.str r.nm)] = .ok (.fr (.bl false)) [] := by
      rw [there_run h7, n1, n2]
      rfl
    refine x_mcall (x_var rfl) rfl (by kernel_rfl) ?_
    infer_instance
    refine w_call (os := [.fr (bookD ch nd), .fr (.str r.nm)]) rfl rfl ht0 rfl rfl ?_
    infer_instance
    have hk : cmpD .NotIn (.str r.kind) (.tup [.str "and", .str "or", .str "some"]) = some false := by
      rcases how with ⟨h, _⟩ | ⟨h, _⟩ | ⟨h, _⟩ <;> rw [h] <;> kernel_rfl
    refine WP_of_eq (cmp_res hk) ?_
    infer_instance
    refine w_ss0 (after_next (w_ss ?_))
    have hlen : ∀ cal, ev cal (.bi .len [.var 5]) (Re (some (.fr (bookD ch nd))) (some (.fr (rwD r))) (some (.fr (.str r.nm))) (some (.fr (.str r.kind))) (some (.fr (.int r.need))) (some (.fr (.tup (r.ins.map D.str)))) none) = .ok (.p (.int r.ins.length), Re (some (.fr (bookD ch nd))) (some (.fr (rwD r))) (some (.fr (.str r.nm))) (some (.fr (.str r.kind))) (some (.fr (.int r.need))) (some (.fr (.tup (r.ins.map D.str)))) none) := fun cal => x_bi (o := .fr (.int r.ins.length)) (x_as (x_var rfl) x_as0) rfl rfl (by simp [biO, O.frz])
    have hc1 := x_cmp2 (k := true) (x_lit (cal := run P W (k + 1)) (d := .int 1)) (hlen _) (o1 := .LtE) (o2 := .LtE) (by rw [le_int, decide_eq_true (by omega)]) (x_glob (g := "MOST_INPUTS") (d := .int 6)) (by rw [le_int, decide_eq_true (by omega)])
    have hls := x_lens (cal := run P W (k + 1)) (a := .var 5) (e := Re (some (.fr (bookD ch nd))) (some (.fr (rwD r))) (some (.fr (.str r.nm))) (some (.fr (.str r.kind))) (some (.fr (.int r.need))) (some (.fr (.tup (r.ins.map D.str)))) none) (l := r.ins) (x_var rfl) rfl hn (by omega)
    refine ⟨_, _, x_iff (r := false) (x_or2 (x_not hc1) (x_cmp hls (hlen _) rfl rfl rfl (by show cmpD .Lt (.int _) (.int _) = _; rw [lt_int, decide_eq_false (by omega)]))) rfl x_ss0, ?_⟩
    refine after_next (w_ss ?_)
    have hlc : ev (run P W (k + 1)) (.lc [6] (.v 6) (.seq (.var 5)) [] (.mcall "is_there" 0 7 [] (.var 0) [.var 6])) (Re (some (.fr (bookD ch nd))) (some (.fr (rwD r))) (some (.fr (.str r.nm))) (some (.fr (.str r.kind))) (some (.fr (.int r.need))) (some (.fr (.tup (r.ins.map D.str)))) none) =
        .ok (.t (.ol ((r.ins.map D.str).filterMap fun _ => some (.fr (.bl true)))), Re (some (.fr (bookD ch nd))) (some (.fr (rwD r))) (some (.fr (.str r.nm))) (some (.fr (.str r.kind))) (some (.fr (.int r.need))) (some (.fr (.tup (r.ins.map D.str)))) none) := by
      refine x_lc (x_seq (bb := true) (x_var rfl) rfl) rfl (by simp; omega) fun d hd => ?_
      obtain ⟨x, hx, rfl⟩ := List.mem_map.mp hd
      have hx1 : run P W (k + 1) 7 [.fr (bookD ch nd), .fr (.str x)] = .ok (.fr (.bl true)) [] := by rw [there_run h7, ht x hx]
      exact x_turn (e1 := Re (some (.fr (bookD ch nd))) (some (.fr (rwD r))) (some (.fr (.str r.nm))) (some (.fr (.str r.kind))) (some (.fr (.int r.need))) (some (.fr (.tup (r.ins.map D.str)))) (some (.fr (.str x)))) (h := .p (.bl true)) rfl (x_mcall0 (x_var rfl) rfl (by kernel_rfl) (x_as (x_var rfl) x_as0) rfl rfl hx1 rfl rfl) rfl rfl rfl
    rw [filterMap_const] at hlc
    refine ⟨_, _, x_iff (r := false) (x_not (r := true) (x_bi (x_as hlc x_as0) rfl rfl (all_true _))) rfl x_ss0, ?_⟩
    refine after_next (w_ss ?_)
    have last : ev (run P W (k + 1)) (.ife (.cmp .Eq (.var 3) (.glob "SOME" (.str "some"))) (.cmp2 .LtE .LtE (.lit (.int 1)) (.var 4) (.bi .len [.var 5])) (.cmp .Eq (.var 4) (.lit (.int 0)))) (Re (some (.fr (bookD ch nd))) (some (.fr (rwD r))) (some (.fr (.str r.nm))) (some (.fr (.str r.kind))) (some (.fr (.int r.need))) (some (.fr (.tup (r.ins.map D.str)))) none) = .ok (.p (.bl true), Re (some (.fr (bookD ch nd))) (some (.fr (rwD r))) (some (.fr (.str r.nm))) (some (.fr (.str r.kind))) (some (.fr (.int r.need))) (some (.fr (.tup (r.ins.map D.str)))) none) := by
      have low : ∀ b, cmpD .Eq (.str r.kind) (.str "some") = some b → (b = true → 1 ≤ r.need ∧ r.need ≤ r.ins.length) → (b = false → r.need = 0) → ev (run P W (k + 1)) (.ife (.cmp .Eq (.var 3) (.glob "SOME" (.str "some"))) (.cmp2 .LtE .LtE (.lit (.int 1)) (.var 4) (.bi .len [.var 5])) (.cmp .Eq (.var 4) (.lit (.int 0)))) (Re (some (.fr (bookD ch nd))) (some (.fr (rwD r))) (some (.fr (.str r.nm))) (some (.fr (.str r.kind))) (some (.fr (.int r.need))) (some (.fr (.tup (r.ins.map D.str)))) none) = .ok (.p (.bl true), Re (some (.fr (bookD ch nd))) (some (.fr (rwD r))) (some (.fr (.str r.nm))) (some (.fr (.str r.kind))) (some (.fr (.int r.need))) (some (.fr (.tup (r.ins.map D.str)))) none) := by
        intro b hb h1 h2
        refine x_ife (p := b) (x_cmp (x_var rfl) x_glob rfl rfl rfl hb) ?_
        cases b with
        | true =>
          obtain ⟨a1, a2⟩ := h1 rfl
          exact x_cmp2 (k := true) x_lit (x_var rfl) (by rw [le_int, decide_eq_true (by omega)]) (hlen _) (by rw [le_int, decide_eq_true (by omega)])
        | false =>
          have a1 := h2 rfl
          exact x_cmp (x_var rfl) x_lit rfl rfl rfl (by show cmpD .Eq (.int _) (.int _) = _; rw [eq_int, a1]; rfl)
      rcases how with ⟨h, h'⟩ | ⟨h, h'⟩ | ⟨h, h', h''⟩
      · exact low false (by rw [h]; kernel_rfl) (fun z => by cases z) fun _ => h'
      · exact low false (by rw [h]; kernel_rfl) (fun z => by cases z) fun _ => h'
      · exact low true (by rw [h]; kernel_rfl) (fun _ => ⟨h', h''⟩) fun z => by cases z
    exact ⟨_, _, x_ret last rfl, after_ret rfl⟩
  obtain ⟨fl, e, hb, rfl⟩ := main
  exact run_of h8 rfl rfl hb
end
end Sh
end

section
namespace Sh
open PySem L2 Cr
theorem frz_nil : (O.od []).frz = .dic [] := by kernel_rfl
theorem eq_dic0 {l : List (Key × D)} : cmpD .Eq (.dic l) (.dic []) = some l.isEmpty := rfl
local macro_rules
  | `(tactic| infer_instance) => `(tactic| repeat (first | rw [WP_bind] | rw [WP_ok] | (refine WP_of_eq (by simp only [io0, io1, ev.eq_1, ev.eq_2, ev.eq_3, ev.eq_5, ev.eq_6, ev.eq_7, ev.eq_8, ev.eq_9, ev.eq_10, ev.eq_12, ev.eq_13, ev.eq_14, ev.eq_15, ev.eq_16, ev.eq_17, ev.eq_18, ev.eq_19, ev.eq_23, ev.eq_28, ev.eq_29, ev.eq_30, evs, evS.eq_1, evS.eq_2, evS.eq_3, evS.eq_4, evS.eq_5, eq_int, ne_int, evS.eq_8, evS.eq_9, evS.eq_10, evS.eq_11, evS.eq_13, evS.eq_16, Option.isNone_none, fld_ch, fld_nd, place_ch, place_nd, put_ch, put_nd, part_no, frz_od, in_dic, evAnd, evOr, boolH, List.getElem?_cons_zero, List.getElem?_cons_succ, join_some, get_p, get_t, get_q, get_n, isq_p, isq_t, isq_n, isq_q, val_p, val_t, view_p, view_t, view_q, view_n, mkh_fr, mkh_ol, mkh_ot, part_fr, part_n, part_t, part_q, add_int, sub_int, min2_int, lt_int, le_int, gt_int, ge_int, Bool.not_false, Bool.not_true, Bool.true_or, Bool.or_true, Bool.false_or, if_true, if_false, Bool.false_eq_true, setS, List.length_cons, List.length_nil, Nat.reduceAdd, Nat.reduceLT, List.set_cons_zero, List.set_cons_succ, List.map_cons, List.map_nil, allSome, Option.map_some, Option.bind_some, lineOk, Nat.zero_le, Nat.reduceLeDiff, decide_true, stayOk, Bool.and_true, Bool.true_and, Bool.and_self, mkT, leafs, frz_nil, eq_dic0, CE.quiet, Option.isSome_none, Option.isSome_some, ev.eq_11, Bool.not_eq_true', Option.isNone_some]; exact rfl) ?_)))




section
variable {cal : Nat → List O → CRes} {W : Nat} {e e1 : Cr.Env} {a : CE} {t : Tg} {b : List CS}
theorem w_forEnum {Inv : Nat → Cr.Env → Prop} {R : Fl → Cr.Env → Prop} {ds : List D} {bb : Bool} {d0 : D} (h1 : ev cal a e = .ok (.p d0, e1)) (hw : (O.fr d0).items = some (bb, ds)) (i0 : Inv 0 e1) (st : ∀ i d e, ds[i]? = some d → Inv i e → ∃ eb, t.bind (.tup [.int (i : Nat), d]) e = some eb ∧ WP (evSs cal W b eb) fun fl e' => fl = .next ∧ Inv (i + 1) e')
    (fin : ∀ e2, Inv ds.length e2 → R .next e2) : WP (evS cal W (.for_ t (.enum a) b) e) R := by
  have hs : evSr cal (.enum a) e = .ok (numd 0 ds, false, e1) := by
    rw [evSr, h1]
    simp only [bok, get_p, hw, istr_p]
  obtain ⟨e2, h2, h3⟩ := forL_ok (f := bodyF cal W t b) (Inv := Inv) (numd 0 ds) 0 e1 i0 (fun i d e hd hi => by
    rw [Nat.zero_add] at hi ⊢
    have hlt : i < ds.length := by
      have := (List.getElem?_eq_some_iff.mp hd).1
      rwa [numd_len] at this
    have hdi := List.getElem?_eq_getElem hlt
    have e0 := numd_nth 0 ds i _ hdi
    rw [hd] at e0
    cases e0
    rw [Nat.zero_add]
    obtain ⟨eb, hb, fl, e', h4, rfl, h5⟩ := st i _ e hdi hi
    exact ⟨e', x_body hb h4, h5⟩)
  refine ⟨_, _, x_for hs h2, fin e2 ?_⟩
  simpa [numd_len] using h3
end
abbrev Ie (s0 t1 s2 s3 s4 s5 s6 s7 s8 s9 s10 : Option O) : Cr.Env := [s0, t1, s2, s3, s4, s5, s6, s7, s8, s9, s10]
def chK (es : List (Str × Int)) : List (Key × D) := es.map fun x => (.inr x.1, .int x.2)
def cnt (r : Rw) : Int := if r.kind = "and" then r.ins.length else if r.kind = "or" then 1 else r.need
def ndK (rs : List Rw) : List (Key × D) := rs.map fun r => (.inr r.nm, .tup [.int (cnt r), .tup (r.ins.map D.str)])
def initB1 : List CS := [.if_ (.or [.cmp .Eq (.var 4) (.glob "MOST_EVENTS" (.int 10)), .not (.call 5 [] [.var 5]), .cmp .In (.var 5) (.fld (.var 0) "chances"), .not (.cmp2 .LtE .LtE (.lit (.int 0)) (.var 6) (.glob "WHOLE" (.int 1000)))]) [.never] [],
    .dput 0 (some "chances") (.var 5) (.var 6)]
theorem ev_nth {es : List (Str × Int)} (h : EvOk es) {i : Nat} {x : Str × Int} (hx : es[i]? = some x) : x.1 = evName i ∧ 0 ≤ x.2 ∧ x.2 ≤ 1000 := by
  refine ⟨?_, h.2 x (List.mem_of_getElem? hx)⟩
  have h1 : (es.map (·.1))[i]? = some x.1 := by rw [List.getElem?_map, hx]; rfl
  rw [h.1, List.getElem?_map] at h1
  have hlt := (List.getElem?_eq_some_iff.mp hx).1
  rw [List.getElem?_range hlt] at h1
  simp only [Option.map_some, Option.some.injEq] at h1
  exact h1.symm
theorem ev_inj : ∀ i < 10, ∀ j < 10, evName i = evName j → i = j := by decide +kernel
theorem ch_new {es : List (Str × Int)} (h : EvOk es) (hl : es.length ≤ 10) {i : Nat} (hi : i < es.length) : ∀ p ∈ chK (es.take i), p.1 ≠ (.inr (evName i) : Key) := by
  intro p hp e
  obtain ⟨x, hx, rfl⟩ := List.mem_map.mp hp
  obtain ⟨j, hj⟩ := List.mem_iff_getElem?.mp hx
  have hj2 := (List.getElem?_eq_some_iff.mp hj).1
  rw [List.length_take] at hj2
  rw [List.getElem?_take_of_lt (by omega)] at hj
  have h1 := (ev_nth h hj).1
  simp only [Sum.inr.injEq] at e
  have := ev_inj j (by omega) i (by omega) (h1.symm.trans e)
  omega
section
variable {P : List Fn} {k W : Nat} {t1 s3 s4 s5 s6 s7 s8 s9 s10 : Option O}
theorem init1_ok (h5 : P[5]? = some f_is_name) {es : List (Str × Int)} (ok : EvOk es) (hl : es.length ≤ 10) {Q : Fl → Cr.Env → Prop}
    (fin : ∀ x4 x5 x6, Q .next (Ie (some (selfT (.od (odO (chK es))) (.od []))) t1 (some (.fr (.tup (es.map evD)))) s3 x4 x5 x6 s7 s8 s9 s10)) :
    WP (evS (run P W (k + 1)) W (.for_ (.tup [.v 4, .tup [.v 5, .v 6]]) (.enum (.var 2)) initB1) (Ie (some (selfT (.od []) (.od []))) t1 (some (.fr (.tup (es.map evD)))) s3 s4 s5 s6 s7 s8 s9 s10)) Q := by
  refine w_forEnum (bb := true) (ds := es.map evD) (Inv := fun i e => ∃ x4 x5 x6, e = Ie (some (selfT (.od (odO (chK (es.take i)))) (.od []))) t1 (some (.fr (.tup (es.map evD)))) s3 x4 x5 x6 s7 s8 s9 s10) (x_var rfl) rfl ⟨s4, s5, s6, rfl⟩ ?_ ?_
  · rintro i d e hd ⟨x4, x5, x6, rfl⟩
    rw [List.getElem?_map] at hd
    obtain ⟨x, hx, rfl⟩ := Option.map_eq_some_iff.mp hd
    have hlt := (List.getElem?_eq_some_iff.mp hx).1
    obtain ⟨x1, x2⟩ := x
    obtain ⟨e1, c0, c1⟩ := ev_nth ok hx
    simp only at e1 c0 c1
    subst e1
    refine ⟨_, rfl, ?_⟩
    unfold initB1
    refine w_ss ?_
    infer_instance
    have hi : ((i : Int) == 10) = false := by rw [beq_eq_false_iff_ne]; omega
    rw [hi]
    infer_instance
    refine w_call (os := [.fr (.str (evName i))]) rfl rfl (name_run h5 (good_ev i (by omega))) rfl rfl ?_
    infer_instance
    rw [kget_none (ch_new ok hl hlt)]
    infer_instance
    rw [decide_eq_true c0]
    infer_instance
    rw [decide_eq_true c1]
    infer_instance
    refine w_ss0 (after_next (w_ss ?_))
    infer_instance
    rw [put_dic (by simp [chK]; omega) (ch_new ok hl hlt)]
    infer_instance
    refine after_next (w_ss0 ⟨rfl, some (.fr (.int i)), some (.fr (.str (evName i))), some (.fr (.int x2)), ?_⟩)
    rw [List.take_add_one, hx]
    simp [chK]
  · rintro e ⟨x4, x5, x6, rfl⟩
    rw [List.length_map, List.take_length]
    exact fin x4 x5 x6
theorem rw_inj : ∀ i < 12, ∀ j < 12, rwName i = rwName j → i = j := by decide +kernel
theorem er_apart : ∀ i < 10, ∀ j < 12, evName i ≠ rwName j := by decide +kernel
structure RwOk (ns : List Str) (rs : List Rw) (i : Nat) (r : Rw) : Prop where
  nm : r.nm = rwName i
  i0 : 1 ≤ r.ins.length
  i1 : r.ins.length ≤ 4
  nd : r.ins.Nodup
  sub : ∀ x ∈ r.ins, x ∈ ns ++ (rs.take i).map (·.nm)
  how : HowOk r.kind r.need r.ins.length
theorem rws_nth {ns : List Str} {rs : List Rw} (h : RwsOk ns rs) : ∀ {i : Nat} {r : Rw}, rs[i]? = some r → RwOk ns rs i r := by
  induction h with
  | nil => intro i r hr; simp at hr
  | @add rs r0 h nm i0 i1 nd sub how ih =>
    intro i r hr
    rw [List.getElem?_append] at hr
    split at hr
    · rename_i hlt
      have q := ih hr
      exact ⟨q.nm, q.i0, q.i1, q.nd, by rw [List.take_append_of_le_length (by omega)]; exact q.sub, q.how⟩
    · rename_i hge
      have hi : i = rs.length := by
        have := (List.getElem?_eq_some_iff.mp hr).1
        simp at this
        omega
      subst hi
      simp at hr
      subst hr
      exact ⟨nm, i0, i1, nd, by simpa using sub, how⟩
theorem nd_new {ns : List Str} {rs : List Rw} (h : RwsOk ns rs) (hl : rs.length ≤ 12) {i : Nat} (hi : i < rs.length) : ∀ p ∈ ndK (rs.take i), p.1 ≠ (.inr (rwName i) : Key) := by
  intro p hp e
  obtain ⟨x, hx, rfl⟩ := List.mem_map.mp hp
  obtain ⟨j, hj⟩ := List.mem_iff_getElem?.mp hx
  have hj2 := (List.getElem?_eq_some_iff.mp hj).1
  rw [List.length_take] at hj2
  rw [List.getElem?_take_of_lt (by omega)] at hj
  have h1 := (rws_nth h hj).nm
  simp only [Sum.inr.injEq] at e
  have := rw_inj j (by omega) i (by omega) (h1.symm.trans e)
  omega
theorem ch_no {es : List (Str × Int)} (h : EvOk es) (hl : es.length ≤ 10) {i : Nat} (hi : i < 12) : ∀ p ∈ chK es, p.1 ≠ (.inr (rwName i) : Key) := by
  intro p hp e
  obtain ⟨x, hx, rfl⟩ := List.mem_map.mp hp
  obtain ⟨j, hj⟩ := List.mem_iff_getElem?.mp hx
  have hj2 := (List.getElem?_eq_some_iff.mp hj).1
  have h1 := (ev_nth h hj).1
  simp only [Sum.inr.injEq] at e
  exact er_apart j (by omega) i hi (h1.symm.trans e)
theorem frz_self {ch nd : List (Key × D)} : (selfT (.od (odO ch)) (.od (odO nd))).frz = bookD ch nd := by
  simp only [O.frz, frzF, frzK_od]
theorem there_all {es : List (Str × Int)} {rs : List Rw} {x : Str} (h : x ∈ es.map (·.1) ++ rs.map (·.nm)) : ((kget (chK es) (.inr x)).isSome || (kget (ndK rs) (.inr x)).isSome) = true := by
  rw [Bool.or_eq_true]
  rcases List.mem_append.mp h with z | z
  · left
    refine kget_some ?_
    obtain ⟨y, hy, rfl⟩ := List.mem_map.mp z
    exact List.mem_map.mpr ⟨_, List.mem_map.mpr ⟨y, hy, rfl⟩, rfl⟩
  · right
    refine kget_some ?_
    obtain ⟨y, hy, rfl⟩ := List.mem_map.mp z
    exact List.mem_map.mpr ⟨_, List.mem_map.mpr ⟨y, hy, rfl⟩, rfl⟩
def initB2 : List CS := [.if_ (.or [.cmp .Eq (.var 4) (.glob "MOST_ROWS" (.int 12)), .not (.mcall "is_row" 0 8 [] (.var 0) [.var 7])]) [.never] [],
    .unp (.tup [.v 5, .v 8, .v 9, .v 10]) (.var 7),
    .dput 0 (some "needs") (.var 5) (.tup [.ife (.cmp .Eq (.var 8) (.glob "AND" (.str "and"))) (.bi .len [.var 10]) (.ife (.cmp .Eq (.var 8) (.glob "OR" (.str "or"))) (.lit (.int 1)) (.var 9)), .bi .tuple [.var 10]])]
theorem x_varo {cal : Nat → List O → CRes} {e : Cr.Env} {i c : Nat} {l : List (Str × O)} (hs : (e[i]?).join = some (.oi c l)) : ev cal (.var i) e = .ok (.n i, e) := by rw [ev.eq_3, hs]
theorem str_no {a b : Str} (h : a ≠ b) : cmpD .Eq (.str a) (.str b) = some false := by
  show some (a == b) = some false
  rw [beq_eq_false_iff_ne.mpr h]
theorem str_yes {a : Str} : cmpD .Eq (.str a) (.str a) = some true := by
  show some (a == a) = some true
  rw [beq_self_eq_true]
theorem cnt_ev {cal : Nat → List O → CRes} {r : Rw} {e : Cr.Env} (how : HowOk r.kind r.need r.ins.length) (h8 : (e[8]?).join = some (.fr (.str r.kind))) (h9 : (e[9]?).join = some (.fr (.int r.need))) (h10 : (e[10]?).join = some (.fr (.tup (r.ins.map D.str)))) :
    ev cal (.ife (.cmp .Eq (.var 8) (.glob "AND" (.str "and"))) (.bi .len [.var 10]) (.ife (.cmp .Eq (.var 8) (.glob "OR" (.str "or"))) (.lit (.int 1)) (.var 9))) e = .ok (.p (.int (cnt r)), e) := by
  have hlen : ev cal (.bi .len [.var 10]) e = .ok (.p (.int r.ins.length), e) := x_bi (os := [.fr (.tup (r.ins.map D.str))]) (o := .fr (.int r.ins.length)) (x_as (x_var h10) x_as0) rfl rfl (by simp [biO, O.frz])
  by_cases a : r.kind = "and"
  · have hc : cnt r = r.ins.length := by unfold cnt; rw [if_pos a]
    rw [hc]
    exact x_ife (p := true) (x_cmp (x_var h8) x_glob rfl rfl rfl (by rw [a]; exact str_yes)) hlen
  · refine x_ife (p := false) (x_cmp (x_var h8) x_glob rfl rfl rfl (str_no a)) ?_
    show ev cal (.ife (.cmp .Eq (.var 8) (.glob "OR" (.str "or"))) (.lit (.int 1)) (.var 9)) e = _
    by_cases b : r.kind = "or"
    · have hc : cnt r = 1 := by unfold cnt; rw [if_neg a, if_pos b]
      rw [hc]
      exact x_ife (p := true) (x_cmp (x_var h8) x_glob rfl rfl rfl (by rw [b]; exact str_yes)) (show ev cal (.lit (.int 1)) e = _ from x_lit)
    · have hc : cnt r = r.need := by unfold cnt; rw [if_neg a, if_neg b]
      rw [hc]
      exact x_ife (p := false) (x_cmp (x_var h8) x_glob rfl rfl rfl (str_no b)) (show ev cal (.var 9) e = _ from x_var h9)
theorem x_dput {cal : Nat → List O → CRes} {W : Nat} {e e1 e2 : Cr.Env} {i : Nat} {f : Option Str} {kc c : CE} {h : Hd} {d kd : D} {a a2 : O} (h1 : ev cal c e = .ok (h, e1)) (hv : h.val = some (.fr d)) (hp : place e1 i f = some a) (hq : kc.quiet = true) (h2 : ev cal kc e1 = .ok (.p kd, e1)) (h3 : Cr.putAt a kd (.fr d) = some a2) (h4 : putPlace e1 i f a2 = some e2) : evS cal W (.dput i f kc c) e = .ok (.next, e2) := by
  rw [evS.eq_10, h1]
  simp only [bok, hv, hp, hq, if_true]
  rw [h2]
  simp only [bok, hp, h3, Option.bind_some, h4]
theorem init2_ok (h5 : P[5]? = some f_is_name) (h7 : P[7]? = some f_Tree_is_there) (h8 : P[8]? = some f_Tree_is_row) {es : List (Str × Int)} (ok : EvOk es) (hl : es.length ≤ 10) {rs : List Rw} (rok : RwsOk (es.map (·.1)) rs) (hr : rs.length ≤ 12) {s2 : Option O} {Q : Fl → Cr.Env → Prop}
    (fin : ∀ x4 x5 x7 x8 x9 x10, Q .next (Ie (some (selfT (.od (odO (chK es))) (.od (odO (ndK rs))))) t1 s2 (some (.fr (.tup (rs.map rwD)))) x4 x5 s6 x7 x8 x9 x10)) :
    WP (evS (run P W (k + 2)) W (.for_ (.tup [.v 4, .v 7]) (.enum (.var 3)) initB2) (Ie (some (selfT (.od (odO (chK es))) (.od []))) t1 s2 (some (.fr (.tup (rs.map rwD)))) s4 s5 s6 s7 s8 s9 s10)) Q := by
  refine w_forEnum (bb := true) (ds := rs.map rwD) (Inv := fun i e => ∃ x4 x5 x7 x8 x9 x10, e = Ie (some (selfT (.od (odO (chK es))) (.od (odO (ndK (rs.take i)))))) t1 s2 (some (.fr (.tup (rs.map rwD)))) x4 x5 s6 x7 x8 x9 x10) (x_var rfl) rfl ⟨s4, s5, s7, s8, s9, s10, rfl⟩ ?_ ?_
  · rintro i d e hd ⟨x4, x5, x7, x8, x9, x10, rfl⟩
    rw [List.getElem?_map] at hd
    obtain ⟨r, hx, rfl⟩ := Option.map_eq_some_iff.mp hd
    have hlt := (List.getElem?_eq_some_iff.mp hx).1
    have q := rws_nth rok hx
    refine ⟨_, rfl, ?_⟩
    unfold initB2
    refine w_ss ?_
    infer_instance
    have hi : ((i : Int) == 12) = false := by rw [beq_eq_false_iff_ne]; omega
    rw [hi]
    infer_instance
    have hrow : run P W (k + 2) 8 [.fr (bookD (chK es) (ndK (rs.take i))), .fr (rwD r)] = .ok (.fr (.bl true)) [] :=
      isrow_run h5 h7 h8 (by rw [q.nm]; exact good_rw i (by omega)) (by rw [q.nm]; exact kget_none (ch_no ok hl (by omega))) (by rw [q.nm]; exact kget_none (nd_new rok hr hlt)) q.i0 (by have := q.i1; omega) q.nd (fun x hx => there_all (q.sub x hx)) q.how
    refine x_mcall (x_varo rfl) rfl (by kernel_rfl) ?_
    infer_instance
    refine w_call (os := [.fr (bookD (chK es) (ndK (rs.take i))), .fr (rwD r)]) rfl (by rw [← frz_self]; rfl) hrow rfl rfl ?_
    infer_instance
    refine w_ss0 (after_next (w_ss ?_))
    refine WP_of_eq (r' := .ok (.next, Ie (some (selfT (.od (odO (chK es))) (.od (odO (ndK (rs.take i)))))) t1 s2 (some (.fr (.tup (rs.map rwD)))) (some (.fr (.int i))) (some (.fr (.str r.nm))) s6 (some (.fr (rwD r))) (some (.fr (.str r.kind))) (some (.fr (.int r.need))) (some (.fr (.tup (r.ins.map D.str)))))) (by rw [evS.eq_5, x_var rfl]; rfl) ?_
    rw [WP_ok]
    refine after_next (w_ss ?_)
    have hval := x_tup (e := Ie (some (selfT (.od (odO (chK es))) (.od (odO (ndK (rs.take i)))))) t1 s2 (some (.fr (.tup (rs.map rwD)))) (some (.fr (.int i))) (some (.fr (.str r.nm))) s6 (some (.fr (rwD r))) (some (.fr (.str r.kind))) (some (.fr (.int r.need))) (some (.fr (.tup (r.ins.map D.str))))) (cal := run P W (k + 2)) (x_as (cnt_ev (r := r) q.how rfl rfl rfl) (x_as (x_bi (bi := .tuple) (o := .fr (.tup (r.ins.map D.str))) (x_as (x_var (i := 10) rfl) x_as0) rfl rfl rfl) x_as0)) rfl (by simp)
    refine WP_of_eq (r' := .ok (.next, Ie (some (selfT (.od (odO (chK es))) (.od (odO (ndK (rs.take (i + 1))))))) t1 s2 (some (.fr (.tup (rs.map rwD)))) (some (.fr (.int i))) (some (.fr (.str r.nm))) s6 (some (.fr (rwD r))) (some (.fr (.str r.kind))) (some (.fr (.int r.need))) (some (.fr (.tup (r.ins.map D.str)))))) ?_ ?_
    · refine x_dput hval rfl place_nd rfl (x_var rfl) (put_dic (l := ndK (rs.take i)) (s := r.nm) (by simp [ndK]; omega) (by rw [q.nm]; exact nd_new rok hr hlt)) ?_
      rw [put_nd, List.take_add_one, hx]
      simp [ndK]
    · rw [WP_ok]
      exact after_next (w_ss0 ⟨rfl, _, _, _, _, _, _, rfl⟩)
  · rintro e ⟨x4, x5, x7, x8, x9, x10, rfl⟩
    rw [List.length_map, List.take_length]
    exact fin x4 x5 x7 x8 x9 x10
theorem run_ioN {i : Nat} {fn : Fn} {os : List O} {o0 : O} {e : Cr.Env} (h : P[i]? = some fn) (hn : os.length = fn.np) (hio : fn.io = [0]) (hb : evSs (run P W k) W fn.body (os.map some ++ List.replicate (fn.ns - fn.np) none) = .ok (.next, e)) (he : (e[0]?).join = some o0) : run P W (k + 1) i os = .ok (.fr .non) [o0] := by
  simp only [Cr.run, h]
  unfold runB
  rw [if_pos (by simp [hn]), hb, hio]
  simp only [outsOf, List.map_cons, List.map_nil, he, allSome, Option.map_some]
def bookO (es : List (Str × Int)) (rs : List Rw) : O := selfT (.od (odO (chK es))) (.od (odO (ndK rs)))
theorem tree_init (h5 : P[5]? = some f_is_name) (h6 : P[6]? = some f_Tree___init__) (h7 : P[7]? = some f_Tree_is_there) (h8 : P[8]? = some f_Tree_is_row) {es : List (Str × Int)} {rs : List Rw} {E R : Nat} (ht : TreeOk es rs E R) (hE : E ≤ 10) (hR : R ≤ 11) :
    run P W (k + 3) 6 [.oi 0 [], .fr (treeD es rs)] = .ok (.fr .non) [bookO es rs] := by
  have e1 := ht.e1
  have e2 := ht.e2
  have r1 := ht.r1
  have main : WP (evSs (run P W (k + 2)) W f_Tree___init__.body (Ie (some (.oi 0 [])) (some (.fr (treeD es rs))) none none none none none none none none none)) fun fl e => fl = .next ∧ ∃ r, e = some (bookO es rs) :: r := by
    unfold f_Tree___init__
    refine w_ss (WP_of_eq (r' := .ok (.next, Ie (some (.oi 0 [])) (some (.fr (treeD es rs))) (some (.fr (.tup (es.map evD)))) (some (.fr (.tup (rs.map rwD)))) none none none none none none none)) (by rw [evS.eq_5, x_var rfl]; rfl) ?_)
    rw [WP_ok]
    refine after_next (w_ss (WP_of_eq (r' := .ok (.next, Ie (some (.oi 0 [("chances", .od [])])) (some (.fr (treeD es rs))) (some (.fr (.tup (es.map evD)))) (some (.fr (.tup (rs.map rwD)))) none none none none none none none)) (by kernel_rfl) ?_))
    rw [WP_ok]
    refine after_next (w_ss (WP_of_eq (r' := .ok (.next, Ie (some (selfT (.od []) (.od []))) (some (.fr (treeD es rs))) (some (.fr (.tup (es.map evD)))) (some (.fr (.tup (rs.map rwD)))) none none none none none none none)) (by kernel_rfl) ?_))
    rw [WP_ok]
    refine after_next (w_ss ?_)
    refine init1_ok (k := k + 1) h5 ht.ev (by omega) fun x4 x5 x6 => ?_
    refine after_next (w_ss ?_)
    have hne : (chK es).isEmpty = false := by
      cases es with
      | nil => simp at e1
      | cons a l => rfl
    infer_instance
    rw [hne]
    infer_instance
    refine w_ss0 (after_next (w_ss ?_))
    refine init2_ok h5 h7 h8 ht.ev (by omega) ht.rw (by omega) fun x4 x5 x7 x8 x9 x10 => ?_
    exact after_next (w_ss0 ⟨rfl, _, rfl⟩)
  obtain ⟨fl, e, hb, rfl, r, rfl⟩ := main
  exact run_ioN (k := k + 2) h6 rfl rfl hb rfl
end
end Sh
end

section
namespace Sh
open PySem L2 Cr
local macro_rules
  | `(tactic| infer_instance) => `(tactic| repeat (first | rw [WP_bind] | rw [WP_ok] | (refine WP_of_eq (by simp only [io0, io1, ev.eq_1, ev.eq_2, ev.eq_3, ev.eq_5, ev.eq_6, ev.eq_7, ev.eq_8, ev.eq_9, ev.eq_10, ev.eq_12, ev.eq_13, ev.eq_14, ev.eq_15, ev.eq_16, ev.eq_17, ev.eq_18, ev.eq_19, ev.eq_23, ev.eq_28, ev.eq_29, ev.eq_30, evs, evS.eq_1, evS.eq_2, evS.eq_3, evS.eq_4, evS.eq_5, eq_int, ne_int, evS.eq_8, evS.eq_9, evS.eq_10, evS.eq_11, evS.eq_13, evS.eq_16, Option.isNone_none, fld_ch, fld_nd, place_ch, place_nd, put_ch, put_nd, part_no, frz_od, in_dic, evAnd, evOr, boolH, List.getElem?_cons_zero, List.getElem?_cons_succ, join_some, get_p, get_t, get_q, get_n, isq_p, isq_t, isq_n, isq_q, val_p, val_t, view_p, view_t, view_q, view_n, mkh_fr, mkh_ol, mkh_ot, part_fr, part_n, part_t, part_q, add_int, sub_int, min2_int, lt_int, le_int, gt_int, ge_int, Bool.not_false, Bool.not_true, Bool.true_or, Bool.or_true, Bool.false_or, if_true, if_false, Bool.false_eq_true, setS, List.length_cons, List.length_nil, Nat.reduceAdd, Nat.reduceLT, List.set_cons_zero, List.set_cons_succ, List.map_cons, List.map_nil, allSome, Option.map_some, Option.bind_some, lineOk, Nat.zero_le, Nat.reduceLeDiff, decide_true, stayOk, Bool.and_true, Bool.true_and, Bool.and_self, mkT, leafs, frz_nil, eq_dic0, CE.quiet, Option.isSome_none, Option.isSome_some, ev.eq_11, Bool.not_eq_true', Option.isNone_some]; exact rfl) ?_)))





abbrev caseD (tr bk : D) (l : List (Key × D)) : D := .ins 1 [("tree", tr), ("book", bk), ("rows", .dic l)]
theorem fldc_bk {tr bk : D} {l : List (Key × D)} : fldO (.fr (caseD tr bk l)) "book" = some (.fr bk) := by kernel_rfl
theorem fldc_rw {tr bk : D} {l : List (Key × D)} : fldO (.fr (caseD tr bk l)) "rows" = some (.fr (.dic l)) := by kernel_rfl
theorem x_unp {cal : Nat → List O → CRes} {W : Nat} {a : CE} {e e1 e2 : Cr.Env} {h : Hd} {o : O} {t : Tg} (h1 : ev cal a e = .ok (h, e1)) (hv : h.val = some o) (hb : t.bindO o e1 = some e2) : evS cal W (.unp t a) e = .ok (.next, e2) := by
  rw [evS.eq_5, h1]
  simp only [bok, hv, hb]
theorem x_slice_lo {cal : Nat → List O → CRes} {a b : CE} {e : Cr.Env} {d : D} {i : Int} {o : O} (h1 : ev cal a e = .ok (.p d, e)) (h2 : ev cal b e = .ok (.p (.int i), e)) (h3 : cutO (.fr d) (some i) none = some o) : ev cal (.slice a (some b) none) e = .ok (mkH o, e) := x_slice1 h1 h2 rfl rfl h3
theorem x_slice_hi {cal : Nat → List O → CRes} {a b : CE} {e : Cr.Env} {d : D} {i : Int} {o : O} (h1 : ev cal a e = .ok (.p d, e)) (h2 : ev cal b e = .ok (.p (.int i), e)) (h3 : cutO (.fr d) none (some i) = some o) : ev cal (.slice a none (some b)) e = .ok (mkH o, e) := by
  rw [ev.eq_17, h1]
  simp only [bok, Cr.evO]
  rw [h2]
  simp only [bok, isq_p, Bool.not_false, Bool.true_or, if_true, get_p, h3]
section
variable {P : List Fn} {k W : Nat}
abbrev Le (s0 s1 s2 s3 s4 s5 : Option O) : Cr.Env := [s0, s1, s2, s3, s4, s5]
theorem isclaim_run (h12 : P[12]? = some f_Case_is_claim) {tr bk : D} {l : List (Key × D)} {nm how : Str} {need : Int} {ins : List Str} (i1 : 1 ≤ ins.length) (i6 : ins.length ≤ 6) (hn : ins.Nodup) (hin : ∀ x ∈ ins, (kget l (.inr x)).isSome = true) (hw : HowC how need ins.length) :
    run P W (k + 1) 12 [.fr (caseD tr bk l), .fr (crD nm (.claim how need ins))] = .ok (.fr (.bl true)) [] := by
  let E : Cr.Env := Le (some (.fr (caseD tr bk l))) (some (.fr (crD nm (.claim how need ins)))) (some (.fr (.str how))) (some (.fr (.int need))) (some (.fr (.tup (ins.map D.str)))) none
  have v2 : ev (run P W k) (.var 2) E = .ok (.p (.str how), E) := x_var rfl
  have v3 : ev (run P W k) (.var 3) E = .ok (.p (.int need), E) := x_var rfl
  have v4 : ev (run P W k) (.var 4) E = .ok (.p (.tup (ins.map D.str)), E) := x_var rfl
  have hlen : ev (run P W k) (.bi .len [.var 4]) E = .ok (.p (.int ins.length), E) := x_bi (os := [.fr (.tup (ins.map D.str))]) (o := .fr (.int ins.length)) (x_as v4 x_as0) rfl rfl (by simp [biO, O.frz])
  have hls : ev (run P W k) (.lens (.var 4)) E = .ok (.p (.int ins.length), E) := x_lens v4 rfl hn (by omega)
  have hk : cmpD .NotIn (.str how) (.tup [.str "all", .str "any", .str "some"]) = some false := by
    rcases hw with ⟨h, _⟩ | ⟨h, _⟩ | ⟨h, _⟩ <;> rw [h] <;> kernel_rfl
  have c1 : ev (run P W k) (.cmp .NotIn (.var 2) (.tup [.glob "ALL" (.str "all"), .glob "ANY" (.str "any"), .glob "SOME" (.str "some")])) E = .ok (.p (.bl false), E) :=
    x_cmp v2 (x_tup (x_as x_glob (x_as x_glob (x_as x_glob x_as0))) rfl (by simp)) rfl rfl rfl hk
  have c2 := x_cmp2 (k := true) (x_lit (cal := run P W k) (d := .int 1)) hlen (o1 := .LtE) (o2 := .LtE) (by rw [le_int, decide_eq_true (by omega)]) (x_glob (g := "MOST_INPUTS") (d := .int 6)) (by rw [le_int, decide_eq_true (by omega)])
  have s2 : evS (run P W k) W (.if_ (.or [.cmp .NotIn (.var 2) (.tup [.glob "ALL" (.str "all"), .glob "ANY" (.str "any"), .glob "SOME" (.str "some")]), .not (.cmp2 .LtE .LtE (.lit (.int 1)) (.bi .len [.var 4]) (.glob "MOST_INPUTS" (.int 6)))]) [.ret (.lit (.bl false))] []) E = .ok (.next, E) := x_iff (x_or2 c1 (x_not c2)) rfl x_ss0
  have hlc : ev (run P W k) (.lc [5] (.v 5) (.seq (.var 4)) [] (.cmp .In (.var 5) (.fld (.var 0) "rows"))) E = .ok (.t (.ol ((ins.map D.str).filterMap fun _ => some (.fr (.bl true)))), E) := by
    refine x_lc (x_seq (bb := true) v4 rfl) rfl (by simp; omega) fun d hd => ?_
    obtain ⟨x, hx, rfl⟩ := List.mem_map.mp hd
    exact x_turn (e1 := Le (some (.fr (caseD tr bk l))) (some (.fr (crD nm (.claim how need ins)))) (some (.fr (.str how))) (some (.fr (.int need))) (some (.fr (.tup (ins.map D.str)))) (some (.fr (.str x)))) (h := .p (.bl true)) rfl (x_cmp (x_var rfl) (x_fld (x_var rfl) rfl fldc_rw) rfl rfl rfl (by show cmpD .In (.str x) (.dic l) = _; rw [in_dic, hin x hx])) rfl rfl rfl
  rw [filterMap_const] at hlc
  have s3 : evS (run P W k) W (.if_ (.or [.cmp .Lt (.lens (.var 4)) (.bi .len [.var 4]), .not (.bi .all [.lc [5] (.v 5) (.seq (.var 4)) [] (.cmp .In (.var 5) (.fld (.var 0) "rows"))])]) [.ret (.lit (.bl false))] []) E = .ok (.next, E) :=
    x_iff (x_or2 (p := false) (q := false) (x_cmp hls hlen rfl rfl rfl (by show cmpD .Lt (.int _) (.int _) = _; rw [lt_int, decide_eq_false (by omega)])) (x_not (r := true) (x_bi (x_as hlc x_as0) rfl rfl (all_true _)))) rfl x_ss0
  have last : ev (run P W k) (.ife (.cmp .Eq (.var 2) (.glob "SOME" (.str "some"))) (.cmp2 .LtE .LtE (.lit (.int 1)) (.var 3) (.bi .len [.var 4])) (.cmp .Eq (.var 3) (.lit (.int 0)))) E = .ok (.p (.bl true), E) := by
    have low : ∀ b, cmpD .Eq (.str how) (.str "some") = some b → (b = true → 1 ≤ need ∧ need ≤ ins.length) → (b = false → need = 0) → ev (run P W k) (.ife (.cmp .Eq (.var 2) (.glob "SOME" (.str "some"))) (.cmp2 .LtE .LtE (.lit (.int 1)) (.var 3) (.bi .len [.var 4])) (.cmp .Eq (.var 3) (.lit (.int 0)))) E = .ok (.p (.bl true), E) := by
      intro b hb h1 h2
      refine x_ife (p := b) (x_cmp v2 x_glob rfl rfl rfl hb) ?_
      cases b with
      | true =>
        obtain ⟨a1, a2⟩ := h1 rfl
        exact x_cmp2 (k := true) x_lit v3 (by rw [le_int, decide_eq_true (by omega)]) hlen (by rw [le_int, decide_eq_true (by omega)])
      | false =>
        have a1 := h2 rfl
        exact x_cmp v3 x_lit rfl rfl rfl (by show cmpD .Eq (.int _) (.int _) = _; rw [eq_int, a1]; rfl)
    rcases hw with ⟨h, h'⟩ | ⟨h, h'⟩ | ⟨h, h', h''⟩
    · exact low false (by rw [h]; kernel_rfl) (fun z => by cases z) fun _ => h'
    · exact low false (by rw [h]; kernel_rfl) (fun z => by cases z) fun _ => h'
    · exact low true (by rw [h]; kernel_rfl) (fun _ => ⟨h', h''⟩) fun z => by cases z
  have s1 : evS (run P W k) W (.unp (.tup [.v 2, .v 3, .v 4]) (.slice (.var 1) (some (.lit (.int 2))) none)) (Le (some (.fr (caseD tr bk l))) (some (.fr (crD nm (.claim how need ins)))) none none none none) = .ok (.next, E) :=
    x_unp (o := .fr (.tup [.str how, .int need, .tup (ins.map D.str)])) (x_slice_lo (d := crD nm (.claim how need ins)) (o := .fr (.tup [.str how, .int need, .tup (ins.map D.str)])) (x_var rfl) x_lit (by kernel_rfl)) rfl rfl
  exact run_of h12 rfl rfl (x_ss s1 (x_ss s2 (x_ss s3 (x_ssr (x_ret last rfl)))))
theorem x_and3 {cal : Nat → List O → CRes} {e : Cr.Env} {a b c : CE} {h : Hd} (h1 : ev cal a e = .ok (.p (.bl true), e)) (h2 : ev cal b e = .ok (.p (.bl true), e)) (h3 : ev cal c e = .ok (h, e)) : ev cal (.and [a, b, c]) e = .ok (h, e) := by
  rw [ev.eq_12]
  simp only [evAnd, h1, h2, bok, boolh, h3]
def wordOf : CRow → Str
  | .ground _ _ => "ground"
  | .guess _ => "guess"
  | .bound _ _ _ => "bound"
  | .spare _ _ => "spare"
  | .claim _ _ _ => "claim"
abbrev Ke (s0 s1 s2 s3 : Option O) : Cr.Env := [s0, s1, s2, s3]
theorem if_word {cal : Nat → List O → CRes} {e : Cr.Env} {w g z : Str} {t : List CS} (h : (e[2]?).join = some (.fr (.str w))) (hn : cmpD .Eq (.str w) (.str z) = some false) : evS cal W (.if_ (.cmp .Eq (.var 2) (.glob g (.str z))) t []) e = .ok (.next, e) := x_iff (x_cmp (x_var h) x_glob rfl rfl rfl hn) rfl x_ss0
theorem if_ret {cal : Nat → List O → CRes} {e : Cr.Env} {w g z : Str} {a : CE} {d : D} (h : (e[2]?).join = some (.fr (.str w))) (hn : cmpD .Eq (.str w) (.str z) = some true) (h1 : ev cal a e = .ok (.p d, e)) : evS cal W (.if_ (.cmp .Eq (.var 2) (.glob g (.str z))) [.ret a] []) e = .ok (.ret (.fr d), e) := x_ift (x_cmp (x_var h) x_glob rfl rfl rfl hn) rfl (x_ssr (x_ret h1 rfl))
theorem caserow_run (h5 : P[5]? = some f_is_name) (h7 : P[7]? = some f_Tree_is_there) (h11 : P[11]? = some f_Case_is_row) (h12 : P[12]? = some f_Case_is_claim) {tr : D} {ch nd l : List (Key × D)} {nm : Str} {r : CRow} (g : Good nm) (n1 : kget l (.inr nm) = none) {parts ahead : List Str} (ok : CRowOk parts ahead r)
    (hp : ∀ x ∈ parts, ((kget ch (.inr x)).isSome || (kget nd (.inr x)).isSome) = true) (ha : ∀ x ∈ ahead, (kget l (.inr x)).isSome = true) : run P W (k + 2) 11 [.fr (caseD tr (bookD ch nd) l), .fr (crD nm r)] = .ok (.fr (.bl true)) [] := by
  let E : Cr.Env := Ke (some (.fr (caseD tr (bookD ch nd) l))) (some (.fr (crD nm r))) (some (.fr (.str (wordOf r)))) (some (.fr (.str nm)))
  have s1 : evS (run P W (k + 1)) W (.unp (.tup [.v 2, .v 3]) (.slice (.var 1) none (some (.lit (.int 2))))) (Ke (some (.fr (caseD tr (bookD ch nd) l))) (some (.fr (crD nm r))) none none) = .ok (.next, E) := by
    refine x_unp (o := .fr (.tup [.str (wordOf r), .str nm])) (x_slice_hi (d := crD nm r) (o := .fr (.tup [.str (wordOf r), .str nm])) (x_var rfl) x_lit ?_) rfl rfl
    cases r <;> kernel_rfl
  have s2 : evS (run P W (k + 1)) W (.if_ (.or [.not (.call 5 [] [.var 3]), .cmp .In (.var 3) (.fld (.var 0) "rows")]) [.ret (.lit (.bl false))] []) E = .ok (.next, E) := by
    refine x_iff (x_or2 (p := false) (q := false) (x_not (r := true) (x_call (io := []) (x_as (x_var rfl) x_as0) rfl rfl (name_run h5 g) rfl rfl)) (x_cmp (x_var rfl) (x_fld (x_var rfl) rfl fldc_rw) rfl rfl rfl ?_)) rfl x_ss0
    show cmpD .In (.str nm) (.dic l) = _
    rw [in_dic, n1]
    rfl
  have there : ∀ {p : Str}, p ∈ parts → atO (.fr (crD nm r)) (.int 2) = some (.fr (.str p)) → evS (run P W (k + 1)) W (.if_ (.not (.mcall "is_there" 0 7 [] (.fld (.var 0) "book") [.sub (.var 1) (.lit (.int 2))])) [.ret (.lit (.bl false))] []) E = .ok (.next, E) := fun {p} hm h2 => by
    have hx1 : run P W (k + 1) 7 [.fr (bookD ch nd), .fr (.str p)] = .ok (.fr (.bl true)) [] := by rw [there_run h7, hp p hm]
    exact x_iff (x_not (r := true) (x_mcall0 (x_fld (x_var rfl) rfl fldc_bk) rfl (by kernel_rfl) (x_as (x_sub (x_var rfl) x_lit rfl rfl h2) x_as0) rfl rfl hx1 rfl rfl)) rfl x_ss0
  have fin : ∀ {o : O}, o = .fr (.bl true) → (∃ e, evSs (run P W (k + 1)) W (f_Case_is_row.body.drop 2) E = .ok (.ret o, e)) → run P W (k + 2) 11 [.fr (caseD tr (bookD ch nd) l), .fr (crD nm r)] = .ok (.fr (.bl true)) [] := by
    rintro o rfl ⟨e, he⟩
    exact run_of h11 rfl rfl (x_ss s1 (x_ss s2 he))
  have two : ∀ {i : Int} {d : D}, atO (.fr (crD nm r)) (.int i) = some (.fr d) → ev (run P W (k + 1)) (.sub (.var 1) (.lit (.int i))) E = .ok (.p d, E) := fun h => x_sub (x_var rfl) x_lit rfl rfl h
  have le2 : ∀ {a b c : CE} {x y z : Int}, ev (run P W (k + 1)) a E = .ok (.p (.int x), E) → ev (run P W (k + 1)) b E = .ok (.p (.int y), E) → ev (run P W (k + 1)) c E = .ok (.p (.int z), E) → x ≤ y → y ≤ z → ev (run P W (k + 1)) (.cmp2 .LtE .LtE a b c) E = .ok (.p (.bl true), E) :=
    fun h1 h2 h3 a1 a2 => x_cmp2 (k := true) h1 h2 (by rw [le_int, decide_eq_true a1]) h3 (by rw [le_int, decide_eq_true a2])
  cases r with
  | ground d n =>
    obtain ⟨a0, a1, b0, b1⟩ := ok
    exact fin rfl ⟨E, x_ssr (if_ret rfl (by kernel_rfl) (x_and2 (le2 x_lit (two rfl) x_glob a0 a1) (le2 x_lit (two rfl) x_glob b0 b1)))⟩
  | guess b =>
    have hi : isiD ("bool" : Str) (.bl b) = some true := by kernel_rfl
    have h2 : ev (run P W (k + 1)) (.isi "bool" (.sub (.var 1) (.lit (.int 2)))) E = .ok (.p (.bl true), E) := by
      rw [ev.eq_25, two rfl]
      simp only [bok, view_p, hi]
    exact fin rfl ⟨E, x_ss (if_word rfl (by kernel_rfl)) (x_ssr (if_ret rfl (by kernel_rfl) h2))⟩
  | bound p a w =>
    obtain ⟨hm, a0, a1, b0, b1⟩ := ok
    have last : ev (run P W (k + 1)) (.and [.cmp .Eq (.var 2) (.glob "BOUND" (.str "bound")), .cmp2 .LtE .LtE (.lit (.int 0)) (.sub (.var 1) (.lit (.int 3))) (.sub (.var 1) (.lit (.int 4))), .cmp2 .LtE .LtE (.lit (.int 1)) (.sub (.var 1) (.lit (.int 4))) (.glob "MOST_WHOLE" (.int 1000000))]) E = .ok (.p (.bl true), E) :=
      x_and3 (x_cmp (x_var rfl) x_glob rfl rfl rfl (by kernel_rfl)) (le2 x_lit (two rfl) (two rfl) a0 a1) (le2 x_lit (two rfl) x_glob b0 b1)
    exact fin rfl ⟨E, x_ss (if_word rfl (by kernel_rfl)) (x_ss (if_word rfl (by kernel_rfl)) (x_ss (if_word rfl (by kernel_rfl)) (x_ss (there hm rfl) (x_ss (if_word rfl (by kernel_rfl)) (x_ssr (x_ret last rfl))))))⟩
  | spare p n =>
    obtain ⟨hm, a0, a1⟩ := ok
    exact fin rfl ⟨E, x_ss (if_word rfl (by kernel_rfl)) (x_ss (if_word rfl (by kernel_rfl)) (x_ss (if_word rfl (by kernel_rfl)) (x_ss (there hm rfl) (x_ssr (if_ret rfl (by kernel_rfl) (le2 x_lit (two rfl) x_glob a0 a1))))))⟩
  | claim how need ins =>
    obtain ⟨i1, i6, hn, hs, hw⟩ := ok
    exact fin rfl ⟨E, x_ss (if_word rfl (by kernel_rfl)) (x_ss (if_word rfl (by kernel_rfl)) (x_ssr (if_ret rfl (by kernel_rfl) (x_mcall0 (x_var rfl) rfl (by kernel_rfl) (x_as (x_var rfl) x_as0) rfl rfl (isclaim_run h12 i1 i6 hn (fun x hx => ha x (hs x hx)) hw) rfl rfl))))⟩
/-! a case is made -/
abbrev Je (s0 s1 s2 s3 s4 : Option O) : Cr.Env := [s0, s1, s2, s3, s4]
abbrev selfC (t b r : O) : O := .oi 1 [("tree", t), ("book", b), ("rows", r)]
theorem placeC {t b o : O} {r : List (Option O)} : place (some (selfC t b o) :: r) 0 (some "rows") = some o := by kernel_rfl
theorem putC {t b o o2 : O} {r : List (Option O)} : putPlace (some (selfC t b o) :: r) 0 (some "rows") o2 = some (some (selfC t b o2) :: r) := by kernel_rfl
def csK (rows : List (Str × CRow)) : List (Key × D) := rows.map fun x => (.inr x.1, crD x.1 x.2)
theorem frz_selfC {tr : D} {es : List (Str × Int)} {rs : List Rw} {l : List (Key × D)} : (selfC (.fr tr) (bookO es rs) (.od (odO l))).frz = caseD tr (bookD (chK es) (ndK rs)) l := by
  unfold bookO
  simp only [O.frz, frzF, frzK_od]
structure CrAt (parts : List Str) (rows : List (Str × CRow)) (i : Nat) (x : Str × CRow) : Prop where
  nm : x.1 = csName i
  ok : CRowOk parts (nmsOf (rows.take i)) x.2
theorem cs_nth {parts : List Str} {rows : List (Str × CRow)} (h : CsOk parts rows) : ∀ {i : Nat} {x : Str × CRow}, rows[i]? = some x → CrAt parts rows i x := by
  induction h with
  | nil => intro i r hr; simp at hr
  | @add rows r0 h ok ih =>
    intro i r hr
    rw [List.getElem?_append] at hr
    split at hr
    · rename_i hlt
      have q := ih hr
      exact ⟨q.nm, by rw [List.take_append_of_le_length (by omega)]; exact q.ok⟩
    · rename_i hge
      have hi : i = rows.length := by
        have := (List.getElem?_eq_some_iff.mp hr).1
        simp at this
        omega
      subst hi
      simp at hr
      subst hr
      exact ⟨rfl, by simpa using ok⟩
theorem cs_inj : ∀ i < 30, ∀ j < 30, csName i = csName j → i = j := by decide +kernel
theorem cs_new {parts : List Str} {rows : List (Str × CRow)} (h : CsOk parts rows) (hl : rows.length ≤ 30) {i : Nat} (hi : i < rows.length) : ∀ p ∈ csK (rows.take i), p.1 ≠ (.inr (csName i) : Key) := by
  intro p hp e
  obtain ⟨x, hx, rfl⟩ := List.mem_map.mp hp
  obtain ⟨j, hj⟩ := List.mem_iff_getElem?.mp hx
  have hj2 := (List.getElem?_eq_some_iff.mp hj).1
  rw [List.length_take] at hj2
  rw [List.getElem?_take_of_lt (by omega)] at hj
  have h1 := (cs_nth h hj).nm
  simp only [Sum.inr.injEq] at e
  have := cs_inj j (by omega) i (by omega) (h1.symm.trans e)
  omega
end
end Sh
end

section
namespace Sh
open PySem L2 Cr
local macro_rules
  | `(tactic| infer_instance) => `(tactic| repeat (first | rw [WP_bind] | rw [WP_ok] | (refine WP_of_eq (by simp only [io0, io1, ev.eq_1, ev.eq_2, ev.eq_3, ev.eq_5, ev.eq_6, ev.eq_7, ev.eq_8, ev.eq_9, ev.eq_10, ev.eq_12, ev.eq_13, ev.eq_14, ev.eq_15, ev.eq_16, ev.eq_17, ev.eq_18, ev.eq_19, ev.eq_23, ev.eq_28, ev.eq_29, ev.eq_30, evs, evS.eq_1, evS.eq_2, evS.eq_3, evS.eq_4, evS.eq_5, eq_int, ne_int, evS.eq_8, evS.eq_9, evS.eq_10, evS.eq_11, evS.eq_13, evS.eq_16, Option.isNone_none, fld_ch, fld_nd, place_ch, place_nd, put_ch, put_nd, part_no, frz_od, in_dic, evAnd, evOr, boolH, List.getElem?_cons_zero, List.getElem?_cons_succ, join_some, get_p, get_t, get_q, get_n, isq_p, isq_t, isq_n, isq_q, val_p, val_t, view_p, view_t, view_q, view_n, mkh_fr, mkh_ol, mkh_ot, part_fr, part_n, part_t, part_q, add_int, sub_int, min2_int, lt_int, le_int, gt_int, ge_int, Bool.not_false, Bool.not_true, Bool.true_or, Bool.or_true, Bool.false_or, if_true, if_false, Bool.false_eq_true, setS, List.length_cons, List.length_nil, Nat.reduceAdd, Nat.reduceLT, List.set_cons_zero, List.set_cons_succ, List.map_cons, List.map_nil, allSome, Option.map_some, Option.bind_some, lineOk, Nat.zero_le, Nat.reduceLeDiff, decide_true, stayOk, Bool.and_true, Bool.true_and, Bool.and_self, mkT, leafs, frz_nil, eq_dic0, CE.quiet, Option.isSome_none, Option.isSome_some, ev.eq_11, Bool.not_eq_true', Option.isNone_some]; exact rfl) ?_)))






section
variable {P : List Fn} {k W : Nat}
theorem x_mk {cal : Nat → List O → CRes} {c f : Nat} {as : List CE} {e e1 : Cr.Env} {hs : List Hd} {os : List O} {lf : List (Str × O)} (h1 : evs cal as e = .ok (hs, e1)) (hk : (stayOk hs as && (ioSlots hs).isEmpty) = true) (ha : allSome (hs.map fun h => h.arg e1) = some os) (hr : cal f (.oi c [] :: os) = .ok (.fr .non) [.oi c lf]) (hc : (O.oi c lf).clean = true) : ev cal (.mk c f as) e = .ok (.t (.oi c lf), e1) := by
  rw [ev.eq_26, h1]
  simp only [bok, mkF, hk, if_true, ha, hr, hc, beq_self_eq_true, Bool.and_self]
theorem x_setf {cal : Nat → List O → CRes} {a : CE} {e e1 : Cr.Env} {i c : Nat} {f : Str} {h : Hd} {o : O} {l : List (Str × O)} {e2 : Cr.Env} (h1 : ev cal a e = .ok (h, e1)) (hv : h.val = some o) (hp : (e1[i]?).join = some (.oi c l)) (hl : l.length < 1000) (hs : setS e1 i (.oi c (fput f o l)) = some e2) : evS cal W (.setf i f a) e = .ok (.next, e2) := by
  rw [evS.eq_9, h1]
  simp only [bok, hv, hp, hl, decide_true, if_true, hs]
theorem clean_od (l : List (Key × D)) (h : ∀ p ∈ l, p.2.imm = true) : cleanK (odO l) = true := by
  induction l with
  | nil => rfl
  | cons p l ih =>
    show (cleanK ((p.1, O.fr p.2) :: odO l)) = true
    simp only [cleanK, O.clean, h p (by simp), Bool.true_and]
    exact ih fun q hq => h q (by simp [hq])
theorem imm_strs : ∀ l : List Str, immL (l.map D.str) = true
  | [] => rfl
  | s :: l => by simp [immL, D.imm, imm_strs l]
theorem clean_book (es : List (Str × Int)) (rs : List Rw) : (bookO es rs).clean = true := by
  unfold bookO
  simp only [O.clean, cleanF, Bool.and_true, Bool.and_eq_true]
  refine ⟨clean_od _ fun p hp => ?_, clean_od _ fun p hp => ?_⟩
  · obtain ⟨x, _, rfl⟩ := List.mem_map.mp hp
    rfl
  · obtain ⟨x, _, rfl⟩ := List.mem_map.mp hp
    simp [D.imm, immL, imm_strs]
def initC : List CS := [.if_ (.or [.cmp .Eq (.var 3) (.glob "MOST_CASE" (.int 30)), .not (.mcall "is_row" 1 11 [] (.var 0) [.var 4])]) [.never] [],
    .dput 0 (some "rows") (.sub (.var 4) (.lit (.int 1))) (.var 4)]
def rowsD (rows : List (Str × CRow)) : List D := rows.map fun x => crD x.1 x.2
theorem cr_nm {nm : Str} {r : CRow} : atO (.fr (crD nm r)) (.int 1) = some (.fr (.str nm)) := by cases r <;> rfl
theorem loopI_ok (h5 : P[5]? = some f_is_name) (h7 : P[7]? = some f_Tree_is_there) (h11 : P[11]? = some f_Case_is_row) (h12 : P[12]? = some f_Case_is_claim) {es : List (Str × Int)} {rs : List Rw} {rows : List (Str × CRow)} (ok : CsOk (partsOf es rs) rows) (hl : rows.length ≤ 29) {tr : D} {s1 s3 s4 : Option O} {Q : Fl → Cr.Env → Prop}
    (fin : ∀ x3 x4, Q .next (Je (some (selfC (.fr tr) (bookO es rs) (.od (odO (csK rows))))) s1 (some (.fr (.lst (rowsD rows)))) x3 x4)) :
    WP (evS (run P W (k + 2)) W (.for_ (.tup [.v 3, .v 4]) (.enum (.var 2)) initC) (Je (some (selfC (.fr tr) (bookO es rs) (.od []))) s1 (some (.fr (.lst (rowsD rows)))) s3 s4)) Q := by
  refine w_forEnum (bb := false) (ds := rowsD rows) (Inv := fun i e => ∃ x3 x4, e = Je (some (selfC (.fr tr) (bookO es rs) (.od (odO (csK (rows.take i)))))) s1 (some (.fr (.lst (rowsD rows)))) x3 x4) (x_var rfl) rfl ⟨s3, s4, rfl⟩ ?_ ?_
  · rintro i d e hd ⟨x3, x4, rfl⟩
    unfold rowsD at hd
    rw [List.getElem?_map] at hd
    obtain ⟨x, hx, rfl⟩ := Option.map_eq_some_iff.mp hd
    have hlt := (List.getElem?_eq_some_iff.mp hx).1
    have q := cs_nth ok hx
    obtain ⟨nm, r⟩ := x
    have hnm := q.nm
    simp only at hnm
    subst hnm
    refine ⟨_, rfl, ?_⟩
    unfold initC
    refine w_ss ?_
    infer_instance
    have hi : ((i : Int) == 30) = false := by rw [beq_eq_false_iff_ne]; omega
    rw [hi]
    infer_instance
    have hrow : run P W (k + 2) 11 [.fr (caseD tr (bookD (chK es) (ndK rs)) (csK (rows.take i))), .fr (crD (csName i) r)] = .ok (.fr (.bl true)) [] :=
      caserow_run h5 h7 h11 h12 (good_cs i (by omega)) (kget_none (cs_new ok (by omega) hlt)) q.ok (fun x hx => there_all hx) (fun x hx => kget_some (by
        obtain ⟨y, hy, rfl⟩ := List.mem_map.mp hx
        exact List.mem_map.mpr ⟨_, List.mem_map.mpr ⟨y, hy, rfl⟩, rfl⟩))
    refine x_mcall (x_varo rfl) rfl (by kernel_rfl) ?_
    infer_instance
    refine w_call (os := [.fr (caseD tr (bookD (chK es) (ndK rs)) (csK (rows.take i))), .fr (crD (csName i) r)]) rfl (by rw [← frz_selfC]; rfl) hrow rfl rfl ?_
    infer_instance
    refine w_ss0 (after_next (w_ss ?_))
    refine WP_of_eq (r' := .ok (.next, Je (some (selfC (.fr tr) (bookO es rs) (.od (odO (csK (rows.take (i + 1))))))) s1 (some (.fr (.lst (rowsD rows)))) (some (.fr (.int i))) (some (.fr (crD (csName i) r))))) ?_ ?_
    · refine x_dput (x_var (i := 4) rfl) rfl placeC rfl (x_sub (x_var (i := 4) rfl) x_lit rfl rfl cr_nm) (put_dic (l := csK (rows.take i)) (s := csName i) (by simp [csK]; omega) (cs_new ok (by omega) hlt)) ?_
      rw [putC, List.take_add_one, hx]
      simp [csK]
    · rw [WP_ok]
      exact after_next (w_ss0 ⟨rfl, _, _, rfl⟩)
  · rintro e ⟨x3, x4, rfl⟩
    have : (rowsD rows).length = rows.length := by simp [rowsD]
    rw [this, List.take_length]
    exact fin x3 x4
theorem case_init (h5 : P[5]? = some f_is_name) (h6 : P[6]? = some f_Tree___init__) (h7 : P[7]? = some f_Tree_is_there) (h8 : P[8]? = some f_Tree_is_row) (h10 : P[10]? = some f_Case___init__) (h11 : P[11]? = some f_Case_is_row) (h12 : P[12]? = some f_Case_is_claim) {es : List (Str × Int)} {rs : List Rw} {E R : Nat} (ht : TreeOk es rs E R) (hE : E ≤ 10) (hR : R ≤ 11) {rows : List (Str × CRow)} (ok : CsOk (partsOf es rs) rows) (hl : rows.length ≤ 29) :
    run P W (k + 4) 10 [.oi 1 [], .fr (treeD es rs), .fr (.lst (rowsD rows))] = .ok (.fr .non) [selfC (.fr (treeD es rs)) (bookO es rs) (.od (odO (csK rows)))] := by
  have main : WP (evSs (run P W (k + 3)) W f_Case___init__.body (Je (some (.oi 1 [])) (some (.fr (treeD es rs))) (some (.fr (.lst (rowsD rows)))) none none)) fun fl e => fl = .next ∧ ∃ r, e = some (selfC (.fr (treeD es rs)) (bookO es rs) (.od (odO (csK rows)))) :: r := by
    unfold f_Case___init__
    refine w_ss ⟨_, _, x_setf (x_var rfl) rfl rfl (by decide) rfl, ?_⟩
    refine after_next (w_ss ⟨_, _, x_setf (x_mk (x_as (x_var rfl) x_as0) rfl rfl (tree_init h5 h6 h7 h8 ht hE hR) (clean_book es rs)) rfl rfl (show 1 < 1000 by decide) rfl, ?_⟩)
    refine after_next (w_ss (WP_of_eq (r' := .ok (.next, Je (some (selfC (.fr (treeD es rs)) (bookO es rs) (.od []))) (some (.fr (treeD es rs))) (some (.fr (.lst (rowsD rows)))) none none)) (by kernel_rfl) ?_))
    rw [WP_ok]
    refine after_next (w_ss ?_)
    refine loopI_ok (k := k + 1) h5 h7 h11 h12 ok hl fun x3 x4 => ?_
    exact after_next (w_ss0 ⟨rfl, _, rfl⟩)
  obtain ⟨fl, e, hb, rfl, r, rfl⟩ := main
  exact run_ioN (k := k + 3) h10 rfl rfl hb rfl
end
end Sh
end

section
namespace Sh
open PySem L2 Cr
local macro_rules
  | `(tactic| infer_instance) => `(tactic| repeat (first | rw [WP_bind] | rw [WP_ok] | (refine WP_of_eq (by simp only [io0, io1, ev.eq_1, ev.eq_2, ev.eq_3, ev.eq_5, ev.eq_6, ev.eq_7, ev.eq_8, ev.eq_9, ev.eq_10, ev.eq_12, ev.eq_13, ev.eq_14, ev.eq_15, ev.eq_16, ev.eq_17, ev.eq_18, ev.eq_19, ev.eq_23, ev.eq_28, ev.eq_29, ev.eq_30, evs, evS.eq_1, evS.eq_2, evS.eq_3, evS.eq_4, evS.eq_5, eq_int, ne_int, evS.eq_8, evS.eq_9, evS.eq_10, evS.eq_11, evS.eq_13, evS.eq_16, Option.isNone_none, fld_ch, fld_nd, place_ch, place_nd, put_ch, put_nd, part_no, frz_od, in_dic, evAnd, evOr, boolH, List.getElem?_cons_zero, List.getElem?_cons_succ, join_some, get_p, get_t, get_q, get_n, isq_p, isq_t, isq_n, isq_q, val_p, val_t, view_p, view_t, view_q, view_n, mkh_fr, mkh_ol, mkh_ot, part_fr, part_n, part_t, part_q, add_int, sub_int, min2_int, lt_int, le_int, gt_int, ge_int, Bool.not_false, Bool.not_true, Bool.true_or, Bool.or_true, Bool.false_or, if_true, if_false, Bool.false_eq_true, setS, List.length_cons, List.length_nil, Nat.reduceAdd, Nat.reduceLT, List.set_cons_zero, List.set_cons_succ, List.map_cons, List.map_nil, allSome, Option.map_some, Option.bind_some, lineOk, Nat.zero_le, Nat.reduceLeDiff, decide_true, stayOk, Bool.and_true, Bool.true_and, Bool.and_self, mkT, leafs, frz_nil, eq_dic0, CE.quiet, Option.isSome_none, Option.isSome_some, ev.eq_11, Bool.not_eq_true', Option.isNone_some]; exact rfl) ?_)))







/-! what rests on some names -/
def hit (names found : List Str) (x : Str × CRow) : Bool := decide (x.1 ∈ names) || (match x.2 with
  | .claim _ _ ins => ins.any fun y => decide (y ∈ found)
  | _ => false)
def stepR (names : List Str) (found : List Str) (x : Str × CRow) : List Str := if hit names found x = true then found ++ [x.1] else found
def restL (names : List Str) (rows : List (Str × CRow)) : List Str := rows.foldl (stepR names) []
theorem eqD_str {a b : Str} : eqD (.str a) (.str b) = (a == b) := rfl
theorem in_lst {s : Str} {l : List Str} : cmpD .In (.str s) (.lst (l.map D.str)) = some (decide (s ∈ l)) := by
  show (if (shp 62 (.str s) && shpL 62 (l.map D.str)) = true then some ((l.map D.str).any fun z => eqD z (.str s)) else none) = _
  rw [shp_strs]
  rw [if_pos (show (shp 62 (.str s) && true) = true from rfl)]
  congr 1
  rw [List.any_map]
  induction l with
  | nil => simp
  | cons a l ih =>
    rw [List.any_cons, ih]
    show (a == s || _) = _
    by_cases h : a = s
    · subst h; simp
    · have h2 : ¬ s = a := fun z => h z.symm
      simp [h, h2]
theorem any_bools (bs : List Bool) : biO .any [.ol (bs.map fun b => .fr (.bl b))] = some (.fr (.bl (bs.any id))) := by
  have e : (bs.map fun b => O.fr (.bl b)) = (bs.map D.bl).map O.fr := by simp
  have hb : ∀ bs : List Bool, boolsD (bs.map D.bl) = some bs := fun bs => by
    induction bs with
    | nil => rfl
    | cons a l ih => simp [boolsD, ih]
  rw [e]
  simp only [biO, O.items, leafs_fr, Option.map_some, hb]
section
variable {P : List Fn} {k W : Nat} {cal : Nat → List O → CRes}
abbrev Qe (s0 s1 s2 s3 s4 s5 s6 s7 : Option O) : Cr.Env := [s0, s1, s2, s3, s4, s5, s6, s7]
theorem need_run (h13 : P[13]? = some f_Case_need_name) {tr bk : D} {l : List (Key × D)} {s : Str} (h : (kget l (.inr s)).isSome = true) : run P W (k + 1) 13 [.fr (caseD tr bk l), .fr (.str s)] = .ok (.fr .non) [] := by
  refine run_of0 (e := [some (.fr (caseD tr bk l)), some (.fr (.str s))]) h13 rfl rfl (x_ss (x_iff (r := false) (x_cmp (x_var rfl) (x_fld (x_var rfl) rfl fldc_rw) rfl rfl rfl ?_) rfl x_ss0) x_ss0)
  show cmpD .NotIn (.str s) (.dic l) = _
  rw [notin_dic, h]
  rfl
theorem w_forI {i : Nat} {f : Option Str} {t : Tg} {b : List CS} {e e1 : Cr.Env} {kvs : List (Key × D)} {Inv : Nat → Cr.Env → Prop} {R : Fl → Cr.Env → Prop} (hfz : frzS e i = some e1) (hit : itemsOf e1 i f = some kvs) (hk : keysOk kvs = true) (i0 : Inv 0 e1)
    (st : ∀ j p e, kvs[j]? = some p → Inv j e → ∃ eb, t.bind (itemD p) e = some eb ∧ WP (evSs cal W b eb) fun fl e' => fl = .next ∧ Inv (j + 1) e') (fin : ∀ e2, Inv kvs.length e2 → R .next e2) : WP (evS cal W (.forI true i f t b) e) R := by
  obtain ⟨e2, h2, h3⟩ := forL_ok (f := bodyF cal W t b) (Inv := Inv) (kvs.map itemD) 0 e1 i0 (fun j d e hd hi => by
    rw [Nat.zero_add] at hi ⊢
    rw [List.getElem?_map] at hd
    obtain ⟨p, hp, rfl⟩ := Option.map_eq_some_iff.mp hd
    obtain ⟨eb, hb, fl, e', h4, rfl, h5⟩ := st j p e hp hi
    exact ⟨e', x_body hb h4, h5⟩)
  refine ⟨_, _, ?_, fin e2 (by simpa using h3)⟩
  rw [evS.eq_12]
  simp only [if_true, hfz, hit, hk]
  exact h2
def restB : List CS := [.if_ (.or [.cmp .In (.var 4) (.var 2), .and [.cmp .Eq (.sub (.var 6) (.lit (.int 0))) (.glob "CLAIM" (.str "claim")), .bi .any [.lc [7] (.v 7) (.seq (.sub (.var 6) (.lit (.int 4)))) [] (.cmp .In (.var 7) (.var 5))]]]) [.mut 5 none .app [.var 4]] []]
theorem x_varL {e : Cr.Env} {i : Nat} {l : List Str} (hs : (e[i]?).join = some (strO l)) : ev cal (.var i) e = .ok (.n i, e) := x_varl hs
theorem hit_ev {s0 s1 s3 : Option O} {names found : List Str} {x : Str × CRow} (hi : ∀ how need ins, x.2 = .claim how need ins → ins.length ≤ 100) : ev cal (.or [.cmp .In (.var 4) (.var 2), .and [.cmp .Eq (.sub (.var 6) (.lit (.int 0))) (.glob "CLAIM" (.str "claim")), .bi .any [.lc [7] (.v 7) (.seq (.sub (.var 6) (.lit (.int 4)))) [] (.cmp .In (.var 7) (.var 5))]]]) (Qe s0 s1 (some (.fr (.lst (names.map D.str)))) s3 (some (.fr (.str x.1))) (some (strO found)) (some (.fr (crD x.1 x.2))) none) =
    .ok (.p (.bl (hit names found x)), Qe s0 s1 (some (.fr (.lst (names.map D.str)))) s3 (some (.fr (.str x.1))) (some (strO found)) (some (.fr (crD x.1 x.2))) none) := by
  obtain ⟨nm, r⟩ := x
  simp only at hi ⊢
  have a : ev cal (.cmp .In (.var 4) (.var 2)) (Qe s0 s1 (some (.fr (.lst (names.map D.str)))) s3 (some (.fr (.str nm))) (some (strO found)) (some (.fr (crD nm r))) none) = .ok (.p (.bl (decide (nm ∈ names))), _) := x_cmp (x_var rfl) (x_var rfl) rfl rfl rfl in_lst
  have b0 : ∀ {b : Bool}, cmpD .Eq (.str (wordOf r)) (.str "claim") = some b → ev cal (.cmp .Eq (.sub (.var 6) (.lit (.int 0))) (.glob "CLAIM" (.str "claim"))) (Qe s0 s1 (some (.fr (.lst (names.map D.str)))) s3 (some (.fr (.str nm))) (some (strO found)) (some (.fr (crD nm r))) none) = .ok (.p (.bl b), _) := fun h =>
    x_cmp (x_sub (o := .fr (.str (wordOf r))) (x_var rfl) x_lit rfl rfl (by cases r <;> rfl)) x_glob rfl rfl rfl h
  have no : ∀ {b : CE} {e : Cr.Env} {a : CE}, ev cal a e = .ok (.p (.bl false), e) → ev cal (.and [a, b]) e = .ok (.p (.bl false), e) := fun h => by
    rw [ev.eq_12]
    simp only [evAnd, h, bok, boolh]
  unfold hit
  cases r with
  | claim how need ins =>
    have hlc : ev cal (.lc [7] (.v 7) (.seq (.sub (.var 6) (.lit (.int 4)))) [] (.cmp .In (.var 7) (.var 5))) (Qe s0 s1 (some (.fr (.lst (names.map D.str)))) s3 (some (.fr (.str nm))) (some (strO found)) (some (.fr (crD nm (.claim how need ins)))) none) =
        .ok (.t (.ol ((ins.map D.str).filterMap fun d => match d with | .str y => some (.fr (.bl (decide (y ∈ found)))) | _ => none)), Qe s0 s1 (some (.fr (.lst (names.map D.str)))) s3 (some (.fr (.str nm))) (some (strO found)) (some (.fr (crD nm (.claim how need ins)))) none) := by
      refine x_lc (x_seq (bb := true) (d := .tup (ins.map D.str)) (x_sub (o := .fr (.tup (ins.map D.str))) (x_var rfl) x_lit rfl rfl rfl) rfl) rfl (by have := hi how need ins rfl; simp; omega) fun d hd => ?_
      obtain ⟨y, hy, rfl⟩ := List.mem_map.mp hd
      exact x_turn (e1 := Qe s0 s1 (some (.fr (.lst (names.map D.str)))) s3 (some (.fr (.str nm))) (some (strO found)) (some (.fr (crD nm (.claim how need ins)))) (some (.fr (.str y)))) (h := .p (.bl (decide (y ∈ found)))) rfl (x_cmp (dy := .lst (found.map D.str)) (x_var rfl) (x_varL rfl) rfl rfl (by rw [view_n]; show some (strO found).frz = _; rw [frz_str]) in_lst) rfl rfl rfl
    have e2 : ((ins.map D.str).filterMap fun d => match d with | .str y => some (O.fr (.bl (decide (y ∈ found)))) | _ => none) = (ins.map fun y => decide (y ∈ found)).map fun b => O.fr (.bl b) := by
      rw [List.filterMap_map, List.map_map]
      have e3 : ((fun d : D => match d with | .str y => some (O.fr (.bl (decide (y ∈ found)))) | _ => none) ∘ D.str) = fun y : Str => some (O.fr (.bl (decide (y ∈ found)))) := by funext y; rfl
      rw [e3, List.filterMap_eq_map']
      rfl
    rw [e2] at hlc
    have hany := x_bi (cal := cal) (bi := .any) (x_as hlc x_as0) rfl rfl (any_bools _)
    have := x_or2 a (x_and2 (b0 (by kernel_rfl)) hany)
    simpa [List.any_map, Function.comp_def] using this
  | ground d n => simpa using x_or2 a (no (b0 (b := false) (by kernel_rfl)))
  | guess b => simpa using x_or2 a (no (b0 (b := false) (by kernel_rfl)))
  | bound p q w => simpa using x_or2 a (no (b0 (b := false) (by kernel_rfl)))
  | spare p n => simpa using x_or2 a (no (b0 (b := false) (by kernel_rfl)))
theorem cr_imm (nm : Str) (r : CRow) : (crD nm r).imm = true := by
  cases r <;> simp [crD, D.imm, immL, imm_strs]
theorem immL_map {α : Type} (f : α → D) (h : ∀ a, (f a).imm = true) : ∀ l : List α, immL (l.map f) = true
  | [] => rfl
  | a :: l => by simp [immL, h a, immL_map f h l]
theorem tree_imm (es : List (Str × Int)) (rs : List Rw) : (treeD es rs).imm = true := by
  unfold treeD
  simp only [D.imm, immL, Bool.and_true, Bool.and_eq_true]
  exact ⟨immL_map _ (fun a => by simp [evD, D.imm, immL]) es, immL_map _ (fun a => by simp [D.imm, immL, imm_strs]) rs⟩
theorem clean_case (es : List (Str × Int)) (rs : List Rw) (rows : List (Str × CRow)) : (selfC (.fr (treeD es rs)) (bookO es rs) (.od (odO (csK rows)))).clean = true := by
  have hb := clean_book es rs
  simp only [O.clean, cleanF, tree_imm, Bool.and_true, Bool.true_and, Bool.and_eq_true]
  refine ⟨hb, clean_od _ fun p hp => ?_⟩
  obtain ⟨x, _, rfl⟩ := List.mem_map.mp hp
  exact cr_imm _ _
theorem key_cs : ∀ i < 30, keyOk (.inr (csName i)) = true := by decide +kernel
theorem keys_cs {parts : List Str} {rows : List (Str × CRow)} (ok : CsOk parts rows) (hl : rows.length ≤ 29) : keysOk (csK rows) = true := by
  unfold keysOk
  rw [List.all_eq_true]
  intro p hp
  obtain ⟨x, hx, rfl⟩ := List.mem_map.mp hp
  obtain ⟨j, hj⟩ := List.mem_iff_getElem?.mp hx
  have hlt := (List.getElem?_eq_some_iff.mp hj).1
  simp only [(cs_nth ok hj).nm]
  exact key_cs j (by omega)
theorem restL_len (names : List Str) : ∀ (rows : List (Str × CRow)) (f : List Str), (rows.foldl (stepR names) f).length ≤ f.length + rows.length
  | [], f => by simp
  | x :: rows, f => by
    have := restL_len names rows (stepR names f x)
    have h2 : (stepR names f x).length ≤ f.length + 1 := by unfold stepR; split <;> simp
    simp only [List.foldl_cons, List.length_cons]
    omega
theorem x_mutA {i : Nat} {a : CE} {e e2 : Cr.Env} {h : Hd} {o a2 : O} {xs : List O} (hp : place e i none = some (.ol xs)) (h1 : ev cal a e = .ok (h, e)) (hv : h.val = some o) (hm : muO .app (.ol xs) [o] = some a2) (hs : setS e i a2 = some e2) : evS cal W (.mut i none .app [a]) e = .ok (.next, e2) := by
  rw [evS.eq_11]
  simp only [hp, Option.isNone_none, Bool.true_or, if_true, evs, h1, bok, List.map_cons, List.map_nil, hv, allSome, Option.map_some, hm, Option.bind_some, putPlace, hs]
theorem rest_run (h5 : P[5]? = some f_is_name) (h6 : P[6]? = some f_Tree___init__) (h7 : P[7]? = some f_Tree_is_there) (h8 : P[8]? = some f_Tree_is_row) (h10 : P[10]? = some f_Case___init__) (h11 : P[11]? = some f_Case_is_row) (h12 : P[12]? = some f_Case_is_claim) (h13 : P[13]? = some f_Case_need_name) (h14 : P[14]? = some f_resting) {es : List (Str × Int)} {rs : List Rw} {E R : Nat} (ht : TreeOk es rs E R) (hE : E ≤ 10) (hR : R ≤ 11) {rows : List (Str × CRow)} (ok : CsOk (partsOf es rs) rows) (hl : rows.length ≤ 29) {names : List Str} (hn : ∀ n ∈ names, n ∈ nmsOf rows) :
    run P W (k + 5) 14 [.fr (treeD es rs), .fr (.lst (rowsD rows)), .fr (.lst (names.map D.str))] = .ok (strO (restL names rows)) [] := by
  have main : WP (evSs (run P W (k + 4)) W f_resting.body (Qe (some (.fr (treeD es rs))) (some (.fr (.lst (rowsD rows)))) (some (.fr (.lst (names.map D.str)))) none none none none none)) fun fl e => fl = .ret (strO (restL names rows)) := by
    unfold f_resting
    refine w_ss ⟨_, _, x_set (x_mk (x_as (x_var rfl) (x_as (x_var rfl) x_as0)) rfl rfl (case_init h5 h6 h7 h8 h10 h11 h12 ht hE hR ok hl) (clean_case es rs rows)) rfl (show 3 < 8 by decide), ?_⟩
    refine after_next (w_ss ?_)
    refine w_forD (bb := false) (ds := names.map D.str) (Inv := fun _ e => ∃ x4, e = Qe (some (.fr (treeD es rs))) (some (.fr (.lst (rowsD rows)))) (some (.fr (.lst (names.map D.str)))) (some (selfC (.fr (treeD es rs)) (bookO es rs) (.od (odO (csK rows))))) x4 none none none) (x_var rfl) rfl ⟨none, rfl⟩ ?_ ?_
    · rintro i d e hd ⟨x4, rfl⟩
      obtain ⟨n, hm, rfl⟩ := List.mem_map.mp (List.mem_of_getElem? hd)
      have hk : (kget (csK rows) (.inr n)).isSome = true := kget_some (by
        obtain ⟨y, hy, rfl⟩ := List.mem_map.mp (hn n hm)
        exact List.mem_map.mpr ⟨_, List.mem_map.mpr ⟨y, hy, rfl⟩, rfl⟩)
      refine ⟨_, rfl, w_ss ⟨_, _, x_expr (x_mcall0 (os := [.fr (caseD (treeD es rs) (bookD (chK es) (ndK rs)) (csK rows)), .fr (.str n)]) (x_varo rfl) rfl (by kernel_rfl) (x_as (x_var rfl) x_as0) rfl (by rw [← frz_selfC]; rfl) (need_run h13 hk) rfl rfl), ?_⟩⟩
      exact after_next (w_ss0 ⟨rfl, _, rfl⟩)
    · rintro e ⟨x4, rfl⟩
      refine after_next (w_ss ⟨_, _, x_set (x_lst x_as0 rfl (by simp)) rfl (show 5 < 8 by decide), ?_⟩)
      refine after_next (w_ss ?_)
      refine w_forI (kvs := csK rows) (e1 := Qe (some (.fr (treeD es rs))) (some (.fr (.lst (rowsD rows)))) (some (.fr (.lst (names.map D.str)))) (some (.fr (caseD (treeD es rs) (bookD (chK es) (ndK rs)) (csK rows)))) x4 (some (strO [])) none none) (Inv := fun j e => ∃ x4 x6, e = Qe (some (.fr (treeD es rs))) (some (.fr (.lst (rowsD rows)))) (some (.fr (.lst (names.map D.str)))) (some (.fr (caseD (treeD es rs) (bookD (chK es) (ndK rs)) (csK rows)))) x4 (some (strO (restL names (rows.take j)))) x6 none) (by rw [← frz_selfC]; rfl) (by kernel_rfl) (keys_cs ok hl) ⟨x4, none, rfl⟩ ?_ ?_
      · rintro j p e hp ⟨x4, x6, rfl⟩
        unfold csK at hp
        rw [List.getElem?_map] at hp
        obtain ⟨x, hx, rfl⟩ := Option.map_eq_some_iff.mp hp
        have hlt := (List.getElem?_eq_some_iff.mp hx).1
        refine ⟨_, rfl, w_ss ?_⟩
        have hc := hit_ev (cal := run P W (k + 4)) (s0 := some (.fr (treeD es rs))) (s1 := some (.fr (.lst (rowsD rows)))) (s3 := some (.fr (caseD (treeD es rs) (bookD (chK es) (ndK rs)) (csK rows)))) (names := names) (found := restL names (rows.take j)) (x := x) (fun how need ins e => by
          have q := (cs_nth ok hx).ok
          rw [e] at q
          have := q.2.1
          omega)
        have hstep : restL names (rows.take (j + 1)) = stepR names (restL names (rows.take j)) x := by
          unfold restL
          rw [List.take_add_one, hx]
          simp [List.foldl_append]
        have hle : (restL names (rows.take j)).length ≤ 100 := by
          have := restL_len names (rows.take j) []
          rw [List.length_take] at this
          simp only [List.length_nil] at this
          unfold restL
          omega
        cases hh : hit names (restL names (rows.take j)) x with
        | false =>
          rw [hh] at hc
          refine ⟨_, _, x_iff hc rfl x_ss0, after_next (w_ss0 ⟨rfl, some (.fr (.str x.1)), some (.fr (crD x.1 x.2)), ?_⟩)⟩
          rw [hstep]
          unfold stepR
          rw [hh]
          rfl
        | true =>
          rw [hh] at hc
          refine ⟨_, _, x_ift hc rfl (x_ss (e1 := Qe (some (.fr (treeD es rs))) (some (.fr (.lst (rowsD rows)))) (some (.fr (.lst (names.map D.str)))) (some (.fr (caseD (treeD es rs) (bookD (chK es) (ndK rs)) (csK rows)))) (some (.fr (.str x.1))) (some (strO (restL names (rows.take j) ++ [x.1]))) (some (.fr (crD x.1 x.2))) none) ?_ x_ss0), after_next (w_ss0 ⟨rfl, some (.fr (.str x.1)), some (.fr (crD x.1 x.2)), ?_⟩)⟩
          · have hm : muO .app (strO (restL names (rows.take j))) [.fr (.str x.1)] = some (strO (restL names (rows.take j) ++ [x.1])) := by
              rw [mu_app (by simp; omega)]
              simp [strO]
            exact x_mutA rfl (x_var rfl) rfl hm rfl
          · rw [hstep]
            unfold stepR
            rw [hh]
            rfl
      · rintro e ⟨x4, x6, rfl⟩
        have hlen : (csK rows).length = rows.length := by simp [csK]
        rw [hlen, List.take_length]
        refine after_next (w_ss ⟨_, _, x_ret (x_mv rfl) rfl, after_ret rfl⟩)
  obtain ⟨fl, e, hb, rfl⟩ := main
  exact run_of (k := k + 4) h14 rfl rfl hb
end
end Sh
end

section
namespace Sh
open PySem L2 Cr
/-! the plain law of what rests -/
def chit (found : List Str) (x : Str × CRow) : Bool := match x.2 with
  | .claim _ _ ins => ins.any fun y => decide (y ∈ found)
  | _ => false
theorem hit_eq {S f : List Str} {x : Str × CRow} : hit S f x = (decide (x.1 ∈ S) || chit f x) := rfl
theorem restL_app {S : List Str} {rows : List (Str × CRow)} {x : Str × CRow} : restL S (rows ++ [x]) = stepR S (restL S rows) x := by simp [restL, List.foldl_append]
theorem rest_sub (S : List Str) : ∀ rows : List (Str × CRow), ∀ f g : List Str, List.Sublist f g → List.Sublist (rows.foldl (stepR S) f) (g ++ nmsOf rows)
  | [], f, g, h => by simpa using h
  | x :: rows, f, g, h => by
    have h2 : List.Sublist (stepR S f x) (g ++ [x.1]) := by
      unfold stepR
      split
      · exact List.Sublist.append_right h _
      · exact h.trans (List.sublist_append_left _ _)
    have := rest_sub S rows _ _ h2
    simpa using this
theorem rest_sublist (S : List Str) (rows : List (Str × CRow)) : List.Sublist (restL S rows) (nmsOf rows) := by
  have := rest_sub S rows [] [] (List.Sublist.refl _)
  rw [List.nil_append] at this
  exact this
theorem sub_filter : ∀ {l m : List Str}, List.Sublist l m → m.Nodup → l = m.filter fun y => decide (y ∈ l)
  | _, _, .slnil, _ => rfl
  | l, _, .cons a h, nd => by
    rw [List.nodup_cons] at nd
    have ha : a ∉ l := fun z => nd.1 (h.subset z)
    rw [List.filter_cons_of_neg (by simpa using ha)]
    exact sub_filter h nd.2
  | _, _, .cons_cons (l₁ := l) (l₂ := m) a h, nd => by
    rw [List.nodup_cons] at nd
    rw [List.filter_cons_of_pos (by simp)]
    congr 1
    have e := sub_filter h nd.2
    refine e.trans (List.filter_congr fun y hy => ?_)
    have hne : y ≠ a := fun z => nd.1 (z ▸ hy)
    simp [hne]
theorem chit_congr {f g : List Str} {x : Str × CRow} (h : ∀ how need ins, x.2 = .claim how need ins → ∀ y ∈ ins, (y ∈ f ↔ y ∈ g)) : chit f x = chit g x := by
  obtain ⟨n, r⟩ := x
  cases r with
  | claim how need ins =>
    have h2 := h how need ins rfl
    simp only [chit]
    rw [Bool.eq_iff_iff, List.any_eq_true, List.any_eq_true]
    constructor
    · rintro ⟨y, hy, z⟩
      exact ⟨y, hy, by simpa using (h2 y hy).mp (by simpa using z)⟩
    · rintro ⟨y, hy, z⟩
      exact ⟨y, hy, by simpa using (h2 y hy).mpr (by simpa using z)⟩
  | _ => rfl
section
variable {parts : List Str} {rows : List (Str × CRow)}
theorem ins_ahead {n : Str} {r : CRow} (ok : CRowOk parts (nmsOf rows) r) : ∀ how need ins, (n, r).2 = .claim how need ins → ∀ y ∈ ins, y ∈ nmsOf rows := by
  intro how need ins e y hy
  simp only at e
  rw [e] at ok
  exact ok.2.2.2.1 y hy
theorem cs_fresh (h : CsOk parts rows) (hl : rows.length < 30) : csName rows.length ∉ nmsOf rows := by
  rw [cs_names h]
  intro z
  obtain ⟨i, hi, e⟩ := List.mem_map.mp z
  rw [List.mem_range] at hi
  have := cs_inj i (by omega) rows.length hl e
  omega
theorem old_mem {S : List Str} {n : Str} {r : CRow} {y : Str} (hy : y ≠ n) : y ∈ restL S (rows ++ [(n, r)]) ↔ y ∈ restL S rows := by
  rw [restL_app]
  unfold stepR
  split
  · simp [hy]
  · exact Iff.rfl
theorem new_mem {S : List Str} {n : Str} {r : CRow} (hn : n ∉ nmsOf rows) : n ∈ restL S (rows ++ [(n, r)]) ↔ hit S (restL S rows) (n, r) = true := by
  have h0 : n ∉ restL S rows := fun z => hn ((rest_sublist S rows).subset z)
  rw [restL_app]
  unfold stepR
  split
  · rename_i h; simp [h]
  · rename_i h; simp [h, h0]
theorem rest_hit (h : CsOk parts rows) : rows.length ≤ 30 → ∀ S : List Str, ∀ x ∈ rows, (x.1 ∈ restL S rows ↔ hit S (restL S rows) x = true) := by
  induction h with
  | nil => intro _ S x hx; cases hx
  | @add rows r h ok ih =>
    intro hl S x hx
    have hl : rows.length < 30 := by simp at hl; omega
    have hf := cs_fresh h hl
    rcases List.mem_append.mp hx with z | z
    · have hne : x.1 ≠ csName rows.length := fun e => hf (e ▸ List.mem_map.mpr ⟨x, z, rfl⟩)
      rw [old_mem hne, ih (by omega) S x z, hit_eq, hit_eq]
      obtain ⟨i, hi⟩ := List.mem_iff_getElem?.mp z
      have q := (cs_nth h hi).ok
      have e : chit (restL S rows) x = chit (restL S (rows ++ [(csName rows.length, r)])) x := chit_congr fun how need ins e y hy => by
        rw [e] at q
        have h3 := q.2.2.2.1 y hy
        have h4 : y ∈ nmsOf rows := by
          obtain ⟨w, hw, rfl⟩ := List.mem_map.mp h3
          exact List.mem_map.mpr ⟨w, List.mem_of_mem_take hw, rfl⟩
        exact (old_mem (fun e => hf (by rw [← e]; exact h4))).symm
      rw [e]
    · simp only [List.mem_singleton] at z
      subst z
      rw [new_mem hf, hit_eq, hit_eq]
      have e : chit (restL S rows) (csName rows.length, r) = chit (restL S (rows ++ [(csName rows.length, r)])) (csName rows.length, r) := chit_congr fun how need ins e y hy => by
        have h4 := ins_ahead ok how need ins e y hy
        exact (old_mem (fun e => hf (by rw [← e]; exact h4))).symm
      rw [e]
theorem chit_some {f : List Str} {x : Str × CRow} : chit f x = true ↔ ∃ how need ins y, x.2 = .claim how need ins ∧ y ∈ ins ∧ y ∈ f := by
  obtain ⟨n, r⟩ := x
  cases r with
  | claim how need ins =>
    refine ⟨fun h => ?_, fun ⟨_, _, _, y, e, a, b⟩ => ?_⟩
    · simp only [chit, List.any_eq_true, decide_eq_true_eq] at h
      obtain ⟨y, a, b⟩ := h
      exact ⟨how, need, ins, y, rfl, a, b⟩
    · cases e
      simp only [chit, List.any_eq_true, decide_eq_true_eq]
      exact ⟨y, a, b⟩
  | _ => simp [chit]
theorem rest_union (h : CsOk parts rows) : rows.length ≤ 30 → ∀ S : List Str, ∀ y ∈ nmsOf rows, (y ∈ restL S rows ↔ ∃ s ∈ S, y ∈ restL [s] rows) := by
  induction h with
  | nil => intro _ S y hy; cases hy
  | @add rows r h ok ih =>
    intro hl S y hy
    have hl : rows.length < 30 := by simp at hl; omega
    have hf := cs_fresh h hl
    by_cases e : y = csName rows.length
    · subst e
      have key : ∀ T : List Str, csName rows.length ∈ restL T (rows ++ [(csName rows.length, r)]) ↔ csName rows.length ∈ T ∨ ∃ how need ins z, r = .claim how need ins ∧ z ∈ ins ∧ z ∈ restL T rows := fun T => by
        rw [new_mem hf, hit_eq, Bool.or_eq_true, chit_some, decide_eq_true_eq]
      rw [key]
      constructor
      · rintro (z | ⟨how, need, ins, z, e, hz, hm⟩)
        · exact ⟨_, z, (key _).mpr (.inl (by simp))⟩
        · have h4 := ins_ahead (n := csName rows.length) ok how need ins e z hz
          obtain ⟨s, hs, hm⟩ := (ih (by omega) S z h4).mp hm
          exact ⟨s, hs, (key _).mpr (.inr ⟨how, need, ins, z, e, hz, hm⟩)⟩
      · rintro ⟨s, hs, hm⟩
        rcases (key _).mp hm with z | ⟨how, need, ins, z, e, hz, hm⟩
        · simp only [List.mem_singleton] at z
          exact .inl (z ▸ hs)
        · have h4 := ins_ahead (n := csName rows.length) ok how need ins e z hz
          exact .inr ⟨how, need, ins, z, e, hz, (ih (by omega) S z h4).mpr ⟨s, hs, hm⟩⟩
    · have hy2 : y ∈ nmsOf rows := by
        simp only [nmsOf, List.map_append, List.map_cons, List.map_nil, List.mem_append, List.mem_singleton] at hy
        rcases hy with z | z
        · exact z
        · exact absurd z e
      rw [old_mem e, ih (by omega) S y hy2]
      constructor
      · rintro ⟨s, hs, hm⟩; exact ⟨s, hs, (old_mem e).mpr hm⟩
      · rintro ⟨s, hs, hm⟩; exact ⟨s, hs, (old_mem e).mp hm⟩
theorem rest_closed (h : CsOk parts rows) : rows.length ≤ 30 → ∀ T : List Str, (∀ x ∈ rows, chit T x = true → x.1 ∈ T) → ∀ y ∈ nmsOf rows, (y ∈ restL T rows ↔ y ∈ T) := by
  induction h with
  | nil => intro _ S _ y hy; cases hy
  | @add rows r h ok ih =>
    intro hl T hT y hy
    have hl : rows.length < 30 := by simp at hl; omega
    have hf := cs_fresh h hl
    have ih2 := ih (by omega) T fun x hx => hT x (List.mem_append_left _ hx)
    by_cases e : y = csName rows.length
    · subst e
      rw [new_mem hf, hit_eq, Bool.or_eq_true, decide_eq_true_eq]
      constructor
      · rintro (z | z)
        · exact z
        · refine hT (csName rows.length, r) (by simp) ?_
          rw [chit_some] at z ⊢
          obtain ⟨how, need, ins, y, e, hy, hm⟩ := z
          exact ⟨how, need, ins, y, e, hy, (ih2 y (ins_ahead (n := csName rows.length) ok how need ins e y hy)).mp hm⟩
      · exact .inl
    · have hy2 : y ∈ nmsOf rows := by
        simp only [nmsOf, List.map_append, List.map_cons, List.map_nil, List.mem_append, List.mem_singleton] at hy
        rcases hy with z | z
        · exact z
        · exact absurd z e
      rw [old_mem e, ih2 y hy2]
theorem rest_filter (h : CsOk parts rows) (hl : rows.length ≤ 30) (S : List Str) : restL S rows = (nmsOf rows).filter fun y => decide (∃ s ∈ S, y ∈ restL [s] rows) := by
  refine (sub_filter (rest_sublist S rows) (cs_nodup h hl)).trans (List.filter_congr fun y hy => ?_)
  rw [decide_eq_decide]
  exact rest_union h hl S y hy
theorem rest_again (h : CsOk parts rows) (hl : rows.length ≤ 30) (S : List Str) : restL (restL S rows) rows = restL S rows := by
  have nd := cs_nodup h hl
  refine (sub_filter (rest_sublist _ rows) nd).trans ((List.filter_congr fun y hy => ?_).trans (sub_filter (rest_sublist S rows) nd).symm)
  rw [decide_eq_decide]
  refine rest_closed h hl (restL S rows) (fun x hx hc => ?_) y hy
  rw [rest_hit h hl S x hx, hit_eq, hc]
  simp
theorem rest_all (h : CsOk parts rows) (hl : rows.length ≤ 30) : restL (nmsOf rows) rows = nmsOf rows := by
  have nd := cs_nodup h hl
  refine (sub_filter (rest_sublist _ rows) nd).trans ?_
  rw [List.filter_eq_self]
  intro y hy
  simp only [decide_eq_true_eq]
  exact (rest_closed h hl (nmsOf rows) (fun x hx _ => List.mem_map.mpr ⟨x, hx, rfl⟩) y hy).mpr hy
end
end Sh
end

section
/-! Draws as functions. -/
namespace Sh
open PySem L2 Cr
theorem next_any {cal cal' : Nat → List O → CRes} {W W' : Nat} (os : List O) : runB cal W nextFn os = runB cal' W' nextFn os := by
  kernel_rfl
/-- what is drawn from -/
structure Hs where
  m : Int
  l : List Int
  c : Int
  ok : l.length ≤ 1000
def Hs.o (h : Hs) : O := hst h.m h.l h.c
theorem next_ex (h : Hs) (n : Int) (h0 : 0 < n) (h1 : n < 1000000000) : ∃ q : Int × Hs, (0 ≤ q.1 ∧ q.1 < n) ∧ ∀ (P : List Fn) (W k i : Nat), P[i]? = some nextFn → Cr.run P W (k + 1) i [h.o, .fr (.int n)] = .ok (.fr (.int q.1)) [q.2.o] := by
  obtain ⟨v, m', l', c', hr, v0, v1, hl⟩ := next_ok (P := [nextFn]) (W := 0) (k := 0) (i := 0) rfl h.m h.l h.c n h0 h1 h.ok
  refine ⟨(v, ⟨m', l', c', by rw [hl]; exact h.ok⟩), ⟨v0, v1⟩, fun P W k i hp => ?_⟩
  have e : Cr.run P W (k + 1) i [h.o, .fr (.int n)] = Cr.run [nextFn] 0 1 0 [h.o, .fr (.int n)] := by
    simp only [Cr.run, hp, List.getElem?_cons_zero]
    exact next_any _
  rw [e]
  exact hr
open Classical in
noncomputable def nx (h : Hs) (n : Int) : Int × Hs := if q : 0 < n ∧ n < 1000000000 then (next_ex h n q.1 q.2).choose else (0, h)
noncomputable def nv (h : Hs) (n : Int) : Int := (nx h n).1
noncomputable def nh (h : Hs) (n : Int) : Hs := (nx h n).2
section
variable {P : List Fn} {W k : Nat} {h : Hs} {n : Int}
theorem nx_spec (h0 : 0 < n) (h1 : n < 1000000000) : (0 ≤ nv h n ∧ nv h n < n) ∧ ∀ (P : List Fn) (W k i : Nat), P[i]? = some nextFn → Cr.run P W (k + 1) i [h.o, .fr (.int n)] = .ok (.fr (.int (nv h n))) [(nh h n).o] := by
  have e : nx h n = (next_ex h n h0 h1).choose := by unfold nx; rw [dif_pos ⟨h0, h1⟩]
  unfold nv nh
  rw [e]
  exact (next_ex h n h0 h1).choose_spec
theorem nv0 (h0 : 0 < n) (h1 : n < 1000000000) : 0 ≤ nv h n := (nx_spec h0 h1).1.1
theorem nv1 (h0 : 0 < n) (h1 : n < 1000000000) : nv h n < n := (nx_spec h0 h1).1.2
theorem next_run {i : Nat} (hp : P[i]? = some nextFn) (h0 : 0 < n) (h1 : n < 1000000000) : Cr.run P W (k + 1) i [h.o, .fr (.int n)] = .ok (.fr (.int (nv h n))) [(nh h n).o] := (nx_spec h0 h1).2 P W k i hp
theorem ho_clean : h.o.clean = true := by simp [Hs.o, O.clean, D.imm, cleanL, hst, cleanL_ints]
theorem ho_cleanL : cleanL [h.o] = true := by simp [cleanL, ho_clean]
theorem ho_nofr : ∀ d, h.o ≠ .fr d := fun d z => by cases z
/-- a draw from a slot -/
theorem x_next {e : Cr.Env} {j : Nat} {a : CE} (h0 : P[0]? = some nextFn) (ha : ev (Cr.run P W (k + 1)) a e = .ok (.p (.int n), e)) (n0 : 0 < n) (n1 : n < 1000000000) (hj : (e[j]?).join = some h.o) :
    ev (Cr.run P W (k + 1)) (.call 0 [0] [.io j, a]) e = .ok (.p (.int (nv h n)), e.set j (some (nh h n).o)) := by
  have hio : ev (Cr.run P W (k + 1)) (.io j) e = .ok (.io j, e) := x_io hj
  have hlt : j < e.length := by
    have := getE hj
    exact (List.getElem?_eq_some_iff.mp this).1
  refine x_call (x_as hio (x_as ha x_as0)) rfl ?_ (next_run h0 n0 n1) ?_ (by rw [ho_cleanL]; rfl)
  · simp only [List.map_cons, List.map_nil, Hd.arg, view_p, Option.map_some]
    rw [hj]
    rfl
  · simp [ioSlots, putOuts, setS, hlt]
end
end Sh
end

section
/-! Cases with any names. -/
namespace Sh
open PySem L2 Cr
local macro_rules
  | `(tactic| infer_instance) => `(tactic| repeat (first | rw [WP_bind] | rw [WP_ok] | (refine WP_of_eq (by simp only [io0, io1, ev.eq_1, ev.eq_2, ev.eq_3, ev.eq_5, ev.eq_6, ev.eq_7, ev.eq_8, ev.eq_9, ev.eq_10, ev.eq_12, ev.eq_13, ev.eq_14, ev.eq_15, ev.eq_16, ev.eq_17, ev.eq_18, ev.eq_19, ev.eq_23, ev.eq_28, ev.eq_29, ev.eq_30, evs, evS.eq_1, evS.eq_2, evS.eq_3, evS.eq_4, evS.eq_5, eq_int, ne_int, evS.eq_8, evS.eq_9, evS.eq_10, evS.eq_11, evS.eq_13, evS.eq_16, Option.isNone_none, fld_ch, fld_nd, place_ch, place_nd, put_ch, put_nd, part_no, frz_od, in_dic, evAnd, evOr, boolH, List.getElem?_cons_zero, List.getElem?_cons_succ, join_some, get_p, get_t, get_q, get_n, isq_p, isq_t, isq_n, isq_q, val_p, val_t, view_p, view_t, view_q, view_n, mkh_fr, mkh_ol, mkh_ot, part_fr, part_n, part_t, part_q, add_int, sub_int, min2_int, lt_int, le_int, gt_int, ge_int, Bool.not_false, Bool.not_true, Bool.true_or, Bool.or_true, Bool.false_or, if_true, if_false, Bool.false_eq_true, setS, List.length_cons, List.length_nil, Nat.reduceAdd, Nat.reduceLT, List.set_cons_zero, List.set_cons_succ, List.map_cons, List.map_nil, allSome, Option.map_some, Option.bind_some, lineOk, Nat.zero_le, Nat.reduceLeDiff, decide_true, stayOk, Bool.and_true, Bool.true_and, Bool.and_self, mkT, leafs, frz_nil, eq_dic0, CE.quiet, Option.isSome_none, Option.isSome_some, ev.eq_11, Bool.not_eq_true', Option.isNone_some]; exact rfl) ?_)))
structure CaAt (parts : List Str) (rows : List (Str × CRow)) (i : Nat) (x : Str × CRow) : Prop where
  good : Good x.1
  new : x.1 ∉ nmsOf (rows.take i)
  ok : CRowOk parts (nmsOf (rows.take i)) x.2
/-- rows that may be a case -/
structure CaOk (parts : List Str) (rows : List (Str × CRow)) : Prop where
  len : rows.length ≤ 30
  nth : ∀ {i : Nat} {x : Str × CRow}, rows[i]? = some x → CaAt parts rows i x
theorem ca_nodup {parts : List Str} {rows : List (Str × CRow)} (h : CaOk parts rows) : (nmsOf rows).Nodup := by
  unfold List.Nodup nmsOf
  rw [List.pairwise_iff_getElem]
  intro i j hi hj hij
  simp only [List.length_map] at hi hj
  simp only [List.getElem_map]
  have q := (h.nth (List.getElem?_eq_getElem hj)).new
  intro e
  apply q
  rw [← e]
  unfold nmsOf
  rw [List.mem_map]
  exact ⟨rows[i], List.mem_iff_getElem?.mpr ⟨i, by rw [List.getElem?_take_of_lt hij, List.getElem?_eq_getElem hi]⟩, rfl⟩
theorem ca_of_cs {parts : List Str} {rows : List (Str × CRow)} (h : CsOk parts rows) (hl : rows.length ≤ 30) : CaOk parts rows := by
  refine ⟨hl, fun {i x} hx => ?_⟩
  have q := cs_nth h hx
  have hi := (List.getElem?_eq_some_iff.mp hx).1
  refine ⟨by rw [q.nm]; exact good_cs i (by omega), fun z => ?_, q.ok⟩
  obtain ⟨y, hy, e⟩ := List.mem_map.mp z
  refine cs_new h hl hi _ (List.mem_map.mpr ⟨y, hy, rfl⟩) ?_
  simp only [Sum.inr.injEq]
  rw [e, q.nm]
theorem ca_new {parts : List Str} {rows : List (Str × CRow)} (h : CaOk parts rows) {i : Nat} {x : Str × CRow} (hx : rows[i]? = some x) : ∀ p ∈ csK (rows.take i), p.1 ≠ (.inr x.1 : Key) := by
  intro p hp e
  obtain ⟨y, hy, rfl⟩ := List.mem_map.mp hp
  simp only [Sum.inr.injEq] at e
  exact (h.nth hx).new (e ▸ List.mem_map.mpr ⟨y, hy, rfl⟩)
section
variable {P : List Fn} {k W : Nat}
theorem loopG_ok (h5 : P[5]? = some f_is_name) (h7 : P[7]? = some f_Tree_is_there) (h11 : P[11]? = some f_Case_is_row) (h12 : P[12]? = some f_Case_is_claim) {es : List (Str × Int)} {rs : List Rw} {rows : List (Str × CRow)} (ok : CaOk (partsOf es rs) rows) {tr d0 : D} {bb : Bool} (hd0 : (O.fr d0).items = some (bb, rowsD rows)) {s1 s3 s4 : Option O} {Q : Fl → Cr.Env → Prop}
    (fin : ∀ x3 x4, Q .next (Je (some (selfC (.fr tr) (bookO es rs) (.od (odO (csK rows))))) s1 (some (.fr d0)) x3 x4)) :
    WP (evS (Cr.run P W (k + 2)) W (.for_ (.tup [.v 3, .v 4]) (.enum (.var 2)) initC) (Je (some (selfC (.fr tr) (bookO es rs) (.od []))) s1 (some (.fr d0)) s3 s4)) Q := by
  have hl := ok.len
  refine w_forEnum (bb := bb) (ds := rowsD rows) (Inv := fun i e => ∃ x3 x4, e = Je (some (selfC (.fr tr) (bookO es rs) (.od (odO (csK (rows.take i)))))) s1 (some (.fr d0)) x3 x4) (x_var rfl) hd0 ⟨s3, s4, rfl⟩ ?_ ?_
  · rintro i d e hd ⟨x3, x4, rfl⟩
    unfold rowsD at hd
    rw [List.getElem?_map] at hd
    obtain ⟨x, hx, rfl⟩ := Option.map_eq_some_iff.mp hd
    have hlt := (List.getElem?_eq_some_iff.mp hx).1
    have q := ok.nth hx
    have cn := ca_new ok hx
    obtain ⟨nm, r⟩ := x
    refine ⟨_, rfl, ?_⟩
    unfold initC
    refine w_ss ?_
    infer_instance
    have hi : ((i : Int) == 30) = false := by rw [beq_eq_false_iff_ne]; omega
    rw [hi]
    infer_instance
    have hrow : Cr.run P W (k + 2) 11 [.fr (caseD tr (bookD (chK es) (ndK rs)) (csK (rows.take i))), .fr (crD nm r)] = .ok (.fr (.bl true)) [] :=
      caserow_run h5 h7 h11 h12 q.good (kget_none cn) q.ok (fun x hx => there_all hx) (fun x hx => kget_some (by
        obtain ⟨y, hy, rfl⟩ := List.mem_map.mp hx
        exact List.mem_map.mpr ⟨_, List.mem_map.mpr ⟨y, hy, rfl⟩, rfl⟩))
    refine x_mcall (x_varo rfl) rfl (by kernel_rfl) ?_
    infer_instance
    refine w_call (os := [.fr (caseD tr (bookD (chK es) (ndK rs)) (csK (rows.take i))), .fr (crD nm r)]) rfl (by rw [← frz_selfC]; rfl) hrow rfl rfl ?_
    infer_instance
    refine w_ss0 (after_next (w_ss ?_))
    refine WP_of_eq (r' := .ok (.next, Je (some (selfC (.fr tr) (bookO es rs) (.od (odO (csK (rows.take (i + 1))))))) s1 (some (.fr d0)) (some (.fr (.int i))) (some (.fr (crD nm r))))) ?_ ?_
    · refine x_dput (x_var (i := 4) rfl) rfl placeC rfl (x_sub (x_var (i := 4) rfl) x_lit rfl rfl cr_nm) (put_dic (l := csK (rows.take i)) (s := nm) (by simp [csK]; omega) cn) ?_
      rw [putC, List.take_add_one, hx]
      simp [csK]
    · rw [WP_ok]
      exact after_next (w_ss0 ⟨rfl, _, _, rfl⟩)
  · rintro e ⟨x3, x4, rfl⟩
    have : (rowsD rows).length = rows.length := by simp [rowsD]
    rw [this, List.take_length]
    exact fin x3 x4
/-- the functions that make cases -/
structure HC (P : List Fn) : Prop where
  h5 : P[5]? = some f_is_name
  h6 : P[6]? = some f_Tree___init__
  h7 : P[7]? = some f_Tree_is_there
  h8 : P[8]? = some f_Tree_is_row
  h10 : P[10]? = some f_Case___init__
  h11 : P[11]? = some f_Case_is_row
  h12 : P[12]? = some f_Case_is_claim
def caseO (es : List (Str × Int)) (rs : List Rw) (rows : List (Str × CRow)) : O := selfC (.fr (treeD es rs)) (bookO es rs) (.od (odO (csK rows)))
theorem case_initG (hc : HC P) {es : List (Str × Int)} {rs : List Rw} {E R : Nat} (ht : TreeOk es rs E R) (hE : E ≤ 10) (hR : R ≤ 11) {rows : List (Str × CRow)} (ok : CaOk (partsOf es rs) rows) {d0 : D} {bb : Bool} (hd0 : (O.fr d0).items = some (bb, rowsD rows)) :
    Cr.run P W (k + 4) 10 [.oi 1 [], .fr (treeD es rs), .fr d0] = .ok (.fr .non) [caseO es rs rows] := by
  have main : WP (evSs (Cr.run P W (k + 3)) W f_Case___init__.body (Je (some (.oi 1 [])) (some (.fr (treeD es rs))) (some (.fr d0)) none none)) fun fl e => fl = .next ∧ ∃ r, e = some (selfC (.fr (treeD es rs)) (bookO es rs) (.od (odO (csK rows)))) :: r := by
    unfold f_Case___init__
    refine w_ss ⟨_, _, x_setf (x_var rfl) rfl rfl (by decide) rfl, ?_⟩
    refine after_next (w_ss ⟨_, _, x_setf (x_mk (x_as (x_var rfl) x_as0) rfl rfl (tree_init hc.h5 hc.h6 hc.h7 hc.h8 ht hE hR) (clean_book es rs)) rfl rfl (show 1 < 1000 by decide) rfl, ?_⟩)
    refine after_next (w_ss (WP_of_eq (r' := .ok (.next, Je (some (selfC (.fr (treeD es rs)) (bookO es rs) (.od []))) (some (.fr (treeD es rs))) (some (.fr d0)) none none)) (by kernel_rfl) ?_))
    rw [WP_ok]
    refine after_next (w_ss ?_)
    refine loopG_ok (k := k + 1) hc.h5 hc.h7 hc.h11 hc.h12 ok hd0 fun x3 x4 => ?_
    exact after_next (w_ss0 ⟨rfl, _, rfl⟩)
  obtain ⟨fl, e, hb, rfl, r, rfl⟩ := main
  exact run_ioN (k := k + 3) hc.h10 rfl rfl hb rfl
end
end Sh
end

section
/-! Short words: comprehensions of one slot, loops that may return. -/
namespace Sh
open PySem L2 Cr
theorem atI_nat {α : Type} {l : List α} {i : Nat} {a : α} (h : l[i]? = some a) : atI l (i : Int) = some a := by
  have hi := (List.getElem?_eq_some_iff.mp h).1
  unfold atI
  rw [ixN_nn (by omega) (by omega)]
  simpa using h
theorem atI_m1 {α : Type} {l : List α} {a : α} (h : l.getLast? = some a) : atI l (-1) = some a := by
  obtain ⟨ys, rfl⟩ := List.getLast?_eq_some_iff.mp h
  unfold atI
  have e : ixN (ys ++ [a]).length (-1) = some ys.length := by
    unfold ixN
    simp
    omega
  rw [e]
  simp
theorem filterMap_pif {α β : Type} {p : α → Bool} {g : α → β} : ∀ l : List α, l.filterMap (fun d => if p d = true then some (g d) else none) = (l.filter p).map g
  | [] => rfl
  | d :: ds => by
    rw [List.filterMap_cons]
    cases h : p d with
    | true => simp only [if_true, List.filter_cons_of_pos h, List.map_cons, filterMap_pif ds]
    | false => simp only [Bool.false_eq_true, if_false, List.filter_cons_of_neg (by simp [h] : ¬ p d = true), filterMap_pif ds]
section
variable {cal : Nat → List O → CRes} {W : Nat} {e : Cr.Env} {j : Nat} {s : Sr} {cs : List CE} {c x : CE} {ds : List D} {tr : Bool}
theorem lc1 {g : D → Option O} (h1 : evSr cal s e = .ok (ds, tr, e)) (hj : j < e.length) (hlf : leafOrNone ((e[j]?).join) = true) (hq : (quietL cs && x.quiet) = true) (hl : ds.length ≤ 16777216)
    (h : ∀ d ∈ ds, lcF (fun e => evC cal cs e) (fun e => ev cal x e) (.v j) [j] d (e.set j none) = .ok (g d, e.set j none)) : ev cal (.lc [j] (.v j) s cs x) e = .ok (.t (.ol (ds.filterMap g)), e) := by
  have hw : wipeOk [j] e = true := by unfold wipeOk; simp only [List.all_cons, List.all_nil, Bool.and_true, Bool.and_eq_true, decide_eq_true_eq]; exact ⟨hj, hlf⟩
  have hz : wipeE e [j] = e.set j none := rfl
  rw [ev.eq_20, h1]
  simp only [bok, hw, hq, Bool.or_true, Bool.and_self, if_true]
  rw [hz, lcL_map ds h]
  simp only [Res.noEx, bok, line_ok hl, if_true]
  rw [← hz, back_same hw]
theorem lc1_turn {d : D} {h' : Hd} {o : O} (hj : j < e.length) (hx : ev cal x (e.set j (some (.fr d))) = .ok (h', e.set j (some (.fr d)))) (hv : h'.val = some o) : lcF (fun e => evC cal [] e) (fun e => ev cal x e) (.v j) [j] d (e.set j none) = .ok (some o, e.set j none) := by
  unfold lcF
  have hb : (Tg.v j).bind d (e.set j none) = some (e.set j (some (.fr d))) := by simp [Tg.bind, hj]
  rw [hb]
  simp only [evC, bok, if_true, hx, hv]
  have hw : wipeOk [j] (e.set j (some (.fr d))) = true := by simp [wipeOk, hj, leafOrNone, O.isFr]
  rw [if_pos hw]
  simp [wipeE]
theorem lc1_turnC {d : D} {h' : Hd} {o : O} {b : Bool} (hj : j < e.length) (hc : ev cal c (e.set j (some (.fr d))) = .ok (.p (.bl b), e.set j (some (.fr d)))) (hx : b = true → ev cal x (e.set j (some (.fr d))) = .ok (h', e.set j (some (.fr d)))) (hv : h'.val = some o) :
    lcF (fun e => evC cal [c] e) (fun e => ev cal x e) (.v j) [j] d (e.set j none) = .ok (if b = true then some o else none, e.set j none) := by
  unfold lcF
  have hb : (Tg.v j).bind d (e.set j none) = some (e.set j (some (.fr d))) := by simp [Tg.bind, hj]
  rw [hb]
  have hw : wipeOk [j] (e.set j (some (.fr d))) = true := by simp [wipeOk, hj, leafOrNone, O.isFr]
  have hz : wipeE (e.set j (some (.fr d))) [j] = e.set j none := by simp [wipeE]
  simp only [evC, hc, bok, boolh]
  cases b with
  | true => simp only [evC, bok, if_true, hx rfl, hv, hw, hz]
  | false => simp only [bok, Bool.false_eq_true, if_false, hw, if_true, hz]
/-- [x for slot in ..] -/
theorem lcM {g : D → O} (h1 : evSr cal s e = .ok (ds, tr, e)) (hj : j < e.length) (hlf : leafOrNone ((e[j]?).join) = true) (hq : x.quiet = true) (hl : ds.length ≤ 16777216)
    (h : ∀ d ∈ ds, ∃ h', ev cal x (e.set j (some (.fr d))) = .ok (h', e.set j (some (.fr d))) ∧ h'.val = some (g d)) : ev cal (.lc [j] (.v j) s [] x) e = .ok (.t (.ol (ds.map g)), e) := by
  have q := lc1 (cs := []) (x := x) (g := fun d => some (g d)) h1 hj hlf (by simp [quietL, hq]) hl (fun d hd => by
    obtain ⟨h', a, b⟩ := h d hd
    exact lc1_turn hj a b)
  rwa [List.filterMap_eq_map'] at q
/-- [x for slot in .. if c] -/
theorem lcFM {p : D → Bool} {g : D → O} (h1 : evSr cal s e = .ok (ds, tr, e)) (hj : j < e.length) (hlf : leafOrNone ((e[j]?).join) = true) (hq : (c.quiet && x.quiet) = true) (hl : ds.length ≤ 16777216)
    (h : ∀ d ∈ ds, ev cal c (e.set j (some (.fr d))) = .ok (.p (.bl (p d)), e.set j (some (.fr d))) ∧ ∃ h', (p d = true → ev cal x (e.set j (some (.fr d))) = .ok (h', e.set j (some (.fr d)))) ∧ h'.val = some (g d)) : ev cal (.lc [j] (.v j) s [c] x) e = .ok (.t (.ol ((ds.filter p).map g)), e) := by
  have q := lc1 (cs := [c]) (x := x) (g := fun d => if p d = true then some (g d) else none) h1 hj hlf (by simpa [quietL] using hq) hl (fun d hd => by
    obtain ⟨a, h', b, b2⟩ := h d hd
    exact lc1_turnC hj a b b2)
  rw [filterMap_pif] at q
  exact q
/-- loops that may return -/
theorem forL_R {f : D → Cr.Env → Res (Fl × Cr.Env)} {Inv : Nat → Cr.Env → Prop} {R : Fl → Cr.Env → Prop} : ∀ (ds : List D) (k : Nat) (e : Cr.Env), Inv k e → (∀ i d e, ds[i]? = some d → Inv (k + i) e → ∃ fl e', f d e = .ok (fl, e') ∧ ((fl = .next ∧ Inv (k + i + 1) e') ∨ (∃ o, fl = .ret o) ∧ R fl e')) →
    (∀ e, Inv (k + ds.length) e → R .next e) → ∃ fl e', forL f ds e = .ok (fl, e') ∧ R fl e'
  | [], k, e, h0, st, fin => ⟨.next, e, rfl, fin e h0⟩
  | d :: ds, k, e, h0, st, fin => by
    obtain ⟨fl, e1, h1, h2⟩ := st 0 d e rfl h0
    rcases h2 with ⟨rfl, h2⟩ | ⟨⟨o, rfl⟩, h2⟩
    · obtain ⟨fl, e2, h3, h4⟩ := forL_R ds (k + 1) e1 h2 (fun i d e hd hi => by
        have := st (i + 1) d e (by simpa using hd) (by rw [show k + (i + 1) = k + 1 + i by omega]; exact hi)
        rw [show k + (i + 1) + 1 = k + 1 + i + 1 by omega] at this
        exact this) (fun e he => fin e (by rw [List.length_cons, show k + (ds.length + 1) = k + 1 + ds.length by omega]; exact he))
      exact ⟨fl, e2, by simp only [forL, h1, bok, h3], h4⟩
    · exact ⟨_, e1, by simp only [forL, h1, bok], h2⟩
theorem w_forR {Inv : Nat → Cr.Env → Prop} {R : Fl → Cr.Env → Prop} {t : Tg} {b : List CS} {e1 : Cr.Env} (h1 : evSr cal s e = .ok (ds, false, e1)) (i0 : Inv 0 e1) (st : ∀ i d e, ds[i]? = some d → Inv i e → ∃ eb, t.bind d e = some eb ∧ WP (evSs cal W b eb) fun fl e' => (fl = .next ∧ Inv (i + 1) e') ∨ (∃ o, fl = .ret o) ∧ R fl e')
    (fin : ∀ e2, Inv ds.length e2 → R .next e2) : WP (evS cal W (.for_ t s b) e) R := by
  obtain ⟨fl, e2, h2, h3⟩ := forL_R (f := bodyF cal W t b) (Inv := Inv) (R := R) ds 0 e1 i0 (fun i d e hd hi => by
    rw [Nat.zero_add] at hi ⊢
    obtain ⟨eb, hb, fl, e', h4, h5⟩ := st i d e hd hi
    exact ⟨fl, e', x_body hb h4, h5⟩) (fun e he => fin e (by simpa using he))
  exact ⟨fl, e2, x_for h1 h2, h3⟩
theorem rng_ok2 {a b : Nat} (hb : b ≤ 1000000) (ha : a ≤ 1000000) : rngOk (a : Int) (b : Int) 1 = true := by
  unfold rngOk
  simp only [Bool.and_eq_true, Bool.or_eq_true, decide_eq_true_eq]
  have e : (2 : Int) ^ 60 = 1152921504606846976 := by decide +kernel
  rw [e]
  exact ⟨⟨⟨⟨.inr ⟨by decide, by decide⟩, by omega⟩, by omega⟩, by omega⟩, by omega⟩
theorem rng_l2 {a b : Nat} : rngL (a : Int) (b : Int) 1 = (List.range (b - a)).map fun k => D.int ((a + k : Nat) : Int) := by
  have hn : rngN (a : Int) (b : Int) 1 = b - a := by
    unfold rngN
    rw [if_neg (by decide)]
    simp
  unfold rngL
  rw [hn]
  refine List.map_congr_left fun k _ => ?_
  simp
theorem rng2 {a b : Nat} (hb : b ≤ 1000000) (ha : a ≤ 1000000) : rngOf [.int (a : Int), .int (b : Int)] = some ((List.range (b - a)).map fun k => D.int ((a + k : Nat) : Int)) := by
  rw [← rng_l2]
  show (if rngOk (a : Int) (b : Int) 1 = true then some (rngL (a : Int) (b : Int) 1) else none) = _
  rw [rng_ok2 hb ha]
  rfl
theorem x_rng2 {a b : Nat} {ca cb : CE} (ha : a ≤ 1000000) (hb : b ≤ 1000000) (h1 : ev cal ca e = .ok (.p (.int a), e)) (h2 : ev cal cb e = .ok (.p (.int b), e)) : evSr cal (.rng [ca, cb]) e = .ok ((List.range (b - a)).map fun k => D.int ((a + k : Nat) : Int), false, e) :=
  x_rng (x_as h1 (x_as h2 x_as0)) (os := [.fr (.int a), .fr (.int b)]) rfl (by
    have hb2 : leafs [O.fr (.int (a : Int)), O.fr (.int (b : Int))] = some [.int a, .int b] := rfl
    rw [hb2, Option.bind_some]
    exact rng2 hb ha)
theorem x_rngN {n : Nat} {a : CE} (hn : n ≤ 1000000) (h1 : ev cal a e = .ok (.p (.int n), e)) : evSr cal (.rng [a]) e = .ok ((List.range n).map fun (k : Nat) => D.int k, false, e) :=
  x_rng (x_as h1 x_as0) (os := [.fr (.int n)]) rfl (by
    have hb : leafs [O.fr (.int (n : Int))] = some [.int n] := rfl
    rw [hb, Option.bind_some]
    exact rng_n hn)
theorem viewN {i : Nat} {l : List Str} (h : (e[i]?).join = some (strO l)) : (Hd.n i).view e = some (.lst (l.map D.str)) := by
  rw [view_n, h]
  show some (strO l).frz = _
  rw [frz_str]
theorem viewT {l : List Str} : (Hd.t (strO l)).view e = some (.lst (l.map D.str)) := by
  rw [view_t, frz_str]
theorem notin_lst {x : Str} {l : List Str} : cmpD .NotIn (.str x) (.lst (l.map D.str)) = some (!decide (x ∈ l)) := by
  have h := in_lst (s := x) (l := l)
  show (inD (.str x) (.lst (l.map D.str))).map (fun k => !k) = _
  rw [show inD (.str x) (.lst (l.map D.str)) = some (decide (x ∈ l)) from h]
  rfl
theorem len_lst {l : List D} : biO .len [.fr (.lst l)] = some (.fr (.int l.length)) := by simp [biO, O.frz]
theorem eq_str {a b : Str} : cmpD .Eq (.str a) (.str b) = some (decide (a = b)) := by
  show some (a == b) = _
  congr 1
theorem filt_map {α : Type} {f : α → D} {p : D → Bool} {q : α → Bool} (h : ∀ a, p (f a) = q a) (l : List α) : (l.map f).filter p = (l.filter q).map f := by
  rw [List.filter_map]
  congr 1
  exact List.filter_congr fun a _ => h a
/-- the names of rows -/
theorem lcNames {rows : List (Str × CRow)} (h1 : evSr cal s e = .ok (rowsD rows, tr, e)) (hj : j < e.length) (hlf : leafOrNone ((e[j]?).join) = true) (hl : rows.length ≤ 1000) : ev cal (.lc [j] (.v j) s [] (.sub (.var j) (.lit (.int 1)))) e = .ok (.t (strO (nmsOf rows)), e) := by
  have q := lcM (x := .sub (.var j) (.lit (.int 1))) (g := fun d => (atO (.fr d) (.int 1)).getD (.fr .non)) h1 hj hlf rfl (by simp [rowsD]; omega) (fun d hd => by
    obtain ⟨x, _, rfl⟩ := List.mem_map.mp hd
    exact ⟨_, x_sub (x_var (d := crD x.1 x.2) (by simp [hj])) x_lit rfl rfl cr_nm, by rw [cr_nm]; rfl⟩)
  have e2 : (rowsD rows).map (fun d => (atO (.fr d) (.int 1)).getD (.fr .non)) = (nmsOf rows).map fun s => O.fr (.str s) := by
    unfold rowsD nmsOf
    rw [List.map_map, List.map_map]
    refine List.map_congr_left fun x _ => ?_
    simp only [Function.comp, cr_nm, Option.getD_some]
  rw [e2] at q
  exact q
end
end Sh
end

section
/-! A House: what stands in it, what its methods do. -/
namespace Sh
open PySem L2 Cr
structure Mk where
  j : Int
  n : Str
  e : Nat
  g : Bool
def mkD (m : Mk) : D := .tup [.int m.j, .str m.n, .int m.e, .bl m.g]
abbrev Rows := List (Str × CRow)
def edD (r : Rows) : D := .tup (rowsD r)
abbrev hsF (tr : D) (eds : List Rows) (mks : List Mk) : D := .ins 2 [("tree", tr), ("editions", .lst (eds.map edD)), ("marks", .lst (mks.map mkD))]
abbrev hsO (tr : D) (eds : List Rows) (mks : List Mk) : O := .oi 2 [("tree", .fr tr), ("editions", .ol ((eds.map edD).map O.fr)), ("marks", .ol ((mks.map mkD).map O.fr))]
section
variable {tr : D} {eds : List Rows} {mks : List Mk}
theorem hs_frz : (hsO tr eds mks).frz = hsF tr eds mks := by simp only [O.frz, frzF, frzL_map]
theorem fldF_ed : fldO (.fr (hsF tr eds mks)) "editions" = some (.fr (.lst (eds.map edD))) := by kernel_rfl
theorem fldF_mk : fldO (.fr (hsF tr eds mks)) "marks" = some (.fr (.lst (mks.map mkD))) := by kernel_rfl
theorem fldO_ed : fldO (hsO tr eds mks) "editions" = some (.ol ((eds.map edD).map O.fr)) := by kernel_rfl
theorem fldO_tr : fldO (hsO tr eds mks) "tree" = some (.fr tr) := by kernel_rfl
theorem at_ed {i : Nat} {r : Rows} (h : eds[i]? = some r) : atO (.fr (.lst (eds.map edD))) (.int (i : Int)) = some (.fr (edD r)) := by
  show (atI (eds.map edD) (i : Int)).map O.fr = _
  rw [atI_nat (a := edD r) (by rw [List.getElem?_map, h]; rfl)]
  rfl
theorem at_edl {r : Rows} (h : eds.getLast? = some r) : atO (.fr (.lst (eds.map edD))) (.int (-1)) = some (.fr (edD r)) := by
  show (atI (eds.map edD) (-1)).map O.fr = _
  rw [atI_m1 (a := edD r) (by rw [List.getLast?_map, h]; rfl)]
  rfl
theorem at_edlO {r : Rows} (h : eds.getLast? = some r) : atO (.ol ((eds.map edD).map O.fr)) (.int (-1)) = some (.fr (edD r)) := by
  show atI ((eds.map edD).map O.fr) (-1) = _
  rw [atI_m1 (a := O.fr (edD r)) (by rw [List.getLast?_map, List.getLast?_map, h]; rfl)]
theorem ed_walk {r : Rows} : (O.fr (edD r)).walk = some (true, rowsD r) := rfl
theorem imm_rows : ∀ r : Rows, immL (rowsD r) = true
  | [] => rfl
  | x :: r => by
    show ((crD x.1 x.2).imm && immL (rowsD r)) = true
    rw [cr_imm, imm_rows r]; rfl
theorem ed_imm (r : Rows) : (edD r).imm = true := imm_rows r
theorem clean_eds : ∀ eds : List Rows, cleanL ((eds.map edD).map O.fr) = true
  | [] => rfl
  | r :: eds => by
    show ((edD r).imm && cleanL ((eds.map edD).map O.fr)) = true
    rw [ed_imm, clean_eds eds]; rfl
theorem clean_mks : ∀ mks : List Mk, cleanL ((mks.map mkD).map O.fr) = true
  | [] => rfl
  | r :: mks => by
    show ((mkD r).imm && cleanL ((mks.map mkD).map O.fr)) = true
    rw [clean_mks mks]; rfl
theorem hs_clean (ht : tr.imm = true) : (hsO tr eds mks).clean = true := by
  show (tr.imm && ((cleanL ((eds.map edD).map O.fr)) && ((cleanL ((mks.map mkD).map O.fr)) && true))) = true
  rw [ht, clean_eds, clean_mks]; rfl
end
def down (x : Str × CRow) : List Str := match x.2 with
  | .claim _ _ ins => ins
  | _ => []
def lk (old : Rows) (n : Str) : Option CRow := (old.find? fun x => decide (x.1 = n)).map (·.2)
def tHit (old : Rows) (found : List Str) (x : Str × CRow) : Bool := !decide (lk old x.1 = some x.2) || (down x).any fun y => decide (y ∈ found)
def tStep (old : Rows) (found : List Str) (x : Str × CRow) : List Str := if tHit old found x = true then found ++ [x.1] else found
def touchL (old new : Rows) : List Str := new.foldl (tStep old) []
section
variable {P : List Fn} {k W : Nat} {tr : D} {eds : List Rows} {mks : List Mk}
theorem nc_run (h : P[15]? = some f_need_count) {a lo hi : Int} (h1 : lo ≤ a) (h2 : a ≤ hi) : Cr.run P W (k + 1) 15 [.fr (.int a), .fr (.int lo), .fr (.int hi)] = .ok (.fr .non) [] :=
  run_of0 (e := [some (.fr (.int a)), some (.fr (.int lo)), some (.fr (.int hi))]) h rfl rfl (x_ss (x_iff (r := false) (x_not (r := true) (x_cmp2 (x_var rfl) (x_var rfl) (by rw [le_int, decide_eq_true h1]) (x_var rfl) (by rw [le_int, decide_eq_true h2]))) rfl x_ss0) x_ss0)
/-- the number of editions, less one -/
theorem x_edn {cal : Nat → List O → CRes} {e : Cr.Env} (h0 : (e[0]?).join = some (.fr (hsF tr eds mks))) : ev cal (.bin .Sub (.bi .len [.fld (.var 0) "editions"]) (.lit (.int 1))) e = .ok (.p (.int ((eds.length : Int) - 1)), e) :=
  x_bin (o := .fr (.int ((eds.length : Int) - 1))) (x_bi (x_as (x_fld (x_var h0) rfl fldF_ed) x_as0) rfl rfl (by rw [len_lst, List.length_map])) x_lit rfl rfl rfl rfl
theorem x_edi {cal : Nat → List O → CRes} {e : Cr.Env} {a : CE} {i : Nat} {r : Rows} (h0 : (e[0]?).join = some (.fr (hsF tr eds mks))) (ha : ev cal a e = .ok (.p (.int (i : Int)), e)) (h : eds[i]? = some r) : ev cal (.sub (.fld (.var 0) "editions") a) e = .ok (.p (edD r), e) :=
  x_sub (o := .fr (edD r)) (x_fld (x_var h0) rfl fldF_ed) ha rfl rfl (at_ed h)
theorem x_edl {cal : Nat → List O → CRes} {e : Cr.Env} {r : Rows} (h0 : (e[0]?).join = some (.fr (hsF tr eds mks))) (h : eds.getLast? = some r) : ev cal (.sub (.fld (.var 0) "editions") (.lit (.int (-1)))) e = .ok (.p (edD r), e) :=
  x_sub (o := .fr (edD r)) (x_fld (x_var h0) rfl fldF_ed) x_lit rfl rfl (at_edl h)
/-- rows_of -/
theorem rowsof_run (h15 : P[15]? = some f_need_count) (h17 : P[17]? = some f_House_rows_of) {i : Nat} {r : Rows} (h : eds[i]? = some r) : Cr.run P W (k + 2) 17 [.fr (hsF tr eds mks), .fr (.int i)] = .ok (.ol (r.map crO)) [] := by
  have hi := (List.getElem?_eq_some_iff.mp h).1
  refine run_of (e := [some (.fr (hsF tr eds mks)), some (.fr (.int i))]) h17 rfl rfl (x_ss (x_expr (x_call (io := []) (x_as (x_var rfl) (x_as x_lit (x_as (x_edn rfl) x_as0))) rfl rfl (nc_run h15 (by omega) (by omega)) rfl rfl)) (x_ssr (x_ret (h := .t (.ol (r.map crO))) (x_bi (o := .ol (r.map crO)) (x_as (x_edi rfl (x_var rfl) h) x_as0) rfl rfl ?_) rfl)))
  show ((O.fr (edD r)).walk).map (fun x => O.ol (x.2.map .fr)) = _
  rw [ed_walk]
  simp [rowsD, crO]
/-! what is touched -/
theorem eqDL_strs : ∀ {a b : List Str}, eqDL (a.map D.str) (b.map D.str) = decide (a = b)
  | [], [] => by simp [eqDL]
  | [], _ :: _ => by simp [eqDL]
  | _ :: _, [] => by simp [eqDL]
  | a :: l, b :: m => by
    simp only [List.map_cons, eqDL, eqD_str, eqDL_strs (a := l) (b := m)]
    by_cases h : a = b
    · subst h; simp
    · simp [h]
theorem str_beq {a b : Str} : (a == b) = decide (a = b) := rfl
theorem int_beq {a b : Int} : (a == b) = decide (a = b) := by by_cases h : a = b <;> simp [h]
theorem bool_beq {a b : Bool} : (a == b) = decide (a = b) := by cases a <;> cases b <;> rfl
theorem eqD_cr {a b : Str} {r s : CRow} : eqD (crD a r) (crD b s) = (decide (a = b) && decide (r = s)) := by
  cases r <;> cases s <;> simp only [crD, eqD, eqDL, eqDL_strs, Bool.and_true, Bool.and_false, Bool.false_and, CRow.ground.injEq, CRow.guess.injEq, CRow.bound.injEq, CRow.spare.injEq, CRow.claim.injEq, str_beq, int_beq, bool_beq] <;>
    first
    | (rw [show decide (("ground" : Str) = "guess") = false by decide +kernel]; simp)
    | (rw [show decide (("ground" : Str) = "bound") = false by decide +kernel]; simp)
    | (rw [show decide (("ground" : Str) = "spare") = false by decide +kernel]; simp)
    | (rw [show decide (("ground" : Str) = "claim") = false by decide +kernel]; simp)
    | (rw [show decide (("guess" : Str) = "ground") = false by decide +kernel]; simp)
    | (rw [show decide (("guess" : Str) = "bound") = false by decide +kernel]; simp)
    | (rw [show decide (("guess" : Str) = "spare") = false by decide +kernel]; simp)
    | (rw [show decide (("guess" : Str) = "claim") = false by decide +kernel]; simp)
    | (rw [show decide (("bound" : Str) = "ground") = false by decide +kernel]; simp)
    | (rw [show decide (("bound" : Str) = "guess") = false by decide +kernel]; simp)
    | (rw [show decide (("bound" : Str) = "spare") = false by decide +kernel]; simp)
    | (rw [show decide (("bound" : Str) = "claim") = false by decide +kernel]; simp)
    | (rw [show decide (("spare" : Str) = "ground") = false by decide +kernel]; simp)
    | (rw [show decide (("spare" : Str) = "guess") = false by decide +kernel]; simp)
    | (rw [show decide (("spare" : Str) = "bound") = false by decide +kernel]; simp)
    | (rw [show decide (("spare" : Str) = "claim") = false by decide +kernel]; simp)
    | (rw [show decide (("claim" : Str) = "ground") = false by decide +kernel]; simp)
    | (rw [show decide (("claim" : Str) = "guess") = false by decide +kernel]; simp)
    | (rw [show decide (("claim" : Str) = "bound") = false by decide +kernel]; simp)
    | (rw [show decide (("claim" : Str) = "spare") = false by decide +kernel]; simp)
    | simp [Bool.and_assoc, Bool.decide_and]
theorem shp_cr {a : Str} {r : CRow} : shp 64 (crD a r) = true := by
  cases r <;> simp [crD, shp, shpL, shp_strs]
theorem kget_cs {old : Rows} {n : Str} : kget (odO (csK old)) (.inr n) = (old.find? fun x => decide (x.1 = n)).map fun x => O.fr (crD x.1 x.2) := by
  unfold kget odO csK
  induction old with
  | nil => rfl
  | cons x old ih =>
    simp only [List.map_cons, List.find?_cons, Sum.inr.injEq]
    by_cases h : x.1 = n
    · simp [h]
    · simp only [h, decide_false]
      exact ih
theorem get_cs {old : Rows} {x : Str × CRow} : ∃ d, bmO .get (.od (odO (csK old))) (.str x.1) = some (.fr d) ∧ cmpD .NotEq d (crD x.1 x.2) = some (!decide (lk old x.1 = some x.2)) := by
  have hb : bmO .get (.od (odO (csK old))) (.str x.1) = match kget (odO (csK old)) (.inr x.1) with
      | none => some (.fr .non)
      | some (.fr d) => some (.fr d)
      | some _ => none := rfl
  rw [hb, kget_cs]
  unfold lk
  cases h : old.find? fun y => decide (y.1 = x.1) with
  | none =>
    refine ⟨.non, rfl, ?_⟩
    show (if (shp 64 .non && shp 64 (crD x.1 x.2)) = true then some (!eqD .non (crD x.1 x.2)) else none) = _
    rw [shp_cr]
    have e : eqD .non (crD x.1 x.2) = false := by cases x.2 <;> rfl
    rw [e]
    simp [shp]
  | some y =>
    have hy : y.1 = x.1 := by simpa using List.find?_some h
    refine ⟨crD y.1 y.2, rfl, ?_⟩
    show (if (shp 64 (crD y.1 y.2) && shp 64 (crD x.1 x.2)) = true then some (!eqD (crD y.1 y.2) (crD x.1 x.2)) else none) = _
    rw [shp_cr, shp_cr, eqD_cr, hy]
    simp
theorem dc_rows {cal : Nat → List O → CRes} {e : Cr.Env} {j : Nat} (hj : j < e.length) : ∀ (r : Rows) (acc : List (Key × D)), (acc.map (·.1) ++ (csK r).map (·.1)).Nodup → dcL (fun e => ev cal (.sub (.var j) (.lit (.int 1))) e) (fun e => ev cal (.var j) e) (.v j) (e.set j none) (rowsD r) acc = some (acc ++ csK r)
  | [], acc, _ => by simp [rowsD, csK, dcL]
  | x :: r, acc, h => by
    show dcL _ _ _ _ (crD x.1 x.2 :: rowsD r) acc = _
    unfold dcL
    have hb : (Tg.v j).bind (crD x.1 x.2) (e.set j none) = some (e.set j (some (.fr (crD x.1 x.2)))) := by simp [Tg.bind, hj]
    have hv : ev cal (.var j) (e.set j (some (.fr (crD x.1 x.2)))) = .ok (.p (crD x.1 x.2), e.set j (some (.fr (crD x.1 x.2)))) := x_var (by simp [hj])
    have hk : ev cal (.sub (.var j) (.lit (.int 1))) (e.set j (some (.fr (crD x.1 x.2)))) = .ok (.p (.str x.1), e.set j (some (.fr (crD x.1 x.2)))) := x_sub (o := .fr (.str x.1)) hv x_lit rfl rfl cr_nm
    rw [hb]
    simp only [hv, hk, keyD]
    have hq : ¬ ((acc.any fun p => decide (p.1 = (.inr x.1 : Key))) = true) := fun z => by
      rw [List.any_eq_true] at z
      obtain ⟨p, hp, e⟩ := z
      have e : p.1 = .inr x.1 := by simpa using e
      exact (List.nodup_append.mp h).2.2 _ (e ▸ List.mem_map.mpr ⟨p, hp, rfl⟩) (.inr x.1) (by simp [csK]) rfl
    have e1 : kput acc (.inr x.1) (crD x.1 x.2) = acc ++ [(.inr x.1, crD x.1 x.2)] := by unfold kput; rw [if_neg hq]
    rw [e1, dc_rows hj r _ (by simpa [csK] using h)]
    simp [csK]
theorem ca_keys {r : Rows} (h : (nmsOf r).Nodup) : ((csK r).map (·.1)).Nodup := by
  have e : (csK r).map (·.1) = (nmsOf r).map fun s => (Sum.inr s : Key) := by simp [csK, nmsOf]
  rw [e]
  exact h.map _ fun a b z e => z (Sum.inr.inj e)
end
end Sh
end

section
/-! What a House's methods do. -/
namespace Sh
open PySem L2 Cr
structure HH (P : List Fn) : Prop where
  c : HC P
  h15 : P[15]? = some f_need_count
  h16 : P[16]? = some f_House___init__
  h18 : P[18]? = some f_House_put
  h20 : P[20]? = some f_House_touched
  h21 : P[21]? = some f_House_mark
  h22 : P[22]? = some f_House_is_touched
  h23 : P[23]? = some f_House_verdicts
  h24 : P[24]? = some f_House_is_accepted
  h25 : P[25]? = some f_House_to_do
/-- editions that may be -/
structure EdOk (parts : List Str) (eds : List Rows) : Prop where
  ok : ∀ r ∈ eds, CaOk parts r
  ne : eds ≠ []
  len : eds.length ≤ 1000
abbrev Tv (s0 s1 s2 s3 s4 s5 s6 s7 : Option O) : Cr.Env := [s0, s1, s2, s3, s4, s5, s6, s7]
def touchB : List CS := [.set 6 (.ife (.cmp .Eq (.sub (.var 3) (.lit (.int 0))) (.glob "CLAIM" (.str "claim"))) (.sub (.var 3) (.lit (.int 4))) (.tup [])),
    .if_ (.or [.cmp .NotEq (.bm .get (.var 4) (.sub (.var 3) (.lit (.int 1)))) (.var 3), .bi .any [.lc [7] (.v 7) (.seq (.var 6)) [] (.cmp .In (.var 7) (.var 5))]]) [.mut 5 none .app [.sub (.var 3) (.lit (.int 1))]] []]
theorem x_bm {cal : Nat → List O → CRes} {m : Bm} {a b : CE} {e e1 e2 : Cr.Env} {h : Hd} {x o : O} {y : D} (h1 : ev cal a e = .ok (h, e1)) (g : h.get e1 = some x) (hk : (bmOk m x && b.quiet) = true) (h2 : ev cal b e1 = .ok (.p y, e2)) (hb : bmO m x y = some o) : ev cal (.bm m a b) e = .ok (mkH o, e2) := by
  rw [ev.eq_31, h1]
  simp only [bok, g, hk, if_true, h2, hb]
theorem touch_len (old new : Rows) : (touchL old new).length ≤ new.length := by
  have : ∀ (l : Rows) (acc : List Str), (l.foldl (tStep old) acc).length ≤ acc.length + l.length := by
    intro l
    induction l with
    | nil => intro acc; simp
    | cons x l ih =>
      intro acc
      rw [List.foldl_cons]
      have := ih (tStep old acc x)
      have h2 : (tStep old acc x).length ≤ acc.length + 1 := by unfold tStep; split <;> simp
      simp only [List.length_cons]
      omega
  simpa [touchL] using this new []
section
variable {P : List Fn} {k W : Nat} {tr : D} {eds : List Rows} {mks : List Mk} {parts : List Str}
theorem x_vard {cal : Nat → List O → CRes} {e : Cr.Env} {i : Nat} {l : List (Key × O)} (hs : (e[i]?).join = some (.od l)) : ev cal (.var i) e = .ok (.n i, e) := by rw [ev.eq_3, hs]
theorem down_le {rows : Rows} (h : CaOk parts rows) {i : Nat} {x : Str × CRow} (hx : rows[i]? = some x) : (down x).length ≤ 6 := by
  have q := (h.nth hx).ok
  obtain ⟨a, r⟩ := x
  cases r with
  | claim how need ins => exact q.2.1
  | _ => simp [down]
theorem touched_run (hh : HH P) (hv : EdOk parts eds) {a b : Nat} {old new : Rows} (ha : eds[a]? = some old) (hb : eds[b]? = some new) (hab : a ≤ b) : Cr.run P W (k + 2) 20 [.fr (hsF tr eds mks), .fr (.int a), .fr (.int b)] = .ok (strO (touchL old new)) [] := by
  have hla := (List.getElem?_eq_some_iff.mp ha).1
  have hlb := (List.getElem?_eq_some_iff.mp hb).1
  have oko := hv.ok old (List.mem_of_getElem? ha)
  have okn := hv.ok new (List.mem_of_getElem? hb)
  have hlo := oko.len
  have hln := okn.len
  have main : WP (evSs (Cr.run P W (k + 1)) W f_House_touched.body (Tv (some (.fr (hsF tr eds mks))) (some (.fr (.int a))) (some (.fr (.int b))) none none none none none)) fun fl e => fl = .ret (strO (touchL old new)) := by
    unfold f_House_touched
    refine w_ss ⟨_, _, x_expr (x_call (io := []) (x_as (x_var rfl) (x_as x_lit (x_as (x_edn rfl) x_as0))) rfl rfl (nc_run hh.h15 (by omega) (by omega)) rfl rfl), ?_⟩
    refine after_next (w_ss ⟨_, _, x_expr (x_call (io := []) (x_as (x_var rfl) (x_as (x_var rfl) (x_as (x_edn rfl) x_as0))) rfl rfl (nc_run hh.h15 (by omega) (by omega)) rfl rfl), ?_⟩)
    refine after_next (w_ss ⟨_, _, x_set (i := 4) (h := .t (.od (odO (csK old)))) (e1 := Tv (some (.fr (hsF tr eds mks))) (some (.fr (.int a))) (some (.fr (.int b))) none none none none none) ?_ rfl (show 4 < 8 by decide), ?_⟩)
    · rw [ev.eq_33, x_seq (bb := true) (x_edi rfl (x_var rfl) ha) ed_walk]
      simp only [bok]
      rw [if_pos (by simp [wipeOk, leafOrNone, CE.quiet, lineOk, rowsD]; omega)]
      have q := dc_rows (cal := Cr.run P W (k + 1)) (e := Tv (some (.fr (hsF tr eds mks))) (some (.fr (.int a))) (some (.fr (.int b))) none none none none none) (j := 3) (by show 3 < 8; decide) old [] (by simpa using ca_keys (ca_nodup oko))
      show (match dcL _ _ _ _ (rowsD old) [] with
        | some kvs => _
        | none => _) = _
      rw [show wipeE (Tv (some (.fr (hsF tr eds mks))) (some (.fr (.int a))) (some (.fr (.int b))) none none none none none) [3] = (Tv (some (.fr (hsF tr eds mks))) (some (.fr (.int a))) (some (.fr (.int b))) none none none none none).set 3 none from rfl, q]
      rfl
    refine after_next (w_ss ⟨_, _, x_set (x_lst x_as0 rfl (by simp)) rfl (show 5 < 8 by decide), ?_⟩)
    refine after_next (w_ss ?_)
    refine w_forD (bb := true) (ds := rowsD new) (Inv := fun i e => ∃ x3 x6, leafOrNone x6 = true ∧ e = Tv (some (.fr (hsF tr eds mks))) (some (.fr (.int a))) (some (.fr (.int b))) x3 (some (.od (odO (csK old)))) (some (strO (touchL old (new.take i)))) x6 none) (x_edi rfl (x_var rfl) hb) ed_walk ⟨_, _, rfl, rfl⟩ ?_ ?_
    · rintro i d e hd ⟨x3, x6, h6, rfl⟩
      unfold rowsD at hd
      rw [List.getElem?_map] at hd
      obtain ⟨x, hx, rfl⟩ := Option.map_eq_some_iff.mp hd
      have hlt := (List.getElem?_eq_some_iff.mp hx).1
      have hdn := down_le okn hx
      refine ⟨_, rfl, ?_⟩
      have hset : ∀ cal e, (e[3]?).join = some (.fr (crD x.1 x.2)) → ev cal (.ife (.cmp .Eq (.sub (.var 3) (.lit (.int 0))) (.glob "CLAIM" (.str "claim"))) (.sub (.var 3) (.lit (.int 4))) (.tup [])) e = .ok (.p (.tup ((down x).map D.str)), e) := by
        intro cal e h3
        obtain ⟨nm, r⟩ := x
        have b0 : ∀ {b : Bool}, cmpD .Eq (.str (wordOf r)) (.str "claim") = some b → ev cal (.cmp .Eq (.sub (.var 3) (.lit (.int 0))) (.glob "CLAIM" (.str "claim"))) e = .ok (.p (.bl b), e) := fun h =>
          x_cmp (x_sub (o := .fr (.str (wordOf r))) (x_var h3) x_lit rfl rfl (by cases r <;> rfl)) x_glob rfl rfl rfl h
        have z : ev cal (.tup []) e = .ok (.p (.tup []), e) := x_tup x_as0 rfl (by simp)
        cases r with
        | claim how need ins => exact x_ife (p := true) (b0 (by kernel_rfl)) (x_sub (o := .fr (.tup (ins.map D.str))) (x_var h3) x_lit rfl rfl rfl)
        | ground _ _ => exact x_ife (p := false) (b0 (by kernel_rfl)) z
        | guess _ => exact x_ife (p := false) (b0 (by kernel_rfl)) z
        | bound _ _ _ => exact x_ife (p := false) (b0 (by kernel_rfl)) z
        | spare _ _ => exact x_ife (p := false) (b0 (by kernel_rfl)) z
      refine w_ss ⟨_, _, x_set (hset _ _ rfl) rfl (show 6 < 8 by decide), ?_⟩
      obtain ⟨d, g1, g2⟩ := get_cs (old := old) (x := x)
      have hany : ∀ cal, ev cal (.bi .any [.lc [7] (.v 7) (.seq (.var 6)) [] (.cmp .In (.var 7) (.var 5))]) (Tv (some (.fr (hsF tr eds mks))) (some (.fr (.int a))) (some (.fr (.int b))) (some (.fr (crD x.1 x.2))) (some (.od (odO (csK old)))) (some (strO (touchL old (new.take i)))) (some (.fr (.tup ((down x).map D.str)))) none) =
          .ok (.p (.bl ((down x).any fun y => decide (y ∈ touchL old (new.take i)))), Tv (some (.fr (hsF tr eds mks))) (some (.fr (.int a))) (some (.fr (.int b))) (some (.fr (crD x.1 x.2))) (some (.od (odO (csK old)))) (some (strO (touchL old (new.take i)))) (some (.fr (.tup ((down x).map D.str)))) none) := fun cal => by
        have q := lcM (cal := cal) (e := Tv (some (.fr (hsF tr eds mks))) (some (.fr (.int a))) (some (.fr (.int b))) (some (.fr (crD x.1 x.2))) (some (.od (odO (csK old)))) (some (strO (touchL old (new.take i)))) (some (.fr (.tup ((down x).map D.str)))) none) (j := 7) (s := .seq (.var 6)) (x := .cmp .In (.var 7) (.var 5)) (ds := (down x).map D.str) (tr := false) (g := fun d => match d with | .str y => .fr (.bl (decide (y ∈ touchL old (new.take i)))) | _ => .fr .non) (x_seq (bb := true) (x_var rfl) rfl) (by show 7 < 8; decide) rfl rfl (by simp; omega) (fun d hd => by
          obtain ⟨y, _, rfl⟩ := List.mem_map.mp hd
          exact ⟨_, x_cmp (x_var rfl) (x_varL rfl) rfl rfl (viewN rfl) in_lst, rfl⟩)
        have e2 : ((down x).map D.str).map (fun d => match d with | .str y => O.fr (.bl (decide (y ∈ touchL old (new.take i)))) | _ => .fr .non) = ((down x).map fun y => decide (y ∈ touchL old (new.take i))).map fun b => .fr (.bl b) := by
          rw [List.map_map, List.map_map]
          rfl
        rw [e2] at q
        refine x_bi (o := .fr (.bl _)) (x_as q x_as0) rfl rfl ?_
        show biO .any [.ol (((down x).map fun y => decide (y ∈ touchL old (new.take i))).map fun b => .fr (.bl b))] = _
        rw [any_bools]
        simp
      have hcond := fun cal => x_or2 (x_cmp (x_bm (m := .get) (b := .sub (.var 3) (.lit (.int 1))) (x_vard (i := 4) (l := odO (csK old)) rfl) rfl rfl (x_sub (o := .fr (.str x.1)) (x_var rfl) x_lit rfl rfl cr_nm) g1) (x_var (i := 3) rfl) rfl rfl rfl g2) (hany cal)
      have htake : touchL old (new.take (i + 1)) = tStep old (touchL old (new.take i)) x := by
        rw [List.take_add_one, hx]
        simp [touchL, List.foldl_append]
      have hlen := touch_len old (new.take i)
      refine after_next (w_ss ?_)
      cases hc : tHit old (touchL old (new.take i)) x with
      | true =>
        refine ⟨_, _, x_ift (hcond _) hc (x_ss (x_mutA (i := 5) (xs := (touchL old (new.take i)).map fun s => O.fr (.str s)) rfl (x_sub (o := .fr (.str x.1)) (x_var rfl) x_lit rfl rfl cr_nm) rfl (mu_app (by simp at hlen ⊢; omega)) rfl) x_ss0), ?_⟩
        refine after_next (w_ss0 ⟨rfl, some (.fr (crD x.1 x.2)), some (.fr (.tup ((down x).map D.str))), rfl, ?_⟩)
        have e : strO (touchL old (new.take (i + 1))) = .ol ((touchL old (new.take i)).map (fun s => O.fr (.str s)) ++ [.fr (.str x.1)]) := by
          rw [htake]
          unfold tStep
          rw [if_pos hc]
          simp [strO]
        rw [e]
        rfl
      | false =>
        refine ⟨_, _, x_iff (hcond _) hc x_ss0, after_next (w_ss0 ⟨rfl, some (.fr (crD x.1 x.2)), some (.fr (.tup ((down x).map D.str))), rfl, ?_⟩)⟩
        have e : touchL old (new.take (i + 1)) = touchL old (new.take i) := by
          rw [htake]
          unfold tStep
          rw [hc]
          rfl
        rw [e]
    · rintro e ⟨x3, x6, h6, rfl⟩
      have hl : (rowsD new).length = new.length := by simp [rowsD]
      rw [hl, List.take_length]
      refine after_next (w_ss ⟨_, _, x_ret (x_mv (o := strO (touchL old new)) rfl) rfl, after_ret rfl⟩)
  obtain ⟨fl, e, hb, rfl⟩ := main
  exact run_of (k := k + 1) hh.h20 rfl rfl hb
end
end Sh
end

section
/-! Marks and what they say. -/
namespace Sh
open PySem L2 Cr
def ed (eds : List Rows) (i : Nat) : Rows := eds.getD i []
/-- touched in any edition since one -/
def sHit (eds : List Rows) (n : Str) (later : Nat) : Bool := !decide (n ∈ nmsOf (ed eds later)) || decide (n ∈ touchL (ed eds (later - 1)) (ed eds later))
def since (eds : List Rows) (n : Str) (e : Nat) : Bool := (List.range (eds.length - (e + 1))).any fun k => sHit eds n (e + 1 + k)
theorem pig {α : Type} [DecidableEq α] : ∀ (l m : List α), l.Nodup → (∀ x ∈ l, x ∈ m) → l.length ≤ m.length
  | [], m, _, _ => Nat.zero_le _
  | x :: l, m, hn, h => by
    obtain ⟨h1, h2⟩ := List.nodup_cons.mp hn
    have hx := h x (by simp)
    have := pig l (m.erase x) h2 fun y hy => (List.mem_erase_of_ne (fun z => h1 (by rw [← z]; exact hy))).mpr (h y (by simp [hy]))
    rw [List.length_erase_of_mem hx] at this
    have hp : 0 < m.length := List.length_pos_of_mem hx
    simp only [List.length_cons]
    omega
section
variable {cal : Nat → List O → CRes} {a b : CE} {e e1 e2 : Cr.Env} {op : CmpOp} {dx dy : D} {r : Bool} {l : List Str}
theorem x_cmpP (h1 : ev cal a e = .ok (.p dx, e1)) (h2 : ev cal b e1 = .ok (.p dy, e2)) (h3 : cmpD op dx dy = some r) : ev cal (.cmp op a b) e = .ok (.p (.bl r), e2) := x_cmp h1 h2 rfl rfl rfl h3
theorem x_cmpT (h1 : ev cal a e = .ok (.p dx, e1)) (h2 : ev cal b e1 = .ok (.t (strO l), e2)) (h3 : cmpD op dx (.lst (l.map D.str)) = some r) : ev cal (.cmp op a b) e = .ok (.p (.bl r), e2) := x_cmp h1 h2 rfl rfl viewT h3
theorem x_dict0 : ev cal .dict0 e = .ok (.t (.od []), e) := by rw [ev.eq_30]
end
section
variable {P : List Fn} {k W : Nat} {tr : D} {eds : List Rows} {mks : List Mk} {parts : List Str}
theorem ed_some {i : Nat} (h : i < eds.length) : eds[i]? = some (ed eds i) := by
  unfold ed
  rw [List.getD_eq_getElem?_getD, List.getElem?_eq_getElem h]
  rfl
abbrev Ise (s0 s1 s2 s3 s4 : Option O) : Cr.Env := [s0, s1, s2, s3, s4]
theorem istouched_run (hh : HH P) (hv : EdOk parts eds) {n : Str} {e : Nat} (he : e < eds.length) : Cr.run P W (k + 3) 22 [.fr (hsF tr eds mks), .fr (.str n), .fr (.int e)] = .ok (.fr (.bl (since eds n e))) [] := by
  have hl := hv.len
  have main : WP (evSs (Cr.run P W (k + 2)) W f_House_is_touched.body (Ise (some (.fr (hsF tr eds mks))) (some (.fr (.str n))) (some (.fr (.int e))) none none)) fun fl _ => fl = .ret (.fr (.bl (since eds n e))) := by
    unfold f_House_is_touched
    refine w_ss ?_
    refine w_forR (ds := (List.range (eds.length - (e + 1))).map fun k => D.int ((e + 1 + k : Nat) : Int)) (Inv := fun i en => (∀ j, j < i → sHit eds n (e + 1 + j) = false) ∧ ∃ x3, en = Ise (some (.fr (hsF tr eds mks))) (some (.fr (.str n))) (some (.fr (.int e))) x3 none) (x_rng2 (a := e + 1) (b := eds.length) (by omega) (by omega) ?_ ?_) ⟨fun j hj => absurd hj (by omega), _, rfl⟩ ?_ ?_
    · exact x_bin (o := .fr (.int ((e + 1 : Nat) : Int))) (x_var rfl) x_lit rfl rfl rfl (by simp [binO])
    · exact x_bi (o := .fr (.int (eds.length : Int))) (x_as (x_fld (x_var rfl) rfl fldF_ed) x_as0) rfl rfl (by rw [len_lst, List.length_map])
    · rintro i d en hd ⟨hno, x3, rfl⟩
      obtain ⟨hi, rfl⟩ : i < eds.length - (e + 1) ∧ d = .int ((e + 1 + i : Nat) : Int) := by
        have h1 := (List.getElem?_eq_some_iff.mp hd).1
        simp only [List.length_map, List.length_range] at h1
        rw [List.getElem?_map, List.getElem?_range h1] at hd
        simp at hd
        exact ⟨h1, by rw [← hd]; simp⟩
      have h2 : eds[e + 1 + i]? = some (ed eds (e + 1 + i)) := ed_some (by omega)
      have h1 : eds[e + i]? = some (ed eds (e + i)) := ed_some (by omega)
      have hrow := (hv.ok _ (List.mem_of_getElem? h2)).len
      refine ⟨_, rfl, ?_⟩
      have hc : ev (Cr.run P W (k + 2)) (.or [.cmp .NotIn (.var 1) (.lc [4] (.v 4) (.seq (.sub (.fld (.var 0) "editions") (.var 3))) [] (.sub (.var 4) (.lit (.int 1)))), .cmp .In (.var 1) (.mcall "touched" 2 20 [] (.var 0) [.bin .Sub (.var 3) (.lit (.int 1)), .var 3])])
          (Ise (some (.fr (hsF tr eds mks))) (some (.fr (.str n))) (some (.fr (.int e))) (some (.fr (.int ((e + 1 + i : Nat) : Int)))) none) = .ok (.p (.bl (sHit eds n (e + 1 + i))), Ise (some (.fr (hsF tr eds mks))) (some (.fr (.str n))) (some (.fr (.int e))) (some (.fr (.int ((e + 1 + i : Nat) : Int)))) none) := by
        have ht := touched_run (k := k) (W := W) (tr := tr) (mks := mks) hh hv h1 h2 (by omega)
        have e1 : e + 1 + i - 1 = e + i := by omega
        refine x_or2 (x_cmpT (x_var rfl) (lcNames (rows := ed eds (e + 1 + i)) (x_seq (bb := true) (x_edi rfl (x_var rfl) h2) ed_walk) (show 4 < 5 by decide) rfl (by omega)) notin_lst)
          (x_cmpT (x_var rfl) (x_mcall0 (os := [.fr (hsF tr eds mks), .fr (.int ((e + i : Nat) : Int)), .fr (.int ((e + 1 + i : Nat) : Int))]) (x_var rfl) rfl (by kernel_rfl) (x_as (x_bin (o := .fr (.int ((e + i : Nat) : Int))) (x_var rfl) x_lit rfl rfl rfl (by simp [binO]; omega)) (x_as (x_var rfl) x_as0)) rfl rfl ht rfl (by simp [O.clean, cleanL, clean_strs])) (by rw [in_lst, e1]))
      refine w_ss ?_
      cases hs : sHit eds n (e + 1 + i) with
      | true =>
        refine ⟨_, _, x_ift hc hs (x_ssr (x_ret x_lit rfl)), after_ret (.inr ⟨⟨_, rfl⟩, ?_⟩)⟩
        refine after_ret ?_
        have : since eds n e = true := List.any_eq_true.mpr ⟨i, by simp; omega, hs⟩
        rw [this]
      | false =>
        refine ⟨_, _, x_iff hc hs x_ss0, after_next (w_ss0 (.inl ⟨rfl, fun j hj => ?_, _, rfl⟩))⟩
        by_cases z : j = i
        · rw [z, hs]
        · exact hno j (by omega)
    · rintro en ⟨hno, x3, rfl⟩
      refine after_next (w_ss ⟨_, _, x_ret x_lit rfl, after_ret ?_⟩)
      have : since eds n e = false := by
        unfold since
        rw [List.any_eq_false]
        intro j hj
        rw [hno j (by simpa using hj)]
        simp
      rw [this]
  obtain ⟨fl, en, hb, rfl⟩ := main
  exact run_of (k := k + 2) hh.h22 rfl rfl hb
/-! what is told of a row -/
abbrev Fnd := List (Key × (Nat × Bool))
def fStep (n : Str) (acc : Fnd) (m : Mk) : Fnd := if m.n = n then kput acc (.inl m.j) (m.e, m.g) else acc
def fndL (mks : List Mk) (n : Str) : Fnd := mks.foldl (fStep n) []
def entD (p : Nat × Bool) : D := .tup [.int p.1, .bl p.2]
def fndD (l : Fnd) : List (Key × D) := l.map fun p => (p.1, entD p.2)
def fndK (l : Fnd) : List Int := l.map fun p => match p.1 with
  | .inl i => i
  | .inr _ => 0
def ent (l : Fnd) (j : Int) : Nat × Bool := (kget l (.inl j)).getD (0, false)
def vdL (eds : List Rows) (mks : List Mk) (n : Str) : List (Int × Bool) := ((srtI (fndK (fndL mks n))).filter fun j => !since eds n (ent (fndL mks n) j).1).map fun j => (j, (ent (fndL mks n) j).2)
theorem kput_map {α β : Type} (f : α → β) (l : List (Key × α)) (q : Key) (a : α) : (kput l q a).map (fun p => (p.1, f p.2)) = kput (l.map fun p => (p.1, f p.2)) q (f a) := by
  unfold kput
  have e : ((l.map fun p => (p.1, f p.2)).any fun p => decide (p.1 = q)) = l.any fun p => decide (p.1 = q) := by
    rw [List.any_map]; rfl
  rw [e]
  split
  · rw [List.map_map, List.map_map]
    refine List.map_congr_left fun p _ => ?_
    simp only [Function.comp]
    split <;> rfl
  · simp
theorem kput_keys {α : Type} (l : List (Key × α)) (q : Key) (a : α) : (q ∈ l.map (·.1) ∧ (kput l q a).map (·.1) = l.map (·.1)) ∨ (q ∉ l.map (·.1) ∧ (kput l q a).map (·.1) = l.map (·.1) ++ [q]) := by
  unfold kput
  have e : ((l.any fun p => decide (p.1 = q)) = true) ↔ q ∈ l.map (·.1) := by
    rw [List.any_eq_true, List.mem_map]
    constructor
    · rintro ⟨p, hp, h⟩; exact ⟨p, hp, by simpa using h⟩
    · rintro ⟨p, hp, h⟩; exact ⟨p, hp, by simpa using h⟩
  by_cases h : (l.any fun p => decide (p.1 = q)) = true
  · refine .inl ⟨e.mp h, ?_⟩
    rw [if_pos h, List.map_map]
    refine List.map_congr_left fun p _ => ?_
    simp only [Function.comp]
    split <;> rfl
  · refine .inr ⟨fun z => h (e.mpr z), ?_⟩
    rw [if_neg h]
    simp
/-- judges' numbers, each once -/
structure FOk (l : Fnd) : Prop where
  nd : (l.map (·.1)).Nodup
  js : ∀ p ∈ l, ∃ i : Int, p.1 = .inl i ∧ 0 ≤ i ∧ i ≤ 8
theorem fok_put {l : Fnd} (h : FOk l) {j : Int} (h0 : 0 ≤ j) (h1 : j ≤ 8) (a : Nat × Bool) : FOk (kput l (.inl j) a) := by
  have old : ∀ q ∈ l.map (·.1), ∃ i : Int, q = .inl i ∧ 0 ≤ i ∧ i ≤ 8 := fun q hq => by
    obtain ⟨p, hp, rfl⟩ := List.mem_map.mp hq
    exact h.js p hp
  rcases kput_keys l (.inl j) a with ⟨hm, hk⟩ | ⟨hm, hk⟩
  · exact ⟨by rw [hk]; exact h.nd, fun p hp => old _ (by rw [← hk]; exact List.mem_map.mpr ⟨p, hp, rfl⟩)⟩
  · refine ⟨?_, fun p hp => ?_⟩
    · rw [hk]
      exact List.nodup_append.mpr ⟨h.nd, by simp, fun a ha b hb => by simp at hb; subst hb; exact fun z => hm (z ▸ ha)⟩
    · have : p.1 ∈ l.map (·.1) ++ [.inl j] := by rw [← hk]; exact List.mem_map.mpr ⟨p, hp, rfl⟩
      rcases List.mem_append.mp this with z | z
      · exact old _ z
      · simp at z; exact ⟨j, z, h0, h1⟩
theorem fok {mks : List Mk} (h : ∀ m ∈ mks, 0 ≤ m.j ∧ m.j ≤ 8) (n : Str) : FOk (fndL mks n) := by
  have : ∀ (l : List Mk) (acc : Fnd), (∀ m ∈ l, 0 ≤ m.j ∧ m.j ≤ 8) → FOk acc → FOk (l.foldl (fStep n) acc) := by
    intro l
    induction l with
    | nil => intro acc _ h; exact h
    | cons m l ih =>
      intro acc hm ha
      rw [List.foldl_cons]
      refine ih _ (fun m' h' => hm m' (by simp [h'])) ?_
      unfold fStep
      split
      · exact fok_put ha (hm m (by simp)).1 (hm m (by simp)).2 _
      · exact ha
  exact this mks [] h ⟨by simp, fun p hp => by cases hp⟩
theorem fok_len {l : Fnd} (h : FOk l) : l.length ≤ 9 := by
  have := pig (l.map (·.1)) ((List.range 9).map fun (k : Nat) => (Sum.inl (k : Int) : Key)) h.nd fun q hq => by
    obtain ⟨p, hp, rfl⟩ := List.mem_map.mp hq
    obtain ⟨i, e, h0, h1⟩ := h.js p hp
    rw [e]
    exact List.mem_map.mpr ⟨i.toNat, by simp; omega, by congr 1; omega⟩
  simpa using this
theorem fok_ks : ∀ {l : Fnd}, FOk l → intKs (odO (fndD l)) = some (fndK l)
  | [], _ => rfl
  | (q, a) :: l, h => by
    obtain ⟨i, e, _⟩ := h.js (q, a) (by simp)
    simp only at e
    subst e
    have ih := fok_ks (l := l) ⟨(List.nodup_cons.mp h.nd).2, fun p hp => h.js p (by simp [hp])⟩
    show (intKs (odO (fndD l))).map (i :: ·) = _
    rw [ih]
    rfl
theorem fok_get {l : Fnd} {j : Int} (h : FOk l) (hj : j ∈ fndK l) : kget (odO (fndD l)) (.inl j) = some (.fr (entD (ent l j))) := by
  have hm : (Sum.inl j : Key) ∈ l.map (·.1) := by
    unfold fndK at hj
    obtain ⟨p, hp, e⟩ := List.mem_map.mp hj
    obtain ⟨i, e2, _⟩ := h.js p hp
    rw [e2] at e
    simp only at e
    exact List.mem_map.mpr ⟨p, hp, by rw [e2, e]⟩
  unfold ent
  have : ∀ (l : Fnd), (Sum.inl j : Key) ∈ l.map (·.1) → kget (odO (fndD l)) (.inl j) = some (.fr (entD ((kget l (.inl j)).getD (0, false)))) := by
    intro l
    induction l with
    | nil => intro h; cases h
    | cons p l ih =>
      intro h
      by_cases e : p.1 = .inl j
      · simp [kget, odO, fndD, e]
      · have e1 : kget (odO (fndD (p :: l))) (.inl j) = kget (odO (fndD l)) (.inl j) := by simp [kget, odO, fndD, e]
        have e2 : kget (p :: l) (.inl j) = kget l (.inl j) := by simp [kget, e]
        rw [e1, e2]
        refine ih ?_
        rcases List.mem_cons.mp h with z | z
        · exact absurd z.symm e
        · exact z
  exact this l hm
theorem srt_od {l : List (Key × O)} {ks : List Int} (h : intKs l = some ks) (h2 : ks.length < 64) : srtO (.od l) = some (.ol ((srtI ks).map fun i => .fr (.int i))) := by
  simp only [srtO, h]
  rw [if_pos (by simpa using h2)]
theorem ent_mem {l : Fnd} {j : Int} (h : FOk l) (hj : j ∈ fndK l) : ∃ p ∈ l, ent l j = p.2 := by
  have hm : (Sum.inl j : Key) ∈ l.map (·.1) := by
    unfold fndK at hj
    obtain ⟨p, hp, e⟩ := List.mem_map.mp hj
    obtain ⟨i, e2, _⟩ := h.js p hp
    rw [e2] at e
    simp only at e
    exact List.mem_map.mpr ⟨p, hp, by rw [e2, e]⟩
  have hs := kget_some hm
  unfold ent
  unfold kget at hs ⊢
  cases hf : l.find? fun p => decide (p.1 = .inl j) with
  | none => rw [hf] at hs; cases hs
  | some p => exact ⟨p, List.mem_of_find?_eq_some hf, rfl⟩
theorem fnd_e {mks : List Mk} {N : Nat} (h : ∀ m ∈ mks, m.e < N) (n : Str) : ∀ p ∈ fndL mks n, p.2.1 < N := by
  have : ∀ (l : List Mk) (acc : Fnd), (∀ m ∈ l, m.e < N) → (∀ p ∈ acc, p.2.1 < N) → ∀ p ∈ l.foldl (fStep n) acc, p.2.1 < N := by
    intro l
    induction l with
    | nil => intro acc _ h; exact h
    | cons m l ih =>
      intro acc hm ha
      rw [List.foldl_cons]
      refine ih _ (fun m' h' => hm m' (by simp [h'])) ?_
      unfold fStep
      split
      · unfold kput
        split
        · intro p hp
          obtain ⟨p0, h0, rfl⟩ := List.mem_map.mp hp
          split
          · exact hm m (by simp)
          · exact ha p0 h0
        · intro p hp
          rcases List.mem_append.mp hp with z | z
          · exact ha p z
          · simp at z; subst z; exact hm m (by simp)
      · exact ha
  exact this mks [] h fun p hp => by cases hp
abbrev Vde (s0 s1 s2 s3 s4 s5 s6 s7 s8 : Option O) : Cr.Env := [s0, s1, s2, s3, s4, s5, s6, s7, s8]
theorem evsr_t {cal : Nat → List O → CRes} {a : CE} {e e1 : Cr.Env} {ds : List D} (h : ev cal a e = .ok (.t (.ol (ds.map O.fr)), e1)) : evSr cal (.seq a) e = .ok (ds, false, e1) := by
  rw [evSr, h]
  simp only [bok, get_t, O.walk, O.items, leafs_fr, Option.map_some]
  rfl
theorem verdicts_run (hh : HH P) (hv : EdOk parts eds) (hj : ∀ m ∈ mks, 0 ≤ m.j ∧ m.j ≤ 8) (he : ∀ m ∈ mks, m.e < eds.length) {n : Str} {last : Rows} (hl : eds.getLast? = some last) (hn : n ∈ nmsOf last) :
    Cr.run P W (k + 4) 23 [.fr (hsF tr eds mks), .fr (.str n)] = .ok (.ol ((vdL eds mks n).map fun p => .fr (.tup [.int p.1, .bl p.2]))) [] := by
  have hlast : last.length ≤ 30 := (hv.ok last (by obtain ⟨ys, rfl⟩ := List.getLast?_eq_some_iff.mp hl; simp)).len
  have main : WP (evSs (Cr.run P W (k + 3)) W f_House_verdicts.body (Vde (some (.fr (hsF tr eds mks))) (some (.fr (.str n))) none none none none none none none)) fun fl _ => fl = .ret (.ol ((vdL eds mks n).map fun p => .fr (.tup [.int p.1, .bl p.2]))) := by
    unfold f_House_verdicts
    refine w_ss ⟨_, _, x_iff (r := false) (x_cmpT (x_var rfl) (lcNames (rows := last) (x_seq (bb := true) (x_edl rfl hl) ed_walk) (show 2 < 9 by decide) rfl (by omega)) (by rw [notin_lst]; simp [hn])) rfl x_ss0, ?_⟩
    refine after_next (w_ss ⟨_, _, x_set (o := .od []) x_dict0 rfl (show 3 < 9 by decide), ?_⟩)
    refine after_next (w_ss ?_)
    refine w_forD (bb := false) (ds := mks.map mkD) (Inv := fun i en => ∃ x4 x5 x6 x7, leafOrNone x4 = true ∧ en = Vde (some (.fr (hsF tr eds mks))) (some (.fr (.str n))) none (some (.od (odO (fndD (fndL (mks.take i) n))))) x4 x5 x6 x7 none) (x_fld (x_var rfl) rfl fldF_mk) rfl ⟨_, _, _, _, rfl, rfl⟩ ?_ ?_
    · rintro i d en hd ⟨x4, x5, x6, x7, h4, rfl⟩
      rw [List.getElem?_map] at hd
      obtain ⟨m, hm, rfl⟩ := Option.map_eq_some_iff.mp hd
      have htake : fndL (mks.take (i + 1)) n = fStep n (fndL (mks.take i) n) m := by
        rw [List.take_add_one, hm]
        simp [fndL, List.foldl_append]
      have hlen := fok_len (fok (mks := mks.take i) (fun m hm => hj m (List.mem_of_mem_take hm)) n)
      refine ⟨_, rfl, ?_⟩
      refine w_ss ?_
      cases hc : decide (m.n = n) with
      | true =>
        have hc' := of_decide_eq_true hc
        refine ⟨_, _, x_ift (r := true) (x_cmpP (x_var rfl) (x_var rfl) (by rw [eq_str, hc])) rfl (x_ss (x_dput (i := 3) (f := none) (x_tup (os := [.fr (.int m.e), .fr (.bl m.g)]) (x_as (x_var rfl) (x_as (x_var rfl) x_as0)) rfl (by simp)) rfl rfl rfl (x_var rfl) (a2 := .od (odO (fndD (fndL (mks.take (i + 1)) n)))) ?_ rfl) x_ss0), ?_⟩
        · rw [htake]
          unfold fStep
          rw [if_pos hc']
          unfold fndD
          rw [kput_map entD]
          show (if (lineOk ((odO _).length + 1) && true) = true then some (O.od (kput (odO _) (.inl m.j) _)) else none) = _
          rw [if_pos (by simp [lineOk, odO]; omega)]
          unfold odO
          rw [kput_map O.fr]
          rfl
        · exact after_next (w_ss0 ⟨rfl, _, _, _, _, rfl, rfl⟩)
      | false =>
        have hc' := of_decide_eq_false hc
        refine ⟨_, _, x_iff (r := false) (x_cmpP (x_var rfl) (x_var rfl) (by rw [eq_str, hc])) rfl x_ss0, ?_⟩
        have e2 : fndL (mks.take (i + 1)) n = fndL (mks.take i) n := by rw [htake]; unfold fStep; rw [if_neg hc']
        rw [e2]
        exact after_next (w_ss0 ⟨rfl, _, _, _, _, rfl, rfl⟩)
    · rintro en ⟨x4, x5, x6, x7, h4, rfl⟩
      rw [List.length_map, List.take_length]
      have fk := fok hj n
      have hlen := fok_len fk
      have hs : evSr (Cr.run P W (k + 3)) (.seq (.srtD (.var 3))) (Vde (some (.fr (hsF tr eds mks))) (some (.fr (.str n))) none (some (.od (odO (fndD (fndL mks n))))) x4 x5 x6 x7 none) = .ok ((srtI (fndK (fndL mks n))).map D.int, false, Vde (some (.fr (hsF tr eds mks))) (some (.fr (.str n))) none (some (.od (odO (fndD (fndL mks n))))) x4 x5 x6 x7 none) := by
        refine evsr_t ?_
        rw [ev.eq_32, x_vard rfl]
        have h2 : srtO (.od (odO (fndD (fndL mks n)))) = some (.ol ((srtI (fndK (fndL mks n))).map fun i => .fr (.int i))) := by
          exact srt_od (fok_ks fk) (by simp [fndK]; omega)
        simp only [bok, get_n]
        show (match srtO (.od (odO (fndD (fndL mks n)))) with
          | some o => _
          | none => _) = _
        rw [h2]
        simp
      have hmem : ∀ j ∈ srtI (fndK (fndL mks n)), j ∈ fndK (fndL mks n) := fun j hj => (srtI_perm _).mem_iff.mp hj
      have hes : ∀ j ∈ fndK (fndL mks n), (ent (fndL mks n) j).1 < eds.length := fun j hj => by
        obtain ⟨p, hp, e⟩ := ent_mem fk hj
        rw [e]
        exact fnd_e he n p hp
      have q := lcFM (cal := Cr.run P W (k + 3)) (j := 4) (c := .not (.mcall "is_touched" 2 22 [] (.var 0) [.var 1, .sub (.sub (.var 3) (.var 4)) (.lit (.int 0))])) (x := .tup [.var 4, .sub (.sub (.var 3) (.var 4)) (.lit (.int 1))]) (p := fun d => match d with | .int j => !since eds n (ent (fndL mks n) j).1 | _ => false) (g := fun d => match d with | .int j => .fr (.tup [.int j, .bl (ent (fndL mks n) j).2]) | _ => .fr .non) hs (show 4 < 9 by decide) h4 rfl (by
          have := (srtI_perm (fndK (fndL mks n))).length_eq
          simp [fndK] at this ⊢
          omega) (fun d hd => by
        obtain ⟨j, hj2, rfl⟩ := List.mem_map.mp hd
        have hk := hmem j hj2
        have hat := fok_get fk hk
        have hsub : ev (Cr.run P W (k + 3)) (.sub (.var 3) (.var 4)) (Vde (some (.fr (hsF tr eds mks))) (some (.fr (.str n))) none (some (.od (odO (fndD (fndL mks n))))) (some (.fr (.int j))) x5 x6 x7 none) = .ok (.p (entD (ent (fndL mks n) j)), Vde (some (.fr (hsF tr eds mks))) (some (.fr (.str n))) none (some (.od (odO (fndD (fndL mks n))))) (some (.fr (.int j))) x5 x6 x7 none) := x_sub (o := .fr (entD (ent (fndL mks n) j))) (x_vard rfl) (x_var rfl) rfl rfl hat
        have ht := istouched_run (k := k) (W := W) (tr := tr) (mks := mks) hh hv (n := n) (hes j hk)
        refine ⟨x_not (x_mcall0 (os := [.fr (hsF tr eds mks), .fr (.str n), .fr (.int (ent (fndL mks n) j).1)]) (x_var rfl) rfl (by kernel_rfl) (x_as (x_var rfl) (x_as (x_sub (o := .fr (.int (ent (fndL mks n) j).1)) hsub x_lit rfl rfl rfl) x_as0)) rfl rfl ht rfl rfl), _, fun _ => x_tup (os := [.fr (.int j), .fr (.bl (ent (fndL mks n) j).2)]) (x_as (x_var rfl) (x_as (x_sub (o := .fr (.bl (ent (fndL mks n) j).2)) hsub x_lit rfl rfl rfl) x_as0)) rfl (by simp), rfl⟩)
      refine after_next (w_ss ⟨_, _, x_set q rfl (show 8 < 9 by decide), ?_⟩)
      refine after_next (w_ss ⟨_, _, x_ret (x_mv (o := .ol _) rfl) rfl, after_ret ?_⟩)
      congr 2
      unfold vdL
      rw [filt_map (q := fun j => !since eds n (ent (fndL mks n) j).1) (fun j => rfl), List.map_map, List.map_map]
      rfl
  obtain ⟨fl, en, hb, rfl⟩ := main
  exact run_of (k := k + 3) hh.h23 rfl rfl hb
end
end Sh
end

section
/-! What a House accepts, what is put, marked. -/
namespace Sh
open PySem L2 Cr
def accL (eds : List Rows) (mks : List Mk) (n : Str) (many : Int) : Bool := decide (many ≤ ((vdL eds mks n).length : Int)) && (vdL eds mks n).all (·.2)
theorem all_bools (bs : List Bool) : biO .all [.ol (bs.map fun b => .fr (.bl b))] = some (.fr (.bl (bs.all id))) := by
  have e : (bs.map fun b => O.fr (.bl b)) = (bs.map D.bl).map O.fr := by simp
  have hb : ∀ bs : List Bool, boolsD (bs.map D.bl) = some bs := fun bs => by
    induction bs with
    | nil => rfl
    | cons a l ih => simp [boolsD, ih]
  rw [e]
  simp only [biO, O.items, leafs_fr, Option.map_some, hb]
theorem x_and2F {cal : Nat → List O → CRes} {e e1 : Cr.Env} {a b : CE} (h1 : ev cal a e = .ok (.p (.bl false), e1)) : ev cal (.and [a, b]) e = .ok (.p (.bl false), e1) := by
  rw [ev.eq_12]
  simp only [evAnd, h1, bok, boolh]
theorem ok_idx {l : List Str} : bmOk .index (strO l) = true := by
  have hi : (strO l).items = some (false, l.map D.str) := by rw [strO_eq]; simp only [O.items, leafs_fr, Option.map_some]
  unfold bmOk
  simp only [hi]
theorem len_ol (ds : List D) : biO .len [.ol (ds.map O.fr)] = some (.fr (.int ds.length)) := by simp only [biO, O.frz, frzL_map]
theorem put_mk {t a b o : O} {r : List (Option O)} : putPlace (some (.oi 2 [("tree", t), ("editions", a), ("marks", b)]) :: r) 0 (some "marks") o = some (some (.oi 2 [("tree", t), ("editions", a), ("marks", o)]) :: r) := by kernel_rfl
theorem put_ed {t a b o : O} {r : List (Option O)} : putPlace (some (.oi 2 [("tree", t), ("editions", a), ("marks", b)]) :: r) 0 (some "editions") o = some (some (.oi 2 [("tree", t), ("editions", o), ("marks", b)]) :: r) := by kernel_rfl
theorem viewNL {e : Cr.Env} {i : Nat} {ds : List D} (h : (e[i]?).join = some (.ol (ds.map O.fr))) : (Hd.n i).view e = some (.lst ds) := by
  rw [view_n, h]
  simp only [Option.map_some, O.frz, frzL_map]
theorem idx_str {l : List Str} {n : Str} {i : Nat} (h : (l.findIdx? fun m => decide (m = n)) = some i) (hl : l.length ≤ 1000) : bmO .index (strO l) (.str n) = some (.fr (.int i)) := by
  have hi : (strO l).items = some (false, l.map D.str) := by rw [strO_eq]; simp only [O.items, leafs_fr, Option.map_some]
  have hf : (l.map D.str).all flatD = true := by simp [flatD]
  have hm : ((l.map D.str).findIdx? fun z => eqD z (.str n)) = some i := by
    rw [← h]
    clear hi hf h hl
    induction l with
    | nil => rfl
    | cons a l ih => rw [List.map_cons, List.findIdx?_cons, List.findIdx?_cons, ih]; rfl
  unfold bmO
  simp only [hi]
  rw [if_pos (by rw [hf]; simp [flatD]; omega), hm]
  rfl
section
variable {P : List Fn} {k W : Nat} {tr : D} {eds : List Rows} {mks : List Mk} {parts : List Str}
/-- marks that may be -/
structure MkOk (eds : List Rows) (mks : List Mk) : Prop where
  j : ∀ m ∈ mks, 0 ≤ m.j ∧ m.j ≤ 8
  e : ∀ m ∈ mks, m.e < eds.length
theorem vd_le (hm : MkOk eds mks) (n : Str) : (vdL eds mks n).length ≤ 9 := by
  have h1 := fok_len (fok hm.j n)
  have h2 := (srtI_perm (fndK (fndL mks n))).length_eq
  have h3 := List.length_filter_le (fun j => !since eds n (ent (fndL mks n) j).1) (srtI (fndK (fndL mks n)))
  simp only [vdL, List.length_map]
  simp [fndK] at h2 h3 ⊢
  omega
abbrev Ace (s0 s1 s2 s3 s4 s5 : Option O) : Cr.Env := [s0, s1, s2, s3, s4, s5]
theorem accepted_run (hh : HH P) (hv : EdOk parts eds) (hm : MkOk eds mks) {n : Str} {many : Int} {last : Rows} (hl : eds.getLast? = some last) (hn : n ∈ nmsOf last) (m1 : 1 ≤ many) (m9 : many ≤ 9) :
    Cr.run P W (k + 5) 24 [.fr (hsF tr eds mks), .fr (.str n), .fr (.int many)] = .ok (.fr (.bl (accL eds mks n many))) [] := by
  have hvd := verdicts_run (k := k) (W := W) (tr := tr) hh hv hm.j hm.e hl hn
  have hle := vd_le hm n
  let E : Cr.Env := Ace (some (.fr (hsF tr eds mks))) (some (.fr (.str n))) (some (.fr (.int many))) none none none
  have hcl : cleanL ((vdL eds mks n).map fun p => O.fr (.tup [.int p.1, .bl p.2])) = true := by
    generalize vdL eds mks n = l
    induction l with
    | nil => rfl
    | cons p l ih => show ((D.tup [.int p.1, .bl p.2]).imm && _) = true; rw [ih]; rfl
  have hsrc : evSr (Cr.run P W (k + 4)) (.seq (.mcall "verdicts" 2 23 [] (.var 0) [.var 1])) E = .ok ((vdL eds mks n).map fun p => .tup [.int p.1, .bl p.2], false, E) := by
    refine evsr_t ?_
    have q := x_mcall0 (cal := Cr.run P W (k + 4)) (m := "verdicts") (c := 2) (f := 23) (a := .var 0) (as := [.var 1]) (e := E) (e1 := E) (e2 := E) (os := [.fr (hsF tr eds mks), .fr (.str n)]) (x_var rfl) rfl (by kernel_rfl) (x_as (x_var rfl) x_as0) rfl rfl hvd rfl (by simp [O.clean, cleanL, hcl])
    rw [q]
    simp [mkH]
  have hlc : ev (Cr.run P W (k + 4)) (.lc [3, 4] (.tup [.v 3, .v 4]) (.seq (.mcall "verdicts" 2 23 [] (.var 0) [.var 1])) [] (.var 4)) E = .ok (.t (.ol (((vdL eds mks n).map (·.2)).map fun b => .fr (.bl b))), E) := by
    have q := x_lc (cal := Cr.run P W (k + 4)) (e := E) (own := [3, 4]) (tg := .tup [.v 3, .v 4]) (cs := []) (x := .var 4) (g := fun d => match d with | .tup [_, .bl b] => some (.fr (.bl b)) | _ => none) hsrc rfl (by simp; omega) (fun d hd => by
      obtain ⟨p, _, rfl⟩ := List.mem_map.mp hd
      exact x_turn (e1 := Ace (some (.fr (hsF tr eds mks))) (some (.fr (.str n))) (some (.fr (.int many))) (some (.fr (.int p.1))) (some (.fr (.bl p.2))) none) (h := .p (.bl p.2)) rfl (x_var rfl) rfl rfl rfl)
    have e2 : ((vdL eds mks n).map fun p => D.tup [.int p.1, .bl p.2]).filterMap (fun d => match d with | .tup [_, .bl b] => some (O.fr (.bl b)) | _ => none) = ((vdL eds mks n).map (·.2)).map fun b => .fr (.bl b) := by
      rw [List.filterMap_map, List.map_map, ← List.filterMap_eq_map']
      rfl
    rw [e2] at q
    exact q
  have hgl : (((vdL eds mks n).map (·.2)).map fun b => O.fr (.bl b)) = ((((vdL eds mks n).map (·.2)).map D.bl).map O.fr) := by simp
  have main : WP (evSs (Cr.run P W (k + 4)) W f_House_is_accepted.body E) fun fl _ => fl = .ret (.fr (.bl (accL eds mks n many))) := by
    unfold f_House_is_accepted
    refine w_ss ⟨_, _, x_set hlc rfl (show 5 < 6 by decide), ?_⟩
    refine after_next (w_ss ⟨_, _, x_expr (x_call (io := []) (x_as (x_var rfl) (x_as x_lit (x_as x_glob x_as0))) rfl rfl (nc_run hh.h15 m1 m9) rfl rfl), ?_⟩)
    refine after_next (w_ss ?_)
    have hge : ev (Cr.run P W (k + 4)) (.cmp .GtE (.bi .len [.var 5]) (.var 2)) (Ace (some (.fr (hsF tr eds mks))) (some (.fr (.str n))) (some (.fr (.int many))) none none (some (.ol (((vdL eds mks n).map (·.2)).map fun b => .fr (.bl b))))) = .ok (.p (.bl (decide (many ≤ ((vdL eds mks n).length : Int)))), Ace (some (.fr (hsF tr eds mks))) (some (.fr (.str n))) (some (.fr (.int many))) none none (some (.ol (((vdL eds mks n).map (·.2)).map fun b => .fr (.bl b))))) := by
      refine x_cmpP (x_bi (o := .fr (.int ((vdL eds mks n).length : Int))) (x_as (x_varl rfl) x_as0) rfl rfl ?_) (x_var rfl) (by rw [ge_int])
      rw [hgl, len_ol]
      simp
    have hall : ev (Cr.run P W (k + 4)) (.bi .all [.var 5]) (Ace (some (.fr (hsF tr eds mks))) (some (.fr (.str n))) (some (.fr (.int many))) none none (some (.ol (((vdL eds mks n).map (·.2)).map fun b => .fr (.bl b))))) = .ok (.p (.bl ((vdL eds mks n).all (·.2))), Ace (some (.fr (hsF tr eds mks))) (some (.fr (.str n))) (some (.fr (.int many))) none none (some (.ol (((vdL eds mks n).map (·.2)).map fun b => .fr (.bl b))))) := by
      refine x_bi (o := .fr (.bl ((vdL eds mks n).all (·.2)))) (x_as (x_varl rfl) x_as0) rfl rfl ?_
      rw [all_bools]
      simp [List.all_map, Function.comp_def]
    unfold accL
    cases hd : decide (many ≤ ((vdL eds mks n).length : Int)) with
    | true =>
      rw [hd] at hge
      exact ⟨_, _, x_ret (x_and2 hge hall) rfl, after_ret (by simp)⟩
    | false =>
      rw [hd] at hge
      exact ⟨_, _, x_ret (x_and2F hge) rfl, after_ret (by simp)⟩
  obtain ⟨fl, en, hb, rfl⟩ := main
  exact run_of (k := k + 4) hh.h24 rfl rfl hb
abbrev Tde (s0 s1 s2 : Option O) : Cr.Env := [s0, s1, s2]
theorem todo_run (hh : HH P) (hv : EdOk parts eds) (hm : MkOk eds mks) {many : Int} {last : Rows} (hl : eds.getLast? = some last) (m1 : 1 ≤ many) (m9 : many ≤ 9) :
    Cr.run P W (k + 6) 25 [.fr (hsF tr eds mks), .fr (.int many)] = .ok (strO ((nmsOf last).filter fun n => !accL eds mks n many)) [] := by
  have hlast : last.length ≤ 30 := (hv.ok last (by obtain ⟨ys, rfl⟩ := List.getLast?_eq_some_iff.mp hl; simp)).len
  let E : Cr.Env := Tde (some (.fr (hsF tr eds mks))) (some (.fr (.int many))) none
  have q := lcFM (cal := Cr.run P W (k + 5)) (e := E) (j := 2) (s := .seq (.sub (.fld (.var 0) "editions") (.lit (.int (-1))))) (c := .not (.mcall "is_accepted" 2 24 [] (.var 0) [.sub (.var 2) (.lit (.int 1)), .var 1])) (x := .sub (.var 2) (.lit (.int 1))) (ds := rowsD last) (tr := false)
    (p := fun d => match atO (.fr d) (.int 1) with | some (.fr (.str n)) => !accL eds mks n many | _ => false) (g := fun d => (atO (.fr d) (.int 1)).getD (.fr .non)) (x_seq (bb := true) (x_edl rfl hl) ed_walk) (show 2 < 3 by decide) rfl rfl (by simp [rowsD]; omega) (fun d hd => by
      obtain ⟨x, hx, rfl⟩ := List.mem_map.mp hd
      have ha := accepted_run (k := k) (W := W) (tr := tr) (n := x.1) hh hv hm hl (List.mem_map.mpr ⟨x, hx, rfl⟩) m1 m9
      have hs : ev (Cr.run P W (k + 5)) (.sub (.var 2) (.lit (.int 1))) (Tde (some (.fr (hsF tr eds mks))) (some (.fr (.int many))) (some (.fr (crD x.1 x.2)))) = .ok (.p (.str x.1), Tde (some (.fr (hsF tr eds mks))) (some (.fr (.int many))) (some (.fr (crD x.1 x.2)))) := x_sub (o := .fr (.str x.1)) (x_var rfl) x_lit rfl rfl cr_nm
      rw [cr_nm]
      exact ⟨x_not (x_mcall0 (os := [.fr (hsF tr eds mks), .fr (.str x.1), .fr (.int many)]) (x_var rfl) rfl (by kernel_rfl) (x_as hs (x_as (x_var rfl) x_as0)) rfl rfl ha rfl rfl), _, fun _ => hs, rfl⟩)
  have e2 : ((rowsD last).filter fun d => match atO (.fr d) (.int 1) with | some (.fr (.str n)) => !accL eds mks n many | _ => false).map (fun d => (atO (.fr d) (.int 1)).getD (.fr .non)) = ((nmsOf last).filter fun n => !accL eds mks n many).map fun s => O.fr (.str s) := by
    unfold rowsD nmsOf
    rw [List.filter_map, List.filter_map, List.map_map, List.map_map]
    have e3 : ((fun d => match atO (.fr d) (.int 1) with | some (.fr (.str n)) => !accL eds mks n many | _ => false) ∘ fun x : Str × CRow => crD x.1 x.2) = ((fun n => !accL eds mks n many) ∘ fun x : Str × CRow => x.1) := by
      funext x
      simp only [Function.comp, cr_nm]
    rw [e3]
    refine List.map_congr_left fun x _ => ?_
    simp only [Function.comp, cr_nm, Option.getD_some]
  rw [e2] at q
  exact run_of (k := k + 5) (e := E) hh.h25 rfl rfl (x_ss (x_expr (x_call (io := []) (x_as (x_var rfl) (x_as x_lit (x_as x_glob x_as0))) rfl rfl (nc_run hh.h15 m1 m9) rfl rfl)) (x_ssr (x_ret q rfl)))
/-! the ways that change it -/
theorem x_varH {cal : Nat → List O → CRes} {e : Cr.Env} {i : Nat} (hs : (e[i]?).join = some (hsO tr eds mks)) : ev cal (.var i) e = .ok (.n i, e) := by rw [ev.eq_3, hs]
theorem x_ednO {cal : Nat → List O → CRes} {e : Cr.Env} (h0 : (e[0]?).join = some (hsO tr eds mks)) : ev cal (.bin .Sub (.bi .len [.fld (.var 0) "editions"]) (.lit (.int 1))) e = .ok (.p (.int ((eds.length : Int) - 1)), e) :=
  x_bin (o := .fr (.int ((eds.length : Int) - 1))) (x_bi (o := .fr (.int (eds.length : Int))) (x_as (x_fld (x_varH h0) h0 fldO_ed) x_as0) rfl rfl (by rw [len_ol, List.length_map])) x_lit rfl rfl rfl rfl
theorem x_edlO {cal : Nat → List O → CRes} {e : Cr.Env} {r : Rows} (h0 : (e[0]?).join = some (hsO tr eds mks)) (h : eds.getLast? = some r) : ev cal (.sub (.fld (.var 0) "editions") (.lit (.int (-1)))) e = .ok (.p (edD r), e) :=
  x_sub (o := .fr (edD r)) (x_fld (x_varH h0) h0 fldO_ed) x_lit rfl rfl (at_edlO h)
theorem x_mutF {cal : Nat → List O → CRes} {i : Nat} {f : Str} {a : CE} {e e2 : Cr.Env} {h : Hd} {o a2 : O} {xs : List O} (hp : place e i (some f) = some (.ol xs)) (hq : quietL [a] = true) (h1 : ev cal a e = .ok (h, e)) (hv : h.val = some o) (hm : muO .app (.ol xs) [o] = some a2) (hs : putPlace e i (some f) a2 = some e2) : evS cal W (.mut i (some f) .app [a]) e = .ok (.next, e2) := by
  rw [evS.eq_11]
  simp only [hp, hq, Bool.or_true, if_true]
  rw [x_as h1 x_as0]
  simp only [bok, List.map_cons, List.map_nil, hv, allSome, Option.map_some, hp, Option.bind_some, hm, hs]
abbrev Mke (s0 s1 s2 s3 s4 : Option O) : Cr.Env := [s0, s1, s2, s3, s4]
theorem mark_run (hh : HH P) (hv : EdOk parts eds) {j : Int} {n : Str} {g : Bool} {last : Rows} (hl : eds.getLast? = some last) (hn : n ∈ nmsOf last) (j0 : 0 ≤ j) (j8 : j ≤ 8) (hk : mks.length ≤ 10000) :
    Cr.run P W (k + 2) 21 [hsO tr eds mks, .fr (.int j), .fr (.str n), .fr (.bl g)] = .ok (.fr .non) [hsO tr eds (mks ++ [⟨j, n, eds.length - 1, g⟩])] := by
  have hlast : last.length ≤ 30 := (hv.ok last (by obtain ⟨ys, rfl⟩ := List.getLast?_eq_some_iff.mp hl; simp)).len
  have hne : 1 ≤ eds.length := by have := hv.ne; cases eds with | nil => exact absurd rfl this | cons => simp
  let E : Cr.Env := Mke (some (hsO tr eds mks)) (some (.fr (.int j))) (some (.fr (.str n))) (some (.fr (.bl g))) none
  have s1 : evS (Cr.run P W (k + 1)) W (.expr (.call 15 [] [.var 1, .lit (.int 0), .bin .Sub (.glob "MOST_JUDGES" (.int 9)) (.lit (.int 1))])) E = .ok (.next, E) :=
    x_expr (x_call (io := []) (x_as (x_var rfl) (x_as x_lit (x_as (x_bin (o := .fr (.int 8)) x_glob x_lit rfl rfl rfl rfl) x_as0))) rfl rfl (nc_run hh.h15 j0 j8) rfl rfl)
  have s2 : evS (Cr.run P W (k + 1)) W (.if_ (.cmp .NotIn (.var 2) (.lc [4] (.v 4) (.seq (.sub (.fld (.var 0) "editions") (.lit (.int (-1))))) [] (.sub (.var 4) (.lit (.int 1))))) [.never] []) E = .ok (.next, E) :=
    x_iff (r := false) (x_cmpT (x_var rfl) (lcNames (rows := last) (x_seq (bb := true) (x_edlO rfl hl) ed_walk) (show 4 < 5 by decide) rfl (by omega)) (by rw [notin_lst]; simp [hn])) rfl x_ss0
  have e1 : ((eds.length : Int) - 1) = ((eds.length - 1 : Nat) : Int) := by omega
  have s3 : evS (Cr.run P W (k + 1)) W (.mut 0 (some "marks") .app [.tup [.var 1, .var 2, .bin .Sub (.bi .len [.fld (.var 0) "editions"]) (.lit (.int 1)), .var 3]]) E = .ok (.next, Mke (some (hsO tr eds (mks ++ [⟨j, n, eds.length - 1, g⟩]))) (some (.fr (.int j))) (some (.fr (.str n))) (some (.fr (.bl g))) none) := by
    refine x_mutF (xs := (mks.map mkD).map O.fr) (by kernel_rfl) rfl (x_tup (os := [.fr (.int j), .fr (.str n), .fr (.int ((eds.length : Int) - 1)), .fr (.bl g)]) (x_as (x_var rfl) (x_as (x_var rfl) (x_as (x_ednO rfl) (x_as (x_var rfl) x_as0)))) rfl (by simp)) rfl (mu_app (by simp; omega)) ?_
    rw [e1]
    exact put_mk.trans (by simp [mkD])
  exact run_ioN (k := k + 1) hh.h21 rfl rfl (x_ss s1 (x_ss s2 (x_ss s3 x_ss0))) rfl
theorem house_init (hh : HH P) {es : List (Str × Int)} {rs : List Rw} {E R : Nat} (ht : TreeOk es rs E R) (hE : E ≤ 10) (hR : R ≤ 11) : Cr.run P W (k + 5) 16 [.oi 2 [], .fr (treeD es rs)] = .ok (.fr .non) [hsO (treeD es rs) [[]] []] := by
  have hc := case_initG (k := k) (W := W) hh.c ht hE hR (rows := []) ⟨Nat.zero_le _, fun h => by simp at h⟩ (d0 := .tup []) (bb := true) rfl
  have s2 : evS (Cr.run P W (k + 4)) W (.expr (.mk 1 10 [.var 1, .tup []])) [some (.oi 2 [("tree", .fr (treeD es rs))]), some (.fr (treeD es rs))] = .ok (.next, [some (.oi 2 [("tree", .fr (treeD es rs))]), some (.fr (treeD es rs))]) :=
    x_expr (x_mk (x_as (x_var rfl) (x_as (x_tup x_as0 rfl (by simp)) x_as0)) rfl rfl hc (clean_case es rs []))
  have s1 : evS (Cr.run P W (k + 4)) W (.setf 0 "tree" (.var 1)) [some (.oi 2 []), some (.fr (treeD es rs))] = .ok (.next, [some (.oi 2 [("tree", .fr (treeD es rs))]), some (.fr (treeD es rs))]) := x_setf (x_var rfl) rfl rfl (by decide) rfl
  have s3 : evS (Cr.run P W (k + 4)) W (.setf 0 "editions" (.lst [.tup []])) [some (.oi 2 [("tree", .fr (treeD es rs))]), some (.fr (treeD es rs))] = .ok (.next, [some (.oi 2 [("tree", .fr (treeD es rs)), ("editions", .ol [.fr (.tup [])])]), some (.fr (treeD es rs))]) :=
    x_setf (x_lst (os := [.fr (.tup [])]) (x_as (x_tup x_as0 rfl (by simp)) x_as0) rfl (by simp)) rfl rfl (by show 1 < 1000; decide) (by kernel_rfl)
  have s4 : evS (Cr.run P W (k + 4)) W (.setf 0 "marks" (.lst [])) [some (.oi 2 [("tree", .fr (treeD es rs)), ("editions", .ol [.fr (.tup [])])]), some (.fr (treeD es rs))] = .ok (.next, [some (hsO (treeD es rs) [[]] []), some (.fr (treeD es rs))]) :=
    x_setf (x_lst x_as0 rfl (by simp)) rfl rfl (by show 2 < 1000; decide) (by kernel_rfl)
  exact run_ioN (k := k + 4) hh.h16 rfl rfl (x_ss s1 (x_ss s2 (x_ss s3 (x_ss s4 x_ss0)))) rfl
/-- rows with one more, or one in another's place -/
def putL (rows : Rows) (x : Str × CRow) : Rows := match (nmsOf rows).findIdx? fun n => decide (n = x.1) with
  | some i => rows.set i x
  | none => rows ++ [x]
abbrev Pte (s0 s1 s2 s3 s4 : Option O) : Cr.Env := [s0, s1, s2, s3, s4]
theorem find_map {l : List Str} {n : Str} : (l.map D.str).findIdx? (fun z => eqD z (.str n)) = l.findIdx? fun m => decide (m = n) := by
  induction l with
  | nil => rfl
  | cons a l ih =>
    rw [List.map_cons, List.findIdx?_cons, List.findIdx?_cons, ih]
    rfl
theorem put_run (hh : HH P) {es : List (Str × Int)} {rs : List Rw} {E R : Nat} (ht : TreeOk es rs E R) (hE : E ≤ 10) (hR : R ≤ 11) (hv : EdOk (partsOf es rs) eds) {last : Rows} {x : Str × CRow} (hl : eds.getLast? = some last) (ok : CaOk (partsOf es rs) (putL last x)) :
    Cr.run P W (k + 5) 18 [hsO (treeD es rs) eds mks, .fr (crD x.1 x.2)] = .ok (.fr (.int (eds.length : Int))) [hsO (treeD es rs) (eds ++ [putL last x]) mks] := by
  have hlast : last.length ≤ 30 := (hv.ok last (by obtain ⟨ys, rfl⟩ := List.getLast?_eq_some_iff.mp hl; simp)).len
  have hel := hv.len
  have hc := case_initG (k := k) (W := W) hh.c ht hE hR ok (d0 := .lst (rowsD (putL last x))) (bb := false) rfl
  have main : WP (evSs (Cr.run P W (k + 4)) W f_House_put.body (Pte (some (hsO (treeD es rs) eds mks)) (some (.fr (crD x.1 x.2))) none none none)) fun fl en => fl = .ret (.fr (.int (eds.length : Int))) ∧ ∃ r, en = some (hsO (treeD es rs) (eds ++ [putL last x]) mks) :: r := by
    unfold f_House_put
    refine w_ss ⟨_, _, x_set (h := .t (.ol ((rowsD last).map O.fr))) (x_bi (o := .ol ((rowsD last).map O.fr)) (x_as (x_edlO rfl hl) x_as0) rfl rfl rfl) rfl (show 2 < 5 by decide), ?_⟩
    refine after_next (w_ss ⟨_, _, x_set (lcNames (rows := last) (x_seqL rfl) (show 3 < 5 by decide) rfl (by omega)) rfl (show 4 < 5 by decide), ?_⟩)
    refine after_next (w_ss ?_)
    have h4 : ∀ s2, ev (Cr.run P W (k + 4)) (.cmp .In (.sub (.var 1) (.lit (.int 1))) (.var 4)) (Pte (some (hsO (treeD es rs) eds mks)) (some (.fr (crD x.1 x.2))) s2 none (some (strO (nmsOf last)))) = .ok (.p (.bl (decide (x.1 ∈ nmsOf last))), Pte (some (hsO (treeD es rs) eds mks)) (some (.fr (crD x.1 x.2))) s2 none (some (strO (nmsOf last)))) := fun s2 =>
      x_cmp (x_sub (o := .fr (.str x.1)) (x_var rfl) x_lit rfl rfl cr_nm) (x_varL rfl) rfl rfl (viewN rfl) in_lst
    have tail : ∀ e, e = Pte (some (hsO (treeD es rs) eds mks)) (some (.fr (crD x.1 x.2))) (some (.ol ((rowsD (putL last x)).map O.fr))) none (some (strO (nmsOf last))) → After (Cr.run P W (k + 4)) W [.expr (.mk 1 10 [.fld (.var 0) "tree", .var 2]),
        .mut 0 (some "editions") .app [.bi .tuple [.var 2]],
        .ret (.bin .Sub (.bi .len [.fld (.var 0) "editions"]) (.lit (.int 1)))] (fun fl en => fl = .ret (.fr (.int (eds.length : Int))) ∧ ∃ r, en = some (hsO (treeD es rs) (eds ++ [putL last x]) mks) :: r) .next e := by
      rintro e rfl
      refine after_next (w_ss ⟨_, _, x_expr (x_mk (os := [.fr (treeD es rs), .fr (.lst (rowsD (putL last x)))]) (x_as (x_fld (x_varH rfl) rfl fldO_tr) (x_as (x_varl rfl) x_as0)) rfl ?_ hc (clean_case es rs _)), ?_⟩)
      · have h2 : (Hd.n 2).arg (Pte (some (hsO (treeD es rs) eds mks)) (some (.fr (crD x.1 x.2))) (some (.ol ((rowsD (putL last x)).map O.fr))) none (some (strO (nmsOf last)))) = some (.fr (.lst (rowsD (putL last x)))) := by
          simp only [Hd.arg]
          rw [viewNL rfl]
          rfl
        simp only [List.map_cons, List.map_nil, h2]
        rfl
      refine after_next (w_ss ⟨_, _, x_mutF (e2 := Pte (some (hsO (treeD es rs) (eds ++ [putL last x]) mks)) (some (.fr (crD x.1 x.2))) (some (.ol ((rowsD (putL last x)).map O.fr))) none (some (strO (nmsOf last)))) (xs := (eds.map edD).map O.fr) (by kernel_rfl) rfl (x_bi (o := .fr (edD (putL last x))) (x_as (x_varl rfl) x_as0) rfl rfl ?_) rfl (mu_app (by simp; omega)) ?_, ?_⟩)
      · show ((O.ol ((rowsD (putL last x)).map O.fr)).items).map (fun y => O.fr (.tup y.2)) = _
        simp only [O.items, leafs_fr, Option.map_some]
        rfl
      · exact put_ed.trans (by simp)
      refine after_next (w_ss ⟨_, _, x_ret (x_ednO rfl) rfl, after_ret ⟨?_, _, rfl⟩⟩)
      simp
    have hput : putL last x = match (nmsOf last).findIdx? fun n => decide (n = x.1) with
      | some i => last.set i x
      | none => last ++ [x] := rfl
    cases hf : (nmsOf last).findIdx? fun n => decide (n = x.1) with
    | some i =>
      obtain ⟨hi, hx, _⟩ := List.findIdx?_eq_some_iff_getElem.mp hf
      have hx : (nmsOf last)[i] = x.1 := of_decide_eq_true hx
      have hmem : x.1 ∈ nmsOf last := hx ▸ List.getElem_mem hi
      have hil : i < last.length := by simpa [nmsOf] using hi
      have hp : putL last x = last.set i x := by rw [hput, hf]
      refine ⟨_, _, x_ift (h4 _) (decide_eq_true hmem) (x_ss (x_seti (a0 := .ol ((rowsD last).map O.fr)) (a1 := .ol ((rowsD (putL last x)).map O.fr)) (k := .int (i : Int)) (x_var (i := 1) rfl) rfl rfl (x_bm (m := .index) (x_varL (i := 4) rfl) rfl (by rw [ok_idx]; rfl) (x_sub (o := .fr (.str x.1)) (x_var rfl) x_lit rfl rfl cr_nm) (idx_str hf (by simp [nmsOf]; omega))) rfl ?_ (show 2 < 5 by decide)) x_ss0), tail _ rfl⟩
      unfold Cr.setAt
      simp only
      rw [ixN_nn (by omega) (by simp [rowsD]; omega), hp]
      simp only [Option.map_some, rowsD]
      rw [← List.map_set]
      simp
    | none =>
      have hmem : x.1 ∉ nmsOf last := fun z => by
        have := List.findIdx?_eq_none_iff.mp hf x.1 z
        simp at this
      have hp : putL last x = last ++ [x] := by rw [hput, hf]
      refine ⟨_, _, x_iff (h4 _) (decide_eq_false hmem) (x_ss (x_mutA (i := 2) (xs := (rowsD last).map O.fr) (a2 := .ol ((rowsD (putL last x)).map O.fr)) rfl (x_var rfl) rfl ?_ rfl) x_ss0), tail _ rfl⟩
      rw [mu_app (by simp [rowsD]; omega), hp]
      simp [rowsD]
  obtain ⟨fl, en, hb, rfl, r, rfl⟩ := main
  exact run_io (k := k + 4) hh.h18 rfl rfl hb rfl
end
end Sh
end

section
/-! What laws are made of: drawn trees, cases; calls that change. -/
namespace Sh
open PySem L2 Cr
section
variable {P : List Fn} {k W : Nat}
theorem tree_okH (h0 : P[0]? = some nextFn) (h2 : P[2]? = some f__law_tree) (h : Hs) {E R : Nat} (hE : 1 ≤ E) (hE2 : E ≤ 10) (hR : R ≤ 11) : ∃ (h' : Hs) (es : List (Str × Int)) (rs : List Rw), Cr.run P W (k + 2) 2 [h.o, .fr (.int E), .fr (.int R)] = .ok (.fr (treeD es rs)) [h'.o] ∧ TreeOk es rs E R := by
  obtain ⟨m', c', l', es, rs, hr, hl, ht⟩ := tree_ok (W := W) (k := k) (m := h.m) (c := h.c) h0 h2 h.ok hE hE2 hR
  exact ⟨⟨m', l', c', hl⟩, es, rs, hr, ht⟩
theorem case_okH (h0 : P[0]? = some nextFn) (h3 : P[3]? = some f__law_names) (h4 : P[4]? = some f__law_case) (h : Hs) {M E R : Nat} (hM : M ≤ 29) {es : List (Str × Int)} {rs : List Rw} (ht : TreeOk es rs E R) (hE : E ≤ 10) (hR : R ≤ 11) :
    ∃ (h' : Hs) (rows : Rows), Cr.run P W (k + 2) 4 [h.o, .fr (treeD es rs), .fr (.int M)] = .ok (.ol (rows.map crO)) [h'.o] ∧ rows.length ≤ M ∧ CsOk (partsOf es rs) rows := by
  obtain ⟨m', c', l', rows, hr, hl, hm, hc⟩ := case_ok (W := W) (k := k) (m := h.m) (c := h.c) h0 h3 h4 h.ok hM ht hE hR
  exact ⟨⟨m', l', c', hl⟩, rows, hr, hm, hc⟩
theorem mix_okH (h1 : P[1]? = some mixFn) (ns : List Int) (seed : Int) (hn : ns.length ≤ 63) : ∃ h' : Hs, Cr.run P W (k + 1) 1 [.fr (.scr ns), .fr (.int seed)] = .ok h'.o [] := by
  obtain ⟨m, hm⟩ := mix_ok (P := P) (W := W) (k := k) h1 ns seed
  exact ⟨⟨m, ns, 0, by omega⟩, hm⟩
variable {cal : Nat → List O → CRes} {e e1 e2 e3 : Cr.Env}
theorem x_mcallG {m : Str} {c f : Nat} {io : List Nat} {a : CE} {as : List CE} {h : Hd} {hs : List Hd} {o r : O} {os outs : List O} (h1 : ev cal a e = .ok (h, e1)) (g : h.get e1 = some o) (hc : (clsO o == some c && (fldO o m).isNone) = true) (h2 : evs cal as e1 = .ok (hs, e2))
    (hk : (stayOk (h :: hs) (a :: as) && ioOk (h :: hs) && ioPos (h :: hs) 0 == io) = true) (ha : allSome ((h :: hs).map fun h => h.arg e2) = some os) (hr : cal f os = .ok r outs) (hp : putOuts (ioSlots (h :: hs)) outs e2 = some e3) (hcl : (r.clean && cleanL outs) = true) : ev cal (.mcall m c f io a as) e = .ok (mkH r, e3) := by
  rw [ev.eq_27, h1]
  simp only [bok, g, hc, if_true, h2, callF, hk, ha, hr, hp, hcl]
theorem x_fzt {a : CE} {h : Hd} {o : O} (h1 : ev cal a e = .ok (h, e1)) (hv : h.val = some o) : ev cal (.fzt a) e = .ok (.p o.frz, e1) := by
  rw [ev.eq_29, h1]
  simp only [bok, hv]
theorem x_ioH {tr : D} {eds : List Rows} {mks : List Mk} {i : Nat} (hs : (e[i]?).join = some (hsO tr eds mks)) : ev cal (.io i) e = .ok (.io i, e) := by rw [ev.eq_4, hs]
theorem ne_nilD {ds : List D} (h : shpL 63 ds = true) : cmpD .NotEq (.lst ds) (.lst []) = some (!ds.isEmpty) := by
  show (if (shpL 63 ds && shp 64 (.lst [])) = true then some (!eqDL ds []) else none) = _
  rw [h]
  cases ds <;> rfl
theorem x_neNil {a : CE} {l : List Str} (h : ev cal a e = .ok (.t (strO l), e1)) : ev cal (.cmp .NotEq a (.lst [])) e = .ok (.p (.bl (!l.isEmpty)), e1) :=
  x_cmp h (x_lst x_as0 rfl (by simp)) rfl rfl rfl (ne_nil l)
end
theorem ca_take {parts : List Str} {rows : Rows} (h : CaOk parts rows) (i : Nat) : CaOk parts (rows.take i) := by
  refine ⟨by have := h.len; simp; omega, fun {j x} hx => ?_⟩
  have hj := (List.getElem?_eq_some_iff.mp hx).1
  rw [List.length_take] at hj
  rw [List.getElem?_take_of_lt (by omega)] at hx
  have q := h.nth hx
  have e : (rows.take i).take j = rows.take j := by rw [List.take_take, Nat.min_eq_left (by omega)]
  exact ⟨q.good, by rw [e]; exact q.new, by rw [e]; exact q.ok⟩
theorem ca_add {parts : List Str} {rows : Rows} (h : CaOk parts rows) (hl : rows.length < 30) {n : Str} {r : CRow} (hg : Good n) (hn : n ∉ nmsOf rows) (hr : CRowOk parts (nmsOf rows) r) : CaOk parts (rows ++ [(n, r)]) := by
  refine ⟨by simp; omega, fun {i x} hx => ?_⟩
  rw [List.getElem?_append] at hx
  split at hx
  · rename_i hlt
    have q := h.nth hx
    have e : (rows ++ [(n, r)]).take i = rows.take i := List.take_append_of_le_length (by omega)
    exact ⟨q.good, by rw [e]; exact q.new, by rw [e]; exact q.ok⟩
  · rename_i hge
    have hi : i = rows.length := by
      have := (List.getElem?_eq_some_iff.mp hx).1
      simp at this
      omega
    subst hi
    simp at hx
    subst hx
    have e : (rows ++ [(n, r)]).take rows.length = rows := by simp
    exact ⟨hg, by rw [e]; exact hn, by rw [e]; exact hr⟩
/-- a row put at the end -/
theorem putL_new {rows : Rows} {x : Str × CRow} (h : x.1 ∉ nmsOf rows) : putL rows x = rows ++ [x] := by
  have : (nmsOf rows).findIdx? (fun n => decide (n = x.1)) = none := by
    rw [List.findIdx?_eq_none_iff]
    intro y hy
    rw [decide_eq_false_iff_not]
    intro z
    subst z
    exact h hy
  unfold putL
  rw [this]
theorem putL_take {parts : List Str} {rows : Rows} (h : CaOk parts rows) {i : Nat} {x : Str × CRow} (hx : rows[i]? = some x) : putL (rows.take i) x = rows.take (i + 1) := by
  rw [putL_new (h.nth hx).new, List.take_add_one, hx]
  rfl
/-- the beginnings of rows, as editions -/
def begs (rows : Rows) (i : Nat) : List Rows := (List.range (i + 1)).map fun j => rows.take j
theorem begs_add (rows : Rows) (i : Nat) : begs rows i ++ [rows.take (i + 1)] = begs rows (i + 1) := by
  unfold begs
  rw [List.range_succ (n := i + 1)]
  simp
theorem begs_last (rows : Rows) (i : Nat) : (begs rows i).getLast? = some (rows.take i) := by
  unfold begs
  rw [List.range_succ]
  simp
theorem begs_len (rows : Rows) (i : Nat) : (begs rows i).length = i + 1 := by simp [begs]
theorem begs_ok {parts : List Str} {rows : Rows} (h : CaOk parts rows) {i : Nat} (hi : i ≤ 900) : EdOk parts (begs rows i) := by
  refine ⟨fun r hr => ?_, fun z => ?_, by rw [begs_len]; omega⟩
  · obtain ⟨j, _, rfl⟩ := List.mem_map.mp hr
    exact ca_take h j
  · have := begs_len rows i
    rw [z] at this
    simp at this
end Sh
end

section
/-! Marks, one more: what they say then. -/
namespace Sh
open PySem L2 Cr
theorem kget_kput {α : Type} (l : List (Key × α)) (q r : Key) (a : α) : kget (kput l q a) r = if r = q then some a else kget l r := by
  unfold kput
  by_cases h : (l.any fun p => decide (p.1 = q)) = true
  · rw [if_pos h]
    unfold kget
    induction l with
    | nil => simp at h
    | cons p l ih =>
      rw [List.map_cons, List.find?_cons, List.find?_cons]
      by_cases hp : p.1 = q
      · simp only [if_pos hp]
        by_cases hr : r = q
        · subst hr; simp [hp]
        · have h1 : ¬ q = r := fun z => hr z.symm
          have e1 : decide (p.1 = r) = false := by rw [hp]; simp [h1]
          simp only [e1, if_neg hr]
          by_cases hl : (l.any fun p => decide (p.1 = q)) = true
          · have := ih hl
            rw [if_neg hr] at this
            exact this
          · have e2 : (l.map fun p => if p.1 = q then (p.1, a) else p) = l := by
              have : ∀ p ∈ l, ¬ p.1 = q := fun p hp z => hl (List.any_eq_true.mpr ⟨p, hp, by simpa using z⟩)
              conv => rhs; rw [← List.map_id l]
              exact List.map_congr_left fun p hp => if_neg (this p hp)
            rw [e2]
      · simp only [if_neg hp]
        by_cases hr2 : p.1 = r
        · have h1 : ¬ r = q := fun z => hp (hr2.trans z)
          simp [hr2, h1]
        · simp only [hr2, decide_false]
          exact ih (by simpa [hp] using h)
  · rw [if_neg h]
    unfold kget
    have hn : ∀ p ∈ l, ¬ p.1 = q := fun p hp z => h (List.any_eq_true.mpr ⟨p, hp, by simpa using z⟩)
    rw [List.find?_append]
    by_cases hr : r = q
    · subst hr
      rw [List.find?_eq_none.mpr (by simpa using hn)]
      simp
    · have h1 : ¬ q = r := fun z => hr z.symm
      rw [if_neg hr]
      cases List.find? (fun p => decide (p.1 = r)) l <;> simp [h1]
theorem ent_kput (l : Fnd) (i j : Int) (a : Nat × Bool) : ent (kput l (.inl j) a) i = if i = j then a else ent l i := by
  unfold ent
  rw [kget_kput]
  by_cases h : i = j
  · subst h; simp
  · simp [h]
theorem mem_fndK {l : Fnd} (h : FOk l) {i : Int} : i ∈ fndK l ↔ (.inl i : Key) ∈ l.map (·.1) := by
  unfold fndK
  rw [List.mem_map, List.mem_map]
  constructor
  · rintro ⟨p, hp, e⟩
    obtain ⟨j, e2, _⟩ := h.js p hp
    rw [e2] at e
    simp only at e
    exact ⟨p, hp, by rw [e2, e]⟩
  · rintro ⟨p, hp, e⟩
    exact ⟨p, hp, by rw [e]⟩
theorem mem_kput {l : Fnd} (h : FOk l) {i j : Int} (h0 : 0 ≤ j) (h1 : j ≤ 8) (a : Nat × Bool) : i ∈ fndK (kput l (.inl j) a) ↔ i = j ∨ i ∈ fndK l := by
  rw [mem_fndK (fok_put h h0 h1 a), mem_fndK h]
  rcases kput_keys l (.inl j) a with ⟨hm, e⟩ | ⟨hm, e⟩
  · rw [e]
    exact ⟨.inr, fun z => z.elim (fun z => by rw [z]; exact hm) id⟩
  · rw [e, List.mem_append, List.mem_singleton]
    exact ⟨fun z => z.elim .inr fun z => .inl (Sum.inl.inj z), fun z => z.elim (fun z => .inr (by rw [z])) .inl⟩
theorem len_kput (l : Fnd) (j : Int) (a : Nat × Bool) : l.length ≤ (kput l (.inl j) a).length := by
  unfold kput
  split <;> simp
theorem vd_all {eds : List Rows} {mks : List Mk} (hm : MkOk eds mks) (he : ∀ m ∈ mks, m.e = eds.length - 1) (n : Str) : (vdL eds mks n).length = (fndL mks n).length ∧ ((vdL eds mks n).all (·.2) = true ↔ ∀ j ∈ fndK (fndL mks n), (ent (fndL mks n) j).2 = true) := by
  have fk := fok hm.j n
  have hs : ∀ j ∈ srtI (fndK (fndL mks n)), (!since eds n (ent (fndL mks n) j).1) = true := fun j hj => by
    have hj := (srtI_perm _).mem_iff.mp hj
    obtain ⟨p, hp, e⟩ := ent_mem fk hj
    have e2 : p.2.1 = eds.length - 1 := by
      have : ∀ (l : List Mk) (acc : Fnd), (∀ m ∈ l, m.e = eds.length - 1) → (∀ p ∈ acc, p.2.1 = eds.length - 1) → ∀ p ∈ l.foldl (fStep n) acc, p.2.1 = eds.length - 1 := by
        intro l
        induction l with
        | nil => intro acc _ h; exact h
        | cons m l ih =>
          intro acc hm ha
          rw [List.foldl_cons]
          refine ih _ (fun m' h' => hm m' (by simp [h'])) ?_
          unfold fStep
          split
          · unfold kput
            split
            · intro p hp
              obtain ⟨p0, h0, rfl⟩ := List.mem_map.mp hp
              split
              · exact hm m (by simp)
              · exact ha p0 h0
            · intro p hp
              rcases List.mem_append.mp hp with z | z
              · exact ha p z
              · simp at z; subst z; exact hm m (by simp)
          · exact ha
      exact this mks [] he (fun p hp => by cases hp) p hp
    rw [e, e2]
    have : since eds n (eds.length - 1) = false := by
      unfold since
      have : eds.length - (eds.length - 1 + 1) = 0 := by omega
      rw [this]
      rfl
    rw [this]; rfl
  have hf : (srtI (fndK (fndL mks n))).filter (fun j => !since eds n (ent (fndL mks n) j).1) = srtI (fndK (fndL mks n)) := List.filter_eq_self.mpr hs
  unfold vdL
  rw [hf]
  refine ⟨?_, ?_⟩
  · rw [List.length_map, (srtI_perm _).length_eq]
    simp [fndK]
  · rw [List.all_map, List.all_eq_true]
    exact ⟨fun h j hj => h j ((srtI_perm _).mem_iff.mpr hj), fun h j hj => h j ((srtI_perm _).mem_iff.mp hj)⟩
theorem acc_iff {eds : List Rows} {mks : List Mk} (hm : MkOk eds mks) (he : ∀ m ∈ mks, m.e = eds.length - 1) (n : Str) (many : Int) : accL eds mks n many = true ↔ many ≤ ((fndL mks n).length : Int) ∧ ∀ j ∈ fndK (fndL mks n), (ent (fndL mks n) j).2 = true := by
  obtain ⟨h1, h2⟩ := vd_all hm he n
  unfold accL
  rw [Bool.and_eq_true, decide_eq_true_eq, h1, h2]
theorem acc_mono {eds : List Rows} {mks : List Mk} {n : Str} {a b : Int} (h : a ≤ b) (hb : accL eds mks n b = true) : accL eds mks n a = true := by
  unfold accL at hb ⊢
  rw [Bool.and_eq_true, decide_eq_true_eq] at hb ⊢
  exact ⟨by omega, hb.2⟩
theorem fnd_add (mks : List Mk) (m : Mk) (n : Str) : fndL (mks ++ [m]) n = fStep n (fndL mks n) m := by simp [fndL, List.foldl_append]
theorem mk_add {eds : List Rows} {mks : List Mk} (hm : MkOk eds mks) {m : Mk} (h0 : 0 ≤ m.j) (h1 : m.j ≤ 8) (he : m.e < eds.length) : MkOk eds (mks ++ [m]) :=
  ⟨fun x hx => (List.mem_append.mp hx).elim (hm.j x) fun z => by simp at z; subst z; exact ⟨h0, h1⟩, fun x hx => (List.mem_append.mp hx).elim (hm.e x) fun z => by simp at z; subst z; exact he⟩
/-- a good mark more leaves nothing more to do -/
theorem acc_good {eds : List Rows} {mks : List Mk} (hm : MkOk eds mks) (he : ∀ m ∈ mks, m.e = eds.length - 1) (hne : 1 ≤ eds.length) {j : Int} {n0 n : Str} {many : Int} (h0 : 0 ≤ j) (h1 : j ≤ 8) (h : accL eds mks n many = true) : accL eds (mks ++ [⟨j, n0, eds.length - 1, true⟩]) n many = true := by
  have hm2 := mk_add hm (m := ⟨j, n0, eds.length - 1, true⟩) h0 h1 (by show eds.length - 1 < eds.length; omega)
  have he2 : ∀ m ∈ mks ++ [(⟨j, n0, eds.length - 1, true⟩ : Mk)], m.e = eds.length - 1 := fun x hx => (List.mem_append.mp hx).elim (he x) fun z => by simp at z; subst z; rfl
  rw [acc_iff hm he] at h
  rw [acc_iff hm2 he2, fnd_add]
  have fk := fok hm.j n
  unfold fStep
  simp only
  split
  · refine ⟨by have := len_kput (fndL mks n) j (eds.length - 1, true); omega, fun i hi => ?_⟩
    rw [ent_kput]
    split
    · rfl
    · rename_i hne
      rcases (mem_kput fk h0 h1 _).mp hi with z | z
      · exact absurd z hne
      · exact h.2 i z
  · exact h
/-- a mark against a row makes it to do -/
theorem acc_bad {eds : List Rows} {mks : List Mk} (hm : MkOk eds mks) (he : ∀ m ∈ mks, m.e = eds.length - 1) (hne : 1 ≤ eds.length) {j : Int} {n : Str} {many : Int} (h0 : 0 ≤ j) (h1 : j ≤ 8) : accL eds (mks ++ [⟨j, n, eds.length - 1, false⟩]) n many = false := by
  have hm2 := mk_add hm (m := ⟨j, n, eds.length - 1, false⟩) h0 h1 (by show eds.length - 1 < eds.length; omega)
  have he2 : ∀ m ∈ mks ++ [(⟨j, n, eds.length - 1, false⟩ : Mk)], m.e = eds.length - 1 := fun x hx => (List.mem_append.mp hx).elim (he x) fun z => by simp at z; subst z; rfl
  cases h : accL eds (mks ++ [⟨j, n, eds.length - 1, false⟩]) n many with
  | false => rfl
  | true =>
    rw [acc_iff hm2 he2, fnd_add] at h
    have fk := fok hm.j n
    unfold fStep at h
    simp only [if_true] at h
    have := h.2 j ((mem_kput fk h0 h1 _).mpr (.inl rfl))
    rw [ent_kput, if_pos rfl] at this
    cases this
end Sh
end

section
/-! A House in any slot: its calls; comprehensions that draw. -/
namespace Sh
open PySem L2 Cr
section
variable {cal : Nat → List O → CRes} {W : Nat} {e e1 e2 : Cr.Env}
theorem lc_move {own : List Nat} {tg : Tg} {s s2 : Sr} {cs : List CE} {x : CE} {ds : List D} {tr : Bool} (h1 : evSr cal s e = .ok (ds, tr, e1)) (h2 : evSr cal s2 e1 = .ok (ds, tr, e1)) : ev cal (.lc own tg s cs x) e = ev cal (.lc own tg s2 cs x) e1 := by
  rw [ev.eq_20, ev.eq_20, h1, h2]
theorem lcL_inv {f : D → Cr.Env → Res (Option O × Cr.Env)} {Inv : Cr.Env → Prop} {Pr : O → Prop} : ∀ (ds : List D) (e : Cr.Env), Inv e → (∀ d ∈ ds, ∀ e, Inv e → ∃ o e', f d e = .ok (o, e') ∧ Inv e' ∧ ∀ y, o = some y → Pr y) → ∃ os e', lcL f ds e = .ok (os, e') ∧ Inv e' ∧ (∀ o ∈ os, Pr o) ∧ os.length ≤ ds.length
  | [], e, h0, st => ⟨[], e, rfl, h0, (fun o h => by cases h), Nat.le_refl _⟩
  | d :: ds, e, h0, st => by
    obtain ⟨o, e1, h1, h2, h3⟩ := st d (by simp) e h0
    obtain ⟨os, e2, h4, h5, h6, h7⟩ := lcL_inv ds e1 h2 fun d hd => st d (by simp [hd])
    cases o with
    | none => exact ⟨os, e2, by simp only [lcL, h1, bok, h4], h5, h6, by simp only [List.length_cons]; omega⟩
    | some y => exact ⟨y :: os, e2, by simp only [lcL, h1, bok, h4], h5, (fun z hz => (List.mem_cons.mp hz).elim (fun q => q ▸ h3 y rfl) (h6 z)), by simp only [List.length_cons]; omega⟩
/-- a comprehension that changes slots -/
theorem x_lcE {own : List Nat} {tg : Tg} {s : Sr} {cs : List CE} {x : CE} {ds : List D} {Inv : Cr.Env → Prop} {Pr : O → Prop} (h1 : evSr cal s e = .ok (ds, false, e1)) (hw : wipeOk own e1 = true) (hl : ds.length ≤ 16777216) (h0 : Inv (wipeE e1 own)) (st : ∀ d ∈ ds, ∀ e, Inv e → ∃ o e', lcF (fun e => evC cal cs e) (fun e => ev cal x e) tg own d e = .ok (o, e') ∧ Inv e' ∧ ∀ y, o = some y → Pr y) :
    ∃ os e2, Inv e2 ∧ (∀ o ∈ os, Pr o) ∧ os.length ≤ ds.length ∧ ev cal (.lc own tg s cs x) e = .ok (.t (.ol os), backE e1 e2 own) := by
  obtain ⟨os, e2, h2, h3, h4, h5⟩ := lcL_inv ds _ h0 st
  refine ⟨os, e2, h3, h4, h5, ?_⟩
  rw [ev.eq_20, h1]
  simp only [bok, hw, Bool.not_false, Bool.true_or, Bool.and_self, if_true, h2, Res.noEx, line_ok hl]
theorem x_mutE {i : Nat} {a : CE} {h : Hd} {o a2 : O} {xs : List O} {ys : List O} (hp0 : place e i none = some (.ol ys)) (h1 : ev cal a e = .ok (h, e1)) (hp : place e1 i none = some (.ol xs)) (hv : h.val = some o) (hm : muO .app (.ol xs) [o] = some a2) (hs : setS e1 i a2 = some e2) : evS cal W (.mut i none .app [a]) e = .ok (.next, e2) := by
  rw [evS.eq_11]
  simp only [hp0, Option.isNone_none, Bool.true_or, if_true, evs, h1, bok, List.map_cons, List.map_nil, hv, allSome, Option.map_some, hp, hm, Option.bind_some, putPlace, hs]
/-! equal values -/
def vdD (p : Int × Bool) : D := .tup [.int p.1, .bl p.2]
theorem eqDL_vd : ∀ l : List (Int × Bool), eqDL (l.map vdD) (l.map vdD) = true
  | [] => rfl
  | p :: l => by simp [vdD, eqD, eqDL, eqDL_vd l]
theorem shpL_vd : ∀ l : List (Int × Bool), shpL 63 (l.map vdD) = true
  | [] => rfl
  | p :: l => by simp [vdD, shp, shpL, shpL_vd l]
theorem ne_vd (l : List (Int × Bool)) : cmpD .NotEq (.lst (l.map vdD)) (.lst (l.map vdD)) = some false := by
  show (if (shpL 63 (l.map vdD) && shpL 63 (l.map vdD)) = true then some (!eqDL (l.map vdD) (l.map vdD)) else none) = _
  rw [shpL_vd, eqDL_vd]
  rfl
theorem ne_strs (l m : List Str) : cmpD .NotEq (.lst (l.map D.str)) (.lst (m.map D.str)) = some (!decide (l = m)) := by
  show (if (shpL 63 (l.map D.str) && shpL 63 (m.map D.str)) = true then some (!eqDL (l.map D.str) (m.map D.str)) else none) = _
  rw [shp_strs, shp_strs, eqDL_strs]
  rfl
theorem shp63_cr {a : Str} {r : CRow} : shp 63 (crD a r) = true := by
  cases r <;> simp [crD, shp, shpL, shp_strs]
theorem shpL_rows : ∀ rows : Rows, shpL 63 (rowsD rows) = true
  | [] => rfl
  | x :: rows => by
    show (shp 63 (crD x.1 x.2) && shpL 63 (rowsD rows)) = true
    rw [shp63_cr, shpL_rows rows]; rfl
theorem clean_vd : ∀ l : List (Int × Bool), cleanL ((l.map vdD).map O.fr) = true
  | [] => rfl
  | p :: l => by show ((vdD p).imm && cleanL ((l.map vdD).map O.fr)) = true; rw [clean_vd l]; rfl
theorem hs_cleanTL {es : List (Str × Int)} {rs : List Rw} {eds : List Rows} {mks : List Mk} : cleanL [hsO (treeD es rs) eds mks] = true := by
  show ((hsO (treeD es rs) eds mks).clean && true) = true
  rw [hs_clean (tree_imm es rs)]; rfl
theorem crO_map (rows : Rows) : rows.map crO = (rowsD rows).map O.fr := by simp [rowsD, crO]
theorem clean_rowsO : ∀ rows : Rows, cleanL (rows.map crO) = true
  | [] => rfl
  | x :: rows => by simp [cleanL, crO, O.clean, cr_imm, clean_rowsO rows]
theorem evsr_s {a : CE} {l : List Str} (h : ev cal a e = .ok (.t (strO l), e1)) : evSr cal (.seq a) e = .ok (l.map D.str, false, e1) := evsr_t (by rw [strO_eq] at h; exact h)
theorem add_ol (xs ys : List D) (h : xs.length + ys.length ≤ 16777216) : binO .Add (.ol (xs.map O.fr)) (.ol (ys.map O.fr)) = some (.ol ((xs ++ ys).map O.fr)) := by
  simp only [binO, O.items, Sh.leafs_fr, Option.map_some]
  rw [if_pos (by simpa [lineOk] using h)]
theorem bl_ne {a b : Bool} : cmpD .NotEq (.bl a) (.bl b) = some (!(a == b)) := rfl
end
section
variable {P : List Fn} {k W : Nat} {e e2 : Cr.Env} {i : Nat} {es : List (Str × Int)} {rs : List Rw} {eds : List Rows} {mks : List Mk} {parts : List Str} {last : Rows}
theorem slot_lt {o : O} (h : (e[i]?).join = some o) : i < e.length := (List.getElem?_eq_some_iff.mp (getE h)).1
theorem x_markI (hh : HH P) (hv : EdOk parts eds) (hl : eds.getLast? = some last) {a1 a2 a3 : CE} {j : Int} {n : Str} {g : Bool} (h5 : (e[i]?).join = some (hsO (treeD es rs) eds mks)) (ha : evs (Cr.run P W (k + 2)) [a1, a2, a3] e = .ok ([.p (.int j), .p (.str n), .p (.bl g)], e2)) (h52 : (e2[i]?).join = some (hsO (treeD es rs) eds mks))
    (hn : n ∈ nmsOf last) (j0 : 0 ≤ j) (j8 : j ≤ 8) (hk : mks.length ≤ 10000) : ev (Cr.run P W (k + 2)) (.mcall "mark" 2 21 [0] (.io i) [a1, a2, a3]) e = .ok (.p .non, e2.set i (some (hsO (treeD es rs) eds (mks ++ [⟨j, n, eds.length - 1, g⟩])))) := by
  have hr := mark_run (k := k) (W := W) (tr := treeD es rs) (mks := mks) (g := g) hh hv hl hn j0 j8 hk
  have hlt := slot_lt h52
  refine x_mcallG (x_ioH h5) h5 (by kernel_rfl) ha rfl (os := [hsO (treeD es rs) eds mks, .fr (.int j), .fr (.str n), .fr (.bl g)]) ?_ hr ?_ (by rw [hs_cleanTL]; rfl)
  · simp only [List.map_cons, List.map_nil, Hd.arg, h52]
    rfl
  · simp [ioSlots, putOuts, setS, hlt]
theorem x_putI (hh : HH P) {E R : Nat} (ht : TreeOk es rs E R) (hE : E ≤ 10) (hR : R ≤ 11) (hv : EdOk (partsOf es rs) eds) (hl : eds.getLast? = some last) {a : CE} {x : Str × CRow} (h5 : (e[i]?).join = some (hsO (treeD es rs) eds mks)) (ha : ev (Cr.run P W (k + 5)) a e = .ok (.p (crD x.1 x.2), e2)) (h52 : (e2[i]?).join = some (hsO (treeD es rs) eds mks))
    (ok : CaOk (partsOf es rs) (putL last x)) : ev (Cr.run P W (k + 5)) (.mcall "put" 2 18 [0] (.io i) [a]) e = .ok (.p (.int (eds.length : Int)), e2.set i (some (hsO (treeD es rs) (eds ++ [putL last x]) mks))) := by
  have hr := put_run (k := k) (W := W) (mks := mks) (x := x) hh ht hE hR hv hl ok
  have hlt := slot_lt h52
  refine x_mcallG (x_ioH h5) h5 (by kernel_rfl) (x_as ha x_as0) rfl (os := [hsO (treeD es rs) eds mks, .fr (crD x.1 x.2)]) ?_ hr ?_ (by rw [hs_cleanTL]; rfl)
  · simp only [List.map_cons, List.map_nil, Hd.arg, h52]
    rfl
  · simp [ioSlots, putOuts, setS, hlt]
theorem x_todoI (hh : HH P) (hv : EdOk parts eds) (hm : MkOk eds mks) (hl : eds.getLast? = some last) {a : CE} {many : Int} (h5 : (e[i]?).join = some (hsO (treeD es rs) eds mks)) (ha : ev (Cr.run P W (k + 6)) a e = .ok (.p (.int many), e)) (m1 : 1 ≤ many) (m9 : many ≤ 9) : ev (Cr.run P W (k + 6)) (.mcall "to_do" 2 25 [] (.var i) [a]) e = .ok (.t (strO ((nmsOf last).filter fun n => !accL eds mks n many)), e) := by
  refine x_mcall0 (os := [.fr (hsF (treeD es rs) eds mks), .fr (.int many)]) (x_varH h5) h5 (by kernel_rfl) (x_as ha x_as0) rfl ?_ (todo_run (k := k) hh hv hm hl m1 m9) rfl (by simp [O.clean, cleanL, clean_strs])
  simp only [List.map_cons, List.map_nil, Hd.arg, view_n, h5, Option.map_some, hs_frz]
  rfl
theorem x_accI (hh : HH P) (hv : EdOk parts eds) (hm : MkOk eds mks) (hl : eds.getLast? = some last) {a b : CE} {n : Str} {many : Int} (h5 : (e[i]?).join = some (hsO (treeD es rs) eds mks)) (ha : ev (Cr.run P W (k + 5)) a e = .ok (.p (.str n), e)) (hb : ev (Cr.run P W (k + 5)) b e = .ok (.p (.int many), e)) (hn : n ∈ nmsOf last) (m1 : 1 ≤ many) (m9 : many ≤ 9) :
    ev (Cr.run P W (k + 5)) (.mcall "is_accepted" 2 24 [] (.var i) [a, b]) e = .ok (.p (.bl (accL eds mks n many)), e) := by
  refine x_mcall0 (os := [.fr (hsF (treeD es rs) eds mks), .fr (.str n), .fr (.int many)]) (x_varH h5) h5 (by kernel_rfl) (x_as ha (x_as hb x_as0)) rfl ?_ (accepted_run (k := k) hh hv hm hl hn m1 m9) rfl rfl
  simp only [List.map_cons, List.map_nil, Hd.arg, view_n, h5, Option.map_some, hs_frz]
  rfl
theorem x_verdI (hh : HH P) (hv : EdOk parts eds) (hm : MkOk eds mks) (hl : eds.getLast? = some last) {a : CE} {n : Str} (h5 : (e[i]?).join = some (hsO (treeD es rs) eds mks)) (ha : ev (Cr.run P W (k + 4)) a e = .ok (.p (.str n), e)) (hn : n ∈ nmsOf last) :
    ev (Cr.run P W (k + 4)) (.mcall "verdicts" 2 23 [] (.var i) [a]) e = .ok (.t (.ol (((vdL eds mks n).map vdD).map O.fr)), e) := by
  have hr := verdicts_run (k := k) (W := W) (tr := treeD es rs) hh hv hm.j hm.e hl hn
  have e2 : (vdL eds mks n).map (fun p => O.fr (.tup [.int p.1, .bl p.2])) = ((vdL eds mks n).map vdD).map O.fr := by rw [List.map_map]; rfl
  rw [e2] at hr
  refine x_mcall0 (os := [.fr (hsF (treeD es rs) eds mks), .fr (.str n)]) (x_varH h5) h5 (by kernel_rfl) (x_as ha x_as0) rfl ?_ hr rfl ?_
  · simp only [List.map_cons, List.map_nil, Hd.arg, view_n, h5, Option.map_some, hs_frz]
    rfl
  · show (cleanL _ && _) = true
    rw [clean_vd]
    rfl
end
end Sh
end

section
/-! Marks told in other turns. -/
namespace Sh
open PySem L2 Cr
/-- the last mark of a judge on a name -/
def lastM (mks : List Mk) (n : Str) (j : Int) (a : Option (Nat × Bool)) : Option (Nat × Bool) := mks.foldl (fun a m => if m.n = n ∧ m.j = j then some (m.e, m.g) else a) a
theorem kget_fold (n : Str) (j : Int) : ∀ (mks : List Mk) (acc : Fnd), kget (mks.foldl (fStep n) acc) (.inl j) = lastM mks n j (kget acc (.inl j))
  | [], acc => rfl
  | m :: mks, acc => by
    rw [List.foldl_cons, kget_fold n j mks]
    unfold lastM
    rw [List.foldl_cons]
    congr 1
    unfold fStep
    by_cases h : m.n = n
    · rw [if_pos h, kget_kput]
      by_cases h2 : m.j = j
      · subst h2; simp [h]
      · have h3 : ¬ j = m.j := fun z => h2 z.symm
        simp [h, h2, h3]
    · simp [h]
theorem kget_fnd (mks : List Mk) (n : Str) (j : Int) : kget (fndL mks n) (.inl j) = lastM mks n j none := kget_fold n j mks []
theorem lastM_app (a b : List Mk) (n : Str) (j : Int) (x : Option (Nat × Bool)) : lastM (a ++ b) n j x = lastM b n j (lastM a n j x) := by simp [lastM, List.foldl_append]
theorem lastM_filter (n : Str) (j : Int) : ∀ (mks : List Mk) (a : Option (Nat × Bool)), lastM (mks.filter fun m => decide (m.j = j)) n j a = lastM mks n j a
  | [], a => rfl
  | m :: mks, a => by
    by_cases h : m.j = j
    · rw [List.filter_cons_of_pos (by simp [h])]
      unfold lastM
      rw [List.foldl_cons, List.foldl_cons]
      exact lastM_filter n j mks _
    · rw [List.filter_cons_of_neg (by simp [h])]
      have e : lastM (m :: mks) n j a = lastM mks n j a := by
        unfold lastM
        rw [List.foldl_cons, if_neg (fun z => h z.2)]
      rw [e]
      exact lastM_filter n j mks a
/-- two houses' marks that say the same -/
def Alike (a b : List Mk) : Prop := ∀ n j, lastM a n j none = lastM b n j none
theorem Alike.add {a b c d : List Mk} (h : Alike a b) (h2 : ∀ j : Int, c.filter (fun m => decide (m.j = j)) = d.filter fun m => decide (m.j = j)) : Alike (a ++ c) (b ++ d) := fun n j => by
  rw [lastM_app, lastM_app, h n j, ← lastM_filter n j c, ← lastM_filter n j d, h2 j]
theorem Alike.seven {a b : List Mk} (h : Alike a b) (n0 : Str) (e : Nat) (j : Int) : Alike (a ++ [⟨j, n0, e, false⟩] ++ [⟨j, n0, e, true⟩]) (b ++ [⟨j, n0, e, true⟩]) := fun n i => by
  rw [lastM_app, lastM_app, lastM_app, h n i]
  simp only [lastM, List.foldl_cons, List.foldl_nil]
  split <;> rfl
theorem fnd_nodup {l : Fnd} (h : FOk l) : (fndK l).Nodup := by
  have : ∀ l : Fnd, FOk l → (fndK l).map Sum.inl = l.map (·.1) := fun l h => by
    unfold fndK
    rw [List.map_map]
    refine List.map_congr_left fun p hp => ?_
    obtain ⟨i, e, _⟩ := h.js p hp
    simp only [Function.comp, e]
  have h2 := h.nd
  rw [← this l h] at h2
  unfold List.Nodup at h2 ⊢
  refine (List.pairwise_map.mp h2).imp ?_
  intro a b h e
  exact h (by rw [e])
theorem kget_isSome {α : Type} {l : List (Key × α)} {q : Key} : (kget l q).isSome = true ↔ q ∈ l.map (·.1) := by
  unfold kget
  rw [Option.isSome_map, List.find?_isSome, List.mem_map]
  exact ⟨fun ⟨p, hp, e⟩ => ⟨p, hp, by simpa using e⟩, fun ⟨p, hp, e⟩ => ⟨p, hp, by simpa using e⟩⟩
theorem mem_last {mks : List Mk} {n : Str} (h : FOk (fndL mks n)) {j : Int} : j ∈ fndK (fndL mks n) ↔ (lastM mks n j none).isSome = true := by
  rw [mem_fndK h, ← kget_isSome, kget_fnd]
theorem ent_last (mks : List Mk) (n : Str) (j : Int) : ent (fndL mks n) j = (lastM mks n j none).getD (0, false) := by
  unfold ent
  rw [kget_fnd]
theorem srtI_same {l m : List Int} (hl : l.Nodup) (hm : m.Nodup) (h : ∀ x, x ∈ l ↔ x ∈ m) : srtI l = srtI m := by
  have p : l.Perm m := (List.perm_ext_iff_of_nodup hl hm).mpr h
  exact srtI_only ((srtI_perm l).trans p) (srtI_le l)
theorem vd_ext {eds : List Rows} {a b : List Mk} (ha : MkOk eds a) (hb : MkOk eds b) (h : Alike a b) (n : Str) : vdL eds a n = vdL eds b n := by
  have fa := fok ha.j n
  have fb := fok hb.j n
  have hs : srtI (fndK (fndL a n)) = srtI (fndK (fndL b n)) := srtI_same (fnd_nodup fa) (fnd_nodup fb) fun j => by rw [mem_last fa, mem_last fb, h n j]
  have he : ∀ j, ent (fndL a n) j = ent (fndL b n) j := fun j => by rw [ent_last, ent_last, h n j]
  unfold vdL
  rw [hs]
  simp only [he]
theorem acc_ext {eds : List Rows} {a b : List Mk} {n : Str} (h : vdL eds a n = vdL eds b n) (many : Int) : accL eds a n many = accL eds b n many := by
  unfold accL
  rw [h]
theorem since_now (eds : List Rows) (n : Str) : since eds n (eds.length - 1) = false := by
  unfold since
  have : eds.length - (eds.length - 1 + 1) = 0 := by omega
  rw [this]
  rfl
/-- marks of four judges, and of the seventh on some names -/
def Four (mks : List Mk) (done : List Str) : Prop := ∀ m ∈ mks, (0 ≤ m.j ∧ m.j ≤ 3) ∨ (m.j = 7 ∧ m.n ∈ done)
theorem lastM_none {mks : List Mk} {n : Str} {j : Int} (h : ∀ m ∈ mks, ¬ (m.n = n ∧ m.j = j)) (a : Option (Nat × Bool)) : lastM mks n j a = a := by
  unfold lastM
  induction mks generalizing a with
  | nil => rfl
  | cons m mks ih =>
    rw [List.foldl_cons, if_neg (h m (by simp))]
    exact ih (fun m' hm => h m' (by simp [hm])) a
theorem lastM_some {mks : List Mk} {n : Str} {j : Int} (h : (lastM mks n j none).isSome = true) : ∃ m ∈ mks, m.n = n ∧ m.j = j := by
  apply Classical.byContradiction
  intro z
  rw [lastM_none (fun m hm e => z ⟨m, hm, e⟩)] at h
  cases h
theorem four_j {mks : List Mk} {done : List Str} (h : Four mks done) {eds : List Rows} (he : ∀ m ∈ mks, m.e < eds.length) : MkOk eds mks :=
  ⟨fun m hm => by rcases h m hm with z | z <;> omega, he⟩
/-- two marks of the seventh: the last alone counts -/
theorem vd_seven {eds : List Rows} {mks : List Mk} {done : List Str} (h : Four mks done) (he : ∀ m ∈ mks, m.e < eds.length) (hne : 1 ≤ eds.length) {n : Str} (hn : n ∉ done) :
    vdL eds (mks ++ [⟨7, n, eds.length - 1, false⟩] ++ [⟨7, n, eds.length - 1, true⟩]) n = vdL eds mks n ++ [(7, true)] := by
  have ok := four_j h he
  have ok2 := mk_add (mk_add ok (m := ⟨7, n, eds.length - 1, false⟩) (show (0 : Int) ≤ 7 by decide) (show (7 : Int) ≤ 8 by decide) (by show eds.length - 1 < eds.length; omega)) (m := ⟨7, n, eds.length - 1, true⟩) (show (0 : Int) ≤ 7 by decide) (show (7 : Int) ≤ 8 by decide) (by show eds.length - 1 < eds.length; omega)
  have f1 := fok ok.j n
  have f2 := fok ok2.j n
  have hl : ∀ j, lastM (mks ++ [⟨7, n, eds.length - 1, false⟩] ++ [⟨7, n, eds.length - 1, true⟩]) n j none = if j = 7 then some (eds.length - 1, true) else lastM mks n j none := fun j => by
    rw [lastM_app, lastM_app]
    simp only [lastM, List.foldl_cons, List.foldl_nil, true_and]
    by_cases hj : j = 7
    · subst hj; simp
    · rw [if_neg (fun z => hj z.symm), if_neg (fun z => hj z.symm), if_neg hj]
  have lt7 : ∀ j ∈ fndK (fndL mks n), 0 ≤ j ∧ j ≤ 3 := fun j hj => by
    obtain ⟨m, hm, e1, e2⟩ := lastM_some ((mem_last f1).mp hj)
    rcases h m hm with z | z
    · rw [e2] at z; exact z
    · exact absurd (e1 ▸ z.2) hn
  have hs : srtI (fndK (fndL (mks ++ [⟨7, n, eds.length - 1, false⟩] ++ [⟨7, n, eds.length - 1, true⟩]) n)) = srtI (fndK (fndL mks n)) ++ [7] := by
    refine (srtI_only ?_ ?_).symm
    · have nd : (srtI (fndK (fndL mks n)) ++ [7]).Nodup := by
        refine List.nodup_append.mpr ⟨(srtI_perm _).nodup_iff.mpr (fnd_nodup f1), by simp, fun a ha b hb => ?_⟩
        simp at hb
        subst hb
        have := lt7 a ((srtI_perm _).mem_iff.mp ha)
        omega
      refine (List.perm_ext_iff_of_nodup nd (fnd_nodup f2)).mpr fun j => ?_
      rw [List.mem_append, (srtI_perm _).mem_iff, mem_last f1, mem_last f2, hl j, List.mem_singleton]
      by_cases hj : j = 7
      · simp [hj]
      · simp [hj]
    · refine List.pairwise_append.mpr ⟨srtI_le _, by simp, fun a ha b hb => ?_⟩
      simp at hb
      subst hb
      have := lt7 a ((srtI_perm _).mem_iff.mp ha)
      omega
  have he1 : ∀ j ∈ srtI (fndK (fndL mks n)), ent (fndL (mks ++ [⟨7, n, eds.length - 1, false⟩] ++ [⟨7, n, eds.length - 1, true⟩]) n) j = ent (fndL mks n) j := fun j hj => by
    have := lt7 j ((srtI_perm _).mem_iff.mp hj)
    rw [ent_last, ent_last, hl j, if_neg (by omega)]
  have he7 : ent (fndL (mks ++ [⟨7, n, eds.length - 1, false⟩] ++ [⟨7, n, eds.length - 1, true⟩]) n) 7 = (eds.length - 1, true) := by
    rw [ent_last, hl 7]
    rfl
  unfold vdL
  rw [hs, List.filter_append, List.map_append]
  have p1 : (srtI (fndK (fndL mks n))).filter (fun j => !since eds n (ent (fndL (mks ++ [⟨7, n, eds.length - 1, false⟩] ++ [⟨7, n, eds.length - 1, true⟩]) n) j).1) = (srtI (fndK (fndL mks n))).filter (fun j => !since eds n (ent (fndL mks n) j).1) := List.filter_congr fun j hj => by rw [he1 j hj]
  rw [p1]
  congr 1
  · exact List.map_congr_left fun j hj => by rw [he1 j (List.mem_filter.mp hj).1]
  · rw [List.filter_cons_of_pos (by rw [he7, since_now]; rfl)]
    simp only [List.filter_nil, List.map_cons, List.map_nil, he7]
/-- five judges at the most -/
theorem vd_five {eds : List Rows} {mks : List Mk} {done : List Str} (h : Four mks done) (he : ∀ m ∈ mks, m.e < eds.length) (n : Str) : (vdL eds mks n).length ≤ 5 := by
  have ok := four_j h he
  have f1 := fok ok.j n
  have h1 : (fndK (fndL mks n)).length ≤ ([0, 1, 2, 3, 7] : List Int).length := pig _ _ (fnd_nodup f1) fun j hj => by
    obtain ⟨m, hm, e1, e2⟩ := lastM_some ((mem_last f1).mp hj)
    rcases h m hm with z | z
    · rw [e2] at z
      have : j = 0 ∨ j = 1 ∨ j = 2 ∨ j = 3 := by omega
      rcases this with rfl | rfl | rfl | rfl <;> simp
    · rw [← e2, z.1]; simp
  have h2 := (srtI_perm (fndK (fndL mks n))).length_eq
  have h3 := List.length_filter_le (fun j => !since eds n (ent (fndL mks n) j).1) (srtI (fndK (fndL mks n)))
  simp only [vdL, List.length_map]
  simp only [List.length_cons, List.length_nil] at h1
  omega
theorem four_add {mks : List Mk} {done : List Str} (h : Four mks done) {n : Str} {e : Nat} {g : Bool} : Four (mks ++ [⟨7, n, e, g⟩]) (done ++ [n]) := fun m hm => by
  rcases List.mem_append.mp hm with z | z
  · rcases h m z with q | q
    · exact .inl q
    · exact .inr ⟨q.1, by simp [q.2]⟩
  · simp at z
    subst z
    exact .inr ⟨rfl, by simp⟩
/-! editions that keep the names -/
structure Vr (rows cur : Rows) : Prop where
  le : cur.length ≤ rows.length
  at_ : ∀ {j : Nat} {x : Str × CRow}, cur[j]? = some x → ∃ y, rows[j]? = some y ∧ x.1 = y.1 ∧ (x = y ∨ ∃ b, x.2 = .guess b)
theorem vr_names {rows cur : Rows} (v : Vr rows cur) (i : Nat) (hi : i ≤ cur.length) : nmsOf (cur.take i) = nmsOf (rows.take i) := by
  have hle := v.le
  unfold nmsOf
  refine List.ext_getElem (by simp; omega) fun j h1 h2 => ?_
  simp only [List.length_map, List.length_take] at h1 h2
  obtain ⟨y, hy, e, _⟩ := v.at_ (List.getElem?_eq_getElem (show j < cur.length by omega))
  have hj : rows[j]'(by omega) = y := by
    rw [List.getElem?_eq_getElem (by omega)] at hy
    exact Option.some.inj hy
  simp only [List.getElem_map, List.getElem_take]
  rw [hj, e]
theorem vr_ok {parts : List Str} {rows cur : Rows} (h : CaOk parts rows) (v : Vr rows cur) : CaOk parts cur := by
  refine ⟨Nat.le_trans v.le h.len, fun {i x} hx => ?_⟩
  obtain ⟨y, hy, e, hxy⟩ := v.at_ hx
  have hi := (List.getElem?_eq_some_iff.mp hx).1
  have q := h.nth hy
  have en := vr_names v i (by omega)
  refine ⟨e ▸ q.good, by rw [en, e]; exact q.new, ?_⟩
  rw [en]
  rcases hxy with rfl | ⟨b, hb⟩
  · exact q.ok
  · rw [hb]; trivial
theorem vr_put {parts : List Str} {rows cur : Rows} (h : CaOk parts rows) (v : Vr rows cur) {i : Nat} {x y : Str × CRow} (hy : rows[i]? = some y) (hi : i ≤ cur.length) (e : x.1 = y.1) (hxy : x = y ∨ ∃ b, x.2 = .guess b) : Vr rows (putL cur x) ∧ (putL cur x).length = max cur.length (i + 1) := by
  have hir := (List.getElem?_eq_some_iff.mp hy).1
  have hle := v.le
  have hnd : (nmsOf rows).Nodup := ca_nodup h
  by_cases hlt : i < cur.length
  · have hc : cur[i]? = some cur[i] := List.getElem?_eq_getElem hlt
    obtain ⟨y2, hy2, e2, _⟩ := v.at_ hc
    have : y2 = y := by rw [hy] at hy2; exact (Option.some.inj hy2).symm
    subst this
    have ndc := ca_nodup (vr_ok h v)
    have hf : (nmsOf cur).findIdx? (fun n => decide (n = x.1)) = some i := by
      rw [List.findIdx?_eq_some_iff_getElem]
      refine ⟨by simpa [nmsOf] using hlt, by simp [nmsOf, e2, e], fun j hj => ?_⟩
      rw [decide_eq_true_eq]
      intro z
      have hj2 : (nmsOf cur)[j]'(by simp [nmsOf]; omega) = (nmsOf cur)[i]'(by simpa [nmsOf] using hlt) := by
        rw [z]
        simp [nmsOf, e2, e]
      have := (List.getElem_inj ndc).mp hj2
      omega
    have hp : putL cur x = cur.set i x := by unfold putL; rw [hf]
    rw [hp]
    refine ⟨⟨by simpa using hle, fun {j z} hz => ?_⟩, by simp; omega⟩
    rw [List.getElem?_set] at hz
    by_cases hij : i = j
    · subst hij
      rw [if_pos rfl, if_pos hlt] at hz
      have hz := Option.some.inj hz
      subst hz
      exact ⟨y2, hy, e, hxy⟩
    · rw [if_neg hij] at hz
      exact v.at_ hz
  · have hi2 : i = cur.length := by omega
    subst hi2
    have hn : x.1 ∉ nmsOf cur := by
      have en := vr_names v cur.length (Nat.le_refl _)
      rw [List.take_length] at en
      rw [en, e]
      exact (h.nth hy).new
    rw [putL_new hn]
    refine ⟨⟨by simp; omega, fun {j z} hz => ?_⟩, by simp⟩
    rw [List.getElem?_append] at hz
    split at hz
    · exact v.at_ hz
    · have hj : j = cur.length := by
        have := (List.getElem?_eq_some_iff.mp hz).1
        simp at this
        omega
      subst hj
      simp at hz
      subst hz
      exact ⟨y, hy, e, hxy⟩
/-- the same marks, by judges -/
theorem by_judge {ms : List Mk} (h : ∀ m ∈ ms, 0 ≤ m.j ∧ m.j ≤ 3) (j : Int) : ([3, 1, 0, 2] : List Int).flatMap (fun i => (ms.filter fun m => decide (m.j = i)).filter fun m => decide (m.j = j)) = ms.filter fun m => decide (m.j = j) := by
  have f : ∀ i : Int, (ms.filter fun m => decide (m.j = i)).filter (fun m => decide (m.j = j)) = if i = j then ms.filter (fun m => decide (m.j = j)) else [] := fun i => by
    split
    · rename_i e
      subst e
      rw [List.filter_filter]
      simp
    · rename_i e
      rw [List.filter_filter]
      refine List.filter_eq_nil_iff.mpr fun m _ => ?_
      simp only [Bool.and_eq_true, decide_eq_true_eq]
      exact fun z => e (z.2.symm.trans z.1)
  simp only [List.flatMap_cons, List.flatMap_nil, f, List.append_nil]
  by_cases h3 : j = 3
  · subst h3; simp
  by_cases h1 : j = 1
  · subst h1; simp
  by_cases h0 : j = 0
  · subst h0; simp
  by_cases h2 : j = 2
  · subst h2; simp
  rw [if_neg (by omega), if_neg (by omega), if_neg (by omega), if_neg (by omega)]
  symm
  refine List.filter_eq_nil_iff.mpr fun m hm => ?_
  rw [decide_eq_true_eq]
  have := h m hm
  omega
end Sh
end

section
namespace K23
open PySem L2 Cr Sh
def f_law : Fn := ⟨1, 17, [], [.set 1 (.call 1 [] [.var 0, .lit (.int 89)]),
  .for_ (.v 2) (.rng [.lit (.int 4)]) [.set 3 (.call 2 [0] [.io 1, .lit (.int 3), .lit (.int 3)]),
    .par 4 5 (.mk 2 16 [.var 3]) (.mk 2 16 [.var 3]),
    .set 6 (.call 4 [0] [.io 1, .var 3, .lit (.int 12)]),
    .for_ (.v 7) (.seq (.bin .Add (.var 6) (.lc [8] (.v 8) (.rng [.lit (.int 3)]) [.cmp .NotEq (.var 6) (.lst [])] (.sub (.var 6) (.call 0 [0] [.io 1, .bi .len [.var 6]]))))) [.set 9 (.ife (.cmp .Eq (.call 0 [0] [.io 1, .lit (.int 3)]) (.lit (.int 0))) (.tup [.lit (.str "guess"), .sub (.var 7) (.lit (.int 1)), .cmp .Eq (.call 0 [0] [.io 1, .lit (.int 2)]) (.lit (.int 0))]) (.var 7)),
      .if_ (.cmp .NotEq (.mcall "put" 2 18 [0] (.io 4) [.var 9]) (.mcall "put" 2 18 [0] (.io 5) [.var 9])) [.ret (.lit (.bl false))] [],
      .par 11 12 (.lc [10] (.v 10) (.seq (.mcall "rows_of" 2 17 [] (.var 4) [.mcall "put" 2 18 [0] (.io 4) [.var 9]])) [] (.sub (.var 10) (.lit (.int 1)))) (.lst []),
      .expr (.mcall "put" 2 18 [0] (.io 5) [.var 9]),
      .for_ (.v 8) (.rng [.call 0 [0] [.io 1, .lit (.int 6)]]) [.mut 12 none .app [.tup [.call 0 [0] [.io 1, .lit (.int 4)], .sub (.var 11) (.call 0 [0] [.io 1, .bi .len [.var 11]]), .cmp .Gt (.call 0 [0] [.io 1, .lit (.int 3)]) (.lit (.int 0))]]],
      .for_ (.tup [.v 13, .v 14, .v 15]) (.seq (.fz 12)) [.expr (.mcall "mark" 2 21 [0] (.io 4) [.var 13, .var 14, .var 15])],
      .for_ (.v 13) (.seq (.lst [.lit (.int 3), .lit (.int 1), .lit (.int 0), .lit (.int 2)])) [.for_ (.v 16) (.seq (.lc [16] (.v 16) (.seq (.var 12)) [.cmp .Eq (.sub (.var 16) (.lit (.int 0))) (.var 13)] (.var 16))) [.expr (.mcall "mark" 2 21 [0] (.io 5) [.sub (.var 16) (.lit (.int 0)), .sub (.var 16) (.lit (.int 1)), .sub (.var 16) (.lit (.int 2))])]]],
    .for_ (.v 14) (.seq (.lc [7] (.v 7) (.seq (.var 6)) [] (.sub (.var 7) (.lit (.int 1))))) [.if_ (.or [.cmp .NotEq (.mcall "verdicts" 2 23 [] (.var 4) [.var 14]) (.mcall "verdicts" 2 23 [] (.var 5) [.var 14]), .cmp .NotEq (.mcall "is_accepted" 2 24 [] (.var 4) [.var 14, .lit (.int 2)]) (.mcall "is_accepted" 2 24 [] (.var 5) [.var 14, .lit (.int 2)])]) [.ret (.lit (.bl false))] [],
      .expr (.mcall "mark" 2 21 [0] (.io 4) [.lit (.int 7), .var 14, .lit (.bl false)]),
      .expr (.mcall "mark" 2 21 [0] (.io 4) [.lit (.int 7), .var 14, .lit (.bl true)]),
      .if_ (.or [.cmp .NotEq (.sub (.mcall "verdicts" 2 23 [] (.var 4) [.var 14]) (.lit (.int (-1)))) (.tup [.lit (.int 7), .lit (.bl true)]), .cmp .NotEq (.bi .len [.mcall "verdicts" 2 23 [] (.var 4) [.var 14]]) (.bin .Add (.bi .len [.mcall "verdicts" 2 23 [] (.var 5) [.var 14]]) (.lit (.int 1)))]) [.ret (.lit (.bl false))] [],
      .expr (.mcall "mark" 2 21 [0] (.io 5) [.lit (.int 7), .var 14, .lit (.bl true)])],
    .if_ (.or [.cmp .NotEq (.mcall "to_do" 2 25 [] (.var 4) [.lit (.int 2)]) (.mcall "to_do" 2 25 [] (.var 5) [.lit (.int 2)]), .cmp .NotEq (.mcall "to_do" 2 25 [] (.var 4) [.lit (.int 9)]) (.lc [7] (.v 7) (.seq (.var 6)) [] (.sub (.var 7) (.lit (.int 1))))]) [.ret (.lit (.bl false))] []],
  .ret (.lit (.bl true))]⟩
def core : List Fn := [f__law_next, f__law_mix, f__law_tree, f__law_names, f__law_case, f_is_name, f_Tree___init__, f_Tree_is_there, f_Tree_is_row, f__law_next, f_Case___init__, f_Case_is_row, f_Case_is_claim, f__law_next, f__law_next, f_need_count, f_House___init__, f_House_rows_of, f_House_put, f__law_next, f_House_touched, f_House_mark, f_House_is_touched, f_House_verdicts, f_House_is_accepted, f_House_to_do, f_law]
end K23
end

section
/-! The law's run. -/
namespace K23
open PySem L2 Cr Sh
abbrev Lw (s0 s1 s2 s3 s4 s5 s6 s7 s8 s9 s10 s11 s12 s13 s14 s15 s16 : Option O) : Cr.Env := [s0, s1, s2, s3, s4, s5, s6, s7, s8, s9, s10, s11, s12, s13, s14, s15, s16]
structure HP (P : List Fn) : Prop where
  hh : HH P
  h0 : P[0]? = some nextFn
  h1 : P[1]? = some mixFn
  h2 : P[2]? = some f__law_tree
  h3 : P[3]? = some f__law_names
  h4 : P[4]? = some f__law_case
  h17 : P[17]? = some f_House_rows_of
theorem core_hp : HP core := ⟨⟨⟨rfl, rfl, rfl, rfl, rfl, rfl, rfl⟩, rfl, rfl, rfl, rfl, rfl, rfl, rfl, rfl, rfl⟩, rfl, rfl, rfl, rfl, rfl, rfl⟩
abbrev freshC : CE := .ife (.cmp .Eq (.call 0 [0] [.io 1, .lit (.int 3)]) (.lit (.int 0))) (.tup [.lit (.str "guess"), .sub (.var 7) (.lit (.int 1)), .cmp .Eq (.call 0 [0] [.io 1, .lit (.int 2)]) (.lit (.int 0))]) (.var 7)
abbrev putC (i : Nat) : CE := .mcall "put" 2 18 [0] (.io i) [.var 9]
abbrev markB5 : List CS := [.mut 12 none .app [.tup [.call 0 [0] [.io 1, .lit (.int 4)], .sub (.var 11) (.call 0 [0] [.io 1, .bi .len [.var 11]]), .cmp .Gt (.call 0 [0] [.io 1, .lit (.int 3)]) (.lit (.int 0))]]]
abbrev markB6 : List CS := [.expr (.mcall "mark" 2 21 [0] (.io 4) [.var 13, .var 14, .var 15])]
abbrev markB8 : List CS := [.expr (.mcall "mark" 2 21 [0] (.io 5) [.sub (.var 16) (.lit (.int 0)), .sub (.var 16) (.lit (.int 1)), .sub (.var 16) (.lit (.int 2))])]
abbrev lc16 : CE := .lc [16] (.v 16) (.seq (.var 12)) [.cmp .Eq (.sub (.var 16) (.lit (.int 0))) (.var 13)] (.var 16)
abbrev markB7 : List CS := [.for_ (.v 16) (.seq lc16) markB8]
def rowB2 : List CS := [.for_ (.v 8) (.rng [.call 0 [0] [.io 1, .lit (.int 6)]]) markB5,
      .for_ (.tup [.v 13, .v 14, .v 15]) (.seq (.fz 12)) markB6,
      .for_ (.v 13) (.seq (.lst [.lit (.int 3), .lit (.int 1), .lit (.int 0), .lit (.int 2)])) markB7]
def rowB : List CS := .set 9 freshC ::
      .if_ (.cmp .NotEq (putC 4) (putC 5)) [.ret (.lit (.bl false))] [] ::
      .par 11 12 (.lc [10] (.v 10) (.seq (.mcall "rows_of" 2 17 [] (.var 4) [putC 4])) [] (.sub (.var 10) (.lit (.int 1)))) (.lst []) ::
      .expr (putC 5) :: rowB2
abbrev verdC (i : Nat) : CE := .mcall "verdicts" 2 23 [] (.var i) [.var 14]
abbrev accC (i : Nat) : CE := .mcall "is_accepted" 2 24 [] (.var i) [.var 14, .lit (.int 2)]
abbrev mark7 (i : Nat) (b : Bool) : CS := .expr (.mcall "mark" 2 21 [0] (.io i) [.lit (.int 7), .var 14, .lit (.bl b)])
def nameB : List CS := [.if_ (.or [.cmp .NotEq (verdC 4) (verdC 5), .cmp .NotEq (accC 4) (accC 5)]) [.ret (.lit (.bl false))] [],
      mark7 4 false, mark7 4 true,
      .if_ (.or [.cmp .NotEq (.sub (verdC 4) (.lit (.int (-1)))) (.tup [.lit (.int 7), .lit (.bl true)]), .cmp .NotEq (.bi .len [verdC 4]) (.bin .Add (.bi .len [verdC 5]) (.lit (.int 1)))]) [.ret (.lit (.bl false))] [],
      mark7 5 true]
abbrev namesC : CE := .lc [7] (.v 7) (.seq (.var 6)) [] (.sub (.var 7) (.lit (.int 1)))
abbrev todoC (i : Nat) (n : Int) : CE := .mcall "to_do" 2 25 [] (.var i) [.lit (.int n)]
abbrev moreC : CE := .lc [8] (.v 8) (.rng [.lit (.int 3)]) [.cmp .NotEq (.var 6) (.lst [])] (.sub (.var 6) (.call 0 [0] [.io 1, .bi .len [.var 6]]))
def turnB2 : List CS := [.for_ (.v 7) (.seq (.bin .Add (.var 6) moreC)) rowB,
    .for_ (.v 14) (.seq namesC) nameB,
    .if_ (.or [.cmp .NotEq (todoC 4 2) (todoC 5 2), .cmp .NotEq (todoC 4 9) namesC]) [.ret (.lit (.bl false))] []]
def turnB : List CS := .set 3 (.call 2 [0] [.io 1, .lit (.int 3), .lit (.int 3)]) ::
    .par 4 5 (.mk 2 16 [.var 3]) (.mk 2 16 [.var 3]) ::
    .set 6 (.call 4 [0] [.io 1, .var 3, .lit (.int 12)]) :: turnB2
theorem law_body : f_law.body = [.set 1 (.call 1 [] [.var 0, .lit (.int 89)]), .for_ (.v 2) (.rng [.lit (.int 4)]) turnB, .ret (.lit (.bl true))] := rfl
/-- what stands between two rows -/
structure St (parts : List Str) (rows cur : Rows) (eds : List Rows) (m1 m2 : List Sh.Mk) : Prop where
  ok : CaOk parts rows
  ed : ∀ r ∈ eds, CaOk parts r
  ne : eds ≠ []
  last : eds.getLast? = some cur
  vr : Vr rows cur
  al : Alike m1 m2
  f1 : Four m1 []
  f2 : Four m2 []
  e1 : ∀ m ∈ m1, m.e < eds.length
  e2 : ∀ m ∈ m2, m.e < eds.length
section
variable {P : List Fn} {W : Nat} {s0 s1 s2 s3 s4 s5 s6 s7 s8 s9 s10 s11 s12 s13 s14 s15 s16 : Option O} {es : List (Str × Int)} {rs : List Rw} {rows cur : Rows} {eds : List Rows} {m1 m2 : List Sh.Mk} {parts : List Str}
theorem St.put (s : St parts rows cur eds m1 m2) {i : Nat} {x y : Str × CRow} (hy : rows[i]? = some y) (hi : i ≤ cur.length) (e : x.1 = y.1) (hxy : x = y ∨ ∃ b, x.2 = .guess b) : St parts rows (putL cur x) (eds ++ [putL cur x]) m1 m2 ∧ (putL cur x).length = max cur.length (i + 1) := by
  obtain ⟨v, hl⟩ := vr_put s.ok s.vr hy hi e hxy
  refine ⟨⟨s.ok, fun r hr => ?_, by simp, by simp, v, s.al, s.f1, s.f2, fun m hm => by have := s.e1 m hm; simp; omega, fun m hm => by have := s.e2 m hm; simp; omega⟩, hl⟩
  rcases List.mem_append.mp hr with z | z
  · exact s.ed r z
  · simp at z; subst z; exact vr_ok s.ok v
theorem St.edok (s : St parts rows cur eds m1 m2) (hl : eds.length ≤ 1000) : EdOk parts eds := ⟨s.ed, s.ne, hl⟩
/-- the row that is put -/
theorem fresh_ok (h0 : P[0]? = some nextFn) (h : Hs) {y : Str × CRow} : ∃ (h' : Hs) (x : Str × CRow), x.1 = y.1 ∧ (x = y ∨ ∃ b, x.2 = .guess b) ∧
    ev (Cr.run P W 6) freshC (Lw s0 (some h.o) s2 s3 s4 s5 s6 (some (.fr (crD y.1 y.2))) s8 s9 s10 s11 s12 s13 s14 s15 s16) = .ok (.p (crD x.1 x.2), Lw s0 (some h'.o) s2 s3 s4 s5 s6 (some (.fr (crD y.1 y.2))) s8 s9 s10 s11 s12 s13 s14 s15 s16) := by
  have hc : ev (Cr.run P W 6) (.cmp .Eq (.call 0 [0] [.io 1, .lit (.int 3)]) (.lit (.int 0))) (Lw s0 (some h.o) s2 s3 s4 s5 s6 (some (.fr (crD y.1 y.2))) s8 s9 s10 s11 s12 s13 s14 s15 s16) = .ok (.p (.bl (nv h 3 == 0)), Lw s0 (some (nh h 3).o) s2 s3 s4 s5 s6 (some (.fr (crD y.1 y.2))) s8 s9 s10 s11 s12 s13 s14 s15 s16) := x_cmpP (x_next (h := h) h0 x_lit (by decide) (by decide) rfl) x_lit eq_int
  cases hb : (nv h 3 == 0) with
  | true =>
    rw [hb] at hc
    refine ⟨nh (nh h 3) 2, (y.1, .guess (nv (nh h 3) 2 == 0)), rfl, .inr ⟨_, rfl⟩, x_ife hc ?_⟩
    rw [if_pos rfl]
    exact x_tup (os := [.fr (.str "guess"), .fr (.str y.1), .fr (.bl (nv (nh h 3) 2 == 0))]) (x_as x_lit (x_as (x_sub (o := .fr (.str y.1)) (x_var rfl) x_lit rfl rfl cr_nm) (x_as (x_cmpP (x_next (h := nh h 3) h0 x_lit (by decide) (by decide) rfl) x_lit eq_int) x_as0))) rfl (by simp)
  | false =>
    rw [hb] at hc
    refine ⟨nh h 3, y, rfl, .inl rfl, x_ife hc ?_⟩
    rw [if_neg (by decide)]
    exact x_var rfl
def mqD (m : Sh.Mk) : D := .tup [.int m.j, .str m.n, .bl m.g]
theorem mq_imm : ∀ ms : List Sh.Mk, immL (ms.map mqD) = true
  | [] => rfl
  | m :: ms => by show ((mqD m).imm && immL (ms.map mqD)) = true; rw [mq_imm ms]; rfl
/-- marks are drawn -/
theorem draws_ok (h0 : P[0]? = some nextFn) {h : Hs} {names : List Str} (n1 : 1 ≤ names.length) (n2 : names.length ≤ 1000) (N : Nat) {Q : Fl → Cr.Env → Prop}
    (fin : ∀ (h : Hs) (x8 : Option O) (ms : List Sh.Mk), leafOrNone x8 = true → (∀ m ∈ ms, 0 ≤ m.j ∧ m.j ≤ 3 ∧ m.n ∈ names ∧ m.e = N) → ms.length ≤ 6 → Q .next (Lw s0 (some h.o) s2 s3 s4 s5 s6 s7 x8 s9 s10 (some (strO names)) (some (.ol ((ms.map mqD).map O.fr))) s13 s14 s15 s16)) (h8 : leafOrNone s8 = true) :
    WP (evS (Cr.run P W 6) W (.for_ (.v 8) (.rng [.call 0 [0] [.io 1, .lit (.int 6)]]) markB5) (Lw s0 (some h.o) s2 s3 s4 s5 s6 s7 s8 s9 s10 (some (strO names)) (some (.ol [])) s13 s14 s15 s16)) Q := by
  have a0 := nv0 (h := h) (n := 6) (by decide) (by decide)
  have a1 := nv1 (h := h) (n := 6) (by decide) (by decide)
  refine w_forN (Inv := fun i e => ∃ (h : Hs) (x8 : Option O) (ms : List Sh.Mk), leafOrNone x8 = true ∧ (∀ m ∈ ms, 0 ≤ m.j ∧ m.j ≤ 3 ∧ m.n ∈ names ∧ m.e = N) ∧ ms.length ≤ i ∧ e = Lw s0 (some h.o) s2 s3 s4 s5 s6 s7 x8 s9 s10 (some (strO names)) (some (.ol ((ms.map mqD).map O.fr))) s13 s14 s15 s16)
    ⟨_, _, x_next h0 x_lit (by decide) (by decide) rfl, (nv h 6).toNat, by rw [show ((nv h 6).toNat : Int) = nv h 6 by omega], by omega, ⟨nh h 6, s8, [], h8, (fun m hm => by cases hm), Nat.le_refl _, rfl⟩, ?_, ?_⟩
  · rintro i e hi ⟨h, x8, ms, h8, hm, hl, rfl⟩
    refine ⟨_, rfl, ?_⟩
    have b0 := nv0 (h := h) (n := 4) (by decide) (by decide)
    have b1 := nv1 (h := h) (n := 4) (by decide) (by decide)
    have c0 := nv0 (h := nh h 4) (n := names.length) (by omega) (by omega)
    have c1 := nv1 (h := nh h 4) (n := names.length) (by omega) (by omega)
    obtain ⟨p, hp1, hp2⟩ := at_str c0 c1
    have t : ev (Cr.run P W 6) (.tup [.call 0 [0] [.io 1, .lit (.int 4)], .sub (.var 11) (.call 0 [0] [.io 1, .bi .len [.var 11]]), .cmp .Gt (.call 0 [0] [.io 1, .lit (.int 3)]) (.lit (.int 0))]) (Lw s0 (some h.o) s2 s3 s4 s5 s6 s7 (some (.fr (.int i))) s9 s10 (some (strO names)) (some (.ol ((ms.map mqD).map O.fr))) s13 s14 s15 s16) =
        .ok (.p (.tup [.int (nv h 4), .str p, .bl (decide (0 < nv (nh (nh h 4) names.length) 3))]), Lw s0 (some (nh (nh (nh h 4) names.length) 3).o) s2 s3 s4 s5 s6 s7 (some (.fr (.int i))) s9 s10 (some (strO names)) (some (.ol ((ms.map mqD).map O.fr))) s13 s14 s15 s16) :=
      x_tup (os := [.fr (.int (nv h 4)), .fr (.str p), .fr (.bl (decide (0 < nv (nh (nh h 4) names.length) 3)))]) (x_as (x_next (h := h) h0 x_lit (by decide) (by decide) rfl) (x_as (x_sub (o := .fr (.str p)) (x_varL rfl) (x_next (n := names.length) (h := nh h 4) h0 (x_bi (o := .fr (.int (names.length : Int))) (x_as (x_varL rfl) x_as0) rfl rfl (len_str _)) (by omega) (by omega) rfl) rfl rfl hp2) (x_as (x_cmpP (x_next (h := nh (nh h 4) names.length) h0 x_lit (by decide) (by decide) rfl) x_lit gt_int) x_as0))) rfl (by simp)
    refine w_ss ⟨_, _, x_mutE (ys := (ms.map mqD).map O.fr) (xs := (ms.map mqD).map O.fr) (a2 := .ol (((ms ++ [(⟨nv h 4, p, N, decide (0 < nv (nh (nh h 4) names.length) 3)⟩ : Sh.Mk)]).map mqD).map O.fr)) rfl t rfl rfl ?_ rfl, ?_⟩
    · rw [mu_app (by simp; omega)]
      simp [mqD]
    · refine after_next (w_ss0 ⟨rfl, _, _, _, rfl, fun m hm2 => ?_, by simp; omega, rfl⟩)
      rcases List.mem_append.mp hm2 with z | z
      · exact hm m z
      · simp at z
        subst z
        exact ⟨b0, by show nv h 4 ≤ 3; omega, hp1, rfl⟩
  · rintro e ⟨h, x8, ms, h8, hm, hl, rfl⟩
    exact fin h x8 ms h8 hm (by omega)
/-- the first house's marks -/
theorem ones_ok (hp : HP P) (hv : EdOk parts eds) (hl : eds.getLast? = some cur) {ms : List Sh.Mk} (hm : ∀ m ∈ ms, 0 ≤ m.j ∧ m.j ≤ 3 ∧ m.n ∈ nmsOf cur ∧ m.e = eds.length - 1) (hk : m1.length + ms.length ≤ 10000) {Q : Fl → Cr.Env → Prop}
    (fin : ∀ x13 x14 x15, Q .next (Lw s0 s1 s2 s3 (some (hsO (treeD es rs) eds (m1 ++ ms))) s5 s6 s7 s8 s9 s10 s11 (some (.fr (.lst (ms.map mqD)))) x13 x14 x15 s16)) :
    WP (evS (Cr.run P W 6) W (.for_ (.tup [.v 13, .v 14, .v 15]) (.seq (.fz 12)) markB6) (Lw s0 s1 s2 s3 (some (hsO (treeD es rs) eds m1)) s5 s6 s7 s8 s9 s10 s11 (some (.ol ((ms.map mqD).map O.fr))) s13 s14 s15 s16)) Q := by
  have hfz := x_fz (cal := Cr.run P W 6) (e := Lw s0 s1 s2 s3 (some (hsO (treeD es rs) eds m1)) s5 s6 s7 s8 s9 s10 s11 (some (.ol ((ms.map mqD).map O.fr))) s13 s14 s15 s16) (i := 12) (o := .ol ((ms.map mqD).map O.fr)) rfl
  have ef : (O.ol ((ms.map mqD).map O.fr)).frz = .lst (ms.map mqD) := by simp only [O.frz, frzL_map]
  rw [ef] at hfz
  refine w_forD (bb := false) (ds := ms.map mqD) (Inv := fun i e => ∃ x13 x14 x15, e = Lw s0 s1 s2 s3 (some (hsO (treeD es rs) eds (m1 ++ ms.take i))) s5 s6 s7 s8 s9 s10 s11 (some (.fr (.lst (ms.map mqD)))) x13 x14 x15 s16) hfz rfl ⟨_, _, _, by rw [List.take_zero, List.append_nil]; rfl⟩ ?_ ?_
  · rintro i d e hd ⟨x13, x14, x15, rfl⟩
    rw [List.getElem?_map] at hd
    obtain ⟨m, hmi, rfl⟩ := Option.map_eq_some_iff.mp hd
    have hi := (List.getElem?_eq_some_iff.mp hmi).1
    obtain ⟨j0, j3, hn, he⟩ := hm m (List.mem_of_getElem? hmi)
    refine ⟨_, rfl, ?_⟩
    have q := x_markI (k := 4) (W := W) (i := 4) (e := Lw s0 s1 s2 s3 (some (hsO (treeD es rs) eds (m1 ++ ms.take i))) s5 s6 s7 s8 s9 s10 s11 (some (.fr (.lst (ms.map mqD)))) (some (.fr (.int m.j))) (some (.fr (.str m.n))) (some (.fr (.bl m.g))) s16) (a1 := .var 13) (a2 := .var 14) (a3 := .var 15) (j := m.j) (n := m.n) (g := m.g) hp.hh hv hl rfl (x_as (x_var rfl) (x_as (x_var rfl) (x_as (x_var rfl) x_as0))) rfl hn j0 (by omega) (by simp; omega)
    refine w_ss ⟨_, _, x_expr q, after_next (w_ss0 ⟨rfl, some (.fr (.int m.j)), some (.fr (.str m.n)), some (.fr (.bl m.g)), ?_⟩)⟩
    have e3 : m1 ++ ms.take (i + 1) = m1 ++ ms.take i ++ [⟨m.j, m.n, eds.length - 1, m.g⟩] := by
      rw [List.take_add_one, hmi, ← he]
      simp
    rw [e3]
    rfl
  · rintro e ⟨x13, x14, x15, rfl⟩
    rw [List.length_map, List.take_length]
    exact fin x13 x14 x15
/-- the other's: a judge's own -/
theorem judge_ok (hp : HP P) (hv : EdOk parts eds) (hl : eds.getLast? = some cur) {ms : List Sh.Mk} (hm : ∀ m ∈ ms, 0 ≤ m.j ∧ m.j ≤ 3 ∧ m.n ∈ nmsOf cur ∧ m.e = eds.length - 1) (hms : ms.length ≤ 6) (hk : m2.length + ms.length ≤ 10000) {j : Int} {Q : Fl → Cr.Env → Prop}
    (fin : ∀ x16, leafOrNone x16 = true → Q .next (Lw s0 s1 s2 s3 s4 (some (hsO (treeD es rs) eds (m2 ++ ms.filter fun m => decide (m.j = j)))) s6 s7 s8 s9 s10 s11 (some (.fr (.lst (ms.map mqD)))) (some (.fr (.int j))) s14 s15 x16)) (h16 : leafOrNone s16 = true) :
    WP (evS (Cr.run P W 6) W (.for_ (.v 16) (.seq lc16) markB8) (Lw s0 s1 s2 s3 s4 (some (hsO (treeD es rs) eds m2)) s6 s7 s8 s9 s10 s11 (some (.fr (.lst (ms.map mqD)))) (some (.fr (.int j))) s14 s15 s16)) Q := by
  have q := lcFM (cal := Cr.run P W 6) (e := Lw s0 s1 s2 s3 s4 (some (hsO (treeD es rs) eds m2)) s6 s7 s8 s9 s10 s11 (some (.fr (.lst (ms.map mqD)))) (some (.fr (.int j))) s14 s15 s16) (j := 16) (s := .seq (.var 12)) (c := .cmp .Eq (.sub (.var 16) (.lit (.int 0))) (.var 13)) (x := .var 16) (ds := ms.map mqD) (tr := false) (p := fun d => match d with | .tup (.int i :: _) => i == j | _ => false) (g := fun d => .fr d) (x_seq (bb := false) (x_var rfl) rfl) (show 16 < 17 by decide) h16 rfl (by simp; omega) (fun d hd => by
    obtain ⟨m, _, rfl⟩ := List.mem_map.mp hd
    exact ⟨x_cmpP (x_sub (o := .fr (.int m.j)) (x_var rfl) x_lit rfl rfl rfl) (x_var rfl) eq_int, _, fun _ => x_var rfl, rfl⟩)
  rw [filt_map (q := fun m : Sh.Mk => decide (m.j = j)) (fun m => int_beq)] at q
  have hf : (ms.filter fun m => decide (m.j = j)).length ≤ ms.length := List.length_filter_le _ _
  refine w_forR (ds := (ms.filter fun m => decide (m.j = j)).map mqD) (Inv := fun i e => ∃ x16, leafOrNone x16 = true ∧ e = Lw s0 s1 s2 s3 s4 (some (hsO (treeD es rs) eds (m2 ++ (ms.filter fun m => decide (m.j = j)).take i))) s6 s7 s8 s9 s10 s11 (some (.fr (.lst (ms.map mqD)))) (some (.fr (.int j))) s14 s15 x16) (evsr_t q) ⟨_, h16, by rw [List.take_zero, List.append_nil]⟩ ?_ ?_
  · rintro i d e hd ⟨x16, h16, rfl⟩
    rw [List.getElem?_map] at hd
    obtain ⟨m, hmi, rfl⟩ := Option.map_eq_some_iff.mp hd
    have hi := (List.getElem?_eq_some_iff.mp hmi).1
    obtain ⟨j0, j3, hn, he⟩ := hm m (List.mem_filter.mp (List.mem_of_getElem? hmi)).1
    refine ⟨_, rfl, ?_⟩
    have q := x_markI (k := 4) (W := W) (i := 5) (e := Lw s0 s1 s2 s3 s4 (some (hsO (treeD es rs) eds (m2 ++ (ms.filter fun m => decide (m.j = j)).take i))) s6 s7 s8 s9 s10 s11 (some (.fr (.lst (ms.map mqD)))) (some (.fr (.int j))) s14 s15 (some (.fr (mqD m)))) (a1 := .sub (.var 16) (.lit (.int 0))) (a2 := .sub (.var 16) (.lit (.int 1))) (a3 := .sub (.var 16) (.lit (.int 2))) (j := m.j) (n := m.n) (g := m.g) hp.hh hv hl rfl (x_as (x_sub (o := .fr (.int m.j)) (x_var rfl) x_lit rfl rfl rfl) (x_as (x_sub (o := .fr (.str m.n)) (x_var rfl) x_lit rfl rfl rfl) (x_as (x_sub (o := .fr (.bl m.g)) (x_var rfl) x_lit rfl rfl rfl) x_as0))) rfl hn j0 (by omega) (by simp; omega)
    refine w_ss ⟨_, _, x_expr q, after_next (w_ss0 (.inl ⟨rfl, some (.fr (mqD m)), rfl, ?_⟩))⟩
    have e3 : m2 ++ (ms.filter fun m => decide (m.j = j)).take (i + 1) = m2 ++ (ms.filter fun m => decide (m.j = j)).take i ++ [⟨m.j, m.n, eds.length - 1, m.g⟩] := by
      rw [List.take_add_one, hmi, ← he]
      simp
    rw [e3]
    rfl
  · rintro e ⟨x16, h16, rfl⟩
    rw [List.length_map, List.take_length]
    exact fin x16 h16
abbrev turnsOf (ms : List Sh.Mk) : List Sh.Mk := ([3, 1, 0, 2] : List Int).flatMap fun j => ms.filter fun m => decide (m.j = j)
theorem turns_len (ms : List Sh.Mk) : (turnsOf ms).length ≤ 4 * ms.length := by
  have h3 := List.length_filter_le (fun m : Sh.Mk => decide (m.j = 3)) ms
  have h1 := List.length_filter_le (fun m : Sh.Mk => decide (m.j = 1)) ms
  have h0 := List.length_filter_le (fun m : Sh.Mk => decide (m.j = 0)) ms
  have h2 := List.length_filter_le (fun m : Sh.Mk => decide (m.j = 2)) ms
  simp only [turnsOf, List.flatMap_cons, List.flatMap_nil, List.length_append, List.length_nil]
  omega
/-- the other's, judge by judge -/
theorem twos_ok (hp : HP P) (hv : EdOk parts eds) (hl : eds.getLast? = some cur) {ms : List Sh.Mk} (hm : ∀ m ∈ ms, 0 ≤ m.j ∧ m.j ≤ 3 ∧ m.n ∈ nmsOf cur ∧ m.e = eds.length - 1) (hms : ms.length ≤ 6) (hk : m2.length ≤ 9000) {Q : Fl → Cr.Env → Prop}
    (fin : ∀ x13 x16, leafOrNone x16 = true → Q .next (Lw s0 s1 s2 s3 s4 (some (hsO (treeD es rs) eds (m2 ++ turnsOf ms))) s6 s7 s8 s9 s10 s11 (some (.fr (.lst (ms.map mqD)))) x13 s14 s15 x16)) (h16 : leafOrNone s16 = true) :
    WP (evS (Cr.run P W 6) W (.for_ (.v 13) (.seq (.lst [.lit (.int 3), .lit (.int 1), .lit (.int 0), .lit (.int 2)])) markB7) (Lw s0 s1 s2 s3 s4 (some (hsO (treeD es rs) eds m2)) s6 s7 s8 s9 s10 s11 (some (.fr (.lst (ms.map mqD)))) s13 s14 s15 s16)) Q := by
  have hsrc : evSr (Cr.run P W 6) (.seq (.lst [.lit (.int 3), .lit (.int 1), .lit (.int 0), .lit (.int 2)])) (Lw s0 s1 s2 s3 s4 (some (hsO (treeD es rs) eds m2)) s6 s7 s8 s9 s10 s11 (some (.fr (.lst (ms.map mqD)))) s13 s14 s15 s16) = .ok ([.int 3, .int 1, .int 0, .int 2], false, Lw s0 s1 s2 s3 s4 (some (hsO (treeD es rs) eds m2)) s6 s7 s8 s9 s10 s11 (some (.fr (.lst (ms.map mqD)))) s13 s14 s15 s16) :=
    evsr_t (ds := [.int 3, .int 1, .int 0, .int 2]) (x_lst (os := [.fr (.int 3), .fr (.int 1), .fr (.int 0), .fr (.int 2)]) (x_as x_lit (x_as x_lit (x_as x_lit (x_as x_lit x_as0)))) rfl (by simp))
  refine w_forR (Inv := fun i e => ∃ x13 x16, leafOrNone x16 = true ∧ e = Lw s0 s1 s2 s3 s4 (some (hsO (treeD es rs) eds (m2 ++ (([3, 1, 0, 2] : List Int).take i).flatMap fun j => ms.filter fun m => decide (m.j = j)))) s6 s7 s8 s9 s10 s11 (some (.fr (.lst (ms.map mqD)))) x13 s14 s15 x16) hsrc ⟨_, _, h16, by rw [List.take_zero, List.flatMap_nil, List.append_nil]⟩ ?_ ?_
  · rintro i d e hd ⟨x13, x16, h16, rfl⟩
    obtain ⟨j, hj, rfl⟩ : ∃ j : Int, ([3, 1, 0, 2] : List Int)[i]? = some j ∧ d = .int j := by
      have e : ([.int 3, .int 1, .int 0, .int 2] : List D) = ([3, 1, 0, 2] : List Int).map D.int := rfl
      rw [e, List.getElem?_map] at hd
      obtain ⟨j, hj, e⟩ := Option.map_eq_some_iff.mp hd
      exact ⟨j, hj, e.symm⟩
    have hi := (List.getElem?_eq_some_iff.mp hj).1
    have hpre : ((([3, 1, 0, 2] : List Int).take i).flatMap fun j => ms.filter fun m => decide (m.j = j)).length ≤ 4 * ms.length := by
      have h2 : ((([3, 1, 0, 2] : List Int).take i).flatMap fun j => ms.filter fun m => decide (m.j = j)) <+: turnsOf ms := by
        conv => rhs; rw [turnsOf, ← List.take_append_drop i ([3, 1, 0, 2] : List Int)]
        rw [List.flatMap_append]
        exact List.prefix_append _ _
      exact Nat.le_trans h2.length_le (turns_len ms)
    refine ⟨_, rfl, ?_⟩
    refine w_ss (judge_ok hp hv hl hm hms (j := j) (m2 := m2 ++ (([3, 1, 0, 2] : List Int).take i).flatMap fun j => ms.filter fun m => decide (m.j = j)) (by rw [List.length_append]; omega) (fun x16 h16 => ?_) h16)
    refine after_next (w_ss0 (.inl ⟨rfl, some (.fr (.int j)), x16, h16, ?_⟩))
    have e3 : m2 ++ ((([3, 1, 0, 2] : List Int).take (i + 1)).flatMap fun j => ms.filter fun m => decide (m.j = j)) = m2 ++ ((([3, 1, 0, 2] : List Int).take i).flatMap fun j => ms.filter fun m => decide (m.j = j)) ++ ms.filter fun m => decide (m.j = j) := by
      rw [List.take_add_one, hj, List.flatMap_append]
      simp
    rw [e3]
  · rintro e ⟨x13, x16, h16, rfl⟩
    exact fin x13 x16 h16
end
end K23
end

section
/-! The law's run: a row, the rows, the names, a turn. -/
namespace K23
open PySem L2 Cr Sh
section
variable {P : List Fn} {W : Nat} {s0 s1 s2 s3 s4 s5 s6 s7 s8 s9 s10 s11 s12 s13 s14 s15 s16 : Option O} {es : List (Str × Int)} {rs : List Rw} {rows cur : Rows} {eds : List Rows} {m1 m2 : List Sh.Mk}
theorem St.marks {parts : List Str} (s : St parts rows cur eds m1 m2) {ms : List Sh.Mk} (hm : ∀ m ∈ ms, 0 ≤ m.j ∧ m.j ≤ 3 ∧ m.n ∈ nmsOf cur ∧ m.e = eds.length - 1) : St parts rows cur eds (m1 ++ ms) (m2 ++ turnsOf ms) := by
  have hne : 1 ≤ eds.length := by have := s.ne; cases eds with | nil => exact absurd rfl this | cons => simp
  have ht : ∀ m ∈ turnsOf ms, m ∈ ms := fun m h => by
    obtain ⟨j, _, h2⟩ := List.mem_flatMap.mp h
    exact (List.mem_filter.mp h2).1
  refine ⟨s.ok, s.ed, s.ne, s.last, s.vr, s.al.add fun j => ?_, fun m h => ?_, fun m h => ?_, fun m h => ?_, fun m h => ?_⟩
  · have := by_judge (ms := ms) (fun m h => ⟨(hm m h).1, (hm m h).2.1⟩) j
    rw [← this]
    unfold turnsOf
    rw [List.filter_flatMap]
  · rcases List.mem_append.mp h with z | z
    · exact s.f1 m z
    · exact .inl ⟨(hm m z).1, (hm m z).2.1⟩
  · rcases List.mem_append.mp h with z | z
    · exact s.f2 m z
    · exact .inl ⟨(hm m (ht m z)).1, (hm m (ht m z)).2.1⟩
  · rcases List.mem_append.mp h with z | z
    · exact s.e1 m z
    · have := (hm m z).2.2.2; omega
  · rcases List.mem_append.mp h with z | z
    · exact s.e2 m z
    · have := (hm m (ht m z)).2.2.2; omega
/-- what is put, and its names -/
theorem names_ok (hp : HP P) (ht : TreeOk es rs 3 3) (hv : EdOk (partsOf es rs) eds) (hl : eds.getLast? = some cur) {x : Str × CRow} (ok : CaOk (partsOf es rs) (putL cur x)) (h10 : leafOrNone s10 = true) :
    ev (Cr.run P W 6) (.lc [10] (.v 10) (.seq (.mcall "rows_of" 2 17 [] (.var 4) [putC 4])) [] (.sub (.var 10) (.lit (.int 1)))) (Lw s0 s1 s2 s3 (some (hsO (treeD es rs) eds m1)) s5 s6 s7 s8 (some (.fr (crD x.1 x.2))) s10 s11 s12 s13 s14 s15 s16) =
      .ok (.t (strO (nmsOf (putL cur x))), Lw s0 s1 s2 s3 (some (hsO (treeD es rs) (eds ++ [putL cur x]) m1)) s5 s6 s7 s8 (some (.fr (crD x.1 x.2))) s10 s11 s12 s13 s14 s15 s16) := by
  have hput := x_putI (k := 1) (W := W) (i := 4) (mks := m1) (e := Lw s0 s1 s2 s3 (some (hsO (treeD es rs) eds m1)) s5 s6 s7 s8 (some (.fr (crD x.1 x.2))) s10 s11 s12 s13 s14 s15 s16) (a := .var 9) hp.hh ht (by decide) (by decide) hv hl rfl (x_var rfl) rfl ok
  have hrows := rowsof_run (P := P) (k := 4) (W := W) (tr := treeD es rs) (mks := m1) (eds := eds ++ [putL cur x]) hp.hh.h15 hp.h17 (i := eds.length) (r := putL cur x) (by simp)
  have hcall : ev (Cr.run P W 6) (.mcall "rows_of" 2 17 [] (.var 4) [putC 4]) (Lw s0 s1 s2 s3 (some (hsO (treeD es rs) eds m1)) s5 s6 s7 s8 (some (.fr (crD x.1 x.2))) s10 s11 s12 s13 s14 s15 s16) = .ok (.t (.ol ((rowsD (putL cur x)).map O.fr)), Lw s0 s1 s2 s3 (some (hsO (treeD es rs) (eds ++ [putL cur x]) m1)) s5 s6 s7 s8 (some (.fr (crD x.1 x.2))) s10 s11 s12 s13 s14 s15 s16) := by
    rw [← crO_map]
    refine x_mcall0 (h := .n 4) (os := [.fr (hsF (treeD es rs) (eds ++ [putL cur x]) m1), .fr (.int (eds.length : Int))]) (x_varH rfl) rfl (by kernel_rfl) (x_as hput x_as0) rfl ?_ hrows rfl ?_
    · have h4 : (((Lw s0 s1 s2 s3 (some (hsO (treeD es rs) (eds ++ [putL cur x]) m1)) s5 s6 s7 s8 (some (.fr (crD x.1 x.2))) s10 s11 s12 s13 s14 s15 s16 : Cr.Env)[4]?).join) = some (hsO (treeD es rs) (eds ++ [putL cur x]) m1) := rfl
      show allSome [(Hd.n 4).arg (Lw s0 s1 s2 s3 (some (hsO (treeD es rs) (eds ++ [putL cur x]) m1)) s5 s6 s7 s8 (some (.fr (crD x.1 x.2))) s10 s11 s12 s13 s14 s15 s16), _] = _
      simp only [Hd.arg, view_n, h4, Option.map_some, hs_frz]
      rfl
    · show (cleanL _ && _) = true
      rw [clean_rowsO]; rfl
  have hsrc := evsr_t hcall
  have hl := ok.len
  rw [lc_move hsrc (s2 := .seq (.lit (.lst (rowsD (putL cur x))))) (x_seq (bb := false) x_lit rfl)]
  exact lcNames (rows := putL cur x) (x_seq (bb := false) x_lit rfl) (show 10 < 17 by decide) h10 (by omega)
/-- the four marks' part of a row -/
theorem rowB2_ok (hp : HP P) (s : St (partsOf es rs) rows cur eds m1 m2) (hc : 1 ≤ cur.length) (hl : eds.length ≤ 900) (hm1 : m1.length ≤ 8000) (hm2 : m2.length ≤ 8000) {h : Hs} (h8 : leafOrNone s8 = true) (h16 : leafOrNone s16 = true) {Q : Fl → Cr.Env → Prop}
    (fin : ∀ (h : Hs) (m1' m2' : List Sh.Mk) (x8 x12 x13 x14 x15 x16 : Option O), St (partsOf es rs) rows cur eds m1' m2' → m1'.length ≤ m1.length + 24 → m2'.length ≤ m2.length + 24 → leafOrNone x8 = true → leafOrNone x16 = true → Q .next (Lw s0 (some h.o) s2 s3 (some (hsO (treeD es rs) eds m1')) (some (hsO (treeD es rs) eds m2')) s6 s7 x8 s9 s10 (some (strO (nmsOf cur))) x12 x13 x14 x15 x16)) :
    WP (evSs (Cr.run P W 6) W rowB2 (Lw s0 (some h.o) s2 s3 (some (hsO (treeD es rs) eds m1)) (some (hsO (treeD es rs) eds m2)) s6 s7 s8 s9 s10 (some (strO (nmsOf cur))) (some (.ol [])) s13 s14 s15 s16)) Q := by
  have hv := s.edok (by omega)
  have hcl := (vr_ok s.ok s.vr).len
  have hn : (nmsOf cur).length = cur.length := by simp [nmsOf]
  unfold rowB2
  refine w_ss (draws_ok hp.h0 (by omega) (by omega) (eds.length - 1) (fun h x8 ms h8 hm hml => ?_) h8)
  refine after_next (w_ss (ones_ok hp hv s.last hm (by omega) fun x13 x14 x15 => ?_))
  refine after_next (w_ss (twos_ok hp hv s.last hm hml (by omega) (fun x13 x16 h16 => ?_) h16))
  have := turns_len ms
  exact after_next (w_ss0 (fin h _ _ x8 _ x13 x14 x15 x16 (s.marks hm) (by simp; omega) (by rw [List.length_append]; omega) h8 h16))
/-- a row -/
theorem row_ok (hp : HP P) (ht : TreeOk es rs 3 3) (s : St (partsOf es rs) rows cur eds m1 m2) {i : Nat} {y : Str × CRow} (hy : rows[i]? = some y) (hi : i ≤ cur.length) (hl : eds.length ≤ 800) (hm1 : m1.length ≤ 8000) (hm2 : m2.length ≤ 8000) {h : Hs} (h8 : leafOrNone s8 = true) (h10 : leafOrNone s10 = true) (h16 : leafOrNone s16 = true) {Q : Fl → Cr.Env → Prop}
    (fin : ∀ (h : Hs) (cur' : Rows) (eds' : List Rows) (m1' m2' : List Sh.Mk) (x8 x9 x11 x12 x13 x14 x15 x16 : Option O), St (partsOf es rs) rows cur' eds' m1' m2' → cur'.length = max cur.length (i + 1) → eds'.length = eds.length + 2 → m1'.length ≤ m1.length + 24 → m2'.length ≤ m2.length + 24 → leafOrNone x8 = true → leafOrNone x16 = true → Q .next (Lw s0 (some h.o) s2 s3 (some (hsO (treeD es rs) eds' m1')) (some (hsO (treeD es rs) eds' m2')) s6 (some (.fr (crD y.1 y.2))) x8 x9 s10 x11 x12 x13 x14 x15 x16)) :
    WP (evSs (Cr.run P W 6) W rowB (Lw s0 (some h.o) s2 s3 (some (hsO (treeD es rs) eds m1)) (some (hsO (treeD es rs) eds m2)) s6 (some (.fr (crD y.1 y.2))) s8 s9 s10 s11 s12 s13 s14 s15 s16)) Q := by
  obtain ⟨h1, x, hx1, hx2, hfr⟩ := fresh_ok (P := P) (W := W) (s0 := s0) (s2 := s2) (s3 := s3) (s4 := some (hsO (treeD es rs) eds m1)) (s5 := some (hsO (treeD es rs) eds m2)) (s6 := s6) (s8 := s8) (s9 := s9) (s10 := s10) (s11 := s11) (s12 := s12) (s13 := s13) (s14 := s14) (s15 := s15) (s16 := s16) hp.h0 h (y := y)
  obtain ⟨st1, hc1⟩ := s.put hy hi hx1 hx2
  obtain ⟨st2, hc2⟩ := st1.put (i := i) hy (by omega) hx1 hx2
  have hv := s.edok (by omega)
  have hv1 := st1.edok (by simp; omega)
  have ok1 := vr_ok st1.ok st1.vr
  have ok2 := vr_ok st2.ok st2.vr
  unfold rowB
  refine w_ss ⟨_, _, x_set hfr rfl (show 9 < 17 by decide), ?_⟩
  have p4 := x_putI (P := P) (k := 1) (W := W) (i := 4) (mks := m1) (e := Lw s0 (some h1.o) s2 s3 (some (hsO (treeD es rs) eds m1)) (some (hsO (treeD es rs) eds m2)) s6 (some (.fr (crD y.1 y.2))) s8 (some (.fr (crD x.1 x.2))) s10 s11 s12 s13 s14 s15 s16) (a := .var 9) hp.hh ht (by decide) (by decide) hv s.last rfl (x_var rfl) rfl ok1
  have p5 := x_putI (P := P) (k := 1) (W := W) (i := 5) (mks := m2) (e := Lw s0 (some h1.o) s2 s3 (some (hsO (treeD es rs) (eds ++ [putL cur x]) m1)) (some (hsO (treeD es rs) eds m2)) s6 (some (.fr (crD y.1 y.2))) s8 (some (.fr (crD x.1 x.2))) s10 s11 s12 s13 s14 s15 s16) (a := .var 9) hp.hh ht (by decide) (by decide) hv s.last rfl (x_var rfl) rfl ok1
  have hif : ev (Cr.run P W 6) (.cmp .NotEq (putC 4) (putC 5)) (Lw s0 (some h1.o) s2 s3 (some (hsO (treeD es rs) eds m1)) (some (hsO (treeD es rs) eds m2)) s6 (some (.fr (crD y.1 y.2))) s8 (some (.fr (crD x.1 x.2))) s10 s11 s12 s13 s14 s15 s16) = .ok (.p (.bl false), Lw s0 (some h1.o) s2 s3 (some (hsO (treeD es rs) (eds ++ [putL cur x]) m1)) (some (hsO (treeD es rs) (eds ++ [putL cur x]) m2)) s6 (some (.fr (crD y.1 y.2))) s8 (some (.fr (crD x.1 x.2))) s10 s11 s12 s13 s14 s15 s16) := x_cmpP p4 p5 (by rw [ne_int]; simp)
  refine after_next (w_ss ⟨_, _, x_iff hif rfl x_ss0, ?_⟩)
  have hnm := names_ok (P := P) (W := W) (m1 := m1) (s0 := s0) (s1 := some h1.o) (s2 := s2) (s3 := s3) (s5 := some (hsO (treeD es rs) (eds ++ [putL cur x]) m2)) (s6 := s6) (s7 := some (.fr (crD y.1 y.2))) (s8 := s8) (s11 := s11) (s12 := s12) (s13 := s13) (s14 := s14) (s15 := s15) (s16 := s16) hp ht hv1 st1.last ok2 h10
  refine after_next (w_ss ⟨_, _, x_par hnm (x_lst x_as0 rfl (by simp)) rfl rfl (show 11 < 17 by decide) (show 12 < 17 by decide), ?_⟩)
  have p52 := x_putI (P := P) (k := 1) (W := W) (i := 5) (mks := m2) (e := Lw s0 (some h1.o) s2 s3 (some (hsO (treeD es rs) (eds ++ [putL cur x] ++ [putL (putL cur x) x]) m1)) (some (hsO (treeD es rs) (eds ++ [putL cur x]) m2)) s6 (some (.fr (crD y.1 y.2))) s8 (some (.fr (crD x.1 x.2))) s10 (some (strO (nmsOf (putL (putL cur x) x)))) (some (.ol [])) s13 s14 s15 s16) (a := .var 9) hp.hh ht (by decide) (by decide) hv1 st1.last rfl (x_var rfl) rfl ok2
  refine after_next (w_ss ⟨_, _, x_expr p52, ?_⟩)
  refine after_next (rowB2_ok hp st2 (by omega) (by simp; omega) hm1 hm2 h8 h16 fun h m1' m2' x8 x12 x13 x14 x15 x16 st3 l1 l2 h8 h16 => ?_)
  exact fin h _ _ m1' m2' x8 _ _ x12 x13 x14 x15 x16 st3 (by omega) (by simp) l1 l2 h8 h16
theorem at_rows {rows : Rows} {v : Int} (v0 : 0 ≤ v) (v1 : v < rows.length) : ∃ y ∈ rows, atO (.ol ((rowsD rows).map O.fr)) (.int v) = some (.fr (crD y.1 y.2)) := by
  have hj : v.toNat < rows.length := by omega
  refine ⟨rows[v.toNat], List.getElem_mem hj, ?_⟩
  show atI ((rowsD rows).map O.fr) v = _
  unfold rowsD
  rw [atI_nn v0 (by simpa using v1), List.getElem?_map, List.getElem?_map, List.getElem?_eq_getElem hj]
  rfl
theorem all_rows {rows : Rows} : ∀ os : List O, (∀ o ∈ os, ∃ y ∈ rows, o = .fr (crD y.1 y.2)) → ∃ ys : Rows, os = (rowsD ys).map O.fr ∧ ∀ y ∈ ys, y ∈ rows
  | [], _ => ⟨[], rfl, fun y h => by cases h⟩
  | o :: os, h => by
    obtain ⟨y, hy, rfl⟩ := h o (by simp)
    obtain ⟨ys, rfl, hys⟩ := all_rows os fun o ho => h o (by simp [ho])
    exact ⟨y :: ys, rfl, fun z hz => (List.mem_cons.mp hz).elim (fun q => q ▸ hy) (hys z)⟩
/-- three rows more -/
theorem more_ok (h0 : P[0]? = some nextFn) (h : Hs) (hr : rows.length ≤ 30) (h8 : leafOrNone s8 = true) : ∃ (h' : Hs) (ys : Rows), (∀ y ∈ ys, y ∈ rows) ∧ ys.length ≤ 3 ∧
    ev (Cr.run P W 6) moreC (Lw s0 (some h.o) s2 s3 s4 s5 (some (.ol ((rowsD rows).map O.fr))) s7 s8 s9 s10 s11 s12 s13 s14 s15 s16) = .ok (.t (.ol ((rowsD ys).map O.fr)), Lw s0 (some h'.o) s2 s3 s4 s5 (some (.ol ((rowsD rows).map O.fr))) s7 s8 s9 s10 s11 s12 s13 s14 s15 s16) := by
  obtain ⟨os, e2, ⟨h', rfl⟩, h2, h3, h4⟩ := x_lcE (cal := Cr.run P W 6) (own := [8]) (tg := .v 8) (s := .rng [.lit (.int 3)]) (cs := [.cmp .NotEq (.var 6) (.lst [])]) (x := .sub (.var 6) (.call 0 [0] [.io 1, .bi .len [.var 6]])) (e := Lw s0 (some h.o) s2 s3 s4 s5 (some (.ol ((rowsD rows).map O.fr))) s7 s8 s9 s10 s11 s12 s13 s14 s15 s16)
    (Inv := fun e => ∃ h : Hs, e = Lw s0 (some h.o) s2 s3 s4 s5 (some (.ol ((rowsD rows).map O.fr))) s7 none s9 s10 s11 s12 s13 s14 s15 s16) (Pr := fun o => ∃ y ∈ rows, o = .fr (crD y.1 y.2)) (x_rngN (n := 3) (by decide) x_lit) (by simp [wipeOk, h8]) (by simp) ⟨h, rfl⟩ (by
      rintro d _ e ⟨h, rfl⟩
      unfold lcF
      have hb : (Tg.v 8).bind d (Lw s0 (some h.o) s2 s3 s4 s5 (some (.ol ((rowsD rows).map O.fr))) s7 none s9 s10 s11 s12 s13 s14 s15 s16) = some (Lw s0 (some h.o) s2 s3 s4 s5 (some (.ol ((rowsD rows).map O.fr))) s7 (some (.fr d)) s9 s10 s11 s12 s13 s14 s15 s16) := rfl
      rw [hb]
      have hc : ev (Cr.run P W 6) (.cmp .NotEq (.var 6) (.lst [])) (Lw s0 (some h.o) s2 s3 s4 s5 (some (.ol ((rowsD rows).map O.fr))) s7 (some (.fr d)) s9 s10 s11 s12 s13 s14 s15 s16) = .ok (.p (.bl (!(rowsD rows).isEmpty)), Lw s0 (some h.o) s2 s3 s4 s5 (some (.ol ((rowsD rows).map O.fr))) s7 (some (.fr d)) s9 s10 s11 s12 s13 s14 s15 s16) := x_cmp (x_varl rfl) (x_lst x_as0 rfl (by simp)) rfl (viewNL rfl) rfl (ne_nilD (shpL_rows rows))
      simp only [evC, hc, bok, boolh]
      cases hz : rows with
      | nil =>
        refine ⟨none, Lw s0 (some h.o) s2 s3 s4 s5 (some (.ol ((rowsD []).map O.fr))) s7 none s9 s10 s11 s12 s13 s14 s15 s16, rfl, ⟨h, rfl⟩, fun y hy => by cases hy⟩
      | cons r0 rr =>
        rw [← hz]
        have hl : 1 ≤ rows.length := by rw [hz]; simp
        have c0 := nv0 (h := h) (n := rows.length) (by omega) (by omega)
        have c1 := nv1 (h := h) (n := rows.length) (by omega) (by omega)
        obtain ⟨y, hy, hat⟩ := at_rows (rows := rows) c0 c1
        have hx : ev (Cr.run P W 6) (.sub (.var 6) (.call 0 [0] [.io 1, .bi .len [.var 6]])) (Lw s0 (some h.o) s2 s3 s4 s5 (some (.ol ((rowsD rows).map O.fr))) s7 (some (.fr d)) s9 s10 s11 s12 s13 s14 s15 s16) = .ok (.p (crD y.1 y.2), Lw s0 (some (nh h rows.length).o) s2 s3 s4 s5 (some (.ol ((rowsD rows).map O.fr))) s7 (some (.fr d)) s9 s10 s11 s12 s13 s14 s15 s16) :=
          x_sub (o := .fr (crD y.1 y.2)) (x_varl rfl) (x_next (n := rows.length) (h := h) h0 (x_bi (o := .fr (.int (rows.length : Int))) (x_as (x_varl rfl) x_as0) rfl rfl (by rw [len_ol]; simp [rowsD])) (by omega) (by omega) rfl) rfl rfl hat
        have he : (!(rowsD rows).isEmpty) = true := by rw [hz]; rfl
        rw [he]
        simp only [evC, bok, if_true, hx]
        exact ⟨some (.fr (crD y.1 y.2)), _, rfl, ⟨nh h rows.length, rfl⟩, fun o ho => ⟨y, hy, (Option.some.inj ho).symm⟩⟩)
  obtain ⟨ys, rfl, hys⟩ := all_rows os h2
  exact ⟨h', ys, hys, by simpa [rowsD] using h3, h4⟩
end
end K23
end

section
/-! The law's run: all rows, all names, all turns. -/
namespace K23
open PySem L2 Cr Sh
section
variable {P : List Fn} {W : Nat} {s0 s1 s2 s3 s4 s5 s6 s7 s8 s9 s10 s11 s12 s13 s14 s15 s16 : Option O} {es : List (Str × Int)} {rs : List Rw} {rows cur : Rows} {eds : List Rows} {m1 m2 : List Sh.Mk}
/-- all rows -/
theorem rows_ok (hp : HP P) (ht : TreeOk es rs 3 3) (hc : CaOk (partsOf es rs) rows) {h : Hs} (h7 : leafOrNone s7 = true) (h8 : leafOrNone s8 = true) (h10 : leafOrNone s10 = true) (h16 : leafOrNone s16 = true) {Q : Fl → Cr.Env → Prop}
    (fin : ∀ (h : Hs) (cur : Rows) (eds : List Rows) (m1 m2 : List Sh.Mk) (x7 x8 x9 x11 x12 x13 x14 x15 x16 : Option O), St (partsOf es rs) rows cur eds m1 m2 → cur.length = rows.length → eds.length ≤ 100 → m1.length ≤ 900 → m2.length ≤ 900 → leafOrNone x7 = true → leafOrNone x8 = true → leafOrNone x16 = true → Q .next (Lw s0 (some h.o) s2 s3 (some (hsO (treeD es rs) eds m1)) (some (hsO (treeD es rs) eds m2)) (some (.ol ((rowsD rows).map O.fr))) x7 x8 x9 s10 x11 x12 x13 x14 x15 x16)) :
    WP (evS (Cr.run P W 6) W (.for_ (.v 7) (.seq (.bin .Add (.var 6) moreC)) rowB) (Lw s0 (some h.o) s2 s3 (some (hsO (treeD es rs) [[]] [])) (some (hsO (treeD es rs) [[]] [])) (some (.ol ((rowsD rows).map O.fr))) s7 s8 s9 s10 s11 s12 s13 s14 s15 s16)) Q := by
  have hrl := hc.len
  obtain ⟨h1, ys, hys, hyl, hmore⟩ := more_ok (P := P) (W := W) (s0 := s0) (s2 := s2) (s3 := s3) (s4 := some (hsO (treeD es rs) [[]] [])) (s5 := some (hsO (treeD es rs) [[]] [])) (s7 := s7) (s8 := s8) (s9 := s9) (s10 := s10) (s11 := s11) (s12 := s12) (s13 := s13) (s14 := s14) (s15 := s15) (s16 := s16) hp.h0 h hrl h8
  have hsrc := evsr_t (x_bin (op := .Add) (o := .ol ((rowsD rows ++ rowsD ys).map O.fr)) (x_varl (i := 6) (l := (rowsD rows).map O.fr) rfl) hmore rfl rfl rfl (add_ol (rowsD rows) (rowsD ys) (by simp [rowsD]; omega)))
  have er : rowsD rows ++ rowsD ys = rowsD (rows ++ ys) := by simp [rowsD]
  rw [er] at hsrc
  refine w_forR (Inv := fun i e => ∃ (h : Hs) (cur : Rows) (eds : List Rows) (m1 m2 : List Sh.Mk) (x7 x8 x9 x11 x12 x13 x14 x15 x16 : Option O), St (partsOf es rs) rows cur eds m1 m2 ∧ cur.length = min i rows.length ∧ eds.length = 1 + 2 * i ∧ m1.length ≤ 24 * i ∧ m2.length ≤ 24 * i ∧ leafOrNone x7 = true ∧ leafOrNone x8 = true ∧ leafOrNone x16 = true ∧ e = Lw s0 (some h.o) s2 s3 (some (hsO (treeD es rs) eds m1)) (some (hsO (treeD es rs) eds m2)) (some (.ol ((rowsD rows).map O.fr))) x7 x8 x9 s10 x11 x12 x13 x14 x15 x16) hsrc
    ⟨h1, [], [[]], [], [], s7, s8, s9, s11, s12, s13, s14, s15, s16, ?_, by simp, rfl, Nat.zero_le _, Nat.zero_le _, h7, h8, h16, rfl⟩ ?_ ?_
  · refine ⟨hc, fun r hr => ?_, by simp, rfl, ⟨Nat.zero_le _, fun hx => by simp at hx⟩, fun n j => rfl, (fun m hm => by cases hm), (fun m hm => by cases hm), (fun m hm => by cases hm), (fun m hm => by cases hm)⟩
    simp at hr
    subst hr
    exact ⟨Nat.zero_le _, fun hx => by simp at hx⟩
  · rintro i d e hd ⟨h, cur, eds, m1, m2, x7, x8, x9, x11, x12, x13, x14, x15, x16, st, hcl, hel, l1, l2, h7, h8, h16, rfl⟩
    unfold rowsD at hd
    rw [List.getElem?_map] at hd
    obtain ⟨y, hy, rfl⟩ := Option.map_eq_some_iff.mp hd
    have hi := (List.getElem?_eq_some_iff.mp hy).1
    rw [List.length_append] at hi
    obtain ⟨k, hk, hkc, hkm⟩ : ∃ k, rows[k]? = some y ∧ k ≤ cur.length ∧ max cur.length (k + 1) = min (i + 1) rows.length := by
      rw [List.getElem?_append] at hy
      split at hy
      · exact ⟨i, hy, by omega, by omega⟩
      · obtain ⟨k, hk⟩ := List.mem_iff_getElem?.mp (hys y (List.mem_of_getElem? hy))
        have := (List.getElem?_eq_some_iff.mp hk).1
        exact ⟨k, hk, by omega, by omega⟩
    refine ⟨_, rfl, ?_⟩
    refine row_ok hp ht st hk hkc (by omega) (by omega) (by omega) h8 h10 h16 fun h cur' eds' m1' m2' x8 x9 x11 x12 x13 x14 x15 x16 st' hc' he' l1' l2' h8 h16 => ?_
    exact .inl ⟨rfl, h, cur', eds', m1', m2', some (.fr (crD y.1 y.2)), x8, x9, x11, x12, x13, x14, x15, x16, st', by omega, by omega, by omega, by omega, rfl, h8, h16, rfl⟩
  · rintro e ⟨h, cur, eds, m1, m2, x7, x8, x9, x11, x12, x13, x14, x15, x16, st, hcl, hel, l1, l2, h7, h8, h16, rfl⟩
    have hl : (rowsD (rows ++ ys)).length = rows.length + ys.length := by simp [rowsD]
    rw [hl] at hcl hel l1 l2
    exact fin h cur eds m1 m2 x7 x8 x9 x11 x12 x13 x14 x15 x16 st (by omega) (by omega) (by omega) (by omega) h7 h8 h16
/-- what stands between two names -/
structure Sn (eds : List Rows) (done : List Str) (m1 m2 : List Sh.Mk) : Prop where
  al : Alike m1 m2
  f1 : Four m1 done
  f2 : Four m2 done
  e1 : ∀ m ∈ m1, m.e < eds.length
  e2 : ∀ m ∈ m2, m.e < eds.length
abbrev s7F (eds : List Rows) (n : Str) : Sh.Mk := ⟨7, n, eds.length - 1, false⟩
abbrev s7T (eds : List Rows) (n : Str) : Sh.Mk := ⟨7, n, eds.length - 1, true⟩
theorem Sn.next {done : List Str} (s : Sn eds done m1 m2) (hne : 1 ≤ eds.length) (n : Str) : Sn eds (done ++ [n]) (m1 ++ [s7F eds n] ++ [s7T eds n]) (m2 ++ [s7T eds n]) := by
  have up : ∀ {m : List Sh.Mk} {d : List Str} {x : Sh.Mk}, Four m (d ++ [n]) → x.j = 7 → x.n = n → Four (m ++ [x]) (d ++ [n]) := fun h hj hn m hm => by
    rcases List.mem_append.mp hm with z | z
    · exact h m z
    · simp at z; subst z; exact .inr ⟨hj, by rw [hn]; simp⟩
  have lift : ∀ {m : List Sh.Mk}, Four m done → Four m (done ++ [n]) := fun h m hm => (h m hm).imp id fun q => ⟨q.1, by simp [q.2]⟩
  have elt : ∀ {m : List Sh.Mk} {x : Sh.Mk}, (∀ y ∈ m, y.e < eds.length) → x.e < eds.length → ∀ y ∈ m ++ [x], y.e < eds.length := fun h hx y hy => by
    rcases List.mem_append.mp hy with z | z
    · exact h y z
    · simp at z; subst z; exact hx
  have hlt : eds.length - 1 < eds.length := by omega
  exact ⟨s.al.seven n _ 7, up (up (lift s.f1) rfl rfl) rfl rfl, up (lift s.f2) rfl rfl, elt (elt s.e1 hlt) hlt, elt s.e2 hlt⟩
/-- a name -/
theorem name_ok (hp : HP P) {parts : List Str} (hv : EdOk parts eds) (hl : eds.getLast? = some cur) {done : List Str} (s : Sn eds done m1 m2) {n : Str} (hn : n ∈ nmsOf cur) (hnd : n ∉ done) (l1 : m1.length ≤ 9000) (l2 : m2.length ≤ 9000) {Q : Fl → Cr.Env → Prop}
    (fin : Q .next (Lw s0 s1 s2 s3 (some (hsO (treeD es rs) eds (m1 ++ [s7F eds n] ++ [s7T eds n]))) (some (hsO (treeD es rs) eds (m2 ++ [s7T eds n]))) s6 s7 s8 s9 s10 s11 s12 s13 (some (.fr (.str n))) s15 s16)) :
    WP (evSs (Cr.run P W 6) W nameB (Lw s0 s1 s2 s3 (some (hsO (treeD es rs) eds m1)) (some (hsO (treeD es rs) eds m2)) s6 s7 s8 s9 s10 s11 s12 s13 (some (.fr (.str n))) s15 s16)) Q := by
  have hne : 1 ≤ eds.length := by have := hv.ne; cases eds with | nil => exact absurd rfl this | cons => simp
  have k1 := four_j s.f1 s.e1
  have k2 := four_j s.f2 s.e2
  have sn := s.next hne n
  have k3 := four_j sn.f1 sn.e1
  have hvd := vd_ext (eds := eds) k1 k2 s.al n
  have hacc := acc_ext hvd 2
  have hsev : vdL eds (m1 ++ [s7F eds n] ++ [s7T eds n]) n = vdL eds m1 n ++ [(7, true)] := vd_seven s.f1 s.e1 hne hnd
  have v : ∀ {i : Nat} {m : List Sh.Mk} {e : Cr.Env}, MkOk eds m → (e[i]?).join = some (hsO (treeD es rs) eds m) → (e[14]?).join = some (.fr (.str n)) → ev (Cr.run P W 6) (verdC i) e = .ok (.t (.ol (((vdL eds m n).map vdD).map O.fr)), e) := fun k hi h14 => x_verdI (k := 2) hp.hh hv k hl hi (x_var h14) hn
  have ac : ∀ {i : Nat} {m : List Sh.Mk} {e : Cr.Env}, MkOk eds m → (e[i]?).join = some (hsO (treeD es rs) eds m) → (e[14]?).join = some (.fr (.str n)) → ev (Cr.run P W 6) (accC i) e = .ok (.p (.bl (accL eds m n 2)), e) := fun k hi h14 => x_accI (k := 1) hp.hh hv k hl hi (x_var h14) x_lit hn (by decide) (by decide)
  have vw : ∀ {l : List (Int × Bool)} {e : Cr.Env}, (Hd.t (.ol ((l.map vdD).map O.fr))).view e = some (.lst (l.map vdD)) := fun {l e} => by
    rw [view_t]
    simp only [O.frz, frzL_map]
  have c1 : ev (Cr.run P W 6) (.or [.cmp .NotEq (verdC 4) (verdC 5), .cmp .NotEq (accC 4) (accC 5)]) (Lw s0 s1 s2 s3 (some (hsO (treeD es rs) eds m1)) (some (hsO (treeD es rs) eds m2)) s6 s7 s8 s9 s10 s11 s12 s13 (some (.fr (.str n))) s15 s16) = .ok (.p (.bl (false || false)), Lw s0 s1 s2 s3 (some (hsO (treeD es rs) eds m1)) (some (hsO (treeD es rs) eds m2)) s6 s7 s8 s9 s10 s11 s12 s13 (some (.fr (.str n))) s15 s16) :=
    x_or2 (x_cmp (v k1 rfl rfl) (v k2 rfl rfl) rfl vw vw (by rw [hvd]; exact ne_vd _)) (x_cmpP (ac k1 rfl rfl) (ac k2 rfl rfl) (by rw [bl_ne, hacc]; simp))
  have mk1 := x_markI (P := P) (k := 4) (W := W) (i := 4) (mks := m1) (e := Lw s0 s1 s2 s3 (some (hsO (treeD es rs) eds m1)) (some (hsO (treeD es rs) eds m2)) s6 s7 s8 s9 s10 s11 s12 s13 (some (.fr (.str n))) s15 s16) (a1 := .lit (.int 7)) (a2 := .var 14) (a3 := .lit (.bl false)) (j := 7) (n := n) (g := false) hp.hh hv hl rfl (x_as x_lit (x_as (x_var rfl) (x_as x_lit x_as0))) rfl hn (by decide) (by decide) (by omega)
  have mk2 := x_markI (P := P) (k := 4) (W := W) (i := 4) (mks := m1 ++ [s7F eds n]) (e := Lw s0 s1 s2 s3 (some (hsO (treeD es rs) eds (m1 ++ [s7F eds n]))) (some (hsO (treeD es rs) eds m2)) s6 s7 s8 s9 s10 s11 s12 s13 (some (.fr (.str n))) s15 s16) (a1 := .lit (.int 7)) (a2 := .var 14) (a3 := .lit (.bl true)) (j := 7) (n := n) (g := true) hp.hh hv hl rfl (x_as x_lit (x_as (x_var rfl) (x_as x_lit x_as0))) rfl hn (by decide) (by decide) (by simp; omega)
  have mk3 := x_markI (P := P) (k := 4) (W := W) (i := 5) (mks := m2) (e := Lw s0 s1 s2 s3 (some (hsO (treeD es rs) eds (m1 ++ [s7F eds n] ++ [s7T eds n]))) (some (hsO (treeD es rs) eds m2)) s6 s7 s8 s9 s10 s11 s12 s13 (some (.fr (.str n))) s15 s16) (a1 := .lit (.int 7)) (a2 := .var 14) (a3 := .lit (.bl true)) (j := 7) (n := n) (g := true) hp.hh hv hl rfl (x_as x_lit (x_as (x_var rfl) (x_as x_lit x_as0))) rfl hn (by decide) (by decide) (by omega)
  have hlast : atO (.ol (((vdL eds (m1 ++ [s7F eds n] ++ [s7T eds n]) n).map vdD).map O.fr)) (.int (-1)) = some (.fr (.tup [.int 7, .bl true])) := by
    rw [hsev]
    show atI _ (-1) = _
    exact atI_m1 (by simp [vdD])
  have hlen : ∀ {m : List Sh.Mk}, biO .len [.ol (((vdL eds m n).map vdD).map O.fr)] = some (.fr (.int ((vdL eds m n).length : Int))) := fun {m} => by rw [len_ol, List.length_map]
  have c2 : ev (Cr.run P W 6) (.or [.cmp .NotEq (.sub (verdC 4) (.lit (.int (-1)))) (.tup [.lit (.int 7), .lit (.bl true)]), .cmp .NotEq (.bi .len [verdC 4]) (.bin .Add (.bi .len [verdC 5]) (.lit (.int 1)))]) (Lw s0 s1 s2 s3 (some (hsO (treeD es rs) eds (m1 ++ [s7F eds n] ++ [s7T eds n]))) (some (hsO (treeD es rs) eds m2)) s6 s7 s8 s9 s10 s11 s12 s13 (some (.fr (.str n))) s15 s16) = .ok (.p (.bl (false || false)), Lw s0 s1 s2 s3 (some (hsO (treeD es rs) eds (m1 ++ [s7F eds n] ++ [s7T eds n]))) (some (hsO (treeD es rs) eds m2)) s6 s7 s8 s9 s10 s11 s12 s13 (some (.fr (.str n))) s15 s16) := by
    refine x_or2 (x_cmpP (x_sub (o := .fr (.tup [.int 7, .bl true])) (v k3 rfl rfl) x_lit rfl rfl hlast) (x_tup (os := [.fr (.int 7), .fr (.bl true)]) (x_as x_lit (x_as x_lit x_as0)) rfl (by simp)) rfl) ?_
    refine x_cmpP (x_bi (o := .fr (.int ((vdL eds (m1 ++ [s7F eds n] ++ [s7T eds n]) n).length : Int))) (x_as (v k3 rfl rfl) x_as0) rfl rfl hlen) (x_bin (o := .fr (.int ((vdL eds m2 n).length + 1 : Int))) (x_bi (o := .fr (.int ((vdL eds m2 n).length : Int))) (x_as (v k2 rfl rfl) x_as0) rfl rfl hlen) x_lit rfl rfl rfl rfl) ?_
    rw [ne_int, hsev, hvd]
    simp
  unfold nameB
  refine w_ss ⟨_, _, x_iff c1 rfl x_ss0, ?_⟩
  refine after_next (w_ss ⟨_, _, x_expr mk1, ?_⟩)
  refine after_next (w_ss ⟨_, _, x_expr mk2, ?_⟩)
  refine after_next (w_ss ⟨_, _, x_iff c2 rfl x_ss0, ?_⟩)
  exact after_next (w_ss ⟨_, _, x_expr mk3, after_next (w_ss0 fin)⟩)
/-- all names -/
theorem all_ok (hp : HP P) {parts : List Str} (hv : EdOk parts eds) (hl : eds.getLast? = some cur) (hr : rows.length ≤ 30) (hnm : nmsOf cur = nmsOf rows) (hnd : (nmsOf rows).Nodup) (s : Sn eds [] m1 m2) (l1 : m1.length ≤ 900) (l2 : m2.length ≤ 900) (h7 : leafOrNone s7 = true) {Q : Fl → Cr.Env → Prop}
    (fin : ∀ (m1 m2 : List Sh.Mk) (x14 : Option O), Sn eds (nmsOf rows) m1 m2 → Q .next (Lw s0 s1 s2 s3 (some (hsO (treeD es rs) eds m1)) (some (hsO (treeD es rs) eds m2)) (some (.ol ((rowsD rows).map O.fr))) s7 s8 s9 s10 s11 s12 s13 x14 s15 s16)) :
    WP (evS (Cr.run P W 6) W (.for_ (.v 14) (.seq namesC) nameB) (Lw s0 s1 s2 s3 (some (hsO (treeD es rs) eds m1)) (some (hsO (treeD es rs) eds m2)) (some (.ol ((rowsD rows).map O.fr))) s7 s8 s9 s10 s11 s12 s13 s14 s15 s16)) Q := by
  have hne : 1 ≤ eds.length := by have := hv.ne; cases eds with | nil => exact absurd rfl this | cons => simp
  have hsrc := evsr_s (lcNames (cal := Cr.run P W 6) (e := Lw s0 s1 s2 s3 (some (hsO (treeD es rs) eds m1)) (some (hsO (treeD es rs) eds m2)) (some (.ol ((rowsD rows).map O.fr))) s7 s8 s9 s10 s11 s12 s13 s14 s15 s16) (j := 7) (rows := rows) (s := .seq (.var 6)) (x_seqL rfl) (show 7 < 17 by decide) h7 (by omega))
  refine w_forR (Inv := fun i e => ∃ (m1 m2 : List Sh.Mk) (x14 : Option O), Sn eds ((nmsOf rows).take i) m1 m2 ∧ m1.length ≤ 900 + 2 * i ∧ m2.length ≤ 900 + i ∧ e = Lw s0 s1 s2 s3 (some (hsO (treeD es rs) eds m1)) (some (hsO (treeD es rs) eds m2)) (some (.ol ((rowsD rows).map O.fr))) s7 s8 s9 s10 s11 s12 s13 x14 s15 s16) hsrc ⟨m1, m2, s14, by simpa using s, by omega, by omega, rfl⟩ ?_ ?_
  · rintro i d e hd ⟨m1, m2, x14, s, l1, l2, rfl⟩
    rw [List.getElem?_map] at hd
    obtain ⟨n, hn, rfl⟩ := Option.map_eq_some_iff.mp hd
    have hi := (List.getElem?_eq_some_iff.mp hn).1
    have hi2 : i < rows.length := by simpa [nmsOf] using hi
    have hnew : n ∉ (nmsOf rows).take i := fun z => by
      obtain ⟨j, hj, e⟩ := List.mem_iff_getElem.mp z
      rw [List.length_take] at hj
      rw [List.getElem_take] at e
      have h2 : (nmsOf rows)[i] = n := by
        rw [List.getElem?_eq_getElem hi] at hn
        exact Option.some.inj hn
      have := (List.getElem_inj hnd).mp (e.trans h2.symm)
      omega
    refine ⟨_, rfl, ?_⟩
    refine name_ok hp hv hl s (by rw [hnm]; exact List.mem_of_getElem? hn) hnew (by omega) (by omega) ?_
    have e3 : (nmsOf rows).take (i + 1) = (nmsOf rows).take i ++ [n] := by rw [List.take_add_one, hn]; rfl
    exact .inl ⟨rfl, _, _, _, by rw [e3]; exact s.next hne n, by simp; omega, by simp; omega, rfl⟩
  · rintro e ⟨m1, m2, x14, s, l1, l2, rfl⟩
    rw [List.length_map, List.take_length] at s
    exact fin m1 m2 x14 s
/-- a turn -/
theorem turn_ok (hp : HP P) {h : Hs} (h7 : leafOrNone s7 = true) (h8 : leafOrNone s8 = true) (h10 : leafOrNone s10 = true) (h16 : leafOrNone s16 = true) :
    WP (evSs (Cr.run P W 6) W turnB (Lw s0 (some h.o) s2 s3 s4 s5 s6 s7 s8 s9 s10 s11 s12 s13 s14 s15 s16)) fun fl e => fl = .next ∧ ∃ (h : Hs) (s3 s4 s5 s6 s7 s8 s9 s11 s12 s13 s14 s15 s16 : Option O), leafOrNone s7 = true ∧ leafOrNone s8 = true ∧ leafOrNone s16 = true ∧ e = Lw s0 (some h.o) s2 s3 s4 s5 s6 s7 s8 s9 s10 s11 s12 s13 s14 s15 s16 := by
  obtain ⟨h1, es, rs, hr1, ht⟩ := tree_okH (W := W) (k := 4) hp.h0 hp.h2 h (E := 3) (R := 3) (by decide) (by decide) (by decide)
  obtain ⟨h2, rows, hr2, hrl, hc0⟩ := case_okH (W := W) (k := 4) hp.h0 hp.h3 hp.h4 h1 (M := 12) (by decide) ht (by decide) (by decide)
  have hcs := ca_of_cs hc0 (by omega)
  have hin := house_init (k := 1) (W := W) hp.hh ht (by decide) (by decide)
  unfold turnB
  refine w_ss ⟨_, _, x_set (x_call (x_as (x_io rfl) (x_as x_lit (x_as x_lit x_as0))) rfl rfl hr1 rfl (by rw [ho_cleanL]; simp [O.clean, tree_imm])) rfl (show 3 < 17 by decide), ?_⟩
  have hmk : ∀ {e : Cr.Env}, (e[3]?).join = some (.fr (treeD es rs)) → ev (Cr.run P W 6) (.mk 2 16 [.var 3]) e = .ok (.t (hsO (treeD es rs) [[]] []), e) := fun h3 => x_mk (x_as (x_var h3) x_as0) rfl rfl hin (hs_clean (tree_imm es rs))
  refine after_next (w_ss ⟨_, _, x_par (hmk rfl) (hmk rfl) rfl rfl (show 4 < 17 by decide) (show 5 < 17 by decide), ?_⟩)
  rw [crO_map] at hr2
  refine after_next (w_ss ⟨_, _, x_set (e1 := Lw s0 (some h2.o) s2 (some (.fr (treeD es rs))) (some (hsO (treeD es rs) [[]] [])) (some (hsO (treeD es rs) [[]] [])) s6 s7 s8 s9 s10 s11 s12 s13 s14 s15 s16) (x_call (x_as (x_io rfl) (x_as (x_var rfl) (x_as x_lit x_as0))) rfl rfl hr2 rfl (by rw [ho_cleanL, ← crO_map]; simp [O.clean, clean_rowsO])) rfl (show 6 < 17 by decide), ?_⟩)
  unfold turnB2
  refine after_next (w_ss (rows_ok hp ht hcs h7 h8 h10 h16 fun h3 cur eds m1 m2 x7 x8 x9 x11 x12 x13 x14 x15 x16 st hcl hel l1 l2 h7 h8 h16 => ?_))
  have hv := st.edok (by omega)
  have hnm : nmsOf cur = nmsOf rows := by
    have := vr_names st.vr cur.length (Nat.le_refl _)
    rw [List.take_length, hcl, List.take_length] at this
    exact this
  refine after_next (w_ss (all_ok hp hv st.last hcs.len hnm (ca_nodup hcs) ⟨st.al, st.f1, st.f2, st.e1, st.e2⟩ l1 l2 h7 fun m1 m2 x14 s => ?_))
  have k1 := four_j s.f1 s.e1
  have k2 := four_j s.f2 s.e2
  have t4 : ∀ {n : Int}, 1 ≤ n → n ≤ 9 → ev (Cr.run P W 6) (todoC 4 n) (Lw s0 (some h3.o) s2 (some (.fr (treeD es rs))) (some (hsO (treeD es rs) eds m1)) (some (hsO (treeD es rs) eds m2)) (some (.ol ((rowsD rows).map O.fr))) x7 x8 x9 s10 x11 x12 x13 x14 x15 x16) = .ok (.t (strO ((nmsOf cur).filter fun nm => !accL eds m1 nm n)), _) := fun a b => x_todoI (k := 0) hp.hh hv k1 st.last rfl x_lit a b
  have t5 : ∀ {n : Int}, 1 ≤ n → n ≤ 9 → ev (Cr.run P W 6) (todoC 5 n) (Lw s0 (some h3.o) s2 (some (.fr (treeD es rs))) (some (hsO (treeD es rs) eds m1)) (some (hsO (treeD es rs) eds m2)) (some (.ol ((rowsD rows).map O.fr))) x7 x8 x9 s10 x11 x12 x13 x14 x15 x16) = .ok (.t (strO ((nmsOf cur).filter fun nm => !accL eds m2 nm n)), _) := fun a b => x_todoI (k := 0) hp.hh hv k2 st.last rfl x_lit a b
  have hrl2 := hcs.len
  have hnames := lcNames (cal := Cr.run P W 6) (e := Lw s0 (some h3.o) s2 (some (.fr (treeD es rs))) (some (hsO (treeD es rs) eds m1)) (some (hsO (treeD es rs) eds m2)) (some (.ol ((rowsD rows).map O.fr))) x7 x8 x9 s10 x11 x12 x13 x14 x15 x16) (j := 7) (rows := rows) (s := .seq (.var 6)) (x_seqL rfl) (show 7 < 17 by decide) h7 (by omega)
  have d2 : (nmsOf cur).filter (fun nm => !accL eds m1 nm 2) = (nmsOf cur).filter fun nm => !accL eds m2 nm 2 := List.filter_congr fun n _ => by rw [acc_ext (vd_ext (eds := eds) k1 k2 s.al n) 2]
  have d9 : (nmsOf cur).filter (fun nm => !accL eds m1 nm 9) = nmsOf rows := by
    rw [← hnm]
    refine List.filter_eq_self.mpr fun n _ => ?_
    have h5 := vd_five s.f1 s.e1 n
    unfold accL
    rw [decide_eq_false (by omega)]
    rfl
  have hc : ev (Cr.run P W 6) (.or [.cmp .NotEq (todoC 4 2) (todoC 5 2), .cmp .NotEq (todoC 4 9) namesC]) (Lw s0 (some h3.o) s2 (some (.fr (treeD es rs))) (some (hsO (treeD es rs) eds m1)) (some (hsO (treeD es rs) eds m2)) (some (.ol ((rowsD rows).map O.fr))) x7 x8 x9 s10 x11 x12 x13 x14 x15 x16) = .ok (.p (.bl (false || false)), Lw s0 (some h3.o) s2 (some (.fr (treeD es rs))) (some (hsO (treeD es rs) eds m1)) (some (hsO (treeD es rs) eds m2)) (some (.ol ((rowsD rows).map O.fr))) x7 x8 x9 s10 x11 x12 x13 x14 x15 x16) := by
    refine x_or2 (x_cmp (t4 (by decide) (by decide)) (t5 (by decide) (by decide)) rfl viewT viewT ?_) (x_cmp (t4 (by decide) (by decide)) hnames rfl viewT viewT ?_)
    · rw [ne_strs, d2]; simp
    · rw [ne_strs, d9]; simp
  refine after_next (w_ss ⟨_, _, x_iff hc rfl x_ss0, ?_⟩)
  exact after_next (w_ss0 ⟨rfl, h3, _, _, _, _, x7, x8, x9, x11, x12, x13, x14, x15, x16, h7, h8, h16, rfl⟩)
end
theorem plainC (ns : List Int) (h : ns.length ≤ 63) : Cr.run core (10 ^ 200) 7 26 [.fr (.scr ns)] = .ok (.fr (.bl true)) [] := by
  generalize 10 ^ 200 = W
  obtain ⟨h1, hm⟩ := mix_okH (P := core) (W := W) (k := 5) core_hp.h1 ns 89 h
  have main : WP (evSs (Cr.run core W 6) W f_law.body (Lw (some (.fr (.scr ns))) none none none none none none none none none none none none none none none none)) fun fl e => fl = .ret (.fr (.bl true)) := by
    rw [law_body]
    refine w_ss ⟨_, _, x_set (x_call (io := []) (x_as (x_var rfl) (x_as x_lit x_as0)) rfl rfl hm rfl (by rw [ho_clean]; rfl)) rfl (show 1 < 17 by decide), ?_⟩
    refine after_next (w_ss ?_)
    refine w_forN (Inv := fun _ e => ∃ (h : Hs) (s2 s3 s4 s5 s6 s7 s8 s9 s10 s11 s12 s13 s14 s15 s16 : Option O), leafOrNone s7 = true ∧ leafOrNone s8 = true ∧ leafOrNone s10 = true ∧ leafOrNone s16 = true ∧ e = Lw (some (.fr (.scr ns))) (some h.o) s2 s3 s4 s5 s6 s7 s8 s9 s10 s11 s12 s13 s14 s15 s16) ⟨_, _, x_lit, 4, rfl, by decide, ⟨h1, none, none, none, none, none, none, none, none, none, none, none, none, none, none, none, rfl, rfl, rfl, rfl, rfl⟩, ?_, ?_⟩
    · rintro i e hi ⟨h, s2, s3, s4, s5, s6, s7, s8, s9, s10, s11, s12, s13, s14, s15, s16, h7, h8, h10, h16, rfl⟩
      refine ⟨_, rfl, ?_⟩
      refine (turn_ok core_hp h7 h8 h10 h16).mono fun fl e h => ?_
      obtain ⟨rfl, h, s3, s4, s5, s6, s7, s8, s9, s11, s12, s13, s14, s15, s16, h7, h8, h16, rfl⟩ := h
      exact ⟨rfl, h, _, s3, s4, s5, s6, s7, s8, s9, s10, s11, s12, s13, s14, s15, s16, h7, h8, h10, h16, rfl⟩
    · rintro e ⟨h, s2, s3, s4, s5, s6, s7, s8, s9, s10, s11, s12, s13, s14, s15, s16, h7, h8, h10, h16, rfl⟩
      exact after_next (w_ss ⟨_, _, x_ret x_lit rfl, after_ret rfl⟩)
  obtain ⟨fl, e, hb, rfl⟩ := main
  exact run_of (k := 6) (fn := f_law) rfl rfl rfl hb
end K23
end

section
namespace K23
open PySem L2 Cr Sh
def top (i : Nat) : Stmt := PySem.Challenge.pw_safecase_k23_whole_the_turn_of_marks.main.body.getD i (.Pass ⟨0, 0, 0, 0⟩)
def inC (i j : Nat) : Stmt := match top i with
  | .ClassDef _ _ _ b _ _ _ _ _ _ _ => b.getD j (.Pass ⟨0, 0, 0, 0⟩)
  | s => s
def d__law_next : FnD := ⟨"_law_next", "_law_next", top 37, ["_law_h", "_law_many", "_law_cell"], f__law_next, none⟩
def d__law_mix : FnD := ⟨"_law_mix", "_law_mix", top 36, ["_law_script", "_law_seed", "_law_mixed", "_law_cell"], f__law_mix, none⟩
def d__law_tree : FnD := ⟨"_law_tree", "_law_tree", top 38, ["_law_h", "_law_events", "_law_rows", "_law_some_here", "_law_found", "_law_k", "_law_row", "_law_names_here", "_law_left", "_law_inputs", "_law_j", "_law_at", "_law_kind", "_law_need"], f__law_tree, none⟩
def d__law_names : FnD := ⟨"_law_names", "_law_names", top 41, ["_law_tree_here", "_law_row"], f__law_names, none⟩
def d__law_case : FnD := ⟨"_law_case", "_law_case", top 42, ["_law_h", "_law_tree_here", "_law_most", "_law_found", "_law_names_here", "_law_parts", "_law_k", "_law_name", "_law_way", "_law_left", "_law_day", "_law_row", "_law_whole", "_law_some_here", "_law_j", "_law_how"], f__law_case, none⟩
def d_is_name : FnD := ⟨"is_name", "is_name", top 17, ["word", "sign"], f_is_name, none⟩
def d_Tree___init__ : FnD := ⟨"__init__", "Tree.__init__", inC 19 0, ["self", "told", "events", "rows", "at", "name", "chance", "row", "kind", "need", "inputs"], f_Tree___init__, some "Tree"⟩
def d_Tree_is_there : FnD := ⟨"is_there", "Tree.is_there", inC 19 1, ["self", "name"], f_Tree_is_there, some "Tree"⟩
def d_Tree_is_row : FnD := ⟨"is_row", "Tree.is_row", inC 19 2, ["self", "row", "name", "kind", "need", "inputs", "other"], f_Tree_is_row, some "Tree"⟩
def d_Case___init__ : FnD := ⟨"__init__", "Case.__init__", inC 31 0, ["self", "tree", "rows", "at", "row"], f_Case___init__, some "Case"⟩
def d_Case_is_row : FnD := ⟨"is_row", "Case.is_row", inC 31 1, ["self", "row", "word", "name"], f_Case_is_row, some "Case"⟩
def d_Case_is_claim : FnD := ⟨"is_claim", "Case.is_claim", inC 31 2, ["self", "row", "how", "need", "inputs", "other"], f_Case_is_claim, some "Case"⟩
def d_need_count : FnD := ⟨"need_count", "need_count", top 18, ["number", "low", "high"], f_need_count, none⟩
def d_House___init__ : FnD := ⟨"__init__", "House.__init__", inC 34 0, ["self", "tree"], f_House___init__, some "House"⟩
def d_House_rows_of : FnD := ⟨"rows_of", "House.rows_of", inC 34 1, ["self", "edition"], f_House_rows_of, some "House"⟩
def d_House_put : FnD := ⟨"put", "House.put", inC 34 2, ["self", "row", "rows", "other", "names"], f_House_put, some "House"⟩
def d_House_touched : FnD := ⟨"touched", "House.touched", inC 34 4, ["self", "one", "other", "row", "old", "found", "rests", "name"], f_House_touched, some "House"⟩
def d_House_mark : FnD := ⟨"mark", "House.mark", inC 34 5, ["self", "judge", "name", "good", "row"], f_House_mark, some "House"⟩
def d_House_is_touched : FnD := ⟨"is_touched", "House.is_touched", inC 34 6, ["self", "name", "edition", "later", "row"], f_House_is_touched, some "House"⟩
def d_House_verdicts : FnD := ⟨"verdicts", "House.verdicts", inC 34 7, ["self", "name", "row", "found", "judge", "other", "edition", "good", "rows"], f_House_verdicts, some "House"⟩
def d_House_is_accepted : FnD := ⟨"is_accepted", "House.is_accepted", inC 34 8, ["self", "name", "many", "judge", "good", "marks"], f_House_is_accepted, some "House"⟩
def d_House_to_do : FnD := ⟨"to_do", "House.to_do", inC 34 9, ["self", "many", "row"], f_House_to_do, some "House"⟩
def d_law : FnD := ⟨"law", "law", top 43, ["_law_script", "_law_h", "_law_turn", "_law_tree_here", "_law_one", "_law_two", "_law_rows", "_law_row", "_law_k", "_law_fresh", "_law_other", "_law_names_here", "_law_marks", "_law_judge", "_law_name", "_law_good", "_law_mark"], f_law, none⟩
def ds : List FnD := [d__law_next, d__law_mix, d__law_tree, d__law_names, d__law_case, d_is_name, d_Tree___init__, d_Tree_is_there, d_Tree_is_row, d__law_next, d_Case___init__, d_Case_is_row, d_Case_is_claim, d__law_next, d__law_next, d_need_count, d_House___init__, d_House_rows_of, d_House_put, d__law_next, d_House_touched, d_House_mark, d_House_is_touched, d_House_verdicts, d_House_is_accepted, d_House_to_do, d_law]
def gls : List (Str × D) := [("MOST_EVENTS", .int 10), ("MOST_ROWS", .int 12), ("MOST_INPUTS", .int 6), ("MOST_SIGNS", .int 8), ("WHOLE", .int 1000), ("LETTERS", .str "abcdefghijklmnopqrstuvwxyz"), ("AND", .str "and"), ("OR", .str "or"), ("SOME", .str "some"), ("GROUND", .str "ground"), ("GUESS", .str "guess"), ("CLAIM", .str "claim"), ("BOUND", .str "bound"), ("SPARE", .str "spare"), ("ALL", .str "all"), ("ANY", .str "any"), ("MOST_CASE", .int 30), ("LAST_DAY", .int 9999), ("MOST_WHOLE", .int 1000000), ("MOST_JUDGES", .int 9)]
def cf : Cf := ⟨["Tree", "Case", "House"], ["chances", "needs", "tree", "book", "rows", "editions", "marks"]⟩
theorem b__law_next : BindsOk d__law_next := fun _ _ _ _ _ _ us hl => match us, hl with | [_, _], _ => rfl
theorem b__law_mix : BindsOk d__law_mix := fun _ _ _ _ _ _ us hl => match us, hl with | [_, _], _ => rfl
theorem b__law_tree : BindsOk d__law_tree := fun _ _ _ _ _ _ us hl => match us, hl with | [_, _, _], _ => rfl
theorem b__law_names : BindsOk d__law_names := fun _ _ _ _ _ _ us hl => match us, hl with | [_], _ => rfl
theorem b__law_case : BindsOk d__law_case := fun _ _ _ _ _ _ us hl => match us, hl with | [_, _, _], _ => rfl
theorem b_is_name : BindsOk d_is_name := fun _ _ _ _ _ _ us hl => match us, hl with | [_], _ => rfl
theorem b_Tree___init__ : BindsOk d_Tree___init__ := fun _ _ _ _ _ _ us hl => match us, hl with | [_, _], _ => rfl
theorem b_Tree_is_there : BindsOk d_Tree_is_there := fun _ _ _ _ _ _ us hl => match us, hl with | [_, _], _ => rfl
theorem b_Tree_is_row : BindsOk d_Tree_is_row := fun _ _ _ _ _ _ us hl => match us, hl with | [_, _], _ => rfl
theorem b_Case___init__ : BindsOk d_Case___init__ := fun _ _ _ _ _ _ us hl => match us, hl with | [_, _, _], _ => rfl
theorem b_Case_is_row : BindsOk d_Case_is_row := fun _ _ _ _ _ _ us hl => match us, hl with | [_, _], _ => rfl
theorem b_Case_is_claim : BindsOk d_Case_is_claim := fun _ _ _ _ _ _ us hl => match us, hl with | [_, _], _ => rfl
theorem b_need_count : BindsOk d_need_count := fun _ _ _ _ _ _ us hl => match us, hl with | [_, _, _], _ => rfl
theorem b_House___init__ : BindsOk d_House___init__ := fun _ _ _ _ _ _ us hl => match us, hl with | [_, _], _ => rfl
theorem b_House_rows_of : BindsOk d_House_rows_of := fun _ _ _ _ _ _ us hl => match us, hl with | [_, _], _ => rfl
theorem b_House_put : BindsOk d_House_put := fun _ _ _ _ _ _ us hl => match us, hl with | [_, _], _ => rfl
theorem b_House_touched : BindsOk d_House_touched := fun _ _ _ _ _ _ us hl => match us, hl with | [_, _, _], _ => rfl
theorem b_House_mark : BindsOk d_House_mark := fun _ _ _ _ _ _ us hl => match us, hl with | [_, _, _, _], _ => rfl
theorem b_House_is_touched : BindsOk d_House_is_touched := fun _ _ _ _ _ _ us hl => match us, hl with | [_, _, _], _ => rfl
theorem b_House_verdicts : BindsOk d_House_verdicts := fun _ _ _ _ _ _ us hl => match us, hl with | [_, _], _ => rfl
theorem b_House_is_accepted : BindsOk d_House_is_accepted := fun _ _ _ _ _ _ us hl => match us, hl with | [_, _, _], _ => rfl
theorem b_House_to_do : BindsOk d_House_to_do := fun _ _ _ _ _ _ us hl => match us, hl with | [_, _], _ => rfl
theorem b_law : BindsOk d_law := fun _ _ _ _ _ _ us hl => match us, hl with | [_], _ => rfl
theorem texts : Texts gls cf ds := by
  refine ⟨by decide +kernel, ?_, by decide +kernel, by decide +kernel, by decide +kernel⟩
  intro d hd
  simp only [ds, List.mem_cons, List.not_mem_nil, or_false] at hd
  rcases hd with rfl | rfl | rfl | rfl | rfl | rfl | rfl | rfl | rfl | rfl | rfl | rfl | rfl | rfl | rfl | rfl | rfl | rfl | rfl | rfl | rfl | rfl | rfl | rfl | rfl | rfl | rfl
  · exact b__law_next
  · exact b__law_mix
  · exact b__law_tree
  · exact b__law_names
  · exact b__law_case
  · exact b_is_name
  · exact b_Tree___init__
  · exact b_Tree_is_there
  · exact b_Tree_is_row
  · exact b__law_next
  · exact b_Case___init__
  · exact b_Case_is_row
  · exact b_Case_is_claim
  · exact b__law_next
  · exact b__law_next
  · exact b_need_count
  · exact b_House___init__
  · exact b_House_rows_of
  · exact b_House_put
  · exact b__law_next
  · exact b_House_touched
  · exact b_House_mark
  · exact b_House_is_touched
  · exact b_House_verdicts
  · exact b_House_is_accepted
  · exact b_House_to_do
  · exact b_law
theorem plain : ∀ ns : List Int, ns.length ≤ 63 → Cr.run (ds.map (·.fn)) (10 ^ 200) 7 26 [.fr (.scr ns)] = .ok (.fr (.bl true)) [] := fun ns h => plainC ns h
abbrev R : PySem.W.OpenRow := PySem.W.OpenLaw.row PySem.Challenge.rw_safecase_k23_whole_the_turn_of_marks
abbrev hk : PySem.W.Hook := He.hookD 4 (faOf gls cf ds) (fnOf ds)
def ob (s : PySem.W.SharedT) : He.AlD := He.obsDG 4 (faOf gls cf ds) (fnOf ds) (HandSHeadRun.getT s)
theorem ob_eq (s : PySem.W.SharedT) : ob s = hk.obs s.abs := He.obsDG_eq (HandSHeadRun.getT_eq s)
theorem headRun (w : World) : HandSHeadRun.RunEq R (PySem.W.view R.prog [43]) hk ob 6000 [("_wall" : PySem.Str), ("CaseError" : PySem.Str), ("BadTree" : PySem.Str), ("BadCase" : PySem.Str), ("BadName" : PySem.Str), ("BadCount" : PySem.Str), ("MOST_EVENTS" : PySem.Str), ("MOST_ROWS" : PySem.Str), ("MOST_INPUTS" : PySem.Str), ("MOST_SIGNS" : PySem.Str), ("WHOLE" : PySem.Str), ("LETTERS" : PySem.Str), ("AND" : PySem.Str), ("OR" : PySem.Str), ("SOME" : PySem.Str), ("is_name" : PySem.Str), ("need_count" : PySem.Str), ("Tree" : PySem.Str), ("GROUND" : PySem.Str), ("GUESS" : PySem.Str), ("CLAIM" : PySem.Str), ("BOUND" : PySem.Str), ("SPARE" : PySem.Str), ("ALL" : PySem.Str), ("ANY" : PySem.Str), ("MOST_CASE" : PySem.Str), ("LAST_DAY" : PySem.Str), ("MOST_WHOLE" : PySem.Str), ("Case" : PySem.Str), ("MOST_JUDGES" : PySem.Str), ("House" : PySem.Str), ("_law_mix" : PySem.Str), ("_law_next" : PySem.Str), ("_law_tree" : PySem.Str), ("_law_lost" : PySem.Str), ("_law_some" : PySem.Str), ("_law_names" : PySem.Str), ("_law_case" : PySem.Str)] w := by
  intro os
  kernel_rfl
open PySem PySem.W PySem.Calls PyProof.Rows in
set_option maxHeartbeats 0 in
theorem holdsC : PySem.Challenge.rw_safecase_k23_whole_the_turn_of_marks.Holds := by
  w_on; o_law
  refine HandSHeadRun.head_any (r := OpenLaw.row PySem.Challenge.rw_safecase_k23_whole_the_turn_of_marks) (q := view (OpenLaw.row PySem.Challenge.rw_safecase_k23_whole_the_turn_of_marks).prog [43]) (H := hk) (ob := ob) (M := 6000) (loose := [("_wall" : PySem.Str), ("CaseError" : PySem.Str), ("BadTree" : PySem.Str), ("BadCase" : PySem.Str), ("BadName" : PySem.Str), ("BadCount" : PySem.Str), ("MOST_EVENTS" : PySem.Str), ("MOST_ROWS" : PySem.Str), ("MOST_INPUTS" : PySem.Str), ("MOST_SIGNS" : PySem.Str), ("WHOLE" : PySem.Str), ("LETTERS" : PySem.Str), ("AND" : PySem.Str), ("OR" : PySem.Str), ("SOME" : PySem.Str), ("is_name" : PySem.Str), ("need_count" : PySem.Str), ("Tree" : PySem.Str), ("GROUND" : PySem.Str), ("GUESS" : PySem.Str), ("CLAIM" : PySem.Str), ("BOUND" : PySem.Str), ("SPARE" : PySem.Str), ("ALL" : PySem.Str), ("ANY" : PySem.Str), ("MOST_CASE" : PySem.Str), ("LAST_DAY" : PySem.Str), ("MOST_WHOLE" : PySem.Str), ("Case" : PySem.Str), ("MOST_JUDGES" : PySem.Str), ("House" : PySem.Str), ("_law_mix" : PySem.Str), ("_law_next" : PySem.Str), ("_law_tree" : PySem.Str), ("_law_lost" : PySem.Str), ("_law_some" : PySem.Str), ("_law_names" : PySem.Str), ("_law_case" : PySem.Str)]) (d := HandSHeadRun.topDef (OpenLaw.row PySem.Challenge.rw_safecase_k23_whole_the_turn_of_marks).prog 43) (kwd := []) ob_eq
    (by kernel_rfl) (fun s => by kernel_rfl) headRun (by kernel_rfl) (by kernel_rfl) (by kernel_rfl) (by rfl) (by first | assumption | decide +kernel) (by decide +kernel) ⟨rfl, rfl, rfl, rfl, rfl, by decide +kernel⟩ ?hw ?hc
  case hw => w_witness2
  case hc =>
    refine walk_law (l := PySem.Challenge.rw_safecase_k23_whole_the_turn_of_marks) (n := 63) (k := 14) (x := "_law_script") rfl (by decide) (by kernel_rfl) ⟨rfl, by decide, by decide⟩ ?F
    intro w mg fa h Y G hmg0
    obtain ⟨K, KX, c⟩ := Y
    have hmg : mg ("law" : PySem.Str) = some (.ref fa) := by
      have e : (HandSHeadRun.topDef (OpenLaw.row PySem.Challenge.rw_safecase_k23_whole_the_turn_of_marks).prog 43).name = ("law" : PySem.Str) := by kernel_rfl
      rw [← e]
      exact hmg0
    obtain ⟨fd, sp, h1, h2, h3⟩ := law_of (P := PySem.Challenge.pw_safecase_k23_whole_the_turn_of_marks) (w := w) texts KX G c (i := 26) (d := d_law) (x := "_law_script") (n := 63) (k := 7) (W := (10 ^ 200)) rfl rfl rfl rfl hmg plain
    exact ⟨K, fd, sp, KX, h1, h2, h3⟩

end K23
theorem PySem.Challenge.cw_safecase_k23_whole_the_turn_of_marks_holds : PySem.Challenge.rw_safecase_k23_whole_the_turn_of_marks.Holds :=
  K23.holdsC
end
