import PyProof.Rows.All
import Wide.All
import OpenK.AllK
import Wide.FinOn
import HandS.ForMost
import HandS.Wide
import HandS.TupAny
import HandS.Conv
import HandS.Exc
import HandS.WordsExc
import HandS.Head0
import HandS.Head1
import HandS.Head2
import HandS.HeadEnd
import HandS.HeadHook1
import HandS.HeadHook2
import HandS.HeadHook4
import PySem.Challenge.RW_safecase_k31_whole_tails_of_chances
set_option Elab.async false
set_option linter.all false
set_option maxRecDepth 100000
section
/-! The core language: values as trees, slots, its evaluator. -/
namespace Cr
open PySem L2

/-- a value that stands still -/
inductive D where
  | non | bl (b : Bool) | int (i : Int) | str (s : Str)
  | tup (l : List D) | lst (l : List D) | dic (l : List (Key × D)) | ins (c : Nat) (l : List (Str × D)) | scr (l : List Int) | bad
  deriving Inhabited
/-- a value that one slot owns: fr is a leaf that stands still -/
inductive O where
  | fr (d : D) | ol (l : List O) | ot (l : List O) | od (l : List (Key × O)) | oi (c : Nat) (l : List (Str × O))
  deriving Inhabited

mutual
def O.frz : O → D
  | .fr d => d
  | .ol l => .lst (frzL l)
  | .ot l => .tup (frzL l)
  | .od l => .dic (frzK l)
  | .oi c l => .ins c (frzF l)
def frzL : List O → List D
  | [] => []
  | o :: l => o.frz :: frzL l
def frzK : List (Key × O) → List (Key × D)
  | [] => []
  | (k, o) :: l => (k, o.frz) :: frzK l
def frzF : List (Str × O) → List (Str × D)
  | [] => []
  | (k, o) :: l => (k, o.frz) :: frzF l
end
/-! no list, dict or instance within -/
mutual
def D.imm : D → Bool
  | .lst _ => false
  | .dic _ => false
  | .ins _ _ => false
  | .scr _ => false
  | .tup l => immL l
  | _ => true
def immL : List D → Bool
  | [] => true
  | d :: l => d.imm && immL l
end
/-! each leaf stands still wherever it goes -/
mutual
def O.clean : O → Bool
  | .fr d => d.imm
  | .ol l => cleanL l
  | .ot l => cleanL l
  | .od l => cleanK l
  | .oi _ l => cleanF l
def cleanL : List O → Bool
  | [] => true
  | o :: l => o.clean && cleanL l
def cleanK : List (Key × O) → Bool
  | [] => true
  | (_, o) :: l => o.clean && cleanK l
def cleanF : List (Str × O) → Bool
  | [] => true
  | (_, o) :: l => o.clean && cleanF l
end
def leafs : List O → Option (List D)
  | [] => some []
  | .fr d :: l => (leafs l).map (d :: ·)
  | _ :: _ => none
/-- the items of a list or a tuple, where each stands still; whether it is a tuple -/
def O.items : O → Option (Bool × List D)
  | .fr (.lst l) => some (false, l)
  | .fr (.tup l) => some (true, l)
  | .ol l => (leafs l).map fun x => (false, x)
  | .ot l => (leafs l).map fun x => (true, x)
  | _ => none
/-- .. where a loop goes over it -/
def O.walk : O → Option (Bool × List D)
  | .fr (.scr l) => some (false, l.map .int)
  | o => o.items
def O.isFr : O → Bool
  | .fr _ => true
  | _ => false
/-- a tuple of values -/
def mkT (os : List O) : O := match leafs os with
  | some ds => .fr (.tup ds)
  | none => .ot os

/-! may be told apart by == -/
mutual
def shp : Nat → D → Bool
  | _, .non => true
  | _, .bl _ => true
  | _, .int _ => true
  | _, .str _ => true
  | 0, .tup _ => false
  | 0, .lst _ => false
  | n + 1, .tup l => shpL n l
  | n + 1, .lst l => shpL n l
  | _, _ => false
def shpL : Nat → List D → Bool
  | _, [] => true
  | n, d :: l => shp n d && shpL n l
end
mutual
def eqD : D → D → Bool
  | .non, .non => true
  | .bl a, .bl b => a == b
  | .bl a, .int j => (if a then 1 else 0) == j
  | .int i, .bl b => i == (if b then 1 else 0)
  | .int i, .int j => i == j
  | .str x, .str y => x == y
  | .lst xs, .lst ys => eqDL xs ys
  | .tup xs, .tup ys => eqDL xs ys
  | _, _ => false
def eqDL : List D → List D → Bool
  | [], [] => true
  | x :: xs, y :: ys => eqD x y && eqDL xs ys
  | _, _ => false
end

/-- an operand: one that stands still; a new one of its own; a slot's; within a slot's; a slot's that a call may change -/
inductive Hd where
  | p (d : D) | t (o : O) | n (i : Nat) | q (o : O) | io (i : Nat)
  deriving Inhabited
abbrev Env := List (Option O)
inductive Res (α : Type) where
  | ok (a : α) | ex (c : Nat) (d : D) (env : Env) | er
inductive CRes where
  | ok (r : O) (outs : List O) | ex (c : Nat) (d : D) (outs : List O) | er
inductive Fl where
  | next | ret (o : O) | brk | cont
@[simp] def Res.bind {α β : Type} : Res α → (α → Res β) → Res β
  | .ok a, f => f a
  | .ex c d e, _ => .ex c d e
  | .er, _ => .er
@[simp] def Res.noEx {α : Type} : Res α → Res α
  | .ok a => .ok a
  | _ => .er
def Res.of {α : Type} : Option α → Res α
  | some a => .ok a
  | none => .er
def Hd.get : Hd → Env → Option O
  | .p d, _ => some (.fr d)
  | .t o, _ => some o
  | .n i, e => (e[i]?).join
  | .q o, _ => some o
  | .io i, e => (e[i]?).join
def Hd.view (h : Hd) (e : Env) : Option D := (h.get e).map O.frz
/-- as a value that may be kept -/
def Hd.val : Hd → Option O
  | .p d => some (.fr d)
  | .t o => some o
  | _ => none
def Hd.isTr : Hd → Bool
  | .p _ => false
  | .t _ => false
  | _ => true
def Hd.isQ : Hd → Bool
  | .q _ => true
  | _ => false
/-- a part of an operand -/
def Hd.part (h : Hd) (o : O) : Hd := match o with
  | .fr d => .p d
  | o => match h with
    | .t _ => .t o
    | _ => .q o
/-- a new value -/
def mkH : O → Hd
  | .fr d => .p d
  | o => .t o

def bigOk (i j : Int) : Bool := decide (i.natAbs < 18446744073709551616) || decide (j.natAbs < 18446744073709551616) || decide (i.natAbs.log2 + j.natAbs.log2 < 1000000)
def lineOk (n : Nat) : Bool := decide (n ≤ 16777216)
/-- binary operators -/
def binO (op : Operator) (a b : O) : Option O :=
  match op, a, b with
  | .Add, .fr (.int i), .fr (.int j) => some (.fr (.int (i + j)))
  | .Sub, .fr (.int i), .fr (.int j) => some (.fr (.int (i - j)))
  | .Mult, .fr (.int i), .fr (.int j) => if bigOk i j then some (.fr (.int (i * j))) else none
  | .FloorDiv, .fr (.int i), .fr (.int j) => if decide (0 < j) && decide (j.natAbs.log2 < 9000) then some (.fr (.int (i / j))) else none
  | .Mod, .fr (.int i), .fr (.int j) => if decide (0 < j) then some (.fr (.int (i % j))) else none
  | .Pow, .fr (.int i), .fr (.int j) => if decide (0 ≤ j) && decide (j ≤ 1000000) && decide (i.natAbs < 18446744073709551616) then some (.fr (.int (i ^ j.toNat))) else none
  | .Add, .fr (.str x), .fr (.str y) => if lineOk (x.length + y.length) then some (.fr (.str (x ++ y))) else none
  | .Add, a, b => match a.items, b.items with
    | some (false, xs), some (false, ys) => if lineOk (xs.length + ys.length) then some (.ol ((xs ++ ys).map .fr)) else none
    | some (true, xs), some (true, ys) => if lineOk (xs.length + ys.length) then some (.fr (.tup (xs ++ ys))) else none
    | _, _ => none
  | .Mult, a, .fr (.int k) => match a.items with
    | some (false, xs) => if decide (-(2 ^ 62) ≤ k) && decide (k < 2 ^ 62) && lineOk (xs.length * k.toNat) then some (.ol (((List.replicate k.toNat xs).flatten).map .fr)) else none
    | _ => none
  | _, _, _ => none
def intB (p : Int → Int → Bool) : D → D → Option Bool
  | .int i, .int j => some (p i j)
  | _, _ => none
/-- comparisons -/
def cmpD (op : CmpOp) (a b : D) : Option Bool :=
  match op with
  | .Eq => if shp 64 a && shp 64 b then some (eqD a b) else none
  | .NotEq => if shp 64 a && shp 64 b then some (!eqD a b) else none
  | .Lt => intB (fun i j => decide (i < j)) a b
  | .LtE => intB (fun i j => decide (i ≤ j)) a b
  | .Gt => intB (fun i j => decide (j < i)) a b
  | .GtE => intB (fun i j => decide (j ≤ i)) a b
  | _ => none
/-- a place, from the end where it is below nought -/
def ixOf (n : Nat) (i : Int) : Option Nat := ixN n i
/-- a[i] -/
def atO (a : O) (i : D) : Option O :=
  match a, i with
  | .fr (.lst l), .int k => (atI l k).map .fr
  | .fr (.tup l), .int k => (atI l k).map .fr
  | .ol l, .int k => atI l k
  | .ot l, .int k => atI l k
  | _, _ => none
def cutD (l : List D) (lo hi : Option Int) : List D := (l.drop (HT.sIx l.length 0 lo)).take (HT.sIx l.length l.length hi - HT.sIx l.length 0 lo)
/-- a[lo:hi] -/
def cutO (a : O) (lo hi : Option Int) : Option O := match a.items with
  | some (false, l) => some (.ol ((cutD l lo hi).map .fr))
  | some (true, l) => some (.fr (.tup (cutD l lo hi)))
  | none => none

/-- built-in functions -/
inductive Bi where
  | len | list | sum | max2 | min2 | tuple
  deriving DecidableEq
def sumI : List D → Option Int
  | [] => some 0
  | .int i :: l => (sumI l).map (i + ·)
  | _ => none
def biO (b : Bi) (as : List O) : Option O :=
  match b, as with
  | .len, [a] => match a.frz with
    | .lst l => some (.fr (.int l.length))
    | .tup l => some (.fr (.int l.length))
    | .str s => some (.fr (.int s.length))
    | _ => none
  | .list, [a] => a.walk.map fun x => .ol (x.2.map .fr)
  | .tuple, [a] => a.items.map fun x => .fr (.tup x.2)
  | .sum, [a] => match a.items with
    | some (false, l) => (sumI l).map fun i => .fr (.int i)
    | _ => none
  | .max2, [.fr (.int i), .fr (.int j)] => some (.fr (.int (if j > i then j else i)))
  | .min2, [.fr (.int i), .fr (.int j)] => some (.fr (.int (if j < i then j else i)))
  | _, _ => none
def rngOk (i j c : Int) : Bool := (c == -1 || (decide (0 < c) && decide (c < 1000000000))) && decide (-(2 ^ 60) ≤ i) && decide (i < 2 ^ 60) && decide (-(2 ^ 60) ≤ j) && decide (j < 2 ^ 60)
def rngN (i j c : Int) : Nat := if c == -1 then (i - j).toNat else ((j - i + c - 1) / c).toNat
def rngL (i j c : Int) : List D := (List.range (rngN i j c)).map fun (k : Nat) => D.int (i + k * c)

/-- targets -/
inductive Tg where
  | v (i : Nat) | tup (l : List Tg)
mutual
inductive CE where
  | lit (d : D)
  | glob (g : Str) (d : D)
  | var (i : Nat)
  | io (i : Nat)
  | mv (i : Nat)
  | fz (i : Nat)
  | tup (es : List CE)
  | lst (es : List CE)
  | bin (op : Operator) (a b : CE)
  | cmp (op : CmpOp) (a b : CE)
  | cmp2 (o1 o2 : CmpOp) (a b c : CE)
  | and (es : List CE)
  | or (es : List CE)
  | not (a : CE)
  | ife (c a b : CE)
  | sub (a i : CE)
  | slice (a : CE) (lo hi : Option CE)
  | call (f : Nat) (io : List Nat) (args : List CE)
  | bi (b : Bi) (args : List CE)
  | lc (own : List Nat) (tg : Tg) (src : Sr) (cs : List CE) (e : CE)
  | listR (src : Sr)
inductive Sr where
  | seq (e : CE)
  | rng (as : List CE)
  | enum (e : CE)
end
mutual
inductive CS where
  | expr (e : CE)
  | set (i : Nat) (e : CE)
  | par (i j : Nat) (a b : CE)
  | unp (t : Tg) (e : CE)
  | seti (i : Nat) (pr : Option CE) (ix e : CE)
  | augi (i : Nat) (op : Operator) (ix e : CE)
  | aug (i : Nat) (op : Operator) (e : CE)
  | if_ (c : CE) (a b : List CS)
  | while_ (c : CE) (b : List CS)
  | for_ (t : Tg) (s : Sr) (b : List CS)
  | ret (e : CE)
  | brk | cont | pass | never
end

mutual
def Tg.bind : Tg → D → Env → Option Env
  | .v i, d, e => if i < e.length then some (e.set i (some (.fr d))) else none
  | .tup ts, .tup ds, e => bindL ts ds e
  | _, _, _ => none
def bindL : List Tg → List D → Env → Option Env
  | [], [], e => some e
  | t :: ts, d :: ds, e => (t.bind d e).bind (bindL ts ds)
  | _, _, _ => none
end
/-! evaluating leaves the slots and what they own as they are -/
mutual
def CE.quiet : CE → Bool
  | .lit _ => true
  | .glob _ _ => true
  | .var _ => true
  | .io _ => false
  | .mv _ => false
  | .fz _ => false
  | .tup es => quietL es
  | .lst es => quietL es
  | .bin _ a b => a.quiet && b.quiet
  | .cmp _ a b => a.quiet && b.quiet
  | .cmp2 _ _ a b c => a.quiet && b.quiet && c.quiet
  | .and es => quietL es
  | .or es => quietL es
  | .not a => a.quiet
  | .ife c a b => c.quiet && a.quiet && b.quiet
  | .sub a i => a.quiet && i.quiet
  | .slice a lo hi => a.quiet && quietO lo && quietO hi
  | .call _ io as => io.isEmpty && quietL as
  | .bi _ as => quietL as
  | .lc _ _ s cs e => s.quiet && quietL cs && e.quiet
  | .listR s => s.quiet
def quietL : List CE → Bool
  | [] => true
  | e :: es => e.quiet && quietL es
def quietO : Option CE → Bool
  | none => true
  | some e => e.quiet
def Sr.quiet : Sr → Bool
  | .seq e => e.quiet
  | .rng as => quietL as
  | .enum e => e.quiet
end

def lcL (f : D → Env → Res (Option O × Env)) : List D → Env → Res (List O × Env)
  | [], e => .ok ([], e)
  | d :: ds, e => (f d e).bind fun (o, e) => (lcL f ds e).bind fun (os, e) => .ok ((match o with | some o => o :: os | none => os), e)
def forL (f : D → Env → Res (Fl × Env)) : List D → Env → Res (Fl × Env)
  | [], e => .ok (.next, e)
  | d :: ds, e => (f d e).bind fun (fl, e) => match fl with
    | .next => forL f ds e
    | .cont => forL f ds e
    | .brk => .ok (.next, e)
    | .ret o => .ok (.ret o, e)
def whL (c : Env → Res (Bool × Env)) (f : Env → Res (Fl × Env)) : Nat → Env → Res (Fl × Env)
  | 0, _ => .er
  | n + 1, e => (c e).bind fun (b, e) => if b then (f e).bind fun (fl, e) => match fl with
      | .next => whL c f n e
      | .cont => whL c f n e
      | .brk => .ok (.next, e)
      | .ret o => .ok (.ret o, e)
    else .ok (.next, e)
def setS (e : Env) (i : Nat) (o : O) : Option Env := if i < e.length then some (e.set i (some o)) else none
def boolH : Hd → Option Bool
  | .p (.bl b) => some b
  | _ => none
/-- the operands ahead are to be there yet when those behind have come -/
def stayOk : List Hd → List CE → Bool
  | [], _ => true
  | h :: hs, e :: es => (!h.isQ || quietL es) && stayOk hs es
  | _, _ => false
/-- how an argument comes into a callee's slot -/
def Hd.arg (h : Hd) (e : Env) : Option O := match h with
  | .io i => match (e[i]?).join with
    | some (.fr _) => none
    | some o => some o
    | none => none
  | h => (h.view e).map .fr
def allSome {α : Type} : List (Option α) → Option (List α)
  | [] => some []
  | some a :: l => (allSome l).map (a :: ·)
  | none :: _ => none
def ioSlots : List Hd → List Nat
  | [] => []
  | .io i :: hs => i :: ioSlots hs
  | _ :: hs => ioSlots hs
def ioPos : List Hd → Nat → List Nat
  | [], _ => []
  | .io _ :: hs, k => k :: ioPos hs (k + 1)
  | _ :: hs, k => ioPos hs (k + 1)
def nmSlots : List Hd → List Nat
  | [] => []
  | .n i :: hs => i :: nmSlots hs
  | _ :: hs => nmSlots hs
def hasQ : List Hd → Bool
  | [] => false
  | h :: hs => h.isQ || hasQ hs
/-- the slots that a call may change are each one's own -/
def ioOk (hs : List Hd) : Bool := match ioSlots hs with
  | [] => true
  | [i] => (nmSlots hs).all (fun j => j != i) && !hasQ hs
  | _ => false
def putOuts : List Nat → List O → Env → Option Env
  | [], [], e => some e
  | i :: is, o :: os, e => (setS e i o).bind (putOuts is os)
  | _, _, _ => none
def wipeE (e : Env) : List Nat → Env
  | [] => e
  | i :: is => (wipeE e is).set i none
def leafOrNone : Option O → Bool
  | none => true
  | some o => o.isFr
def backE (e0 e1 : Env) : List Nat → Env
  | [] => e1
  | i :: is => (backE e0 e1 is).set i ((e0[i]?).join)
def wipeOk (own : List Nat) (e : Env) : Bool := own.all fun i => decide (i < e.length) && leafOrNone ((e[i]?).join)
/-- a turn of a list comprehension -/
def lcF (fc : Env → Res (Bool × Env)) (fx : Env → Res (Hd × Env)) (tg : Tg) (own : List Nat) (d : D) (e : Env) : Res (Option O × Env) := match tg.bind d e with
  | some e => (fc e).bind fun (k, e) => if k then (fx e).bind fun (h, e) => match h.val with
      | some o => if wipeOk own e then .ok (some o, wipeE e own) else .er
      | none => .er
    else if wipeOk own e then .ok (none, wipeE e own) else .er
  | none => .er
def allInt : List D → Option (List Int)
  | [] => some []
  | .int i :: l => (allInt l).map (i :: ·)
  | _ => none
def rngOf : List D → Option (List D)
  | [.int j] => if rngOk 0 j 1 then some (rngL 0 j 1) else none
  | [.int i, .int j] => if rngOk i j 1 then some (rngL i j 1) else none
  | [.int i, .int j, .int c] => if rngOk i j c then some (rngL i j c) else none
  | _ => none
def numd (k : Nat) : List D → List D
  | [] => []
  | d :: ds => .tup [.int k, d] :: numd (k + 1) ds
/-- xs[ix] = o -/
def setAt (a : O) (ix : D) (o : O) : Option O := match a, ix with
  | .ol l, .int k => (ixN l.length k).map fun j => .ol (l.set j o)
  | _, _ => none

section
variable (cal : Nat → List O → CRes) (W : Nat)
mutual
def ev : CE → Env → Res (Hd × Env)
  | .lit d, e => .ok (.p d, e)
  | .glob _ d, e => .ok (.p d, e)
  | .var i, e => match (e[i]?).join with
    | some (.fr d) => .ok (.p d, e)
    | some _ => .ok (.n i, e)
    | none => .er
  | .io i, e => match (e[i]?).join with
    | some (.fr _) => .er
    | some _ => .ok (.io i, e)
    | none => .er
  | .mv i, e => match (e[i]?).join with
    | some o => .ok (mkH o, e.set i none)
    | none => .er
  | .fz i, e => match (e[i]?).join with
    | some o => .ok (.p o.frz, e.set i (some (.fr o.frz)))
    | none => .er
  | .tup es, e => (evs es e).bind fun (hs, e) => match allSome (hs.map Hd.val) with
    | some os => if lineOk os.length then .ok (mkH (mkT os), e) else .er
    | none => .er
  | .lst es, e => (evs es e).bind fun (hs, e) => match allSome (hs.map Hd.val) with
    | some os => if lineOk os.length then .ok (.t (.ol os), e) else .er
    | none => .er
  | .bin op a b, e => (ev a e).bind fun (ha, e) => (ev b e).bind fun (hb, e) => if !ha.isQ || b.quiet then
      match ha.get e, hb.get e with
      | some x, some y => match binO op x y with
        | some o => .ok (mkH o, e)
        | none => .er
      | _, _ => .er
    else .er
  | .cmp op a b, e => (ev a e).bind fun (ha, e) => (ev b e).bind fun (hb, e) => if !ha.isQ || b.quiet then
      match ha.view e, hb.view e with
      | some x, some y => match cmpD op x y with
        | some k => .ok (.p (.bl k), e)
        | none => .er
      | _, _ => .er
    else .er
  | .cmp2 o1 o2 a b c, e => (ev a e).bind fun (ha, e) => (ev b e).bind fun (hb, e) =>
      match ha, hb with
      | .p x, .p y => match cmpD o1 x y with
        | some true => (ev c e).bind fun (hc, e) => match hc with
          | .p z => match cmpD o2 y z with
            | some k => .ok (.p (.bl k), e)
            | none => .er
          | _ => .er
        | some false => .ok (.p (.bl false), e)
        | none => .er
      | _, _ => .er
  | .and es, e => evAnd es e
  | .or es, e => evOr es e
  | .not a, e => (ev a e).bind fun (ha, e) => match boolH ha with
    | some k => .ok (.p (.bl (!k)), e)
    | none => .er
  | .ife c a b, e => (ev c e).bind fun (hc, e) => match boolH hc with
    | some true => ev a e
    | some false => ev b e
    | none => .er
  | .sub a i, e => (ev a e).bind fun (ha, e) => (ev i e).bind fun (hi, e) => if !ha.isQ || i.quiet then
      match ha.get e, hi with
      | some x, .p y => match atO x y with
        | some o => .ok (ha.part o, e)
        | none => .er
      | _, _ => .er
    else .er
  | .slice a lo hi, e => (ev a e).bind fun (ha, e) => (evO lo e).bind fun (l, e) => (evO hi e).bind fun (u, e) => if !ha.isQ || (quietO lo && quietO hi) then
      match ha.get e with
      | some x => match cutO x l u with
        | some o => .ok (mkH o, e)
        | none => .er
      | none => .er
    else .er
  | .call f io as, e => (evs as e).bind fun (hs, e) => if stayOk hs as && ioOk hs && ioPos hs 0 == io then
      match allSome (hs.map fun h => h.arg e) with
      | some os => match cal f os with
        | .ok r outs => match putOuts (ioSlots hs) outs e with
          | some e => if r.clean && cleanL outs then .ok (mkH r, e) else .er
          | none => .er
        | .ex c d outs => match putOuts (ioSlots hs) outs e with
          | some e => if d.imm && cleanL outs then .ex c d e else .er
          | none => .er
        | .er => .er
      | none => .er
    else .er
  | .bi b as, e => (evs as e).bind fun (hs, e) => if stayOk hs as then
      match allSome (hs.map fun h => h.get e) with
      | some os => match biO b os with
        | some o => .ok (mkH o, e)
        | none => .er
      | none => .er
    else .er
  | .lc own tg src cs x, e => (evSr src e).bind fun (ds, tr, e) =>
      if wipeOk own e && (!tr || (quietL cs && x.quiet)) then
        (Res.noEx (lcL (lcF (fun e => evC cs e) (fun e => ev x e) tg own) ds (wipeE e own))).bind fun (os, e1) => if lineOk ds.length then .ok (.t (.ol os), backE e e1 own) else .er
      else .er
  | .listR src, e => (evSr src e).bind fun (ds, _, e) => if lineOk ds.length then .ok (.t (.ol (ds.map .fr)), e) else .er
def evs : List CE → Env → Res (List Hd × Env)
  | [], e => .ok ([], e)
  | x :: xs, e => (ev x e).bind fun (h, e) => (evs xs e).bind fun (hs, e) => .ok (h :: hs, e)
def evAnd : List CE → Env → Res (Hd × Env)
  | [], _ => .er
  | [x], e => ev x e
  | x :: y :: r, e => (ev x e).bind fun (h, e) => match boolH h with
    | some true => evAnd (y :: r) e
    | some false => .ok (.p (.bl false), e)
    | none => .er
def evOr : List CE → Env → Res (Hd × Env)
  | [], _ => .er
  | [x], e => ev x e
  | x :: y :: r, e => (ev x e).bind fun (h, e) => match boolH h with
    | some false => evOr (y :: r) e
    | some true => .ok (.p (.bl true), e)
    | none => .er
def evO : Option CE → Env → Res (Option Int × Env)
  | none, e => .ok (none, e)
  | some x, e => (ev x e).bind fun (h, e) => match h with
    | .p (.int i) => .ok (some i, e)
    | _ => .er
def evC : List CE → Env → Res (Bool × Env)
  | [], e => .ok (true, e)
  | x :: xs, e => (ev x e).bind fun (h, e) => match boolH h with
    | some true => evC xs e
    | some false => .ok (false, e)
    | none => .er
def evSr : Sr → Env → Res (List D × Bool × Env)
  | .seq x, e => (ev x e).bind fun (h, e) => match h.get e with
    | some o => match o.walk with
      | some (_, ds) => .ok (ds, h.isTr, e)
      | none => .er
    | none => .er
  | .rng as, e => (evs as e).bind fun (hs, e) => match allSome (hs.map Hd.val) with
    | some os => match (leafs os).bind rngOf with
      | some ds => .ok (ds, false, e)
      | none => .er
    | none => .er
  | .enum x, e => (ev x e).bind fun (h, e) => match h.get e with
    | some o => match o.items with
      | some (false, ds) => .ok (numd 0 ds, h.isTr, e)
      | _ => .er
    | none => .er
end

mutual
def Tg.bindO : Tg → O → Env → Option Env
  | .v i, o, e => setS e i o
  | .tup ts, .fr (.tup ds), e => bindL ts ds e
  | .tup ts, .ot os, e => bindOL ts os e
  | _, _, _ => none
def bindOL : List Tg → List O → Env → Option Env
  | [], [], e => some e
  | t :: ts, o :: os, e => (t.bindO o e).bind (bindOL ts os)
  | _, _, _ => none
end
mutual
def evS : CS → Env → Res (Fl × Env)
  | .expr x, e => (ev cal x e).bind fun (_, e) => .ok (.next, e)
  | .set i x, e => (ev cal x e).bind fun (h, e) => match h.val with
    | some o => match setS e i o with
      | some e => .ok (.next, e)
      | none => .er
    | none => .er
  | .par i j a b, e => (ev cal a e).bind fun (ha, e) => (ev cal b e).bind fun (hb, e) => match ha.val, hb.val with
    | some x, some y => match (setS e i x).bind fun e => setS e j y with
      | some e => .ok (.next, e)
      | none => .er
    | _, _ => .er
  | .unp t x, e => (ev cal x e).bind fun (h, e) => match h.val with
    | some o => match t.bindO o e with
      | some e => .ok (.next, e)
      | none => .er
    | none => .er
  | .seti i pr ix x, e => (ev cal x e).bind fun (h, e) => match h.val, (e[i]?).join with
    | some o, some _ => match pr with
      | none => (ev cal ix e).bind fun (hi, e) => match hi, (e[i]?).join with
        | .p k, some a => match (setAt a k o).bind fun a => setS e i a with
          | some e => .ok (.next, e)
          | none => .er
        | _, _ => .er
      | some p => (ev cal p e).bind fun (hp, e) => match hp, (e[i]?).join with
        | .p (.int pk), some (.ol xs) => match atI xs pk with
          | some b => (ev cal ix e).bind fun (hi, e) => if ix.quiet then match hi with
              | .p k => match ((setAt b k o).bind fun b => setAt (.ol xs) (.int pk) b).bind fun a => setS e i a with
                | some e => .ok (.next, e)
                | none => .er
              | _ => .er
            else .er
          | none => .er
        | _, _ => .er
    | _, _ => .er
  | .augi i op ix x, e => match (e[i]?).join with
    | some _ => (ev cal ix e).bind fun (hi, e) => match hi, (e[i]?).join with
      | .p (.int k), some (.ol xs) => match atI xs k with
        | some (.fr (.int old)) => (ev cal x e).bind fun (h, e) => match h, (e[i]?).join with
          | .p (.int d), some (.ol ys) => match op with
            | .Add => match (setAt (.ol ys) (.int k) (.fr (.int (old + d)))).bind fun a => setS e i a with
              | some e => .ok (.next, e)
              | none => .er
            | .Sub => match (setAt (.ol ys) (.int k) (.fr (.int (old - d)))).bind fun a => setS e i a with
              | some e => .ok (.next, e)
              | none => .er
            | _ => .er
          | _, _ => .er
        | _ => .er
      | _, _ => .er
    | none => .er
  | .aug i op x, e => match (e[i]?).join with
    | some (.fr (.int a)) => (ev cal x e).bind fun (h, e) => match h with
      | .p (.int b) => match op with
        | .Add => match setS e i (.fr (.int (a + b))) with
          | some e => .ok (.next, e)
          | none => .er
        | .Sub => match setS e i (.fr (.int (a - b))) with
          | some e => .ok (.next, e)
          | none => .er
        | _ => .er
      | _ => .er
    | _ => .er
  | .if_ c a b, e => (ev cal c e).bind fun (h, e) => match boolH h with
    | some true => evSs a e
    | some false => evSs b e
    | none => .er
  | .while_ c b, e => whL (fun e => (ev cal c e).bind fun (h, e) => match boolH h with
      | some k => .ok (k, e)
      | none => .er) (fun e => evSs b e) W e
  | .for_ t s b, e => (evSr cal s e).bind fun (ds, tr, e) => if tr then .er else forL (fun d e => match t.bind d e with
      | some e => evSs b e
      | none => .er) ds e
  | .ret x, e => (ev cal x e).bind fun (h, e) => match h.val with
    | some o => .ok (.ret o, e)
    | none => .er
  | .brk, e => .ok (.brk, e)
  | .cont, e => .ok (.cont, e)
  | .pass, e => .ok (.next, e)
  | .never, _ => .er
def evSs : List CS → Env → Res (Fl × Env)
  | [], e => .ok (.next, e)
  | s :: ss, e => (evS s e).bind fun (fl, e) => match fl with
    | .next => evSs ss e
    | fl => .ok (fl, e)
end
end

/-- a def: how many parameters, how many slots, which parameters it may change, its body -/
structure Fn where
  np : Nat
  ns : Nat
  io : List Nat
  body : List CS
def outsOf (e : Env) (io : List Nat) : Option (List O) := allSome (io.map fun i => (e[i]?).join)
def runB (cal : Nat → List O → CRes) (W : Nat) (f : Fn) (os : List O) : CRes :=
  if os.length == f.np then
    match evSs cal W f.body (os.map some ++ List.replicate (f.ns - f.np) none) with
    | .ok (.next, e) => match outsOf e f.io with
      | some outs => .ok (.fr .non) outs
      | none => .er
    | .ok (.ret o, e) => match outsOf e f.io with
      | some outs => .ok o outs
      | none => .er
    | .ex c d e => match outsOf e f.io with
      | some outs => .ex c d outs
      | none => .er
    | _ => .er
  else .er
def run (P : List Fn) (W : Nat) : Nat → Nat → List O → CRes
  | 0, _, _ => .er
  | k + 1, f, os => match P[f]? with
    | some fn => runB (run P W k) W fn os
    | none => .er
end Cr
end

section
/-! What stands in the heap for a tree. -/
namespace Cr
open PySem L2

abbrev Sub (F F' : Hp) : Prop := ∀ a u, F a = some u → F' a = some u
theorem Sub.refl (F : Hp) : Sub F F := fun _ _ h => h
theorem Sub.trans {F F1 F2 : Hp} (h : Sub F F1) (h1 : Sub F1 F2) : Sub F F2 := fun a u e => h1 a u (h a u e)
/-- what stands still is there; a dict may be locked -/
def Le (F H : Hp) : Prop := ∀ a u, F a = some u → H a = some u ∨ ((∃ kvs, u = .dK kvs) ∧ ∃ o, H a = some (.frz o u))

section
variable (C : Nat → Addr) (K : PySem.W.Frag)
mutual
def RepS (F : Hp) : D → V → Prop
  | .non, v => v = .non
  | .bl b, v => v = .bl b
  | .int i, v => v = .int i
  | .str s, v => v = .str s ∧ s.length ≤ sizeLine ∧ PyData.canLay0 (.str s) = true
  | .tup l, v => ∃ a vs, v = .ref a ∧ SqT K F a vs ∧ RepSL F l vs
  | .lst l, v => ∃ a vs, v = .ref a ∧ F a = some (.lst vs) ∧ RepSL F l vs
  | .dic l, v => ∃ a kvs, v = .ref a ∧ Rd F a (.dK kvs) ∧ RepSK F l kvs
  | .ins c l, v => ∃ a dx fs, v = .ref a ∧ F a = some (.ins (C c) dx fs) ∧ RepSF F l fs
  | .scr l, v => ∃ a, v = .ref a ∧ SqL K F a (l.map V.int)
  | .bad, _ => True
def RepSL (F : Hp) : List D → List V → Prop
  | [], vs => vs = []
  | d :: l, vs => ∃ v r, vs = v :: r ∧ RepS F d v ∧ RepSL F l r
def RepSK (F : Hp) : List (Key × D) → List (Key × V) → Prop
  | [], vs => vs = []
  | (k, d) :: l, vs => ∃ v r, vs = (k, v) :: r ∧ RepS F d v ∧ RepSK F l r
def RepSF (F : Hp) : List (Str × D) → List (Str × V) → Prop
  | [], vs => vs = []
  | (k, d) :: l, vs => ∃ v r, vs = (k, v) :: r ∧ RepS F d v ∧ RepSF F l r
end
mutual
def RepO (F H : Hp) : O → V → List Addr → Prop
  | .fr d, v, l => l = [] ∧ RepS C K F d v
  | .ol os, v, l => ∃ a vs r, v = .ref a ∧ H a = some (.lst vs) ∧ RepOL F H os vs r ∧ l = a :: r
  | .ot os, v, l => ∃ a vs, v = .ref a ∧ F a = some (.tup vs) ∧ RepOL F H os vs l
  | .od os, v, l => ∃ a kvs r, v = .ref a ∧ H a = some (.dK kvs) ∧ RepOK F H os kvs r ∧ l = a :: r
  | .oi c os, v, l => ∃ a dx fs r, v = .ref a ∧ H a = some (.ins (C c) dx fs) ∧ RepOF F H os fs r ∧ l = a :: r
def RepOL (F H : Hp) : List O → List V → List Addr → Prop
  | [], vs, l => vs = [] ∧ l = []
  | o :: os, vs, l => ∃ v r l1 l2, vs = v :: r ∧ RepO F H o v l1 ∧ RepOL F H os r l2 ∧ l = l1 ++ l2
def RepOK (F H : Hp) : List (Key × O) → List (Key × V) → List Addr → Prop
  | [], vs, l => vs = [] ∧ l = []
  | (k, o) :: os, vs, l => ∃ v r l1 l2, vs = (k, v) :: r ∧ RepO F H o v l1 ∧ RepOK F H os r l2 ∧ l = l1 ++ l2
def RepOF (F H : Hp) : List (Str × O) → List (Str × V) → List Addr → Prop
  | [], vs, l => vs = [] ∧ l = []
  | (k, o) :: os, vs, l => ∃ v r l1 l2, vs = (k, v) :: r ∧ RepO F H o v l1 ∧ RepOF F H os r l2 ∧ l = l1 ++ l2
end
def RepE (F H : Hp) : Env → St → List Addr → Prop
  | [], σ, L => σ = [] ∧ L = []
  | none :: e, σ, L => ∃ x r, σ = x :: r ∧ RepE F H e r L
  | some o :: e, σ, L => ∃ v r l1 l2, σ = some v :: r ∧ RepO C K F H o v l1 ∧ RepE F H e r l2 ∧ L = l1 ++ l2
end

section
variable {C : Nat → Addr} {K : PySem.W.Frag} {F F' H H' : Hp}
theorem Sub.le (h : Sub F F') : Le F F' := fun a u e => .inl (h a u e)
theorem Le.refl (F : Hp) : Le F F := (Sub.refl F).le
theorem Le.at {u : HO} (h : Le F F') {a : Addr} (e : F a = some u) (n : ∀ kvs, u ≠ .dK kvs) : F' a = some u := by
  rcases h a u e with q | ⟨⟨kvs, q⟩, _⟩
  · exact q
  · exact absurd q (n kvs)
theorem Rd.le (h : Le F F') {a : Addr} {u : HO} (r : Rd F a u) : Rd F' a u := by
  rcases r with r | ⟨o, r⟩
  · rcases h _ _ r with q | ⟨_, o, q⟩
    · exact .inl q
    · exact .inr ⟨o, q⟩
  · exact .inr ⟨o, h.at r (fun kvs z => by cases z)⟩
theorem SqL.le (h : Le F F') {a : Addr} {xs : List V} (r : SqL K F a xs) : SqL K F' a xs := by
  rcases r with r | r
  · exact .inl (Rd.le h r)
  · exact .inr r
theorem SqT.le (h : Le F F') {a : Addr} {xs : List V} (r : SqT K F a xs) : SqT K F' a xs := by
  rcases r with r | r
  · exact .inl (Rd.le h r)
  · exact .inr r
mutual
theorem RepS.le (h : Le F F') : ∀ (d : D) (v : V), RepS C K F d v → RepS C K F' d v
  | .non, _, r => by simpa [RepS] using r
  | .bl _, _, r => by simpa [RepS] using r
  | .int _, _, r => by simpa [RepS] using r
  | .str _, _, r => by simpa [RepS] using r
  | .tup l, v, r => by
    simp only [RepS] at r ⊢
    obtain ⟨a, vs, e, q, t⟩ := r
    exact ⟨a, vs, e, SqT.le h q, RepSL.le h l vs t⟩
  | .lst l, v, r => by
    simp only [RepS] at r ⊢
    obtain ⟨a, vs, e, q, t⟩ := r
    exact ⟨a, vs, e, h.at q (fun kvs z => by cases z), RepSL.le h l vs t⟩
  | .dic l, v, r => by
    simp only [RepS] at r ⊢
    obtain ⟨a, vs, e, q, t⟩ := r
    exact ⟨a, vs, e, Rd.le h q, RepSK.le h l vs t⟩
  | .ins c l, v, r => by
    simp only [RepS] at r ⊢
    obtain ⟨a, dx, vs, e, q, t⟩ := r
    exact ⟨a, dx, vs, e, h.at q (fun kvs z => by cases z), RepSF.le h l vs t⟩
  | .scr l, v, r => by
    simp only [RepS] at r ⊢
    obtain ⟨a, e, q⟩ := r
    exact ⟨a, e, SqL.le h q⟩
  | .bad, _, _ => by simp [RepS]
theorem RepSL.le (h : Le F F') : ∀ (l : List D) (vs : List V), RepSL C K F l vs → RepSL C K F' l vs
  | [], _, r => by simpa [RepSL] using r
  | d :: l, vs, r => by
    simp only [RepSL] at r ⊢
    obtain ⟨v, s, e, q, t⟩ := r
    exact ⟨v, s, e, RepS.le h d v q, RepSL.le h l s t⟩
theorem RepSK.le (h : Le F F') : ∀ (l : List (Key × D)) (vs : List (Key × V)), RepSK C K F l vs → RepSK C K F' l vs
  | [], _, r => by simpa [RepSK] using r
  | (k, d) :: l, vs, r => by
    simp only [RepSK] at r ⊢
    obtain ⟨v, s, e, q, t⟩ := r
    exact ⟨v, s, e, RepS.le h d v q, RepSK.le h l s t⟩
theorem RepSF.le (h : Le F F') : ∀ (l : List (Str × D)) (vs : List (Str × V)), RepSF C K F l vs → RepSF C K F' l vs
  | [], _, r => by simpa [RepSF] using r
  | (k, d) :: l, vs, r => by
    simp only [RepSF] at r ⊢
    obtain ⟨v, s, e, q, t⟩ := r
    exact ⟨v, s, e, RepS.le h d v q, RepSF.le h l s t⟩
end
mutual
theorem RepO.keep (h : Le F F') : ∀ (o : O) (v : V) (l : List Addr), (∀ a ∈ l, H' a = H a) → RepO C K F H o v l → RepO C K F' H' o v l
  | .fr d, v, l, k, r => by
    simp only [RepO] at r ⊢
    exact ⟨r.1, RepS.le h d v r.2⟩
  | .ol os, v, l, k, r => by
    simp only [RepO] at r ⊢
    obtain ⟨a, vs, r', e, q, t, rfl⟩ := r
    exact ⟨a, vs, r', e, by rw [k a (by simp)]; exact q, RepOL.keep h os vs r' (fun b hb => k b (by simp [hb])) t, rfl⟩
  | .ot os, v, l, k, r => by
    simp only [RepO] at r ⊢
    obtain ⟨a, vs, e, q, t⟩ := r
    exact ⟨a, vs, e, h.at q (fun kvs z => by cases z), RepOL.keep h os vs l k t⟩
  | .od os, v, l, k, r => by
    simp only [RepO] at r ⊢
    obtain ⟨a, vs, r', e, q, t, rfl⟩ := r
    exact ⟨a, vs, r', e, by rw [k a (by simp)]; exact q, RepOK.keep h os vs r' (fun b hb => k b (by simp [hb])) t, rfl⟩
  | .oi c os, v, l, k, r => by
    simp only [RepO] at r ⊢
    obtain ⟨a, dx, vs, r', e, q, t, rfl⟩ := r
    exact ⟨a, dx, vs, r', e, by rw [k a (by simp)]; exact q, RepOF.keep h os vs r' (fun b hb => k b (by simp [hb])) t, rfl⟩
theorem RepOL.keep (h : Le F F') : ∀ (os : List O) (vs : List V) (l : List Addr), (∀ a ∈ l, H' a = H a) → RepOL C K F H os vs l → RepOL C K F' H' os vs l
  | [], _, _, _, r => by simpa [RepOL] using r
  | o :: os, vs, l, k, r => by
    simp only [RepOL] at r ⊢
    obtain ⟨v, s, l1, l2, e, q, t, rfl⟩ := r
    exact ⟨v, s, l1, l2, e, RepO.keep h o v l1 (fun a ha => k a (by simp [ha])) q, RepOL.keep h os s l2 (fun a ha => k a (by simp [ha])) t, rfl⟩
theorem RepOK.keep (h : Le F F') : ∀ (os : List (Key × O)) (vs : List (Key × V)) (l : List Addr), (∀ a ∈ l, H' a = H a) → RepOK C K F H os vs l → RepOK C K F' H' os vs l
  | [], _, _, _, r => by simpa [RepOK] using r
  | (k0, o) :: os, vs, l, k, r => by
    simp only [RepOK] at r ⊢
    obtain ⟨v, s, l1, l2, e, q, t, rfl⟩ := r
    exact ⟨v, s, l1, l2, e, RepO.keep h o v l1 (fun a ha => k a (by simp [ha])) q, RepOK.keep h os s l2 (fun a ha => k a (by simp [ha])) t, rfl⟩
theorem RepOF.keep (h : Le F F') : ∀ (os : List (Str × O)) (vs : List (Str × V)) (l : List Addr), (∀ a ∈ l, H' a = H a) → RepOF C K F H os vs l → RepOF C K F' H' os vs l
  | [], _, _, _, r => by simpa [RepOF] using r
  | (k0, o) :: os, vs, l, k, r => by
    simp only [RepOF] at r ⊢
    obtain ⟨v, s, l1, l2, e, q, t, rfl⟩ := r
    exact ⟨v, s, l1, l2, e, RepO.keep h o v l1 (fun a ha => k a (by simp [ha])) q, RepOF.keep h os s l2 (fun a ha => k a (by simp [ha])) t, rfl⟩
end
mutual

theorem RepO.frz (h : Le F F') : ∀ (o : O) (v : V) (l : List Addr), (∀ a ∈ l, F' a = H a) → RepO C K F H o v l → RepS C K F' o.frz v
  | .fr d, v, l, k, r => by
    simp only [RepO] at r
    simp only [O.frz]
    exact RepS.le h d v r.2
  | .ol os, v, l, k, r => by
    simp only [RepO] at r
    simp only [O.frz, RepS]
    obtain ⟨a, vs, r', e, q, t, rfl⟩ := r
    exact ⟨a, vs, e, (by rw [k a (by simp)]; exact q), RepOL.frz h os vs r' (fun b hb => k b (by simp [hb])) t⟩
  | .ot os, v, l, k, r => by
    simp only [RepO] at r
    simp only [O.frz, RepS]
    obtain ⟨a, vs, e, q, t⟩ := r
    exact ⟨a, vs, e, .inl (.inl (h.at q (fun kvs z => by cases z))), RepOL.frz h os vs l k t⟩
  | .od os, v, l, k, r => by
    simp only [RepO] at r
    simp only [O.frz, RepS]
    obtain ⟨a, vs, r', e, q, t, rfl⟩ := r
    exact ⟨a, vs, e, .inl (by rw [k a (by simp)]; exact q), RepOK.frz h os vs r' (fun b hb => k b (by simp [hb])) t⟩
  | .oi c os, v, l, k, r => by
    simp only [RepO] at r
    simp only [O.frz, RepS]
    obtain ⟨a, dx, vs, r', e, q, t, rfl⟩ := r
    exact ⟨a, dx, vs, e, (by rw [k a (by simp)]; exact q), RepOF.frz h os vs r' (fun b hb => k b (by simp [hb])) t⟩
theorem RepOL.frz (h : Le F F') : ∀ (os : List O) (vs : List V) (l : List Addr), (∀ a ∈ l, F' a = H a) → RepOL C K F H os vs l → RepSL C K F' (frzL os) vs
  | [], _, _, _, r => by
    simp only [RepOL] at r
    simpa [RepSL, frzL] using r.1
  | o :: os, vs, l, k, r => by
    simp only [RepOL] at r
    simp only [frzL, RepSL]
    obtain ⟨v, s, l1, l2, e, q, t, rfl⟩ := r
    exact ⟨v, s, e, RepO.frz h o v l1 (fun a ha => k a (by simp [ha])) q, RepOL.frz h os s l2 (fun a ha => k a (by simp [ha])) t⟩
theorem RepOK.frz (h : Le F F') : ∀ (os : List (Key × O)) (vs : List (Key × V)) (l : List Addr), (∀ a ∈ l, F' a = H a) → RepOK C K F H os vs l → RepSK C K F' (frzK os) vs
  | [], _, _, _, r => by
    simp only [RepOK] at r
    simpa [RepSK, frzK] using r.1
  | (k0, o) :: os, vs, l, k, r => by
    simp only [RepOK] at r
    simp only [frzK, RepSK]
    obtain ⟨v, s, l1, l2, e, q, t, rfl⟩ := r
    exact ⟨v, s, e, RepO.frz h o v l1 (fun a ha => k a (by simp [ha])) q, RepOK.frz h os s l2 (fun a ha => k a (by simp [ha])) t⟩
theorem RepOF.frz (h : Le F F') : ∀ (os : List (Str × O)) (vs : List (Str × V)) (l : List Addr), (∀ a ∈ l, F' a = H a) → RepOF C K F H os vs l → RepSF C K F' (frzF os) vs
  | [], _, _, _, r => by
    simp only [RepOF] at r
    simpa [RepSF, frzF] using r.1
  | (k0, o) :: os, vs, l, k, r => by
    simp only [RepOF] at r
    simp only [frzF, RepSF]
    obtain ⟨v, s, l1, l2, e, q, t, rfl⟩ := r
    exact ⟨v, s, e, RepO.frz h o v l1 (fun a ha => k a (by simp [ha])) q, RepOF.frz h os s l2 (fun a ha => k a (by simp [ha])) t⟩
end

def Own : Option HO → Prop
  | some (.lst _) => True
  | some (.dK _) => True
  | some (.ins _ _ _) => True
  | _ => False
mutual
theorem RepO.own : ∀ (o : O) (v : V) (l : List Addr), RepO C K F H o v l → ∀ a ∈ l, Own (H a)
  | .fr d, v, l, r => by
    simp only [RepO] at r
    intro a ha; rw [r.1] at ha; simp at ha
  | .ol os, v, l, r => by
    simp only [RepO] at r
    obtain ⟨a, vs, r', e, q, t, rfl⟩ := r
    intro b hb
    rcases List.mem_cons.mp hb with rfl | hb
    · rw [q]; trivial
    · exact RepOL.own os vs r' t b hb
  | .ot os, v, l, r => by
    simp only [RepO] at r
    obtain ⟨a, vs, e, q, t⟩ := r
    exact RepOL.own os vs l t
  | .od os, v, l, r => by
    simp only [RepO] at r
    obtain ⟨a, vs, r', e, q, t, rfl⟩ := r
    intro b hb
    rcases List.mem_cons.mp hb with rfl | hb
    · rw [q]; trivial
    · exact RepOK.own os vs r' t b hb
  | .oi c os, v, l, r => by
    simp only [RepO] at r
    obtain ⟨a, dx, vs, r', e, q, t, rfl⟩ := r
    intro b hb
    rcases List.mem_cons.mp hb with rfl | hb
    · rw [q]; trivial
    · exact RepOF.own os vs r' t b hb
theorem RepOL.own : ∀ (os : List O) (vs : List V) (l : List Addr), RepOL C K F H os vs l → ∀ a ∈ l, Own (H a)
  | [], _, _, r => by
    simp only [RepOL] at r
    intro a ha; rw [r.2] at ha; simp at ha
  | o :: os, vs, l, r => by
    simp only [RepOL] at r
    obtain ⟨v, s, l1, l2, e, q, t, rfl⟩ := r
    intro b hb
    rcases List.mem_append.mp hb with hb | hb
    · exact RepO.own o v l1 q b hb
    · exact RepOL.own os s l2 t b hb
theorem RepOK.own : ∀ (os : List (Key × O)) (vs : List (Key × V)) (l : List Addr), RepOK C K F H os vs l → ∀ a ∈ l, Own (H a)
  | [], _, _, r => by
    simp only [RepOK] at r
    intro a ha; rw [r.2] at ha; simp at ha
  | (k0, o) :: os, vs, l, r => by
    simp only [RepOK] at r
    obtain ⟨v, s, l1, l2, e, q, t, rfl⟩ := r
    intro b hb
    rcases List.mem_append.mp hb with hb | hb
    · exact RepO.own o v l1 q b hb
    · exact RepOK.own os s l2 t b hb
theorem RepOF.own : ∀ (os : List (Str × O)) (vs : List (Str × V)) (l : List Addr), RepOF C K F H os vs l → ∀ a ∈ l, Own (H a)
  | [], _, _, r => by
    simp only [RepOF] at r
    intro a ha; rw [r.2] at ha; simp at ha
  | (k0, o) :: os, vs, l, r => by
    simp only [RepOF] at r
    obtain ⟨v, s, l1, l2, e, q, t, rfl⟩ := r
    intro b hb
    rcases List.mem_append.mp hb with hb | hb
    · exact RepO.own o v l1 q b hb
    · exact RepOF.own os s l2 t b hb
end

theorem RepO.there {o : O} {v : V} {l : List Addr} (r : RepO C K F H o v l) : ∀ a ∈ l, H a ≠ none := fun a ha z => by
  have := RepO.own o v l r a ha
  rw [z] at this; exact this
end
end Cr
end

section
/-! The state between the heap and the slots. -/
namespace Cr
open PySem L2

section
variable (C : Nat → Addr) (K : PySem.W.Frag)
/-- F: what stands still; L: what the slots own; R: what others own -/
structure SR (F H : Hp) (σ : St) (env : Env) (L R : List Addr) : Prop where
  le : Le F H
  rep : RepE C K F H env σ L
  nd : (L ++ R).Nodup
  fn : ∀ a ∈ L ++ R, F a = none ∧ H a ≠ none
/-- a step that only makes new things, T2 owned -/
structure New (F H F' H' : Hp) (T : List Addr) : Prop where
  fe : Sub F F'
  le : Le F' H'
  same : ∀ a, H a ≠ none → H' a = H a
  fresh : ∀ a ∈ T, H a = none ∧ F' a = none ∧ H' a ≠ none
  nd : T.Nodup
  nf : ∀ a, H a ≠ none → F a = none → F' a = none
/-- an operand's value; T: what it owns -/
def HX (F H : Hp) (σ : St) (L T : List Addr) : Hd → V → Prop
  | .p d, v => T = [] ∧ RepS C K F d v
  | .t o, v => RepO C K F H o v T
  | .n i, v => T = [] ∧ σ[i]? = some (some v)
  | .io i, v => T = [] ∧ σ[i]? = some (some v)
  | .q o, v => T = [] ∧ ∃ l, (∀ a ∈ l, a ∈ L) ∧ RepO C K F H o v l
/-- behind a step -/
structure Pst (F H : Hp) (σ : St) (env : Env) (L R : List Addr) (F' H' : Hp) (env' : Env) (L' T : List Addr) (q : Bool) : Prop where
  sr : SR C K F' H' σ env' L' (T ++ R)
  fe : Sub F F'
  kp : ∀ a, (F a ≠ none ∨ a ∈ R) → H' a = H a
  qt : q = true → env' = env ∧ L' = L ∧ ∀ a ∈ L, H' a = H a
abbrev XP := Nat → D → Hp → Prop
/-- what an evaluation asks of what is wanted -/
def Out (XE : XP) (F H : Hp) (σ : St) (env : Env) (L R : List Addr) (q : Bool) (res : Res (Hd × Env)) (Q : VK) : Prop := match res with
  | .ok (h, env') => ∀ v F' H' L' T, Pst C K F H σ env L R F' H' env' L' T q → HX C K F' H' σ L' T h v → Q v H'
  | .ex c d env' => ∀ F' H' L', Pst C K F H σ env L R F' H' env' L' [] false → XE c d H'
  | .er => False
end

section
variable {C : Nat → Addr} {K : PySem.W.Frag} {F F' F1 F2 H H' H1 H2 : Hp} {σ : St} {env env1 env2 : Env} {L L1 L2 R T T1 T2 : List Addr} {q q1 q2 : Bool}

theorem RepE.len : ∀ {env : Env} {σ : St} {L : List Addr}, RepE C K F H env σ L → σ.length = env.length
  | [], σ, L, r => by
    simp only [RepE] at r
    simp [r.1]
  | none :: e, σ, L, r => by
    simp only [RepE] at r
    obtain ⟨x, s, rfl, t⟩ := r
    simp [RepE.len t]
  | some o :: e, σ, L, r => by
    simp only [RepE] at r
    obtain ⟨v, s, l1, l2, rfl, _, t, rfl⟩ := r
    simp [RepE.len t]
theorem RepE.keep (h : Le F F') : ∀ {env : Env} {σ : St} {L : List Addr}, (∀ a ∈ L, H' a = H a) → RepE C K F H env σ L → RepE C K F' H' env σ L
  | [], σ, L, k, r => by simpa [RepE] using r
  | none :: e, σ, L, k, r => by
    simp only [RepE] at r ⊢
    obtain ⟨x, s, e1, t⟩ := r
    exact ⟨x, s, e1, RepE.keep h k t⟩
  | some o :: e, σ, L, k, r => by
    simp only [RepE] at r ⊢
    obtain ⟨v, s, l1, l2, e1, q, t, rfl⟩ := r
    exact ⟨v, s, l1, l2, e1, RepO.keep h o v l1 (fun a ha => k a (by simp [ha])) q, RepE.keep h (fun a ha => k a (by simp [ha])) t, rfl⟩
theorem RepE.own : ∀ {env : Env} {σ : St} {L : List Addr}, RepE C K F H env σ L → ∀ a ∈ L, Own (H a)
  | [], σ, L, r => by
    simp only [RepE] at r
    intro a ha; rw [r.2] at ha; simp at ha
  | none :: e, σ, L, r => by
    simp only [RepE] at r
    obtain ⟨x, s, e1, t⟩ := r
    exact RepE.own t
  | some o :: e, σ, L, r => by
    simp only [RepE] at r
    obtain ⟨v, s, l1, l2, e1, q, t, rfl⟩ := r
    intro b hb
    rcases List.mem_append.mp hb with hb | hb
    · exact RepO.own o v l1 q b hb
    · exact RepE.own t b hb
/-- one slot, what it owns, and what may be put in its place -/
structure Cut (C : Nat → Addr) (K : PySem.W.Frag) (F H : Hp) (env : Env) (σ : St) (L : List Addr) (i : Nat) (La l Lb : List Addr) : Prop where
  eq : L = La ++ (l ++ Lb)
  non : env[i]? = some none → l = []
  at_ : ∀ o, env[i]? = some (some o) → ∃ v, σ[i]? = some (some v) ∧ RepO C K F H o v l
  put : ∀ (F' H' : Hp) (o : O) (v : V) (l' : List Addr), Le F F' → (∀ a ∈ La ++ Lb, H' a = H a) → RepO C K F' H' o v l' → RepE C K F' H' (env.set i (some o)) (σ.set i (some v)) (La ++ (l' ++ Lb))
  del : ∀ (F' H' : Hp), Le F F' → (∀ a ∈ La ++ Lb, H' a = H a) → RepE C K F' H' (env.set i none) σ (La ++ Lb)
theorem RepE.cut : ∀ {env : Env} {σ : St} {L : List Addr} {i : Nat}, RepE C K F H env σ L → i < env.length → ∃ La l Lb, Cut C K F H env σ L i La l Lb
  | [], σ, L, i, r, h => absurd h (by simp)
  | none :: e, σ, L, 0, r, h => by
    simp only [RepE] at r
    obtain ⟨x, s, rfl, t⟩ := r
    refine ⟨[], [], L, rfl, fun _ => rfl, fun o z => by simp at z, fun F' H' o v l' le k ro => ?_, fun F' H' le k => ?_⟩
    · simp only [List.set_cons_zero, RepE]
      exact ⟨v, s, l', L, rfl, ro, RepE.keep le (fun a ha => k a (by simpa using ha)) t, rfl⟩
    · simp only [List.set_cons_zero, RepE]
      exact ⟨x, s, rfl, RepE.keep le (fun a ha => k a (by simpa using ha)) t⟩
  | some o :: e, σ, L, 0, r, h => by
    simp only [RepE] at r
    obtain ⟨v, s, l1, l2, rfl, ro, t, rfl⟩ := r
    refine ⟨[], l1, l2, rfl, fun z => by simp at z, fun o' z => ?_, fun F' H' o' v' l' le k ro' => ?_, fun F' H' le k => ?_⟩
    · simp only [List.getElem?_cons_zero, Option.some.injEq] at z
      subst z
      exact ⟨v, rfl, ro⟩
    · simp only [List.set_cons_zero, RepE]
      exact ⟨v', s, l', l2, rfl, ro', RepE.keep le (fun a ha => k a (by simpa using ha)) t, rfl⟩
    · simp only [List.set_cons_zero, RepE]
      exact ⟨_, s, rfl, RepE.keep le (fun a ha => k a (by simpa using ha)) t⟩
  | none :: e, σ, L, i + 1, r, h => by
    simp only [RepE] at r
    obtain ⟨x, s, rfl, t⟩ := r
    obtain ⟨La, l, Lb, c⟩ := RepE.cut (i := i) t (by simpa using h)
    refine ⟨La, l, Lb, c.eq, fun z => c.non (by simpa using z), fun o z => ?_, fun F' H' o v l' le k ro => ?_, fun F' H' le k => ?_⟩
    · obtain ⟨v, hv, ro⟩ := c.at_ o (by simpa using z)
      exact ⟨v, by simpa using hv, ro⟩
    · simp only [List.set_cons_succ, RepE]
      exact ⟨x, _, rfl, c.put F' H' o v l' le k ro⟩
    · simp only [List.set_cons_succ, RepE]
      exact ⟨x, _, rfl, c.del F' H' le k⟩
  | some o :: e, σ, L, i + 1, r, h => by
    simp only [RepE] at r
    obtain ⟨v, s, l1, l2, rfl, ro, t, rfl⟩ := r
    obtain ⟨La, l, Lb, c⟩ := RepE.cut (i := i) t (by simpa using h)
    refine ⟨l1 ++ La, l, Lb, by rw [c.eq]; simp, fun z => c.non (by simpa using z), fun o' z => ?_, fun F' H' o' v' l' le k ro' => ?_, fun F' H' le k => ?_⟩
    · obtain ⟨v, hv, ro⟩ := c.at_ o' (by simpa using z)
      exact ⟨v, by simpa using hv, ro⟩
    · simp only [List.set_cons_succ, RepE]
      exact ⟨v, _, l1, _, rfl, RepO.keep le o v l1 (fun a ha => k a (by simp [ha])) ro, c.put F' H' o' v' l' le (fun a ha => k a (by simp only [List.append_assoc, List.mem_append] at ha ⊢; exact .inr ha)) ro', by simp⟩
    · simp only [List.set_cons_succ, RepE]
      exact ⟨v, _, l1, _, rfl, RepO.keep le o v l1 (fun a ha => k a (by simp [ha])) ro, c.del F' H' le (fun a ha => k a (by simp only [List.append_assoc, List.mem_append] at ha ⊢; exact .inr ha)), by simp⟩

theorem SR.len (s : SR C K F H σ env L R) : σ.length = env.length := s.rep.len
/-- others own less -/
theorem SR.less (s : SR C K F H σ env L R) (h : List.Sublist T R) : SR C K F H σ env L T :=
  ⟨s.le, s.rep, s.nd.sublist (List.Sublist.append_left h L), fun a ha => s.fn a (by
    rcases List.mem_append.mp ha with q | q
    · exact List.mem_append_left _ q
    · exact List.mem_append_right _ (h.subset q))⟩
theorem SR.cut (s : SR C K F H σ env L R) {i : Nat} (h : i < env.length) : ∃ La l Lb, Cut C K F H env σ L i La l Lb := s.rep.cut h
theorem New.refl (h : Le F H) : New F H F H [] := ⟨Sub.refl F, h, fun _ _ => rfl, fun _ z => by simp at z, List.nodup_nil, fun _ _ z => z⟩
theorem SR.new (s : SR C K F H σ env L R) (n : New F H F' H' T) : SR C K F' H' σ env L (T ++ R) := by
  refine ⟨n.le, RepE.keep n.fe.le (fun a ha => n.same a (s.fn a (List.mem_append_left _ ha)).2) s.rep, ?_, fun a ha => ?_⟩
  · have hd : ∀ a ∈ T, a ∉ L ++ R := fun a ha hb => (s.fn a hb).2 (n.fresh a ha).1
    have h1 : (T ++ (L ++ R)).Nodup := List.nodup_append.mpr ⟨n.nd, s.nd, fun a ha b hb e => hd a ha (e ▸ hb)⟩
    refine (List.Perm.nodup_iff ?_).mp h1
    rw [← List.append_assoc, ← List.append_assoc]
    exact List.Perm.append_right R List.perm_append_comm
  · rcases List.mem_append.mp ha with q | q
    · have := s.fn a (List.mem_append_left _ q)
      exact ⟨n.nf a this.2 this.1, by rw [n.same a this.2]; exact this.2⟩
    · rcases List.mem_append.mp q with q | q
      · exact ⟨(n.fresh a q).2.1, (n.fresh a q).2.2⟩
      · have := s.fn a (List.mem_append_right _ q)
        exact ⟨n.nf a this.2 this.1, by rw [n.same a this.2]; exact this.2⟩
theorem Pst.refl (s : SR C K F H σ env L R) : Pst C K F H σ env L R F H env L [] true := ⟨s, Sub.refl F, fun _ _ => rfl, fun _ => ⟨rfl, rfl, fun _ _ => rfl⟩⟩
theorem Pst.trans (p : Pst C K F H σ env L R F1 H1 env1 L1 T1 q1) (p2 : Pst C K F1 H1 σ env1 L1 (T1 ++ R) F2 H2 env2 L2 T2 q2) : Pst C K F H σ env L R F2 H2 env2 L2 (T2 ++ T1) (q1 && q2) := by
  refine ⟨by rw [List.append_assoc]; exact p2.sr, p.fe.trans p2.fe, fun a ha => ?_, fun hq => ?_⟩
  · rw [p2.kp a, p.kp a ha]
    rcases ha with ha | ha
    · left
      cases e : F a with
      | none => exact absurd e ha
      | some u => rw [p.fe a u e]; simp
    · right; simp [ha]
  · obtain ⟨h1, h2⟩ := (Bool.and_eq_true_iff).mp hq
    obtain ⟨a1, a2, a3⟩ := p.qt h1
    obtain ⟨b1, b2, b3⟩ := p2.qt h2
    exact ⟨b1.trans a1, b2.trans a2, fun a ha => by rw [b3 a (by rw [a2]; exact ha), a3 a ha]⟩
theorem Pst.less (p : Pst C K F H σ env L R F1 H1 env1 L1 T q) (h : List.Sublist T1 T) : Pst C K F H σ env L R F1 H1 env1 L1 T1 q :=
  ⟨p.sr.less (List.Sublist.append_right h R), p.fe, p.kp, p.qt⟩
theorem Pst.nil (p : Pst C K F H σ env L R F1 H1 env1 L1 T q) : Pst C K F H σ env L R F1 H1 env1 L1 [] q := p.less (List.nil_sublist _)
theorem Pst.qf (p : Pst C K F H σ env L R F1 H1 env1 L1 T q) : Pst C K F H σ env L R F1 H1 env1 L1 T false := ⟨p.sr, p.fe, p.kp, fun z => by cases z⟩
theorem Pst.q_of (p : Pst C K F H σ env L R F1 H1 env1 L1 T q) (h : q1 = true → q = true) : Pst C K F H σ env L R F1 H1 env1 L1 T q1 := ⟨p.sr, p.fe, p.kp, fun z => p.qt (h z)⟩
theorem Pst.new (p : Pst C K F H σ env L R F1 H1 env1 L1 T q) (n : New F1 H1 F2 H2 T2) : Pst C K F H σ env L R F2 H2 env1 L1 (T2 ++ T) q := by
  refine ⟨by rw [List.append_assoc]; exact p.sr.new n, p.fe.trans n.fe, fun a ha => ?_, fun hq => ?_⟩
  · have hn : H1 a ≠ none := by
      rcases ha with ha | ha
      · cases e : F a with
        | none => exact absurd e ha
        | some u => rcases p.sr.le a u (p.fe a u e) with z | ⟨_, o, z⟩ <;> rw [z] <;> simp
      · exact (p.sr.fn a (by simp [ha])).2
    rw [n.same a hn, p.kp a ha]
  · obtain ⟨a1, a2, a3⟩ := p.qt hq
    exact ⟨a1, a2, fun a ha => by rw [n.same a (p.sr.fn a (by rw [a2]; simp [ha])).2, a3 a ha]⟩
theorem Pst.newT (p : Pst C K F H σ env L R F1 H1 env1 L1 T q) (n : New F1 H1 F2 H2 T2) : Pst C K F H σ env L R F2 H2 env1 L1 T2 q := (p.new n).less (List.sublist_append_left _ _)
theorem HX.keep {h : Hd} {v : V} {L' : List Addr} (x : HX C K F H σ L T h v) (fe : Le F F') (k : ∀ a ∈ T, H' a = H a) (kq : h.isQ = true → L' = L ∧ ∀ a ∈ L, H' a = H a) : HX C K F' H' σ L' T h v := by
  cases h with
  | p d => exact ⟨x.1, RepS.le fe d v x.2⟩
  | t o => exact RepO.keep fe o v T k x
  | n i => exact x
  | io i => exact x
  | q o =>
    obtain ⟨e, l, hl, r⟩ := x
    obtain ⟨eL, kL⟩ := kq rfl
    exact ⟨e, l, by rw [eL]; exact hl, RepO.keep fe o v l (fun a ha => kL a (hl a ha)) r⟩
/-- an operand stays while a later one comes -/
theorem HX.next {h : Hd} {v : V} (x : HX C K F1 H1 σ L1 T1 h v) (p : Pst C K F1 H1 σ env1 L1 (T1 ++ R) F2 H2 env2 L2 T2 q) (hq : h.isQ = true → q = true) : HX C K F2 H2 σ L2 T1 h v :=
  x.keep p.fe.le (fun a ha => p.kp a (.inr (by simp [ha]))) fun z => (p.qt (hq z)).2
theorem getE {i : Nat} {o : O} (h : (env[i]?).join = some o) : env[i]? = some (some o) := by
  cases e : env[i]? with
  | none => rw [e] at h; cases h
  | some x =>
    rw [e] at h
    cases x with
    | none => cases h
    | some y => cases h; rfl
theorem SR.slot (s : SR C K F H σ env L R) {i : Nat} {o : O} (h : (env[i]?).join = some o) : ∃ v La l Lb, Cut C K F H env σ L i La l Lb ∧ σ[i]? = some (some v) ∧ RepO C K F H o v l := by
  have h1 := getE h
  obtain ⟨La, l, Lb, c⟩ := s.cut (List.getElem?_eq_some_iff.mp h1).1
  obtain ⟨v, hv, r⟩ := c.at_ o h1
  exact ⟨v, La, l, Lb, c, hv, r⟩
theorem Cut.mem {i : Nat} {La l Lb : List Addr} (c : Cut C K F H env σ L i La l Lb) : ∀ a ∈ l, a ∈ L := fun a ha => by
  rw [c.eq]; simp [ha]
/-- what an operand is -/
theorem HX.get {h : Hd} {v : V} {o : O} (x : HX C K F H σ L T h v) (s : SR C K F H σ env L R) (g : h.get env = some o) : ∃ l, RepO C K F H o v l ∧ ∀ a ∈ l, a ∈ L ∨ a ∈ T := by
  cases h with
  | p d =>
    cases g
    exact ⟨[], ⟨rfl, x.2⟩, fun a z => by simp at z⟩
  | t o' =>
    cases g
    exact ⟨T, x, fun a z => .inr z⟩
  | n i =>
    obtain ⟨v', La, l, Lb, c, hv, r⟩ := s.slot (show (env[i]?).join = some o from g)
    have e : v' = v := by
      have := hv.symm.trans x.2
      simpa using this
    subst e
    exact ⟨l, r, fun a z => .inl (c.mem a z)⟩
  | io i =>
    obtain ⟨v', La, l, Lb, c, hv, r⟩ := s.slot (show (env[i]?).join = some o from g)
    have e : v' = v := by
      have := hv.symm.trans x.2
      simpa using this
    subst e
    exact ⟨l, r, fun a z => .inl (c.mem a z)⟩
  | q o' =>
    cases g
    obtain ⟨_, l, hl, r⟩ := x
    exact ⟨l, r, fun a z => .inl (hl a z)⟩
/-- read off the heap -/
theorem RepO.read {o : O} {v : V} {l : List Addr} (le : Le F H) (r : RepO C K F H o v l) : RepS C K H o.frz v := RepO.frz le o v l (fun _ _ => rfl) r
end
end Cr
end

section
/-! Built-in operators on trees. -/
namespace Cr
open PySem L2

section
variable {C : Nat → Addr} {K : PySem.W.Frag} {F F' H H' : Hp}
theorem le_none (h : Le F H) {a : Addr} (n : H a = none) : F a = none := by
  cases e : F a with
  | none => rfl
  | some u =>
    rcases h a u e with q | ⟨_, o, q⟩
    · rw [n] at q; cases q
    · rw [n] at q; cases q
theorem RepSL.len : ∀ {ds : List D} {vs : List V}, RepSL C K F ds vs → vs.length = ds.length
  | [], vs, r => by simp only [RepSL] at r; simp [r]
  | d :: ds, vs, r => by
    simp only [RepSL] at r
    obtain ⟨v, s, rfl, _, t⟩ := r
    simp [RepSL.len t]
theorem RepSL.app : ∀ {ds es : List D} {vs ws : List V}, RepSL C K F ds vs → RepSL C K F es ws → RepSL C K F (ds ++ es) (vs ++ ws)
  | [], es, vs, ws, r, r2 => by simp only [RepSL] at r; simpa [r] using r2
  | d :: ds, es, vs, ws, r, r2 => by
    simp only [RepSL] at r
    obtain ⟨v, s, rfl, q, t⟩ := r
    simp only [List.cons_append, RepSL]
    exact ⟨v, s ++ ws, rfl, q, RepSL.app t r2⟩
theorem RepSL.nth : ∀ {ds : List D} {vs : List V} {i : Nat} {d : D}, RepSL C K F ds vs → ds[i]? = some d → ∃ v, vs[i]? = some v ∧ RepS C K F d v
  | [], vs, i, d, r, h => by simp at h
  | d0 :: ds, vs, 0, d, r, h => by
    simp only [RepSL] at r
    obtain ⟨v, s, rfl, q, t⟩ := r
    simp at h; subst h
    exact ⟨v, rfl, q⟩
  | d0 :: ds, vs, i + 1, d, r, h => by
    simp only [RepSL] at r
    obtain ⟨v, s, rfl, q, t⟩ := r
    obtain ⟨w, h1, h2⟩ := RepSL.nth (i := i) t (by simpa using h)
    exact ⟨w, by simpa using h1, h2⟩
theorem RepSL.drop : ∀ {ds : List D} {vs : List V} (n : Nat), RepSL C K F ds vs → RepSL C K F (ds.drop n) (vs.drop n)
  | ds, vs, 0, r => by simpa using r
  | [], vs, n + 1, r => by simp only [RepSL] at r; subst r; simp [RepSL]
  | d :: ds, vs, n + 1, r => by
    simp only [RepSL] at r
    obtain ⟨v, s, rfl, q, t⟩ := r
    simpa using RepSL.drop n t
theorem RepSL.take : ∀ {ds : List D} {vs : List V} (n : Nat), RepSL C K F ds vs → RepSL C K F (ds.take n) (vs.take n)
  | ds, vs, 0, r => by simp [RepSL]
  | [], vs, n + 1, r => by simp only [RepSL] at r; subst r; simp [RepSL]
  | d :: ds, vs, n + 1, r => by
    simp only [RepSL] at r
    obtain ⟨v, s, rfl, q, t⟩ := r
    simp only [List.take_succ_cons, RepSL]
    exact ⟨v, _, rfl, q, RepSL.take n t⟩
theorem RepSL.rep {ds : List D} {vs : List V} (r : RepSL C K F ds vs) : ∀ n : Nat, RepSL C K F (List.replicate n ds).flatten (List.replicate n vs).flatten
  | 0 => by simp [RepSL]
  | n + 1 => by
    simp only [List.replicate_succ, List.flatten_cons]
    exact r.app (RepSL.rep r n)
theorem RepSL.set : ∀ {ds : List D} {vs : List V} {d : D} {v : V} (i : Nat), RepSL C K F ds vs → RepS C K F d v → RepSL C K F (ds.set i d) (vs.set i v)
  | [], vs, d, v, i, r, h => by simp only [RepSL] at r; subst r; simp [RepSL]
  | d0 :: ds, vs, d, v, 0, r, h => by
    simp only [RepSL] at r
    obtain ⟨w, s, rfl, q, t⟩ := r
    simp only [List.set_cons_zero, RepSL]
    exact ⟨v, s, rfl, h, t⟩
  | d0 :: ds, vs, d, v, i + 1, r, h => by
    simp only [RepSL] at r
    obtain ⟨w, s, rfl, q, t⟩ := r
    simp only [List.set_cons_succ, RepSL]
    exact ⟨w, _, rfl, q, RepSL.set i t h⟩
theorem RepOL.leafs : ∀ {os : List O} {vs : List V} {l : List Addr} {ds : List D}, RepOL C K F H os vs l → leafs os = some ds → l = [] ∧ RepSL C K F ds vs
  | [], vs, l, ds, r, h => by
    simp only [RepOL] at r
    simp only [Cr.leafs, Option.some.injEq] at h
    subst h
    exact ⟨r.2, by simp only [RepSL]; exact r.1⟩
  | o :: os, vs, l, ds, r, h => by
    simp only [RepOL] at r
    obtain ⟨v, s, l1, l2, rfl, q, t, rfl⟩ := r
    cases o with
    | fr d =>
      simp only [Cr.leafs] at h
      cases e : Cr.leafs os with
      | none => rw [e] at h; cases h
      | some es =>
        rw [e] at h
        simp only [Option.map_some, Option.some.injEq] at h
        subst h
        obtain ⟨e2, t2⟩ := RepOL.leafs t e
        simp only [RepO] at q
        exact ⟨by rw [q.1, e2]; rfl, by simp only [RepSL]; exact ⟨v, s, rfl, q.2, t2⟩⟩
    | _ => cases h
theorem leafs_map : ∀ ds : List D, leafs (ds.map .fr) = some ds
  | [] => rfl
  | d :: ds => by simp [leafs, leafs_map ds]
theorem RepSL.own (H : Hp) : ∀ {ds : List D} {vs : List V}, RepSL C K F ds vs → RepOL C K F H (ds.map .fr) vs []
  | [], vs, r => by
    simp only [RepSL] at r
    simp [RepOL, r]
  | d :: ds, vs, r => by
    simp only [RepSL] at r
    obtain ⟨v, s, rfl, q, t⟩ := r
    simp only [List.map_cons, RepOL]
    exact ⟨v, s, [], [], rfl, ⟨rfl, q⟩, RepSL.own H t, rfl⟩
/-- a list or a tuple whose items stand still -/
theorem RepO.items {o : O} {v : V} {l : List Addr} {b : Bool} {ds : List D} (le : Le F H) (r : RepO C K F H o v l) (h : o.items = some (b, ds)) :
    ∃ a vs, v = .ref a ∧ RepSL C K F ds vs ∧ ((b = false ∧ H a = some (.lst vs)) ∨ (b = true ∧ SqT K H a vs)) := by
  unfold O.items at h
  split at h
  · simp only [Option.some.injEq, Prod.mk.injEq] at h
    obtain ⟨rfl, rfl⟩ := h
    simp only [RepO, RepS] at r
    obtain ⟨_, a, vs, e, q, t⟩ := r
    exact ⟨a, vs, e, t, .inl ⟨rfl, le.at q (fun _ z => by cases z)⟩⟩
  · simp only [Option.some.injEq, Prod.mk.injEq] at h
    obtain ⟨rfl, rfl⟩ := h
    simp only [RepO, RepS] at r
    obtain ⟨_, a, vs, e, q, t⟩ := r
    exact ⟨a, vs, e, t, .inr ⟨rfl, SqT.le le q⟩⟩
  · rename_i os
    cases e : leafs os with
    | none => rw [e] at h; cases h
    | some es =>
      rw [e] at h
      simp only [Option.map_some, Option.some.injEq, Prod.mk.injEq] at h
      obtain ⟨rfl, rfl⟩ := h
      simp only [RepO] at r
      obtain ⟨a, vs, r', e1, q, t, _⟩ := r
      exact ⟨a, vs, e1, (t.leafs e).2, .inl ⟨rfl, q⟩⟩
  · rename_i os
    cases e : leafs os with
    | none => rw [e] at h; cases h
    | some es =>
      rw [e] at h
      simp only [Option.map_some, Option.some.injEq, Prod.mk.injEq] at h
      obtain ⟨rfl, rfl⟩ := h
      simp only [RepO] at r
      obtain ⟨a, vs, e1, q, t⟩ := r
      exact ⟨a, vs, e1, (t.leafs e).2, .inr ⟨rfl, .inl (.inl (le.at q (fun _ z => by cases z)))⟩⟩
  · cases h
theorem RepSL_ints : ∀ l : List Int, RepSL C K F (l.map .int) (l.map V.int)
  | [] => by simp [RepSL]
  | i :: l => by
    simp only [List.map_cons, RepSL]
    exact ⟨_, _, rfl, by simp [RepS], RepSL_ints l⟩
theorem RepSL.ints : ∀ {ds : List D} {vs : List V} {l : List Int}, RepSL C K F ds vs → ds = l.map .int → vs = l.map V.int
  | [], vs, l, r, h => by
    simp only [RepSL] at r
    subst r
    cases l with
    | nil => rfl
    | cons => cases h
  | d :: ds, vs, l, r, h => by
    simp only [RepSL] at r
    obtain ⟨v, s, rfl, q, t⟩ := r
    cases l with
    | nil => cases h
    | cons i l =>
      simp only [List.map_cons, List.cons.injEq] at h
      obtain ⟨rfl, h⟩ := h
      simp only [RepS] at q
      rw [q, RepSL.ints t h]
      rfl
/-- .. or the script -/
theorem RepO.walk {o : O} {v : V} {l : List Addr} {b : Bool} {ds : List D} (le : Le F H) (r : RepO C K F H o v l) (h : o.walk = some (b, ds)) :
    ∃ a vs, v = .ref a ∧ RepSL C K F ds vs ∧ ((b = false ∧ SqL K H a vs) ∨ (b = true ∧ SqT K H a vs)) := by
  unfold O.walk at h
  split at h
  · simp only [Option.some.injEq, Prod.mk.injEq] at h
    obtain ⟨rfl, rfl⟩ := h
    simp only [RepO, RepS] at r
    obtain ⟨_, a, e, q⟩ := r
    exact ⟨a, _, e, RepSL_ints _, .inl ⟨rfl, SqL.le le q⟩⟩
  · obtain ⟨a, vs, e, t, q⟩ := RepO.items le r h
    refine ⟨a, vs, e, t, ?_⟩
    rcases q with ⟨q1, q2⟩ | q
    · exact .inl ⟨q1, .inl (.inl q2)⟩
    · exact .inr q
/-- what an operator's answer asks -/
def Fin (C : Nat → Addr) (K : PySem.W.Frag) (F H : Hp) (o : O) (Q : VK) : Prop := ∀ v F' H' T, New F H F' H' T → RepO C K F' H' o v T → Q v H'
theorem Fin.d {d : D} {Q : VK} {v : V} (f : Fin C K F H (.fr d) Q) (le : Le F H) (r : RepS C K F d v) : Q v H := f v F H [] (New.refl le) ⟨rfl, r⟩
theorem New.lst {p : Addr} {vs : List V} (le : Le F H) (hp : H p = none) : New F H F (upd H p (.lst vs)) [p] := by
  refine ⟨Sub.refl F, fun a u e => ?_, fun a ha => upd_ne (fun z => ha (z ▸ hp)), fun a ha => ?_, by simp, fun a _ h => h⟩
  · have hne : a ≠ p := fun z => by rw [z, le_none le hp] at e; cases e
    rw [upd_ne hne]; exact le a u e
  · have e : a = p := by simpa using ha
    subst e
    exact ⟨hp, le_none le hp, by rw [upd_same]; simp⟩
theorem New.tup {p : Addr} {vs : List V} (le : Le F H) (hp : H p = none) : New F H (upd F p (.tup vs)) (upd H p (.tup vs)) [] := by
  have hF := le_none le hp
  refine ⟨fun a u e => ?_, fun a u e => ?_, fun a ha => upd_ne (fun z => ha (z ▸ hp)), fun a ha => by simp at ha, by simp, fun a h1 h2 => ?_⟩
  · rw [upd_ne (fun z => by rw [z, hF] at e; cases e)]; exact e
  · by_cases hz : a = p
    · subst hz
      rw [upd_same] at e ⊢
      exact .inl e
    · rw [upd_ne hz] at e ⊢
      exact le a u e
  · rw [upd_ne (fun z => h1 (by rw [z]; exact hp))]; exact h2
theorem Fin.lst {ds : List D} {vs : List V} {Q : VK} (f : Fin C K F H (.ol (ds.map .fr)) Q) (le : Le F H) (r : RepSL C K F ds vs) : ∀ p, H p = none → Q (.ref p) (upd H p (.lst vs)) := fun p hp =>
  f (.ref p) F _ [p] (New.lst le hp) (by
    simp only [RepO]
    exact ⟨p, vs, [], rfl, upd_same, r.own _, rfl⟩)
theorem Fin.tup {ds : List D} {vs : List V} {Q : VK} (f : Fin C K F H (.fr (.tup ds)) Q) (le : Le F H) (r : RepSL C K F ds vs) : ∀ p, H p = none → Q (.ref p) (upd H p (.tup vs)) := fun p hp =>
  f (.ref p) _ _ [] (New.tup (vs := vs) le hp) (by
    simp only [RepO, RepS]
    exact ⟨trivial, p, vs, rfl, .inl (.inl upd_same), RepSL.le (New.tup (vs := vs) le hp).fe.le _ _ r⟩)
theorem Fin.tupAt {ds : List D} {vs : List V} {Q : VK} {a : Addr} (f : Fin C K F H (.fr (.tup ds)) Q) (le : Le F H) (r : RepSL C K F ds vs) (h : SqT K F a vs) : Q (.ref a) H :=
  f.d le (by simp only [RepS]; exact ⟨a, vs, rfl, h, r⟩)
/-- a tuple of things that stand still stands still -/
theorem RepO.tupF {o : O} {v : V} {l : List Addr} {ds : List D} (r : RepO C K F H o v l) (h : o.items = some (true, ds)) : RepS C K F (.tup ds) v := by
  unfold O.items at h
  split at h
  · cases h
  · simp only [Option.some.injEq, Prod.mk.injEq] at h
    obtain ⟨_, rfl⟩ := h
    exact r.2
  · rename_i os
    cases e : leafs os with
    | none => rw [e] at h; cases h
    | some es => rw [e] at h; cases h
  · rename_i os
    cases e : leafs os with
    | none => rw [e] at h; cases h
    | some es =>
      rw [e] at h
      simp only [Option.map_some, Option.some.injEq, Prod.mk.injEq] at h
      obtain ⟨_, rfl⟩ := h
      simp only [RepO] at r
      obtain ⟨a, vs, e1, q, t⟩ := r
      simp only [RepS]
      exact ⟨a, vs, e1, .inl (.inl q), (t.leafs e).2⟩
  · cases h
end

section
variable {X : Cx} {C : Nat → Addr}
def rBin (C : Nat → Addr) (K : PySem.W.Frag) (op : Operator) : R2 := fun x y H Q => ∃ F ox oy o lx ly, Le F H ∧ RepO C K F H ox x lx ∧ RepO C K F H oy y ly ∧ binO op ox oy = some o ∧ Fin C K F H o Q
theorem str_len (a b : Str) : (a ++ b).length = a.length + b.length := by
  show (a.cps ++ b.cps).size = _
  rw [Array.size_append]; rfl
theorem str_ok {a b : Str} (h : PyData.canLay0 (.str a) = true) (h' : PyData.canLay0 (.str b) = true) : PyData.canLay0 (.str (a ++ b)) = true := by
  simp only [PyData.canLay0, PyData.strOk, Array.all_eq_true_iff_forall_mem] at h h' ⊢
  intro x hx
  rcases Array.mem_append.mp (show x ∈ a.cps ++ b.cps from hx) with q | q
  · exact h x q
  · exact h' x q
theorem line_eq : sizeLine = 16777216 := sizeLine_eq
theorem op_mulB : OpR X (binaryOp .Mult) (fun x y H Q => ∃ i j, x = .int i ∧ y = .int j ∧ bigOk i j = true ∧ Q (.int (i * j)) H) := by
  intro pins s σ H x y v u Q I rx ry h
  obtain ⟨i, j, rfl, rfl, hb, q⟩ := h
  unfold bigOk at hb
  simp only [Bool.or_eq_true, decide_eq_true_eq] at hb
  rcases hb with (hb | hb) | hb
  · exact op_mul pins s σ H _ _ v u Q I rx ry ⟨i, j, rfl, rfl, .inl ⟨by omega, by omega⟩, q⟩
  · exact op_mul pins s σ H _ _ v u Q I rx ry ⟨i, j, rfl, rfl, .inr ⟨by omega, by omega⟩, q⟩
  · exact op_mulW pins s σ H _ _ v u Q I rx ry ⟨i, j, rfl, rfl, hb, q⟩
theorem int_of {C : Nat → Addr} {K : PySem.W.Frag} {F H : Hp} {i : Int} {v : V} {l : List Addr} (r : RepO C K F H (.fr (.int i)) v l) : v = .int i := by
  simpa [RepO, RepS] using r.2
theorem op_bin {op : Operator} : OpR X (binaryOp op) (rBin C X.K op) := by
  intro pins s σ H x y v u Q I rx ry h
  obtain ⟨F, ox, oy, o, lx, ly, le, r1, r2, hb, f⟩ := h
  unfold binO at hb
  split at hb
  · cases hb
    have e1 := int_of r1
    have e2 := int_of r2
    subst e1 e2
    exact op_add pins s σ H _ _ v u Q I rx ry ⟨_, _, rfl, rfl, f.d le (by simp [RepS])⟩
  · cases hb
    have e1 := int_of r1
    have e2 := int_of r2
    subst e1 e2
    exact op_sub pins s σ H _ _ v u Q I rx ry ⟨_, _, rfl, rfl, f.d le (by simp [RepS])⟩
  · split at hb
    · rename_i hk
      cases hb
      have e1 := int_of r1
      have e2 := int_of r2
      subst e1 e2
      exact op_mulB pins s σ H _ _ v u Q I rx ry ⟨_, _, rfl, rfl, hk, f.d le (by simp [RepS])⟩
    · cases hb
  · split at hb
    · rename_i hk
      cases hb
      simp only [Bool.and_eq_true, decide_eq_true_eq] at hk
      have e1 := int_of r1
      have e2 := int_of r2
      subst e1 e2
      exact op_fdivW pins s σ H _ _ v u Q I rx ry ⟨_, _, rfl, rfl, ⟨hk.1, hk.2⟩, f.d le (by simp [RepS])⟩
    · cases hb
  · split at hb
    · rename_i hk
      cases hb
      simp only [decide_eq_true_eq] at hk
      have e1 := int_of r1
      have e2 := int_of r2
      subst e1 e2
      exact op_mod pins s σ H _ _ v u Q I rx ry ⟨_, _, rfl, rfl, hk, f.d le (by simp [RepS])⟩
    · cases hb
  · split at hb
    · rename_i hk
      cases hb
      simp only [Bool.and_eq_true, decide_eq_true_eq] at hk
      have e1 := int_of r1
      have e2 := int_of r2
      subst e1 e2
      exact op_pow pins s σ H _ _ v u Q I rx ry ⟨_, _, rfl, rfl, ⟨hk.1.1, hk.1.2, by have := hk.2; omega⟩, f.d le (by simp [RepS])⟩
    · cases hb
  · split at hb
    · rename_i hk
      cases hb
      have hk := of_decide_eq_true hk
      simp only [RepO, RepS] at r1 r2
      obtain ⟨_, rfl, _, z1⟩ := r1
      obtain ⟨_, rfl, _, z2⟩ := r2
      refine op_add_str pins s σ H _ _ v u Q I rx ry ⟨_, _, rfl, rfl, by rw [line_eq]; exact hk, f.d le ?_⟩
      simp only [RepS]
      exact ⟨trivial, by rw [str_len, line_eq]; exact hk, str_ok z1 z2⟩
    · cases hb
  · split at hb
    · rename_i e1 e2
      split at hb
      · rename_i hk
        cases hb
        have hk := of_decide_eq_true hk
        obtain ⟨a, vs, rfl, t1, q1⟩ := r1.items le e1
        obtain ⟨b, ws, rfl, t2, q2⟩ := r2.items le e2
        simp only [true_and, Bool.false_eq_true, false_and, or_false] at q1 q2
        exact op_cat pins s σ H _ _ v u Q I rx ry ⟨a, b, vs, ws, rfl, rfl, q1, q2, by rw [t1.len, t2.len, line_eq]; exact hk, f.lst le (t1.app t2)⟩
      · cases hb
    · rename_i e1 e2
      split at hb
      · rename_i hk
        cases hb
        have hk := of_decide_eq_true hk
        have s1 := r1.tupF e1
        have s2 := r2.tupF e2
        simp only [RepS] at s1 s2
        obtain ⟨a, vs, rfl, p1, t1⟩ := s1
        obtain ⟨b, ws, rfl, p2, t2⟩ := s2
        refine op_catA pins s σ H _ _ v u Q I rx ry ⟨a, b, vs, ws, rfl, rfl, SqT.le le p1, SqT.le le p2, by rw [t1.len, t2.len, line_eq]; exact hk, fun z => ?_, fun _ z => ?_, fun _ _ => f.tup le (t1.app t2)⟩
        · refine f.tupAt le ?_ p2
          have := t1.app t2
          rw [z] at this
          simpa using this
        · refine f.tupAt le ?_ p1
          have := t1.app t2
          rw [z] at this
          simpa using this
      · cases hb
    · cases hb
  · split at hb
    · rename_i e1
      split at hb
      · rename_i hk
        cases hb
        simp only [Bool.and_eq_true, decide_eq_true_eq] at hk
        obtain ⟨⟨h1, h2⟩, h3⟩ := hk
        have h3 := of_decide_eq_true h3
        obtain ⟨a, vs, rfl, t1, q1⟩ := r1.items le e1
        have e2 := int_of r2
        subst e2
        simp only [true_and, Bool.false_eq_true, false_and, or_false] at q1
        exact op_rep pins s σ H _ _ v u Q I rx ry ⟨a, _, vs, rfl, rfl, q1, by omega, by omega, by rw [t1.len, line_eq]; exact h3, f.lst le (t1.rep _)⟩
      · cases hb
    · cases hb
  · cases hb
end
end Cr
end

section
/-! Comparisons, places, built-in functions on trees. -/
namespace Cr
open PySem L2

mutual
def toP : D → PyData
  | .non => .none
  | .bl b => .bool b
  | .int i => .int i
  | .str s => .str s
  | .tup l => .tuple (toPL l)
  | .lst l => .list (toPL l)
  | _ => .none
def toPL : List D → List PyData
  | [] => []
  | d :: l => toP d :: toPL l
end
mutual
theorem eqv_toP : ∀ (n m : Nat) (a b : D), shp n a = true → shp m b = true → PyData.eqv (toP a) (toP b) = eqD a b
  | n, m, .non, b, ha, hb => by cases b <;> first | (simp [toP, PyData.eqv, eqD]; done) | (simp [shp] at hb)
  | n, m, .bl _, b, ha, hb => by cases b <;> first | (simp [toP, PyData.eqv, eqD]; done) | (simp [shp] at hb)
  | n, m, .int _, b, ha, hb => by cases b <;> first | (simp [toP, PyData.eqv, eqD]; done) | (simp [shp] at hb)
  | n, m, .str _, b, ha, hb => by cases b <;> first | (simp [toP, PyData.eqv, eqD]; done) | (simp [shp] at hb)
  | n, m, .tup l, b, ha, hb => by
    cases n with
    | zero => simp [shp] at ha
    | succ n =>
      cases b <;> first | (simp [toP, PyData.eqv, eqD]; done) | (simp [shp] at hb; done) | skip
      cases m with
      | zero => simp [shp] at hb
      | succ m =>
        simp only [shp] at ha hb
        simp only [toP, PyData.eqv, eqD]
        exact eqv_toPL n m l _ ha hb
  | n, m, .lst l, b, ha, hb => by
    cases n with
    | zero => simp [shp] at ha
    | succ n =>
      cases b <;> first | (simp [toP, PyData.eqv, eqD]; done) | (simp [shp] at hb; done) | skip
      cases m with
      | zero => simp [shp] at hb
      | succ m =>
        simp only [shp] at ha hb
        simp only [toP, PyData.eqv, eqD]
        exact eqv_toPL n m l _ ha hb
  | n, m, .dic _, b, ha, hb => by cases n <;> simp [shp] at ha
  | n, m, .ins _ _, b, ha, hb => by cases n <;> simp [shp] at ha
  | n, m, .scr _, b, ha, hb => by cases n <;> simp [shp] at ha
  | n, m, .bad, b, ha, hb => by cases n <;> simp [shp] at ha
theorem eqv_toPL : ∀ (n m : Nat) (a b : List D), shpL n a = true → shpL m b = true → PyData.eqvAll (toPL a) (toPL b) = eqDL a b
  | n, m, [], [], _, _ => by simp [toPL, PyData.eqvAll, eqDL]
  | n, m, [], b :: bs, _, _ => by simp [toPL, PyData.eqvAll, eqDL]
  | n, m, a :: as, [], _, _ => by simp [toPL, PyData.eqvAll, eqDL]
  | n, m, a :: as, b :: bs, ha, hb => by
    simp only [shpL, Bool.and_eq_true] at ha hb
    simp only [toPL, PyData.eqvAll, eqDL]
    rw [eqv_toP n m a b ha.1 hb.1, eqv_toPL n m as bs ha.2 hb.2]
end
mutual
theorem depth_toP : ∀ (n : Nat) (a : D), shp n a = true → (toP a).depth ≤ n
  | n, .non, _ => by simp [toP, PyData.depth]
  | n, .bl _, _ => by simp [toP, PyData.depth]
  | n, .int _, _ => by simp [toP, PyData.depth]
  | n, .str _, _ => by simp [toP, PyData.depth]
  | 0, .tup l, h => by simp [shp] at h
  | n + 1, .tup l, h => by
    simp only [shp] at h
    simp only [toP, PyData.depth]
    exact Nat.succ_le_succ (depth_toPL n l h)
  | 0, .lst l, h => by simp [shp] at h
  | n + 1, .lst l, h => by
    simp only [shp] at h
    simp only [toP, PyData.depth]
    exact Nat.succ_le_succ (depth_toPL n l h)
  | n, .dic _, h => by cases n <;> simp [shp] at h
  | n, .ins _ _, h => by cases n <;> simp [shp] at h
  | n, .scr _, h => by cases n <;> simp [shp] at h
  | n, .bad, h => by cases n <;> simp [shp] at h
theorem depth_toPL : ∀ (n : Nat) (a : List D), shpL n a = true → PyData.depthAll (toPL a) ≤ n
  | n, [], _ => by simp [toPL, PyData.depthAll]
  | n, a :: as, h => by
    simp only [shpL, Bool.and_eq_true] at h
    simp only [toPL, PyData.depthAll]
    exact Nat.max_le.mpr ⟨depth_toP n a h.1, depth_toPL n as h.2⟩
end
section
variable {C : Nat → Addr} {K : PySem.W.Frag} {H : Hp}
mutual
theorem dp_of : ∀ (n : Nat) (d : D) (v : V), shp n d = true → RepS C K H d v → Dp K H v (toP d) ∧ (toP d).canLay0 = true
  | n, .non, v, h, r => by simp only [RepS] at r; subst r; exact ⟨.non, by simp [toP, PyData.canLay0]⟩
  | n, .bl _, v, h, r => by simp only [RepS] at r; subst r; exact ⟨.bl _, by simp [toP, PyData.canLay0]⟩
  | n, .int _, v, h, r => by simp only [RepS] at r; subst r; exact ⟨.int _, by simp [toP, PyData.canLay0]⟩
  | n, .str _, v, h, r => by simp only [RepS] at r; obtain ⟨rfl, _, z⟩ := r; exact ⟨.str _, by simp only [toP]; exact z⟩
  | 0, .tup l, v, h, r => by simp [shp] at h
  | n + 1, .tup l, v, h, r => by
    simp only [shp] at h
    simp only [RepS] at r
    obtain ⟨a, vs, rfl, q, t⟩ := r
    obtain ⟨t1, t2⟩ := dpL_of n l vs h t
    exact ⟨.tup q t1, by simp only [toP, PyData.canLay0]; exact t2⟩
  | 0, .lst l, v, h, r => by simp [shp] at h
  | n + 1, .lst l, v, h, r => by
    simp only [shp] at h
    simp only [RepS] at r
    obtain ⟨a, vs, rfl, q, t⟩ := r
    obtain ⟨t1, t2⟩ := dpL_of n l vs h t
    exact ⟨.lst (SqL.of q) t1, by simp only [toP, PyData.canLay0]; exact t2⟩
  | n, .dic _, v, h, r => by cases n <;> simp [shp] at h
  | n, .ins _ _, v, h, r => by cases n <;> simp [shp] at h
  | n, .scr _, v, h, r => by cases n <;> simp [shp] at h
  | n, .bad, v, h, r => by cases n <;> simp [shp] at h
theorem dpL_of : ∀ (n : Nat) (d : List D) (v : List V), shpL n d = true → RepSL C K H d v → DpAll K H v (toPL d) ∧ PyData.canLayAll0 (toPL d) = true
  | n, [], v, h, r => by simp only [RepSL] at r; subst r; exact ⟨.nil, by simp [toPL, PyData.canLayAll0]⟩
  | n, d :: ds, v, h, r => by
    simp only [shpL, Bool.and_eq_true] at h
    simp only [RepSL] at r
    obtain ⟨w, s, rfl, q, t⟩ := r
    obtain ⟨a1, a2⟩ := dp_of n d w h.1 q
    obtain ⟨b1, b2⟩ := dpL_of n ds s h.2 t
    exact ⟨.cons a1 b1, by simp only [toPL, PyData.canLayAll0, a2, b2, Bool.and_self]⟩
end
theorem shaped_of {d : D} {v : V} (h : shp 64 d = true) (r : RepS C K H d v) : Dp K H v (toP d) ∧ SeqAt.shaped (toP d) = true := by
  obtain ⟨a, b⟩ := dp_of 64 d v h r
  refine ⟨a, ?_⟩
  unfold SeqAt.shaped
  rw [b, Bool.true_and]
  exact decide_eq_true (depth_toP 64 d h)
end
section
variable {X : Cx} {C : Nat → Addr}
def rCmp (C : Nat → Addr) (K : PySem.W.Frag) (op : CmpOp) : R2 := fun x y H Q => ∃ dx dy k, RepS C K H dx x ∧ RepS C K H dy y ∧ cmpD op dx dy = some k ∧ Q (.bl k) H
theorem intB_of {p : Int → Int → Bool} {a b : D} {k : Bool} (h : intB p a b = some k) : ∃ i j, a = .int i ∧ b = .int j ∧ k = p i j := by
  unfold intB at h
  split at h
  · cases h; exact ⟨_, _, rfl, rfl, rfl⟩
  · cases h
theorem op_cmp (hu : X.A.units + 64 < cLine) {op : CmpOp} : OpR X (compareOp op) (rCmp C X.K op) := by
  intro pins s σ H x y v u Q I rx ry h
  obtain ⟨dx, dy, k, r1, r2, hk, q⟩ := h
  unfold cmpD at hk
  split at hk
  · split at hk
    · rename_i hs
      cases hk
      obtain ⟨h1, h2⟩ := Bool.and_eq_true_iff.mp hs
      obtain ⟨p1, s1⟩ := shaped_of h1 r1
      obtain ⟨p2, s2⟩ := shaped_of h2 r2
      exact op_eqD hu pins s σ H _ _ v u Q I rx ry ⟨_, _, p1, p2, s1, s2, by rw [eqv_toP 64 64 _ _ h1 h2]; exact q⟩
    · cases hk
  · split at hk
    · rename_i hs
      cases hk
      obtain ⟨h1, h2⟩ := Bool.and_eq_true_iff.mp hs
      obtain ⟨p1, s1⟩ := shaped_of h1 r1
      obtain ⟨p2, s2⟩ := shaped_of h2 r2
      exact op_neD hu pins s σ H _ _ v u Q I rx ry ⟨_, _, p1, p2, s1, s2, by rw [eqv_toP 64 64 _ _ h1 h2]; exact q⟩
    · cases hk
  · obtain ⟨i, j, rfl, rfl, rfl⟩ := intB_of hk
    simp only [RepS] at r1 r2
    exact op_lt pins s σ H _ _ v u Q I rx ry ⟨i, j, r1, r2, q⟩
  · obtain ⟨i, j, rfl, rfl, rfl⟩ := intB_of hk
    simp only [RepS] at r1 r2
    exact op_le pins s σ H _ _ v u Q I rx ry ⟨i, j, r1, r2, q⟩
  · obtain ⟨i, j, rfl, rfl, rfl⟩ := intB_of hk
    simp only [RepS] at r1 r2
    exact op_gt pins s σ H _ _ v u Q I rx ry ⟨i, j, r1, r2, q⟩
  · obtain ⟨i, j, rfl, rfl, rfl⟩ := intB_of hk
    simp only [RepS] at r1 r2
    exact op_ge pins s σ H _ _ v u Q I rx ry ⟨i, j, r1, r2, q⟩
  · cases hk
end
section
variable {C : Nat → Addr} {K : PySem.W.Frag} {F H : Hp}
theorem RepOL.nth : ∀ {os : List O} {vs : List V} {l : List Addr} {i : Nat} {o : O}, RepOL C K F H os vs l → os[i]? = some o → ∃ v l', vs[i]? = some v ∧ RepO C K F H o v l' ∧ ∀ a ∈ l', a ∈ l
  | [], vs, l, i, o, r, h => by simp at h
  | o0 :: os, vs, l, 0, o, r, h => by
    simp only [RepOL] at r
    obtain ⟨v, s, l1, l2, rfl, q, t, rfl⟩ := r
    simp at h; subst h
    exact ⟨v, l1, rfl, q, fun a ha => by simp [ha]⟩
  | o0 :: os, vs, l, i + 1, o, r, h => by
    simp only [RepOL] at r
    obtain ⟨v, s, l1, l2, rfl, q, t, rfl⟩ := r
    obtain ⟨w, l', h1, h2, h3⟩ := RepOL.nth (i := i) t (by simpa using h)
    exact ⟨w, l', by simpa using h1, h2, fun a ha => by simp [h3 a ha]⟩
theorem RepOL.len : ∀ {os : List O} {vs : List V} {l : List Addr}, RepOL C K F H os vs l → vs.length = os.length
  | [], vs, l, r => by simp only [RepOL] at r; simp [r.1]
  | o :: os, vs, l, r => by
    simp only [RepOL] at r
    obtain ⟨v, s, l1, l2, rfl, _, t, _⟩ := r
    simp [RepOL.len t]
theorem atI_map {α β : Type} {xs : List α} {ys : List β} {i : Int} {a : α} (hl : ys.length = xs.length) (h : atI xs i = some a) : ∃ j : Nat, xs[j]? = some a ∧ ∀ b, ys[j]? = some b → atI ys i = some b := by
  unfold atI at h ⊢
  cases e : ixN xs.length i with
  | none => rw [e] at h; cases h
  | some j =>
    rw [e] at h
    refine ⟨j, h, fun b hb => ?_⟩
    rw [hl, e]
    exact hb
/-- an item of a list or a tuple -/
theorem atO_spec {o o' : O} {v : V} {l : List Addr} {d : D} (le : Le F H) (r : RepO C K F H o v l) (h : atO o d = some o') :
    ∃ k a vs v' l', d = .int k ∧ v = .ref a ∧ (SqL K H a vs ∨ SqT K H a vs) ∧ atI vs k = some v' ∧ RepO C K F H o' v' l' ∧ (∀ b ∈ l', b ∈ l) := by
  unfold atO at h
  split at h
  · rename_i xs k
    simp only [RepO, RepS] at r
    obtain ⟨_, a, vs, rfl, q, t⟩ := r
    cases e : atI xs k with
    | none => rw [e] at h; cases h
    | some d' =>
      rw [e] at h
      simp only [Option.map_some, Option.some.injEq] at h
      subst h
      obtain ⟨j, hj, hb⟩ := atI_map (ys := vs) t.len e
      obtain ⟨w, hw, rw'⟩ := t.nth hj
      exact ⟨k, a, vs, w, [], rfl, rfl, .inl (SqL.of (le.at q (fun _ z => by cases z))), hb w hw, ⟨rfl, rw'⟩, fun b z => by simp at z⟩
  · rename_i xs k
    simp only [RepO, RepS] at r
    obtain ⟨_, a, vs, rfl, q, t⟩ := r
    cases e : atI xs k with
    | none => rw [e] at h; cases h
    | some d' =>
      rw [e] at h
      simp only [Option.map_some, Option.some.injEq] at h
      subst h
      obtain ⟨j, hj, hb⟩ := atI_map (ys := vs) t.len e
      obtain ⟨w, hw, rw'⟩ := t.nth hj
      exact ⟨k, a, vs, w, [], rfl, rfl, .inr (SqT.le le q), hb w hw, ⟨rfl, rw'⟩, fun b z => by simp at z⟩
  · rename_i xs k
    simp only [RepO] at r
    obtain ⟨a, vs, r', rfl, q, t, rfl⟩ := r
    obtain ⟨j, hj, hb⟩ := atI_map (ys := vs) t.len h
    obtain ⟨w, l', hw, rw', hl⟩ := t.nth hj
    exact ⟨k, a, vs, w, l', rfl, rfl, .inl (SqL.of q), hb w hw, rw', fun b z => by simp [hl b z]⟩
  · rename_i xs k
    simp only [RepO] at r
    obtain ⟨a, vs, rfl, q, t⟩ := r
    obtain ⟨j, hj, hb⟩ := atI_map (ys := vs) t.len h
    obtain ⟨w, l', hw, rw', hl⟩ := t.nth hj
    exact ⟨k, a, vs, w, l', rfl, rfl, .inr (.inl (.inl (le.at q (fun _ z => by cases z)))), hb w hw, rw', hl⟩
  · cases h
end
section
variable {X : Cx} {C : Nat → Addr}
def rAt (C : Nat → Addr) (K : PySem.W.Frag) : R2 := fun x y H Q => ∃ F o d o' l, Le F H ∧ RepO C K F H o x l ∧ RepS C K H d y ∧ atO o d = some o' ∧ ∀ v' l', RepO C K F H o' v' l' → (∀ b ∈ l', b ∈ l) → Q v' H
theorem ix_at : IxR X (rAt C X.K) := by
  intro value slice pins s σ H x y v u Q I rx ry h hs
  obtain ⟨F, o, d, o', l, le, r, rd, ha, q⟩ := h
  obtain ⟨k, a, vs, v', l', rfl, rfl, hq, hv, ro, hl⟩ := atO_spec le r ha
  simp only [RepS] at rd
  subst rd
  rcases hq with hq | hq
  · exact ix_list value slice pins s σ H _ _ v u Q I rx ry ⟨a, vs, k, v', rfl, rfl, hq, hv, q v' l' ro hl⟩ hs
  · exact ix_tup value slice pins s σ H _ _ v u Q I rx ry ⟨a, vs, k, v', rfl, rfl, hq, hv, q v' l' ro hl⟩ hs
theorem cut_rep {C : Nat → Addr} {K : PySem.W.Frag} {F : Hp} {ds : List D} {vs : List V} (r : RepSL C K F ds vs) (lo hi : Option Int) : RepSL C K F (cutD ds lo hi) (cutV vs lo hi) := by
  unfold cutD cutV
  rw [r.len]
  exact (r.drop _).take _
def rCut (C : Nat → Addr) (K : PySem.W.Frag) : V → Option Int → Option Int → Hp → VK → Prop := fun x lo hi H Q => ∃ F o o' l, Le F H ∧ RepO C K F H o x l ∧ cutO o lo hi = some o' ∧ Fin C K F H o' Q
theorem sl_cut : SlR X (rCut C X.K) := by
  intro pins s σ H x v vl vu lo hi sl Q I rx hs pl pu h
  obtain ⟨F, o, o', l, le, r, hc, f⟩ := h
  unfold cutO at hc
  split at hc
  · rename_i e
    cases hc
    obtain ⟨a, vs, rfl, t, hq⟩ := r.items le e
    simp only [true_and, Bool.false_eq_true, false_and, or_false] at hq
    exact sl_list pins s σ H _ v vl vu lo hi sl Q I rx hs pl pu ⟨a, vs, rfl, SqL.of hq, f.lst le (cut_rep t lo hi)⟩
  · rename_i e
    cases hc
    have s1 := r.tupF e
    simp only [RepS] at s1
    obtain ⟨a, vs, rfl, p1, t⟩ := s1
    refine sl_tupA pins s σ H _ v vl vu lo hi sl Q I rx hs pl pu ⟨a, vs, rfl, SqT.le le p1, fun z => ?_, fun _ => f.tup le (cut_rep t lo hi)⟩
    refine f.tupAt le (cut_rep t lo hi) ?_
    have e : cutV vs lo hi = vs := by
      unfold cutV
      rw [z.1, z.2]
      simp
    rw [e]; exact p1
  · cases hc
def RepAs (C : Nat → Addr) (K : PySem.W.Frag) (F H : Hp) : List O → List V → Prop
  | [], vs => vs = []
  | o :: os, vs => ∃ v r l, vs = v :: r ∧ RepO C K F H o v l ∧ RepAs C K F H os r
def rBi (C : Nat → Addr) (K : PySem.W.Frag) (b : Bi) : List V → Hp → VK → Prop := fun xs H Q => ∃ F os o, Le F H ∧ RepAs C K F H os xs ∧ biO b os = some o ∧ Fin C K F H o Q
def Bi.val : Bi → Value
  | .len => .builtin "len"
  | .list => .type "list"
  | .sum => .builtin "sum"
  | .max2 => .builtin "max"
  | .min2 => .builtin "min"
  | .tuple => .type "tuple"
theorem RepAs.one {C : Nat → Addr} {K : PySem.W.Frag} {F H : Hp} {o : O} {xs : List V} (r : RepAs C K F H [o] xs) : ∃ v l, xs = [v] ∧ RepO C K F H o v l := by
  simp only [RepAs] at r
  obtain ⟨v, s, l, rfl, q, rfl⟩ := r
  exact ⟨v, l, rfl, q⟩
theorem RepAs.two {C : Nat → Addr} {K : PySem.W.Frag} {F H : Hp} {o o2 : O} {xs : List V} (r : RepAs C K F H [o, o2] xs) : ∃ v l v2 l2, xs = [v, v2] ∧ RepO C K F H o v l ∧ RepO C K F H o2 v2 l2 := by
  simp only [RepAs] at r
  obtain ⟨v, s, l, rfl, q, v2, s2, l2, rfl, q2, rfl⟩ := r
  exact ⟨v, l, v2, l2, rfl, q, q2⟩
theorem sumI_of : ∀ {l : List D} {i : Int}, sumI l = some i → ∃ ns : List Int, l = ns.map .int ∧ i = ns.sum
  | [], i, h => by simp only [sumI, Option.some.injEq] at h; exact ⟨[], rfl, h ▸ rfl⟩
  | .int k :: l, i, h => by
    simp only [sumI] at h
    cases e : sumI l with
    | none => rw [e] at h; cases h
    | some j =>
      rw [e] at h
      simp only [Option.map_some, Option.some.injEq] at h
      obtain ⟨ns, rfl, rfl⟩ := sumI_of e
      exact ⟨k :: ns, rfl, by rw [List.sum_cons]; exact h.symm⟩
  | .non :: l, i, h => by cases h
  | .bl _ :: l, i, h => by cases h
  | .str _ :: l, i, h => by cases h
  | .tup _ :: l, i, h => by cases h
  | .lst _ :: l, i, h => by cases h
  | .dic _ :: l, i, h => by cases h
  | .ins _ _ :: l, i, h => by cases h
  | .scr _ :: l, i, h => by cases h
  | .bad :: l, i, h => by cases h
theorem call_bi (hc : X.calm = true) (b : Bi) : CallR X b.val (rBi C X.K b) := by
  intro pins s σ H xs us Q I r h
  obtain ⟨F, os, o, le, ra, hb, f⟩ := h
  unfold biO at hb
  split at hb
  · obtain ⟨v, l, rfl, ro⟩ := ra.one
    have rd := ro.read le
    split at hb
    · rename_i e
      cases hb
      rw [e] at rd
      simp only [RepS] at rd
      obtain ⟨a, vs, rfl, q, t⟩ := rd
      exact call_len pins s σ H _ us Q I r ⟨_, _, rfl, .inl ⟨vs, SqL.of q, rfl⟩, by rw [t.len]; exact f.d le (by simp [RepS])⟩
    · rename_i e
      cases hb
      rw [e] at rd
      simp only [RepS] at rd
      obtain ⟨a, vs, rfl, q, t⟩ := rd
      exact call_len pins s σ H _ us Q I r ⟨_, _, rfl, .inr ⟨vs, q, rfl⟩, by rw [t.len]; exact f.d le (by simp [RepS])⟩
    · rename_i e
      cases hb
      rw [e] at rd
      simp only [RepS] at rd
      obtain ⟨rfl, z, _⟩ := rd
      exact call_len pins s σ H _ us Q I r ⟨_, _, rfl, ⟨z, rfl⟩, f.d le (by simp [RepS])⟩
    · cases hb
  · obtain ⟨v, l, rfl, ro⟩ := ra.one
    rename_i a0
    cases e : a0.walk with
    | none => rw [e] at hb; cases hb
    | some x =>
      obtain ⟨b, ds⟩ := x
      rw [e] at hb
      simp only [Option.map_some, Option.some.injEq] at hb
      subst hb
      obtain ⟨a, vs, rfl, t, hq⟩ := ro.walk le e
      refine call_list_of pins s σ H _ us Q I r ⟨a, vs, rfl, ?_, f.lst le t⟩
      rcases hq with ⟨_, hq⟩ | ⟨_, hq⟩
      · exact .inl hq
      · exact .inr hq
  · obtain ⟨v, l, rfl, ro⟩ := ra.one
    rename_i a0
    cases e : a0.items with
    | none => rw [e] at hb; cases hb
    | some x =>
      obtain ⟨b, ds⟩ := x
      rw [e] at hb
      simp only [Option.map_some, Option.some.injEq] at hb
      subst hb
      cases b with
      | false =>
        obtain ⟨a, vs, rfl, t, hq⟩ := ro.items le e
        simp only [true_and, Bool.false_eq_true, false_and, or_false] at hq
        exact call_tuple_of pins s σ H _ us Q I r ⟨a, vs, rfl, .inl ⟨SqL.of hq, f.tup le t⟩⟩
      | true =>
        have s1 := ro.tupF e
        simp only [RepS] at s1
        obtain ⟨a, vs, rfl, p1, t⟩ := s1
        exact call_tuple_of pins s σ H _ us Q I r ⟨a, vs, rfl, .inr ⟨SqT.le le p1, f.tupAt le t p1⟩⟩
  · obtain ⟨v, l, rfl, ro⟩ := ra.one
    split at hb
    · rename_i e
      rename_i ds
      cases es : sumI ds with
      | none => rw [es] at hb; cases hb
      | some i =>
        rw [es] at hb
        simp only [Option.map_some, Option.some.injEq] at hb
        subst hb
        obtain ⟨ns, rfl, rfl⟩ := sumI_of es
        obtain ⟨a, vs, rfl, t, hq⟩ := ro.items le e
        simp only [true_and, Bool.false_eq_true, false_and, or_false] at hq
        have ev := t.ints rfl
        subst ev
        exact cr_sum hc pins s σ H _ us Q I r ⟨a, ns, rfl, SqL.of hq, f.d le (by simp [RepS])⟩
    · cases hb
  · cases hb
    obtain ⟨v, l, v2, l2, rfl, r1, r2⟩ := ra.two
    have e1 := int_of r1
    have e2 := int_of r2
    subst e1 e2
    exact call_max2 hc pins s σ H _ us Q I r ⟨_, _, rfl, f.d le (by simp [RepS])⟩
  · cases hb
    obtain ⟨v, l, v2, l2, rfl, r1, r2⟩ := ra.two
    have e1 := int_of r1
    have e2 := int_of r2
    subst e1 e2
    exact call_min2 hc pins s σ H _ us Q I r ⟨_, _, rfl, f.d le (by simp [RepS])⟩
  · cases hb
end
end Cr
end

section
/-! Readings: what an expression asks. -/
namespace Cr
open PySem L2

theorem PE.imp {X : Cx} {e : Expr} {t t' : TE} (h : PE X e t) (i : ∀ σ H Q, t' σ H Q → t σ H Q) : PE X e t' := ⟨fun pins s σ H Q I q => h.run pins s σ H Q I (i σ H Q q)⟩
theorem PT.imp {X : Cx} {e : Expr} {t t' : TT} (h : PT X e t) (i : ∀ σ H Q, t' σ H Q → t σ H Q) : PT X e t' := ⟨fun pins s σ H Q I q => h.run pins s σ H Q I (i σ H Q q)⟩
theorem PW.imp {X : Cx} {e : Expr} {t t' : TT} (h : PW X e t) (i : ∀ σ H Q, t' σ H Q → t σ H Q) : PW X e t' := ⟨fun w pins s σ H Q I q => h.run w pins s σ H Q I (i σ H Q q)⟩
theorem PA.imp {X : Cx} {e : List Expr} {t t' : TA} (h : PA X e t) (i : ∀ σ H Q, t' σ H Q → t σ H Q) : PA X e t' := ⟨fun pos pins s σ H Q I q => h.run pos pins s σ H Q I (i σ H Q q)⟩

section
variable (C : Nat → Addr) (K : PySem.W.Frag) (cal : Nat → List O → CRes) (XE : XP)
def tV (ce : CE) : TE := fun σ H Q => ∃ F env L R, SR C K F H σ env L R ∧ Out C K XE F H σ env L R ce.quiet (ev cal ce env) Q
def HXs (F H : Hp) (σ : St) (L : List Addr) : List Addr → List Hd → List CE → List V → Prop
  | T, [], [], vs => vs = [] ∧ T = []
  | T, h :: hs, _ :: es, vs => ∃ v r T0 Tr, vs = v :: r ∧ T = T0 ++ Tr ∧ ((!h.isQ || quietL es) = true → HX C K F H σ L T0 h v) ∧ HXs F H σ L Tr hs es r
  | _, _, _, _ => False
def OutL (F H : Hp) (σ : St) (env : Env) (L R : List Addr) (es : List CE) (res : Res (List Hd × Env)) (Q : List V → Hp → Prop) : Prop := match res with
  | .ok (hs, env') => ∀ vs F' H' L' T, Pst C K F H σ env L R F' H' env' L' T (quietL es) → HXs C K F' H' σ L' T hs es vs → Q vs H'
  | .ex c d env' => ∀ F' H' L', Pst C K F H σ env L R F' H' env' L' [] false → XE c d H'
  | .er => False
def tVs (es : List CE) : TA := fun σ H Q => ∃ F env L R, SR C K F H σ env L R ∧ OutL C K XE F H σ env L R es (evs cal es env) Q
end

section
variable {C : Nat → Addr} {K : PySem.W.Frag} {cal : Nat → List O → CRes} {XE : XP} {F F' F1 F2 H H' H1 H2 : Hp} {σ : St} {env env1 env2 : Env} {L L1 L2 R T T1 T2 : List Addr} {q q1 q2 : Bool}
theorem Out.exT {c : Nat} {d : D} {e2 : Env} {Q : VK} {qq : Bool} (h : Out C K XE F H σ env L R qq (.ex c d e2) Q) (p : Pst C K F H σ env L R F1 H1 env1 L1 T1 q1) {Q' : VK} {q'} : Out C K XE F1 H1 σ env1 L1 (T1 ++ R) q' (.ex c d e2) Q' :=
  fun F' H' L' p2 => h F' H' L' (p.trans p2).nil.qf
/-- an operand alone -/
theorem one {a : CE} {k : Hd × Env → Res (Hd × Env)} {Q : VK} {Q1 : V → Hp → Prop} (sr : SR C K F H σ env L R)
    (hout : Out C K XE F H σ env L R q ((ev cal a env).bind k) Q)
    (fin : ∀ x F1 H1 e1 L1 T ha, Pst C K F H σ env L R F1 H1 e1 L1 T a.quiet → HX C K F1 H1 σ L1 T ha x → Out C K XE F H σ env L R q (k (ha, e1)) Q → Q1 x H1) : tV C K cal XE a σ H Q1 := by
  refine ⟨F, env, L, R, sr, ?_⟩
  cases ha : ev cal a env with
  | ok x =>
    rw [ha] at hout
    intro v F1 H1 L1 T p hx
    exact fin v F1 H1 x.2 L1 T x.1 p hx hout
  | ex c d e => rw [ha] at hout; exact hout
  | er => rw [ha] at hout; exact hout
/-- two operands -/
theorem two {a b : CE} {k : Hd → Hd → Env → Res (Hd × Env)} {Q : VK} {Q2 : V → V → Hp → Prop} (hq : q = true → a.quiet = true ∧ b.quiet = true) (sr : SR C K F H σ env L R)
    (hout : Out C K XE F H σ env L R q ((ev cal a env).bind fun x => (ev cal b x.2).bind fun y => k x.1 y.1 y.2) Q)
    (fin : ∀ x y F2 H2 e2 L2 Ta Tb ha hb, Pst C K F H σ env L R F2 H2 e2 L2 (Tb ++ Ta) (a.quiet && b.quiet) → ((!ha.isQ || b.quiet) = true → HX C K F2 H2 σ L2 Ta ha x) → HX C K F2 H2 σ L2 Tb hb y → Out C K XE F H σ env L R q (k ha hb e2) Q → Q2 x y H2) :
    tV C K cal XE a σ H fun x H1 => tV C K cal XE b σ H1 fun y H2 => Q2 x y H2 := by
  refine ⟨F, env, L, R, sr, ?_⟩
  cases ha : ev cal a env with
  | ok x =>
    rw [ha] at hout
    intro v F1 H1 L1 T1 p hx
    refine ⟨F1, x.2, L1, T1 ++ R, p.sr, ?_⟩
    simp only [Res.bind] at hout
    cases hb : ev cal b x.2 with
    | ok y =>
      rw [hb] at hout
      intro w F2 H2 L2 T2 p2 hy
      exact fin v w F2 H2 y.2 L2 T1 T2 x.1 y.1 (p.trans p2) (fun hk => hx.next p2 fun z => by
        rw [z] at hk
        simpa using hk) hy hout
    | ex c d e =>
      rw [hb] at hout
      exact Out.exT (Q := Q) hout p
    | er => rw [hb] at hout; exact hout
  | ex c d e => rw [ha] at hout; exact hout
  | er => rw [ha] at hout; exact hout
theorem Out.ok_of {h : Hd} {e : Env} {Q : VK} {o : O} {v : V} (hout : Out C K XE F H σ env L R q (.ok (mkH o, e)) Q) (p : Pst C K F H σ env L R F1 H1 e L1 T q1) (hq : q = true → q1 = true) (n : New F1 H1 F2 H2 T2) (r : RepO C K F2 H2 o v T2) : Q v H2 := by
  refine hout v F2 H2 L1 T2 ((p.newT n).q_of hq) ?_
  cases o with
  | fr d => exact ⟨r.1, r.2⟩
  | _ => exact r
/-- a built-in's answer -/
theorem Out.fin {e : Env} {Q : VK} {o : O} (hout : Out C K XE F H σ env L R q (.ok (mkH o, e)) Q) (p : Pst C K F H σ env L R F1 H1 e L1 T q1) (hq : q = true → q1 = true) : Fin C K F1 H1 o Q := fun v F' H' T' n r => Out.ok_of (h := .p .bad) hout p hq n r
/-- an answer that stands still -/
theorem Out.pd {e : Env} {Q : VK} {d : D} {v : V} (hout : Out C K XE F H σ env L R q (.ok (.p d, e)) Q) (p : Pst C K F H σ env L R F1 H1 e L1 T q1) (hq : q = true → q1 = true) (r : RepS C K F1 d v) : Q v H1 :=
  hout v F1 H1 L1 [] (p.nil.q_of hq) ⟨rfl, r⟩
theorem boolH_of {h : Hd} {k : Bool} {v : V} (e : boolH h = some k) (x : HX C K F H σ L T h v) : v = .bl k ∧ h = .p (.bl k) ∧ T = [] := by
  unfold boolH at e
  split at e
  · cases e
    exact ⟨by simpa [RepS] using x.2, rfl, x.1⟩
  · cases e
end
end Cr
end

section
/-! Expressions, one by one. -/
namespace Cr
open PySem L2

section
variable {X : Cx} {C : Nat → Addr} {cal : Nat → List O → CRes} {XE : XP}
abbrev EV (X : Cx) (C : Nat → Addr) (cal : Nat → List O → CRes) (XE : XP) (e : Expr) (ce : CE) : Prop := PE X e (tV C X.K cal XE ce)
abbrev ET (X : Cx) (C : Nat → Addr) (cal : Nat → List O → CRes) (XE : XP) (e : Expr) (ce : CE) : Prop := PT X e (tB (tV C X.K cal XE ce))
theorem s_pd {e : Expr} {ce : CE} {v : V} {d : D} (h : PE X e (tC v)) (he : ∀ env, ev cal ce env = .ok (.p d, env)) (r : ∀ F, RepS C X.K F d v) : EV X C cal XE e ce := by
  refine PE.imp h fun σ H Q hq => ?_
  obtain ⟨F, env, L, R, sr, hout⟩ := hq
  rw [he] at hout
  exact Out.pd hout (Pst.refl sr) (fun _ => rfl) (r F)
theorem s_neg {i : Int} {j : Nat} {p p' : Pos} : PE X (.UnaryOp .USub (.Constant (.int i) j p) p') (tC (.int (-i))) := PE.imp (pe_un un_neg pe_int) fun σ H Q h => ⟨i, rfl, h⟩
theorem s_var {i : Nat} {x : Str} {pos : Pos} (hN : X.N[i]? = some x) (hv : Vis X.env.scope x) (hd : (x == ("__debug__" : Str)) = false) (hcd : (x == ("__classdict__" : Str)) = false) : EV X C cal XE (.Name x pos) (.var i) := by
  refine PE.imp (pe_var hN hv hd hcd) fun σ H Q hq => ?_
  obtain ⟨F, env, L, R, sr, hout⟩ := hq
  simp only [ev] at hout
  split at hout
  · rename_i d hd
    obtain ⟨v, La, l, Lb, c, hs, r⟩ := sr.slot hd
    exact ⟨v, hs, Out.pd hout (Pst.refl sr) (fun _ => rfl) r.2⟩
  · rename_i o _ hd
    obtain ⟨v, La, l, Lb, c, hs, r⟩ := sr.slot hd
    exact ⟨v, hs, hout v F H L [] (Pst.refl sr) ⟨rfl, hs⟩⟩
  · exact hout.elim
theorem s_io {i : Nat} {x : Str} {pos : Pos} (hN : X.N[i]? = some x) (hv : Vis X.env.scope x) (hd : (x == ("__debug__" : Str)) = false) (hcd : (x == ("__classdict__" : Str)) = false) : EV X C cal XE (.Name x pos) (.io i) := by
  refine PE.imp (pe_var hN hv hd hcd) fun σ H Q hq => ?_
  obtain ⟨F, env, L, R, sr, hout⟩ := hq
  simp only [ev] at hout
  split at hout
  · exact hout.elim
  · rename_i o _ hd
    obtain ⟨v, La, l, Lb, c, hs, r⟩ := sr.slot hd
    exact ⟨v, hs, hout v F H L [] ((Pst.refl sr).qf) ⟨rfl, hs⟩⟩
  · exact hout.elim
/-- a slot given away -/
theorem SR.give {K : PySem.W.Frag} {F H : Hp} {σ : St} {env : Env} {L R : List Addr} {i : Nat} {o : O} (sr : SR C K F H σ env L R) (h : (env[i]?).join = some o) :
    ∃ v l L', σ[i]? = some (some v) ∧ RepO C K F H o v l ∧ Pst C K F H σ env L R F H (env.set i none) L' l false := by
  obtain ⟨v, La, l, Lb, c, hs, r⟩ := sr.slot h
  refine ⟨v, l, La ++ Lb, hs, r, ⟨⟨sr.le, c.del F H (Le.refl F) (fun _ _ => rfl), ?_, fun a ha => sr.fn a ?_⟩, Sub.refl F, fun _ _ => rfl, fun z => by cases z⟩⟩
  · have := sr.nd
    rw [c.eq] at this
    refine (List.Perm.nodup_iff ?_).mp this
    simp only [List.append_assoc]
    refine List.Perm.append_left La ?_
    rw [← List.append_assoc, ← List.append_assoc]
    exact List.Perm.append_right R List.perm_append_comm
  · rw [c.eq]
    simp only [List.mem_append] at ha ⊢
    rcases ha with (h | h) | h | h
    · exact .inl (.inl h)
    · exact .inl (.inr (.inr h))
    · exact .inl (.inr (.inl h))
    · exact .inr h
theorem s_mv {i : Nat} {x : Str} {pos : Pos} (hN : X.N[i]? = some x) (hv : Vis X.env.scope x) (hd : (x == ("__debug__" : Str)) = false) (hcd : (x == ("__classdict__" : Str)) = false) : EV X C cal XE (.Name x pos) (.mv i) := by
  refine PE.imp (pe_var hN hv hd hcd) fun σ H Q hq => ?_
  obtain ⟨F, env, L, R, sr, hout⟩ := hq
  simp only [ev] at hout
  split at hout
  · rename_i o hd
    obtain ⟨v, l, L', hs, r, p⟩ := sr.give hd
    refine ⟨v, hs, hout v F H L' l p ?_⟩
    cases o with
    | fr d => exact ⟨r.1, r.2⟩
    | _ => exact r
  · exact hout.elim
/-- what stands still, with more of the heap -/
def frzH (S : List Addr) (F H : Hp) : Hp := fun a => if a ∈ S then H a else F a
theorem frzH_sub {S : List Addr} {F H : Hp} (h : ∀ a ∈ S, F a = none) : Sub F (frzH S F H) := fun a u e => by
  unfold frzH
  rw [if_neg (fun z => by rw [h a z] at e; cases e)]
  exact e
theorem frzH_le {S : List Addr} {F H : Hp} (h : Le F H) : Le (frzH S F H) H := fun a u e => by
  unfold frzH at e
  split at e
  · exact .inl e
  · exact h a u e
theorem frzH_in {S : List Addr} {F H : Hp} {a : Addr} (h : a ∈ S) : frzH S F H a = H a := by unfold frzH; rw [if_pos h]
theorem frzH_out {S : List Addr} {F H : Hp} {a : Addr} (h : a ∉ S) : frzH S F H a = F a := by unfold frzH; rw [if_neg h]
theorem set_same {α : Type} : ∀ {l : List α} {i : Nat} {a : α}, l[i]? = some a → l.set i a = l
  | [], i, a, h => by simp
  | b :: l, 0, a, h => by simp at h; subst h; rfl
  | b :: l, i + 1, a, h => by
    simp only [List.set_cons_succ]
    rw [set_same (by simpa using h)]
theorem SR.freeze {K : PySem.W.Frag} {F H : Hp} {σ : St} {env : Env} {L R : List Addr} {i : Nat} {o : O} (sr : SR C K F H σ env L R) (h : (env[i]?).join = some o) :
    ∃ v F' L', σ[i]? = some (some v) ∧ RepS C K F' o.frz v ∧ Pst C K F H σ env L R F' H (env.set i (some (.fr o.frz))) L' [] false := by
  obtain ⟨v, La, l, Lb, c, hs, r⟩ := sr.slot h
  have nd := sr.nd
  rw [c.eq] at nd
  have fn := sr.fn
  rw [c.eq] at fn
  have hl : ∀ a ∈ l, F a = none := fun a ha => (fn a (by simp [ha])).1
  have hsub : Sub F (frzH l F H) := frzH_sub hl
  have rs : RepS C K (frzH l F H) o.frz v := RepO.frz hsub.le o v l (fun a ha => frzH_in ha) r
  have hd : ∀ a ∈ La ++ (Lb ++ R), a ∉ l := by
    intro a ha hb
    have nd' : (l ++ (La ++ (Lb ++ R))).Nodup := (List.Perm.nodup_iff (by
      simp only [List.append_assoc]
      rw [← List.append_assoc, ← List.append_assoc (as := l)]
      exact List.Perm.append_right _ List.perm_append_comm)).mp nd
    exact (List.nodup_append.mp nd').2.2 a hb a ha rfl
  refine ⟨v, frzH l F H, La ++ Lb, hs, rs, ⟨⟨frzH_le sr.le, ?_, ?_, fun a ha => ?_⟩, hsub, fun _ _ => rfl, fun z => by cases z⟩⟩
  · have := c.put (frzH l F H) H (.fr o.frz) v [] hsub.le (fun _ _ => rfl) ⟨rfl, rs⟩
    rw [List.nil_append, set_same hs] at this
    exact this
  · refine nd.sublist ?_
    simp only [List.nil_append, List.append_assoc]
    exact List.Sublist.append_left (List.sublist_append_right _ _) La
  · have hm : a ∈ La ++ (Lb ++ R) := by simpa using ha
    have hm2 : a ∈ La ++ (l ++ Lb) ++ R := by
      simp only [List.mem_append] at hm ⊢
      rcases hm with h | h | h
      · exact .inl (.inl h)
      · exact .inl (.inr (.inr h))
      · exact .inr h
    rw [frzH_out (hd a hm)]
    exact fn a hm2
theorem s_fz {i : Nat} {x : Str} {pos : Pos} (hN : X.N[i]? = some x) (hv : Vis X.env.scope x) (hd : (x == ("__debug__" : Str)) = false) (hcd : (x == ("__classdict__" : Str)) = false) : EV X C cal XE (.Name x pos) (.fz i) := by
  refine PE.imp (pe_var hN hv hd hcd) fun σ H Q hq => ?_
  obtain ⟨F, env, L, R, sr, hout⟩ := hq
  simp only [ev] at hout
  split at hout
  · rename_i o hd
    obtain ⟨v, F', L', hs, r, p⟩ := sr.freeze hd
    exact ⟨v, hs, hout v F' H L' [] p ⟨rfl, r⟩⟩
  · exact hout.elim
/-! operators -/
theorem s_bin {op : Operator} {l r : Expr} {pos : Pos} {a b : CE} (ha : EV X C cal XE l a) (hb : EV X C cal XE r b) : EV X C cal XE (.BinOp l op r pos) (.bin op a b) := by
  refine PE.imp (pe_op (op_bin (C := C)) ha hb) fun σ H Q hq => ?_
  obtain ⟨F, env, L, R, sr, hout⟩ := hq
  simp only [ev] at hout
  refine two (q := (CE.bin op a b).quiet) (k := fun ha hb e => if (!ha.isQ || b.quiet) = true then
      match ha.get e, hb.get e with
      | some x, some y => match binO op x y with
        | some o => .ok (mkH o, e)
        | none => .er
      | _, _ => .er
    else .er) (fun z => by simpa [CE.quiet] using z) sr hout fun x y F2 H2 e2 L2 Ta Tb ha hb p hx hy ho => ?_
  split at ho
  · rename_i hk
    split at ho
    · rename_i ox oy g1 g2
      split at ho
      · rename_i o ho2
        obtain ⟨lx, r1, _⟩ := (hx hk).get p.sr g1
        obtain ⟨ly, r2, _⟩ := hy.get p.sr g2
        exact ⟨F2, ox, oy, o, lx, ly, p.sr.le, r1, r2, ho2, Out.fin ho p (fun z => by simpa [CE.quiet] using z)⟩
      · exact ho.elim
    · exact ho.elim
  · exact ho.elim
theorem s_cmp (hu : X.A.units + 64 < cLine) {op : CmpOp} {l r : Expr} {pos : Pos} {a b : CE} (hm : behindInMarks op r = false) (ha : EV X C cal XE l a) (hb : EV X C cal XE r b) :
    EV X C cal XE (.Compare l [op] [r] pos) (.cmp op a b) ∧ ET X C cal XE (.Compare l [op] [r] pos) (.cmp op a b) := by
  have go : ∀ σ H Q, tV C X.K cal XE (.cmp op a b) σ H Q → tOp (rCmp C X.K op) (tV C X.K cal XE a) (tV C X.K cal XE b) σ H Q := fun σ H Q hq => by
    obtain ⟨F, env, L, R, sr, hout⟩ := hq
    simp only [ev] at hout
    refine two (q := (CE.cmp op a b).quiet) (k := fun ha hb e => if (!ha.isQ || b.quiet) = true then
        match ha.view e, hb.view e with
        | some x, some y => match cmpD op x y with
          | some k => .ok (.p (.bl k), e)
          | none => .er
        | _, _ => .er
      else .er) (fun z => by simpa [CE.quiet] using z) sr hout fun x y F2 H2 e2 L2 Ta Tb ha hb p hx hy ho => ?_
    split at ho
    · rename_i hk
      split at ho
      · rename_i dx dy g1 g2
        split at ho
        · rename_i k ho2
          obtain ⟨ox, e1, rfl⟩ := Option.map_eq_some_iff.mp (show (ha.get e2).map O.frz = some dx from g1)
          obtain ⟨oy, e2', rfl⟩ := Option.map_eq_some_iff.mp (show (hb.get e2).map O.frz = some dy from g2)
          obtain ⟨lx, r1, _⟩ := (hx hk).get p.sr e1
          obtain ⟨ly, r2, _⟩ := hy.get p.sr e2'
          exact ⟨_, _, k, r1.read p.sr.le, r2.read p.sr.le, ho2, Out.pd ho p (fun z => by simpa [CE.quiet] using z) (by simp [RepS])⟩
        · exact ho.elim
      · exact ho.elim
    · exact ho.elim
  exact ⟨PE.imp (pe_cmpR (op_cmp hu) ha hb hm) go, PT.imp (pt_cmpR (op_cmp hu) ha hb hm) fun σ H Q hq => go σ H _ hq⟩
end
end Cr
end

section
/-! Expressions, further. -/
namespace Cr
open PySem L2

section
variable {X : Cx} {C : Nat → Addr} {cal : Nat → List O → CRes} {XE : XP}
theorem cont {K : PySem.W.Frag} {F F1 H H1 : Hp} {σ : St} {env e1 : Env} {L L1 R T : List Addr} {q q1 : Bool} {a : CE} {k : Hd × Env → Res (Hd × Env)} {Q : VK} {Q1 : V → Hp → Prop}
    (p : Pst C K F H σ env L R F1 H1 e1 L1 T q1) (hout : Out C K XE F H σ env L R q ((ev cal a e1).bind k) Q)
    (fin : ∀ x F2 H2 e2 L2 T2 ha, Pst C K F H σ env L R F2 H2 e2 L2 (T2 ++ T) (q1 && a.quiet) → Pst C K F1 H1 σ e1 L1 (T ++ R) F2 H2 e2 L2 T2 a.quiet → HX C K F2 H2 σ L2 T2 ha x → Out C K XE F H σ env L R q (k (ha, e2)) Q → Q1 x H2) :
    tV C K cal XE a σ H1 Q1 := by
  refine ⟨F1, e1, L1, T ++ R, p.sr, ?_⟩
  cases ha : ev cal a e1 with
  | ok x =>
    rw [ha] at hout
    intro v F2 H2 L2 T2 p2 hx
    exact fin v F2 H2 x.2 L2 T2 x.1 (p.trans p2) p2 hx hout
  | ex c d e =>
    rw [ha] at hout
    exact Out.exT (Q := Q) hout p
  | er => rw [ha] at hout; exact hout
theorem HX.pS {K : PySem.W.Frag} {F H : Hp} {σ : St} {L T : List Addr} {d : D} {v : V} (x : HX C K F H σ L T (.p d) v) : RepS C K F d v := x.2
theorem s_cmp2 (hu : X.A.units + 64 < cLine) {o1 o2 : CmpOp} {l m r : Expr} {pos : Pos} {a b c : CE} (hm : lastMarks [o1, o2] [m, r] = false) (ha : EV X C cal XE l a) (hb : EV X C cal XE m b) (hc : EV X C cal XE r c) :
    EV X C cal XE (.Compare l [o1, o2] [m, r] pos) (.cmp2 o1 o2 a b c) ∧ ET X C cal XE (.Compare l [o1, o2] [m, r] pos) (.cmp2 o1 o2 a b c) := by
  have go : ∀ σ H Q, tV C X.K cal XE (.cmp2 o1 o2 a b c) σ H Q → tChain (rCmp C X.K o1) (rCmp C X.K o2) (tV C X.K cal XE a) (tV C X.K cal XE b) (tV C X.K cal XE c) σ H Q := fun σ H Q hq => by
    obtain ⟨F, env, L, R, sr, hout⟩ := hq
    simp only [ev] at hout
    refine two (q := (CE.cmp2 o1 o2 a b c).quiet) (k := fun ha hb e => match ha, hb with
        | .p x, .p y => match cmpD o1 x y with
          | some true => (ev cal c e).bind fun (hc, e) => match hc with
            | .p z => match cmpD o2 y z with
              | some k => .ok (.p (.bl k), e)
              | none => .er
            | _ => .er
          | some false => .ok (.p (.bl false), e)
          | none => .er
        | _, _ => .er) (fun z => by simp only [CE.quiet, Bool.and_eq_true] at z; exact z.1) sr hout fun x y F2 H2 e2 L2 Ta Tb ha hb p hx hy ho => ?_
    split at ho
    · rename_i dx dy
      have rx := RepS.le p.sr.le _ _ (hx rfl).pS
      have ry := RepS.le p.sr.le _ _ hy.pS
      split at ho
      · rename_i hk
        refine ⟨dx, dy, true, rx, ry, hk, true, rfl, ?_⟩
        refine iteT (cont p ho fun z F3 H3 e3 L3 T3 hc p3 p2 hz ho => ?_)
        dsimp only at ho
        split at ho
        · rename_i dz
          split at ho
          · rename_i k hk2
            exact ⟨dy, dz, k, RepS.le p3.sr.le _ _ (RepS.le p2.fe.le _ _ hy.pS), RepS.le p3.sr.le _ _ hz.pS, hk2, Out.pd ho p3 (fun z => by simpa [CE.quiet] using z) (by simp [RepS])⟩
          · exact ho.elim
        · exact ho.elim
      · rename_i hk
        exact ⟨dx, dy, false, rx, ry, hk, false, rfl, iteF (Out.pd ho p (fun z => by simp only [CE.quiet, Bool.and_eq_true] at z ⊢; exact z.1) (by simp [RepS]))⟩
      · exact ho.elim
    · exact ho.elim
  exact ⟨PE.imp (pe_chain (op_cmp hu) (op_cmp hu) ha hb hc hm) go, PT.imp (pt_chain (op_cmp hu) (op_cmp hu) ha hb hc hm) fun σ H Q hq => go σ H _ hq⟩
def EVL (P : Expr → CE → Prop) : List CE → List Expr → Prop
  | [], [] => True
  | c :: cs, x :: xs => P x c ∧ EVL P cs xs
  | _, _ => False
def tW (C : Nat → Addr) (K : PySem.W.Frag) (XE : XP) (q : Bool) (m : Env → Res (Hd × Env)) : TE := fun σ H Q => ∃ F env L R, SR C K F H σ env L R ∧ Out C K XE F H σ env L R q (m env) Q
theorem and_step {x : CE} {y : CE} {r : List CE} (σ : St) (H : Hp) (Q : VK) {K : PySem.W.Frag} (hq : tW C K XE (quietL (x :: y :: r)) (evAnd cal (x :: y :: r)) σ H Q) :
    tV C K cal XE x σ H fun v H1 => ∃ c, v = .bl c ∧ if c = true then tW C K XE (quietL (y :: r)) (evAnd cal (y :: r)) σ H1 Q else Q (.bl false) H1 := by
  obtain ⟨F, env, L, R, sr, hout⟩ := hq
  simp only [evAnd] at hout
  refine cont (Pst.refl sr) hout fun v F1 H1 e1 L1 T1 ha p _ hx ho => ?_
  dsimp only at ho
  split at ho
  · rename_i hb
    obtain ⟨rfl, rfl, rfl⟩ := boolH_of hb hx
    refine ⟨true, rfl, iteT ⟨F1, e1, L1, R, p.sr, ?_⟩⟩
    cases e : evAnd cal (y :: r) e1 with
    | ok z =>
      rw [e] at ho
      intro w F2 H2 L2 T2 p2 hw
      exact ho w F2 H2 L2 T2 (((p.trans p2).less (List.sublist_append_left _ _)).q_of (fun z => by simpa [quietL] using z)) hw
    | ex c d e =>
      rw [e] at ho
      exact Out.exT (Q := Q) ho p
    | er => rw [e] at ho; exact ho
  · rename_i hb
    obtain ⟨rfl, rfl, rfl⟩ := boolH_of hb hx
    exact ⟨false, rfl, iteF (Out.pd ho p (fun z => by simp only [quietL, Bool.and_eq_true] at z ⊢; exact ⟨trivial, z.1⟩) (by simp [RepS]))⟩
  · exact ho.elim
theorem or_step {x : CE} {y : CE} {r : List CE} (σ : St) (H : Hp) (Q : VK) {K : PySem.W.Frag} (hq : tW C K XE (quietL (x :: y :: r)) (evOr cal (x :: y :: r)) σ H Q) :
    tV C K cal XE x σ H fun v H1 => ∃ c, v = .bl c ∧ if c = true then Q (.bl true) H1 else tW C K XE (quietL (y :: r)) (evOr cal (y :: r)) σ H1 Q := by
  obtain ⟨F, env, L, R, sr, hout⟩ := hq
  simp only [evOr] at hout
  refine cont (Pst.refl sr) hout fun v F1 H1 e1 L1 T1 ha p _ hx ho => ?_
  dsimp only at ho
  split at ho
  · rename_i hb
    obtain ⟨rfl, rfl, rfl⟩ := boolH_of hb hx
    refine ⟨false, rfl, iteF ⟨F1, e1, L1, R, p.sr, ?_⟩⟩
    cases e : evOr cal (y :: r) e1 with
    | ok z =>
      rw [e] at ho
      intro w F2 H2 L2 T2 p2 hw
      exact ho w F2 H2 L2 T2 (((p.trans p2).less (List.sublist_append_left _ _)).q_of (fun z => by simpa [quietL] using z)) hw
    | ex c d e =>
      rw [e] at ho
      exact Out.exT (Q := Q) ho p
    | er => rw [e] at ho; exact ho
  · rename_i hb
    obtain ⟨rfl, rfl, rfl⟩ := boolH_of hb hx
    exact ⟨true, rfl, iteT (Out.pd ho p (fun z => by simp only [quietL, Bool.and_eq_true] at z ⊢; exact ⟨trivial, z.1⟩) (by simp [RepS]))⟩
  · exact ho.elim
theorem w_one {x : CE} {K : PySem.W.Frag} (σ : St) (H : Hp) (Q : VK) (hq : tW C K XE (quietL [x]) (evAnd cal [x]) σ H Q) : tV C K cal XE x σ H Q := by
  obtain ⟨F, env, L, R, sr, hout⟩ := hq
  refine ⟨F, env, L, R, sr, ?_⟩
  simpa [quietL, evAnd] using hout
theorem w_oneO {x : CE} {K : PySem.W.Frag} (σ : St) (H : Hp) (Q : VK) (hq : tW C K XE (quietL [x]) (evOr cal [x]) σ H Q) : tV C K cal XE x σ H Q := by
  obtain ⟨F, env, L, R, sr, hout⟩ := hq
  refine ⟨F, env, L, R, sr, ?_⟩
  simpa [quietL, evOr] using hout
theorem s_andL {pos : Pos} : ∀ (es : List CE) (xs : List Expr), es ≠ [] → EVL (EV X C cal XE) es xs → PE X (.BoolOp .And xs pos) (tW C X.K XE (quietL es) (evAnd cal es))
  | [], _, h, _ => absurd rfl h
  | [c], [], _, h => h.elim
  | [c], [x], _, h => PE.imp (pe_one h.1) fun σ H Q q => w_one σ H Q q
  | [c], _ :: _ :: _, _, h => h.2.elim
  | c :: d :: r, [], _, h => h.elim
  | c :: d :: r, [x], _, h => h.2.elim
  | c :: d :: r, x :: y :: z, _, h => PE.imp (pe_and h.1 (s_andL (d :: r) (y :: z) (by simp) h.2)) fun σ H Q q => and_step σ H Q q
theorem s_orL {pos : Pos} : ∀ (es : List CE) (xs : List Expr), es ≠ [] → EVL (EV X C cal XE) es xs → PE X (.BoolOp .Or xs pos) (tW C X.K XE (quietL es) (evOr cal es))
  | [], _, h, _ => absurd rfl h
  | [c], [], _, h => h.elim
  | [c], [x], _, h => PE.imp (pe_one h.1) fun σ H Q q => w_oneO σ H Q q
  | [c], _ :: _ :: _, _, h => h.2.elim
  | c :: d :: r, [], _, h => h.elim
  | c :: d :: r, [x], _, h => h.2.elim
  | c :: d :: r, x :: y :: z, _, h => PE.imp (pe_or h.1 (s_orL (d :: r) (y :: z) (by simp) h.2)) fun σ H Q q => or_step σ H Q q
theorem s_andT {pos : Pos} : ∀ (es : List CE) (xs : List Expr), es ≠ [] → EVL (ET X C cal XE) es xs → PW X (.BoolOp .And xs pos) (tB (tW C X.K XE (quietL es) (evAnd cal es)))
  | [], _, h, _ => absurd rfl h
  | [c], [], _, h => h.elim
  | [c], [x], _, h => PW.imp (pw_and1 h.1) fun σ H Q q => w_one σ H _ q
  | [c], _ :: _ :: _, _, h => h.2.elim
  | c :: d :: r, [], _, h => h.elim
  | c :: d :: r, [x], _, h => h.2.elim
  | c :: d :: r, x :: y :: z, _, h => PW.imp (pw_and h.1 (s_andT (d :: r) (y :: z) (by simp) h.2)) fun σ H Q q => by
    have := and_step σ H _ q
    obtain ⟨F, env, L, R, sr, ho⟩ := this
    refine ⟨F, env, L, R, sr, ?_⟩
    cases e : ev cal c env with
    | ok z0 =>
      rw [e] at ho
      intro v F' H' L' T p hx
      obtain ⟨k, rfl, hk⟩ := ho v F' H' L' T p hx
      refine ⟨k, rfl, ?_⟩
      cases k with
      | true => exact hk
      | false =>
        rw [if_neg (by decide)] at hk ⊢
        obtain ⟨b, e1, e2⟩ := hk
        cases e1; exact e2
    | ex _ _ _ => rw [e] at ho; exact ho
    | er => rw [e] at ho; exact ho
theorem s_orT {pos : Pos} : ∀ (es : List CE) (xs : List Expr), es ≠ [] → EVL (ET X C cal XE) es xs → PW X (.BoolOp .Or xs pos) (tB (tW C X.K XE (quietL es) (evOr cal es)))
  | [], _, h, _ => absurd rfl h
  | [c], [], _, h => h.elim
  | [c], [x], _, h => PW.imp (pw_or1 h.1) fun σ H Q q => w_oneO σ H _ q
  | [c], _ :: _ :: _, _, h => h.2.elim
  | c :: d :: r, [], _, h => h.elim
  | c :: d :: r, [x], _, h => h.2.elim
  | c :: d :: r, x :: y :: z, _, h => PW.imp (pw_or h.1 (s_orT (d :: r) (y :: z) (by simp) h.2)) fun σ H Q q => by
    have := or_step σ H _ q
    obtain ⟨F, env, L, R, sr, ho⟩ := this
    refine ⟨F, env, L, R, sr, ?_⟩
    cases e : ev cal c env with
    | ok z0 =>
      rw [e] at ho
      intro v F' H' L' T p hx
      obtain ⟨k, rfl, hk⟩ := ho v F' H' L' T p hx
      refine ⟨k, rfl, ?_⟩
      cases k with
      | true =>
        rw [if_pos rfl] at hk ⊢
        obtain ⟨b, e1, e2⟩ := hk
        cases e1; exact e2
      | false => exact hk
    | ex _ _ _ => rw [e] at ho; exact ho
    | er => rw [e] at ho; exact ho
theorem s_and {pos : Pos} {es : List CE} {xs : List Expr} (hn : es ≠ []) (h : EVL (EV X C cal XE) es xs) : EV X C cal XE (.BoolOp .And xs pos) (.and es) :=
  PE.imp (s_andL es xs hn h) fun σ H Q hq => by
    obtain ⟨F, env, L, R, sr, ho⟩ := hq
    exact ⟨F, env, L, R, sr, by simpa [ev, CE.quiet] using ho⟩
theorem s_or {pos : Pos} {es : List CE} {xs : List Expr} (hn : es ≠ []) (h : EVL (EV X C cal XE) es xs) : EV X C cal XE (.BoolOp .Or xs pos) (.or es) :=
  PE.imp (s_orL es xs hn h) fun σ H Q hq => by
    obtain ⟨F, env, L, R, sr, ho⟩ := hq
    exact ⟨F, env, L, R, sr, by simpa [ev, CE.quiet] using ho⟩
theorem s_andt {pos : Pos} {es : List CE} {xs : List Expr} (hn : es ≠ []) (h : EVL (ET X C cal XE) es xs) : ET X C cal XE (.BoolOp .And xs pos) (.and es) :=
  PT.imp (s_andT es xs hn h).pt fun σ H Q hq => by
    obtain ⟨F, env, L, R, sr, ho⟩ := hq
    exact ⟨F, env, L, R, sr, by simpa [ev, CE.quiet] using ho⟩
theorem s_ort {pos : Pos} {es : List CE} {xs : List Expr} (hn : es ≠ []) (h : EVL (ET X C cal XE) es xs) : ET X C cal XE (.BoolOp .Or xs pos) (.or es) :=
  PT.imp (s_orT es xs hn h).pt fun σ H Q hq => by
    obtain ⟨F, env, L, R, sr, ho⟩ := hq
    exact ⟨F, env, L, R, sr, by simpa [ev, CE.quiet] using ho⟩
theorem not_step {a : CE} (σ : St) (H : Hp) (Q : VK) {K : PySem.W.Frag} (hq : tV C K cal XE (.not a) σ H Q) : tV C K cal XE a σ H fun v H1 => ∃ c, v = .bl c ∧ Q (.bl (!c)) H1 := by
  obtain ⟨F, env, L, R, sr, hout⟩ := hq
  simp only [ev] at hout
  refine cont (Pst.refl sr) hout fun v F1 H1 e1 L1 T1 ha p _ hx ho => ?_
  dsimp only at ho
  split at ho
  · rename_i k hb
    obtain ⟨rfl, rfl, rfl⟩ := boolH_of hb hx
    exact ⟨k, rfl, Out.pd ho p (fun z => by simpa [CE.quiet] using z) (by simp [RepS])⟩
  · exact ho.elim
theorem s_not {x : Expr} {pos : Pos} {a : CE} (ha : EV X C cal XE x a) : EV X C cal XE (.UnaryOp .Not x pos) (.not a) := PE.imp (pe_not ha) fun σ H Q q => not_step σ H Q q
theorem s_nott {x : Expr} {pos : Pos} {a : CE} (ha : ET X C cal XE x a) : ET X C cal XE (.UnaryOp .Not x pos) (.not a) := PT.imp (pt_not ha) fun σ H Q q => by
  have := not_step σ H _ q
  obtain ⟨F, env, L, R, sr, ho⟩ := this
  refine ⟨F, env, L, R, sr, ?_⟩
  cases e : ev cal a env with
  | ok z0 =>
    rw [e] at ho
    intro v F' H' L' T p hx
    obtain ⟨k, rfl, b, e1, e2⟩ := ho v F' H' L' T p hx
    cases e1
    exact ⟨k, rfl, e2⟩
  | ex _ _ _ => rw [e] at ho; exact ho
  | er => rw [e] at ho; exact ho
theorem s_ife {c x y : Expr} {pos : Pos} {k a b : CE} (hc : ET X C cal XE c k) (ha : EV X C cal XE x a) (hb : EV X C cal XE y b) : EV X C cal XE (.IfExp c x y pos) (.ife k a b) := by
  refine PE.imp (pe_ifExp hc ha hb) fun σ H Q hq => ?_
  obtain ⟨F, env, L, R, sr, hout⟩ := hq
  simp only [ev] at hout
  refine cont (Pst.refl sr) hout fun v F1 H1 e1 L1 T1 hd p _ hx ho => ?_
  dsimp only at ho
  split at ho
  · rename_i hb
    obtain ⟨rfl, rfl, rfl⟩ := boolH_of hb hx
    refine ⟨true, rfl, iteT ⟨F1, e1, L1, R, p.sr, ?_⟩⟩
    cases e : ev cal a e1 with
    | ok z =>
      rw [e] at ho
      intro w F2 H2 L2 T2 p2 hw
      exact ho w F2 H2 L2 T2 (((p.trans p2).less (List.sublist_append_left _ _)).q_of (fun z => by simp only [CE.quiet, Bool.and_eq_true] at z ⊢; exact ⟨⟨trivial, z.1.1⟩, z.1.2⟩)) hw
    | ex c d e =>
      rw [e] at ho
      exact Out.exT (Q := Q) ho p
    | er => rw [e] at ho; exact ho
  · rename_i hb
    obtain ⟨rfl, rfl, rfl⟩ := boolH_of hb hx
    refine ⟨false, rfl, iteF ⟨F1, e1, L1, R, p.sr, ?_⟩⟩
    cases e : ev cal b e1 with
    | ok z =>
      rw [e] at ho
      intro w F2 H2 L2 T2 p2 hw
      exact ho w F2 H2 L2 T2 (((p.trans p2).less (List.sublist_append_left _ _)).q_of (fun z => by simp only [CE.quiet, Bool.and_eq_true] at z ⊢; exact ⟨⟨trivial, z.1.1⟩, z.2⟩)) hw
    | ex c d e =>
      rw [e] at ho
      exact Out.exT (Q := Q) ho p
    | er => rw [e] at ho; exact ho
  · exact ho.elim
end
end Cr
end

section
/-! Places, displays, calls. -/
namespace Cr
open PySem L2

section
variable {C : Nat → Addr} {cal : Nat → List O → CRes} {XE : XP} {K : PySem.W.Frag} {F F' F1 F2 H H' H1 H2 : Hp} {σ : St} {env env1 env2 : Env} {L L1 L2 R T T1 T2 : List Addr} {q q1 q2 : Bool}
/-- a part of an operand -/
theorem HX.part {h : Hd} {v v' : V} {o o' : O} {l' : List Addr} (x : HX C K F H σ L T h v) (s : SR C K F H σ env L R) (g : h.get env = some o) (hl : ∀ l, RepO C K F H o v l → (∀ a ∈ l, a ∈ L ∨ a ∈ T) → True) (r : RepO C K F H o' v' l') (hsub : ∃ l, RepO C K F H o v l ∧ (∀ a ∈ l, a ∈ L ∨ a ∈ T) ∧ (∀ a ∈ l', a ∈ l) ∧ ((∃ o0, h = .t o0) → l = T)) : True := trivial
theorem RepO.frNil {d : D} {v : V} {l : List Addr} (r : RepO C K F H (.fr d) v l) : l = [] ∧ RepS C K F d v := r
theorem Hd.part_fr (h : Hd) (d : D) : h.part (.fr d) = .p d := by unfold Hd.part; rfl
theorem Hd.part_no (h : Hd) (o : O) (n : o.isFr = false) : h.part o = (match h with | .t _ => .t o | _ => .q o) := by
  cases o with
  | fr d => cases n
  | _ => rfl
/-- how an operand's value lies with its whole -/
theorem HX.get2 {h : Hd} {v : V} {o : O} (x : HX C K F H σ L T h v) (s : SR C K F H σ env L R) (g : h.get env = some o) : ∃ l, RepO C K F H o v l ∧ ((∃ o0, h = .t o0 ∧ l = T) ∨ ((∀ o0, h ≠ .t o0) ∧ T = [] ∧ ∀ a ∈ l, a ∈ L)) := by
  cases h with
  | p d =>
    cases g
    exact ⟨[], ⟨rfl, x.2⟩, .inr ⟨(fun _ z => by cases z), x.1, fun a z => by simp at z⟩⟩
  | t o' =>
    cases g
    exact ⟨T, x, .inl ⟨_, rfl, rfl⟩⟩
  | n i =>
    obtain ⟨v', La, l, Lb, c, hv, r⟩ := s.slot (show (env[i]?).join = some o from g)
    have e : v' = v := by
      have := hv.symm.trans x.2
      simpa using this
    subst e
    exact ⟨l, r, .inr ⟨(fun _ z => by cases z), x.1, fun a z => c.mem a z⟩⟩
  | io i =>
    obtain ⟨v', La, l, Lb, c, hv, r⟩ := s.slot (show (env[i]?).join = some o from g)
    have e : v' = v := by
      have := hv.symm.trans x.2
      simpa using this
    subst e
    exact ⟨l, r, .inr ⟨(fun _ z => by cases z), x.1, fun a z => c.mem a z⟩⟩
  | q o' =>
    cases g
    obtain ⟨e, l, hl, r⟩ := x
    exact ⟨l, r, .inr ⟨(fun _ z => by cases z), e, hl⟩⟩
end
section
variable {X : Cx} {C : Nat → Addr} {cal : Nat → List O → CRes} {XE : XP}
theorem RepOL.nthS {C : Nat → Addr} {K : PySem.W.Frag} {F H : Hp} : ∀ {os : List O} {vs : List V} {l : List Addr} {i : Nat} {o : O}, RepOL C K F H os vs l → os[i]? = some o → ∃ v l', vs[i]? = some v ∧ RepO C K F H o v l' ∧ List.Sublist l' l
  | [], vs, l, i, o, r, h => by simp at h
  | o0 :: os, vs, l, 0, o, r, h => by
    simp only [RepOL] at r
    obtain ⟨v, s, l1, l2, rfl, q, t, rfl⟩ := r
    simp at h; subst h
    exact ⟨v, l1, rfl, q, List.sublist_append_left _ _⟩
  | o0 :: os, vs, l, i + 1, o, r, h => by
    simp only [RepOL] at r
    obtain ⟨v, s, l1, l2, rfl, q, t, rfl⟩ := r
    obtain ⟨w, l', h1, h2, h3⟩ := RepOL.nthS (i := i) t (by simpa using h)
    exact ⟨w, l', by simpa using h1, h2, h3.trans (List.sublist_append_right _ _)⟩
theorem atO_specS {C : Nat → Addr} {K : PySem.W.Frag} {F H : Hp} {o o' : O} {v : V} {l : List Addr} {d : D} (le : Le F H) (r : RepO C K F H o v l) (h : atO o d = some o') :
    ∃ k a vs v' l', d = .int k ∧ v = .ref a ∧ (SqL K H a vs ∨ SqT K H a vs) ∧ atI vs k = some v' ∧ RepO C K F H o' v' l' ∧ List.Sublist l' l := by
  unfold atO at h
  split at h
  · rename_i xs k
    simp only [RepO, RepS] at r
    obtain ⟨_, a, vs, rfl, q, t⟩ := r
    cases e : atI xs k with
    | none => rw [e] at h; cases h
    | some d' =>
      rw [e] at h
      simp only [Option.map_some, Option.some.injEq] at h
      subst h
      obtain ⟨j, hj, hb⟩ := atI_map (ys := vs) t.len e
      obtain ⟨w, hw, rw'⟩ := t.nth hj
      exact ⟨k, a, vs, w, [], rfl, rfl, .inl (SqL.of (le.at q (fun _ z => by cases z))), hb w hw, ⟨rfl, rw'⟩, List.nil_sublist _⟩
  · rename_i xs k
    simp only [RepO, RepS] at r
    obtain ⟨_, a, vs, rfl, q, t⟩ := r
    cases e : atI xs k with
    | none => rw [e] at h; cases h
    | some d' =>
      rw [e] at h
      simp only [Option.map_some, Option.some.injEq] at h
      subst h
      obtain ⟨j, hj, hb⟩ := atI_map (ys := vs) t.len e
      obtain ⟨w, hw, rw'⟩ := t.nth hj
      exact ⟨k, a, vs, w, [], rfl, rfl, .inr (SqT.le le q), hb w hw, ⟨rfl, rw'⟩, List.nil_sublist _⟩
  · rename_i xs k
    simp only [RepO] at r
    obtain ⟨a, vs, r', rfl, q, t, rfl⟩ := r
    obtain ⟨j, hj, hb⟩ := atI_map (ys := vs) t.len h
    obtain ⟨w, l', hw, rw', hl⟩ := t.nthS hj
    exact ⟨k, a, vs, w, l', rfl, rfl, .inl (SqL.of q), hb w hw, rw', hl.trans (List.sublist_cons_self _ _)⟩
  · rename_i xs k
    simp only [RepO] at r
    obtain ⟨a, vs, rfl, q, t⟩ := r
    obtain ⟨j, hj, hb⟩ := atI_map (ys := vs) t.len h
    obtain ⟨w, l', hw, rw', hl⟩ := t.nthS hj
    exact ⟨k, a, vs, w, l', rfl, rfl, .inr (.inl (.inl (le.at q (fun _ z => by cases z)))), hb w hw, rw', hl⟩
  · cases h
def rAtS (C : Nat → Addr) (K : PySem.W.Frag) : R2 := fun x y H Q => ∃ F o d o' l, Le F H ∧ RepO C K F H o x l ∧ RepS C K H d y ∧ atO o d = some o' ∧ ∀ v' l', RepO C K F H o' v' l' → List.Sublist l' l → Q v' H
theorem ix_atS : IxR X (rAtS C X.K) := by
  intro value slice pins s σ H x y v u Q I rx ry h hs
  obtain ⟨F, o, d, o', l, le, r, rd, ha, q⟩ := h
  obtain ⟨k, a, vs, v', l', rfl, rfl, hq, hv, ro, hl⟩ := atO_specS le r ha
  simp only [RepS] at rd
  subst rd
  rcases hq with hq | hq
  · exact ix_list value slice pins s σ H _ _ v u Q I rx ry ⟨a, vs, k, v', rfl, rfl, hq, hv, q v' l' ro hl⟩ hs
  · exact ix_tup value slice pins s σ H _ _ v u Q I rx ry ⟨a, vs, k, v', rfl, rfl, hq, hv, q v' l' ro hl⟩ hs
theorem s_sub {l r : Expr} {pos : Pos} {a b : CE} (hs : PlainIx r) (ha : EV X C cal XE l a) (hb : EV X C cal XE r b) : EV X C cal XE (.Subscript l r pos) (.sub a b) := by
  refine PE.imp (pe_ix (ix_atS (C := C)) ha hb hs) fun σ H Q hq => ?_
  obtain ⟨F, env, L, R, sr, hout⟩ := hq
  simp only [ev] at hout
  refine two (q := (CE.sub a b).quiet) (k := fun ha hi e => if (!ha.isQ || b.quiet) = true then
      match ha.get e, hi with
      | some x, .p y => match atO x y with
        | some o => .ok (ha.part o, e)
        | none => .er
      | _, _ => .er
    else .er) (fun z => by simpa [CE.quiet] using z) sr hout fun x y F2 H2 e2 L2 Ta Tb ha hb p hx hy ho => ?_
  split at ho
  · rename_i hk
    split at ho
    · rename_i ox dy g1
      split at ho
      · rename_i o ho2
        obtain ⟨lx, r1, hw⟩ := (hx hk).get2 p.sr g1
        refine ⟨F2, ox, dy, o, lx, p.sr.le, r1, RepS.le p.sr.le _ _ hy.pS, ho2, fun v' l' ro hl => ?_⟩
        have hTb : Tb = [] := hy.1
        subst hTb
        rw [List.nil_append] at p
        cases ef : o.isFr with
        | true =>
          cases o with
          | fr d =>
            rw [Hd.part_fr] at ho
            exact Out.pd ho p (fun z => by simpa [CE.quiet] using z) ro.2
          | _ => cases ef
        | false =>
          rw [Hd.part_no _ _ ef] at ho
          rcases hw with ⟨o0, rfl, rfl⟩ | ⟨hn, hT, hL⟩
          · exact ho v' F2 H2 L2 l' ((p.less hl).q_of (fun z => by simpa [CE.quiet] using z)) ro
          · have e : (match ha with | .t _ => Hd.t o | _ => .q o) = .q o := by
              cases ha with
              | t o0 => exact absurd rfl (hn o0)
              | _ => rfl
            rw [e] at ho
            exact ho v' F2 H2 L2 [] (p.nil.q_of (fun z => by simpa [CE.quiet] using z)) ⟨rfl, l', fun a ha => hL a (hl.subset ha), ro⟩
      · exact ho.elim
    · exact ho.elim
  · exact ho.elim
def PVO (X : Cx) (C : Nat → Addr) (cal : Nat → List O → CRes) (XE : XP) (e : Option Expr) (c : Option CE) : Prop := match e, c with
  | none, none => True
  | some x, some a => EV X C cal XE x a
  | _, _ => False
theorem s_slice {l : Expr} {lo hi : Option Expr} {p2 pos : Pos} {a : CE} {cl ch : Option CE} (ha : EV X C cal XE l a) (hl : PVO X C cal XE lo cl) (hh : PVO X C cal XE hi ch) : EV X C cal XE (.Subscript l (.Slice lo hi none p2) pos) (.slice a cl ch) := by
  cases lo with
  | none =>
    cases cl with
    | some _ => exact hl.elim
    | none =>
      cases hi with
      | none =>
        cases ch with
        | some _ => exact hh.elim
        | none =>
          refine PE.imp (pe_slice (sl_cut (C := C)) ha po_none po_none) fun σ H Q hq => ?_
          obtain ⟨F, env, L, R, sr, hout⟩ := hq
          simp only [ev, evO, Res.bind] at hout
          refine one sr hout fun x F1 H1 e1 L1 T1 hd p hx ho => ?_
          dsimp only at ho
          split at ho
          · split at ho
            · rename_i o g
              split at ho
              · rename_i o' hc
                obtain ⟨lx, r1, _⟩ := hx.get p.sr g
                exact ⟨F1, _, o', lx, p.sr.le, r1, hc, Out.fin ho p (fun z => by simpa [CE.quiet, quietO] using z)⟩
              · exact ho.elim
            · exact ho.elim
          · exact ho.elim
      | some y =>
        cases ch with
        | none => exact hh.elim
        | some b =>
          refine PE.imp (pe_slice (sl_cut (C := C)) ha po_none (po_some hh)) fun σ H Q hq => ?_
          obtain ⟨F, env, L, R, sr, hout⟩ := hq
          simp only [ev, evO, Res.bind] at hout
          refine one sr hout fun x F1 H1 e1 L1 T1 hd p hx ho => ?_
          have ho' : Out C X.K XE F H σ env L R (CE.slice a none (some b)).quiet ((ev cal b e1).bind fun z => match z.1 with
              | .p (.int i) => if (!hd.isQ || (quietO none && quietO (some b))) = true then
                  match hd.get z.2 with
                  | some x => match cutO x none (some i) with
                    | some o => .ok (mkH o, z.2)
                    | none => .er
                  | none => .er
                else .er
              | _ => .er) Q := by
            cases e : ev cal b e1 with
            | ok z =>
              rw [e] at ho
              obtain ⟨h, e2⟩ := z
              cases h with
              | p d =>
                cases d with
                | int i =>
                  simp only [Res.bind] at ho ⊢
                  exact ho
                | _ => exact ho.elim
              | _ => exact ho.elim
            | ex _ _ _ => rw [e] at ho; exact ho
            | er => rw [e] at ho; exact ho
          refine cont p ho' fun w F2 H2 e2 L2 T2 hb p3 p2 hy ho => ?_
          dsimp only at ho
          split at ho
          · rename_i i
            split at ho
            · rename_i hk
              split at ho
              · rename_i o g
                split at ho
                · rename_i o' hc
                  have hx2 := hx.next p2 (fun z => by rw [z] at hk; simpa [quietO] using hk)
                  obtain ⟨lx, r1, _⟩ := hx2.get p3.sr g
                  exact ⟨i, by simpa [RepS] using hy.pS, F2, _, o', lx, p3.sr.le, r1, hc, Out.fin ho p3 (fun z => by simpa [CE.quiet, quietO] using z)⟩
                · exact ho.elim
              · exact ho.elim
            · exact ho.elim
          · exact ho.elim
  | some y =>
    cases cl with
    | none => exact hl.elim
    | some b =>
      cases hi with
      | none =>
        cases ch with
        | some _ => exact hh.elim
        | none =>
          refine PE.imp (pe_slice (sl_cut (C := C)) ha (po_some hl) po_none) fun σ H Q hq => ?_
          obtain ⟨F, env, L, R, sr, hout⟩ := hq
          simp only [ev, evO, Res.bind] at hout
          refine one sr hout fun x F1 H1 e1 L1 T1 hd p hx ho => ?_
          have ho' : Out C X.K XE F H σ env L R (CE.slice a (some b) none).quiet ((ev cal b e1).bind fun z => match z.1 with
              | .p (.int i) => if (!hd.isQ || (quietO (some b) && quietO none)) = true then
                  match hd.get z.2 with
                  | some x => match cutO x (some i) none with
                    | some o => .ok (mkH o, z.2)
                    | none => .er
                  | none => .er
                else .er
              | _ => .er) Q := by
            cases e : ev cal b e1 with
            | ok z =>
              rw [e] at ho
              obtain ⟨h, e2⟩ := z
              cases h with
              | p d =>
                cases d with
                | int i =>
                  simp only [Res.bind] at ho ⊢
                  exact ho
                | _ => exact ho.elim
              | _ => exact ho.elim
            | ex _ _ _ => rw [e] at ho; exact ho
            | er => rw [e] at ho; exact ho
          refine cont p ho' fun w F2 H2 e2 L2 T2 hb p3 p2 hy ho => ?_
          dsimp only at ho
          split at ho
          · rename_i i
            split at ho
            · rename_i hk
              split at ho
              · rename_i o g
                split at ho
                · rename_i o' hc
                  have hx2 := hx.next p2 (fun z => by rw [z] at hk; simpa [quietO] using hk)
                  obtain ⟨lx, r1, _⟩ := hx2.get p3.sr g
                  exact ⟨i, by simpa [RepS] using hy.pS, F2, _, o', lx, p3.sr.le, r1, hc, Out.fin ho p3 (fun z => by simpa [CE.quiet, quietO] using z)⟩
                · exact ho.elim
              · exact ho.elim
            · exact ho.elim
          · exact ho.elim
      | some y2 =>
        cases ch with
        | none => exact hh.elim
        | some b2 =>
          refine PE.imp (pe_slice (sl_cut (C := C)) ha (po_some hl) (po_some hh)) fun σ H Q hq => ?_
          obtain ⟨F, env, L, R, sr, hout⟩ := hq
          simp only [ev, evO, Res.bind] at hout
          refine one sr hout fun x F1 H1 e1 L1 T1 hd p hx ho => ?_
          have ho' : Out C X.K XE F H σ env L R (CE.slice a (some b) (some b2)).quiet ((ev cal b e1).bind fun z => match z.1 with
              | .p (.int i) => (ev cal b2 z.2).bind fun z2 => match z2.1 with
                | .p (.int j) => if (!hd.isQ || (quietO (some b) && quietO (some b2))) = true then
                  match hd.get z2.2 with
                  | some x => match cutO x (some i) (some j) with
                    | some o => .ok (mkH o, z2.2)
                    | none => .er
                  | none => .er
                  else .er
                | _ => .er
              | _ => .er) Q := by
            cases e : ev cal b e1 with
            | ok z =>
              rw [e] at ho
              obtain ⟨h, e2⟩ := z
              cases h with
              | p d =>
                cases d with
                | int i =>
                  simp only [Res.bind] at ho ⊢
                  cases e' : ev cal b2 e2 with
                  | ok z2 =>
                    rw [e'] at ho
                    obtain ⟨h2, e3⟩ := z2
                    cases h2 with
                    | p d2 =>
                      cases d2 with
                      | int j =>
                        simp only [Res.bind] at ho ⊢
                        exact ho
                      | _ => exact ho.elim
                    | _ => exact ho.elim
                  | ex _ _ _ => rw [e'] at ho; exact ho
                  | er => rw [e'] at ho; exact ho
                | _ => exact ho.elim
              | _ => exact ho.elim
            | ex _ _ _ => rw [e] at ho; exact ho
            | er => rw [e] at ho; exact ho
          refine cont p ho' fun w F2 H2 e2 L2 T2 hb p3 p2 hy ho => ?_
          dsimp only at ho
          split at ho
          · rename_i i
            have hT2 : T2 = [] := hy.1
            subst hT2
            refine ⟨i, by simpa [RepS] using hy.pS, cont p3 ho fun w2 F3 H3 e3 L3 T3 hb2 p5 p4 hy2 ho => ?_⟩
            dsimp only at ho
            split at ho
            · rename_i j
              split at ho
              · rename_i hk
                split at ho
                · rename_i o g
                  split at ho
                  · rename_i o' hc
                    have hk2 : hd.isQ = true → b.quiet = true ∧ b2.quiet = true := fun z => by rw [z] at hk; simpa [quietO] using hk
                    have hx2 := hx.next p2 (fun z => (hk2 z).1)
                    have hx3 := hx2.next (R := R) (by simpa using p4) (fun z => (hk2 z).2)
                    obtain ⟨lx, r1, _⟩ := hx3.get p5.sr g
                    exact ⟨j, by simpa [RepS] using hy2.pS, F3, _, o', lx, p5.sr.le, r1, hc, Out.fin ho p5 (fun z => by simpa [CE.quiet, quietO, Bool.and_assoc] using z)⟩
                  · exact ho.elim
                · exact ho.elim
              · exact ho.elim
            · exact ho.elim
          · exact ho.elim
end
end Cr
end

section
/-! Argument lists, displays, built-in functions. -/
namespace Cr
open PySem L2

section
variable {X : Cx} {C : Nat → Addr} {cal : Nat → List O → CRes} {XE : XP} {K : PySem.W.Frag} {F F' F1 F2 H H' H1 H2 : Hp} {σ : St} {env env1 env2 : Env} {L L1 L2 R T T1 T2 : List Addr} {q q1 q2 : Bool}
theorem SR.perm (s : SR C K F H σ env L (T ++ R)) (h : T.Perm T1) : SR C K F H σ env L (T1 ++ R) :=
  ⟨s.le, s.rep, (List.Perm.nodup_iff (List.Perm.append_left L (List.Perm.append_right R h))).mp s.nd, fun a ha => s.fn a (by
    rcases List.mem_append.mp ha with z | z
    · exact List.mem_append_left _ z
    · rcases List.mem_append.mp z with z | z
      · exact List.mem_append_right _ (List.mem_append_left _ (h.mem_iff.mpr z))
      · exact List.mem_append_right _ (List.mem_append_right _ z))⟩
theorem Pst.perm (p : Pst C K F H σ env L R F1 H1 env1 L1 T q) (h : T.Perm T1) : Pst C K F H σ env L R F1 H1 env1 L1 T1 q := ⟨p.sr.perm h, p.fe, p.kp, p.qt⟩
theorem a_nil : PA X [] (tVs C X.K cal XE []) := PA.imp pa_nil fun σ H Q hq => by
  obtain ⟨F, env, L, R, sr, ho⟩ := hq
  simp only [evs] at ho
  exact ho [] F H L [] ((Pst.refl sr).q_of fun _ => rfl) ⟨rfl, rfl⟩
theorem a_cons {e : Expr} {es : List Expr} {c : CE} {cs : List CE} (hs : starEach (e :: es) X.env = (false, eval e X.env) :: starEach es X.env) (he : EV X C cal XE e c) (hr : PA X es (tVs C X.K cal XE cs)) : PA X (e :: es) (tVs C X.K cal XE (c :: cs)) := by
  refine PA.imp (pa_cons he hr hs) fun σ H Q hq => ?_
  obtain ⟨F, env, L, R, sr, ho⟩ := hq
  simp only [evs] at ho
  refine ⟨F, env, L, R, sr, ?_⟩
  cases h1 : ev cal c env with
  | ok x =>
    rw [h1] at ho
    intro v F1 H1 L1 T1 p hx
    simp only [Res.bind] at ho
    refine ⟨F1, x.2, L1, T1 ++ R, p.sr, ?_⟩
    cases h2 : evs cal cs x.2 with
    | ok y =>
      rw [h2] at ho
      intro vs F2 H2 L2 T2 p2 hy
      refine ho (v :: vs) F2 H2 L2 (T1 ++ T2) (((p.trans p2).perm List.perm_append_comm).q_of fun z => by simpa [quietL] using z) ?_
      exact ⟨v, vs, T1, T2, rfl, rfl, fun hk => hx.next p2 fun z => by rw [z] at hk; simpa using hk, hy⟩
    | ex a b d =>
      rw [h2] at ho
      exact fun F' H' L' p2 => ho F' H' L' (p.trans p2).nil.qf
    | er => rw [h2] at ho; exact ho
  | ex a b d => rw [h1] at ho; exact ho
  | er => rw [h1] at ho; exact ho
theorem list1 {es : List CE} {k : List Hd × Env → Res (Hd × Env)} {Q : VK} {Q1 : List V → Hp → Prop} (sr : SR C K F H σ env L R) (hout : Out C K XE F H σ env L R q ((evs cal es env).bind k) Q)
    (fin : ∀ xs F1 H1 e1 L1 T hs, Pst C K F H σ env L R F1 H1 e1 L1 T (quietL es) → HXs C K F1 H1 σ L1 T hs es xs → Out C K XE F H σ env L R q (k (hs, e1)) Q → Q1 xs H1) : tVs C K cal XE es σ H Q1 := by
  refine ⟨F, env, L, R, sr, ?_⟩
  cases ha : evs cal es env with
  | ok x =>
    rw [ha] at hout
    intro v F1 H1 L1 T p hx
    exact fin v F1 H1 x.2 L1 T x.1 p hx hout
  | ex c d e => rw [ha] at hout; exact hout
  | er => rw [ha] at hout; exact hout
theorem HX.valO {h : Hd} {o : O} {v : V} (x : HX C K F H σ L T h v) (e : h.val = some o) : RepO C K F H o v T := by
  cases h with
  | p d => cases e; exact ⟨x.1, x.2⟩
  | t o' => cases e; exact x
  | _ => cases e
theorem val_noQ {h : Hd} {o : O} (e : h.val = some o) : h.isQ = false := by cases h <;> first | rfl | cases e
theorem HXs.vals : ∀ {T : List Addr} {hs : List Hd} {es : List CE} {vs : List V} {os : List O}, HXs C K F H σ L T hs es vs → allSome (hs.map Hd.val) = some os → RepOL C K F H os vs T ∧ os.length = hs.length
  | T, [], [], vs, os, x, e => by
    simp only [List.map_nil, allSome, Option.some.injEq] at e
    subst e
    exact ⟨by simp only [RepOL]; exact x, rfl⟩
  | T, [], _ :: _, vs, os, x, e => x.elim
  | T, _ :: _, [], vs, os, x, e => x.elim
  | T, h :: hs, c :: es, vs, os, x, e => by
    obtain ⟨v, r, T0, Tr, rfl, rfl, hx, ht⟩ := x
    simp only [List.map_cons] at e
    cases e1 : h.val with
    | none => rw [e1] at e; cases e
    | some o =>
      rw [e1] at e
      simp only [allSome] at e
      cases e2 : allSome (hs.map Hd.val) with
      | none => rw [e2] at e; cases e
      | some os' =>
        rw [e2] at e
        simp only [Option.map_some, Option.some.injEq] at e
        subst e
        obtain ⟨a, b⟩ := HXs.vals ht e2
        have := (hx (by rw [val_noQ e1]; rfl)).valO e1
        exact ⟨by simp only [RepOL]; exact ⟨v, r, T0, Tr, rfl, this, a, rfl⟩, by simp [b]⟩
theorem HXs.len : ∀ {T : List Addr} {hs : List Hd} {es : List CE} {vs : List V}, HXs C K F H σ L T hs es vs → vs.length = hs.length ∧ es.length = hs.length
  | T, [], [], vs, x => by simp [x.1]
  | T, [], _ :: _, vs, x => x.elim
  | T, _ :: _, [], vs, x => x.elim
  | T, h :: hs, c :: es, vs, x => by
    obtain ⟨v, r, T0, Tr, rfl, rfl, hx, ht⟩ := x
    obtain ⟨a, b⟩ := HXs.len ht
    exact ⟨by simp [a], by simp [b]⟩
/-- .. as they are asked by a built-in -/
theorem HXs.gets : ∀ {T : List Addr} {hs : List Hd} {es : List CE} {vs : List V} {os : List O}, SR C K F H σ env L R → HXs C K F H σ L T hs es vs → stayOk hs es = true → allSome (hs.map fun h => h.get env) = some os → RepAs C K F H os vs
  | T, [], [], vs, os, s, x, k, e => by
    simp only [List.map_nil, allSome, Option.some.injEq] at e
    subst e
    exact x.1
  | T, [], _ :: _, vs, os, s, x, k, e => x.elim
  | T, _ :: _, [], vs, os, s, x, k, e => x.elim
  | T, h :: hs, c :: es, vs, os, s, x, k, e => by
    obtain ⟨v, r, T0, Tr, rfl, rfl, hx, ht⟩ := x
    simp only [stayOk, Bool.and_eq_true] at k
    simp only [List.map_cons] at e
    cases e1 : h.get env with
    | none => rw [e1] at e; cases e
    | some o =>
      rw [e1] at e
      simp only [allSome] at e
      cases e2 : allSome (hs.map fun h => h.get env) with
      | none => rw [e2] at e; cases e
      | some os' =>
        rw [e2] at e
        simp only [Option.map_some, Option.some.injEq] at e
        subst e
        obtain ⟨l, r1, _⟩ := (hx k.1).get s e1
        exact ⟨v, r, l, rfl, r1, HXs.gets s ht k.2 e2⟩
theorem s_tup {es : List Expr} {k : Nat} {pos : Pos} {cs : List CE} (h : PA X es (tVs C X.K cal XE cs)) : EV X C cal XE (.Tuple es k pos) (.tup cs) := by
  refine PE.imp (pe_tup h) fun σ H Q hq => ?_
  obtain ⟨F, env, L, R, sr, hout⟩ := hq
  simp only [ev] at hout
  refine list1 sr hout fun xs F1 H1 e1 L1 T hs p hx ho => ?_
  dsimp only at ho
  split at ho
  · rename_i os ev'
    split at ho
    · rename_i hk
      have hk := of_decide_eq_true hk
      obtain ⟨r, hl⟩ := hx.vals ev'
      obtain ⟨hl2, _⟩ := hx.len
      refine ⟨by rw [hl2, ← hl, line_eq]; exact hk, fun pp hp => ?_⟩
      have n := New.tup (vs := xs) p.sr.le hp
      have p2 := p.new n
      simp only [List.nil_append] at p2
      have r2 := RepOL.keep n.fe.le os xs T (fun a ha => n.same a (p.sr.fn a (by simp [ha])).2) r
      unfold mkT at ho
      cases el : leafs os with
      | some ds =>
        rw [el] at ho
        obtain ⟨rfl, r3⟩ := r2.leafs el
        refine ho (.ref pp) _ _ L1 [] (p2.q_of fun z => by simpa [CE.quiet] using z) ⟨rfl, ?_⟩
        simp only [RepS]
        exact ⟨pp, xs, rfl, .inl (.inl upd_same), r3⟩
      | none =>
        rw [el] at ho
        refine ho (.ref pp) _ _ L1 T (p2.q_of fun z => by simpa [CE.quiet] using z) ?_
        show RepO C X.K _ _ (.ot os) _ _
        simp only [RepO]
        exact ⟨pp, xs, rfl, upd_same, r2⟩
    · exact ho.elim
  · exact ho.elim
theorem s_lst {es : List Expr} {pos : Pos} {cs : List CE} (h : PA X es (tVs C X.K cal XE cs)) : EV X C cal XE (.List es pos) (.lst cs) := by
  refine PE.imp (pe_lst h) fun σ H Q hq => ?_
  obtain ⟨F, env, L, R, sr, hout⟩ := hq
  simp only [ev] at hout
  refine list1 sr hout fun xs F1 H1 e1 L1 T hs p hx ho => ?_
  dsimp only at ho
  split at ho
  · rename_i os ev'
    split at ho
    · rename_i hk
      have hk := of_decide_eq_true hk
      obtain ⟨r, hl⟩ := hx.vals ev'
      obtain ⟨hl2, _⟩ := hx.len
      refine ⟨by rw [hl2, ← hl, line_eq]; exact hk, fun pp hp => ?_⟩
      have n := New.lst (vs := xs) p.sr.le hp
      have r2 := RepOL.keep n.fe.le os xs T (fun a ha => n.same a (p.sr.fn a (by simp [ha])).2) r
      refine ho (.ref pp) _ _ L1 _ ((p.new n).q_of fun z => by simpa [CE.quiet] using z) ?_
      show RepO C X.K _ _ (.ol os) _ _
      simp only [RepO]
      exact ⟨pp, xs, T, rfl, upd_same, r2, rfl⟩
    · exact ho.elim
  · exact ho.elim
def Bi.name : Bi → Str
  | .len => "len"
  | .list => "list"
  | .sum => "sum"
  | .max2 => "max"
  | .min2 => "min"
  | .tuple => "tuple"
theorem s_bi (hc : X.calm = true) {b : Bi} {p pos : Pos} {e : Expr} {es : List Expr} {c : CE} {cs : List CE} (hg : Gl X b.name) (hm : X.mg b.name = none) (h : PA X (e :: es) (tVs C X.K cal XE (c :: cs)))
    (he : starEach (e :: es) X.env = (false, eval e X.env) :: starEach es X.env) (hpl : (backTo pos (starEach es X.env)).any (·.1) = false) : EV X C cal XE (.Call (.Name b.name p) (e :: es) [] pos) (.bi b (c :: cs)) := by
  have base : PE X (.Call (.Name b.name p) (e :: es) [] pos) (tCB (rBi C X.K b) (tVs C X.K cal XE (c :: cs))) := by
    have r := call_bi (C := C) hc b
    cases b with
    | len => exact pe_callB r hg hm PySem.boot_len h (by decide) (by decide) he hpl
    | list => exact pe_callTy r hg hm (by decide +kernel) h (by decide) (by decide) he hpl
    | sum => exact pe_callB r hg hm (by decide +kernel) h (by decide) (by decide) he hpl
    | max2 => exact pe_callB r hg hm (by decide +kernel) h (by decide) (by decide) he hpl
    | min2 => exact pe_callB r hg hm (by decide +kernel) h (by decide) (by decide) he hpl
    | tuple => exact pe_callTy r hg hm (by decide +kernel) h (by decide) (by decide) he hpl
  refine PE.imp base fun σ H Q hq => ?_
  obtain ⟨F, env, L, R, sr, hout⟩ := hq
  simp only [ev] at hout
  refine list1 sr hout fun xs F1 H1 e1 L1 T hs p hx ho => ?_
  dsimp only at ho
  split at ho
  · rename_i hk
    split at ho
    · rename_i os eg
      split at ho
      · rename_i o hb
        exact ⟨F1, os, o, p.sr.le, hx.gets p.sr hk eg, hb, Out.fin ho p fun z => by simpa [CE.quiet] using z⟩
      · exact ho.elim
    · exact ho.elim
  · exact ho.elim
end
end Cr
end

section
/-! Calls of defs. -/
namespace Cr
open PySem L2

section
variable {X : Cx} {C : Nat → Addr} {cal : Nat → List O → CRes} {XE : XP} {K : PySem.W.Frag} {F F' F1 F2 H H' H1 H2 : Hp} {σ : St} {env env1 env2 : Env} {L L1 L2 R T T1 T2 : List Addr} {q q1 q2 : Bool}
mutual
/-- what has no list, dict or instance within hangs on tuples alone -/
theorem RepS.imm (h : ∀ a vs, SqT K F a vs → SqT K F' a vs) : ∀ (d : D) (v : V), d.imm = true → RepS C K F d v → RepS C K F' d v
  | .non, _, _, r => by simpa [RepS] using r
  | .bl _, _, _, r => by simpa [RepS] using r
  | .int _, _, _, r => by simpa [RepS] using r
  | .str _, _, _, r => by simpa [RepS] using r
  | .tup l, v, i, r => by
    simp only [D.imm] at i
    simp only [RepS] at r ⊢
    obtain ⟨a, vs, e, q, t⟩ := r
    exact ⟨a, vs, e, h _ _ q, RepSL.imm h l vs i t⟩
  | .lst l, v, i, r => by simp [D.imm] at i
  | .dic l, v, i, r => by simp [D.imm] at i
  | .ins c l, v, i, r => by simp [D.imm] at i
  | .scr l, v, i, r => by simp [D.imm] at i
  | .bad, _, _, _ => by simp [RepS]
theorem RepSL.imm (h : ∀ a vs, SqT K F a vs → SqT K F' a vs) : ∀ (l : List D) (vs : List V), immL l = true → RepSL C K F l vs → RepSL C K F' l vs
  | [], _, _, r => by simpa [RepSL] using r
  | d :: l, vs, i, r => by
    simp only [immL, Bool.and_eq_true] at i
    simp only [RepSL] at r ⊢
    obtain ⟨v, s, e, q, t⟩ := r
    exact ⟨v, s, e, RepS.imm h d v i.1 q, RepSL.imm h l s i.2 t⟩
end
mutual
theorem RepO.cln (h : ∀ a vs, SqT K F a vs → SqT K F' a vs) (h2 : ∀ a vs, F a = some (.tup vs) → F' a = some (.tup vs)) : ∀ (o : O) (v : V) (l : List Addr), o.clean = true → RepO C K F H o v l → RepO C K F' H o v l
  | .fr d, v, l, i, r => by
    simp only [O.clean] at i
    simp only [RepO] at r ⊢
    exact ⟨r.1, RepS.imm h d v i r.2⟩
  | .ol os, v, l, i, r => by
    simp only [O.clean] at i
    simp only [RepO] at r ⊢
    obtain ⟨a, vs, r', e, q, t, rfl⟩ := r
    exact ⟨a, vs, r', e, q, RepOL.cln h h2 os vs r' i t, rfl⟩
  | .ot os, v, l, i, r => by
    simp only [O.clean] at i
    simp only [RepO] at r ⊢
    obtain ⟨a, vs, e, q, t⟩ := r
    exact ⟨a, vs, e, h2 _ _ q, RepOL.cln h h2 os vs l i t⟩
  | .od os, v, l, i, r => by
    simp only [O.clean] at i
    simp only [RepO] at r ⊢
    obtain ⟨a, vs, r', e, q, t, rfl⟩ := r
    exact ⟨a, vs, r', e, q, RepOK.cln h h2 os vs r' i t, rfl⟩
  | .oi c os, v, l, i, r => by
    simp only [O.clean] at i
    simp only [RepO] at r ⊢
    obtain ⟨a, dx, vs, r', e, q, t, rfl⟩ := r
    exact ⟨a, dx, vs, r', e, q, RepOF.cln h h2 os vs r' i t, rfl⟩
theorem RepOL.cln (h : ∀ a vs, SqT K F a vs → SqT K F' a vs) (h2 : ∀ a vs, F a = some (.tup vs) → F' a = some (.tup vs)) : ∀ (os : List O) (vs : List V) (l : List Addr), cleanL os = true → RepOL C K F H os vs l → RepOL C K F' H os vs l
  | [], _, _, _, r => by simpa [RepOL] using r
  | o :: os, vs, l, i, r => by
    simp only [cleanL, Bool.and_eq_true] at i
    simp only [RepOL] at r ⊢
    obtain ⟨v, s, l1, l2, e, q, t, rfl⟩ := r
    exact ⟨v, s, l1, l2, e, RepO.cln h h2 o v l1 i.1 q, RepOL.cln h h2 os s l2 i.2 t, rfl⟩
theorem RepOK.cln (h : ∀ a vs, SqT K F a vs → SqT K F' a vs) (h2 : ∀ a vs, F a = some (.tup vs) → F' a = some (.tup vs)) : ∀ (os : List (Key × O)) (vs : List (Key × V)) (l : List Addr), cleanK os = true → RepOK C K F H os vs l → RepOK C K F' H os vs l
  | [], _, _, _, r => by simpa [RepOK] using r
  | (k0, o) :: os, vs, l, i, r => by
    simp only [cleanK, Bool.and_eq_true] at i
    simp only [RepOK] at r ⊢
    obtain ⟨v, s, l1, l2, e, q, t, rfl⟩ := r
    exact ⟨v, s, l1, l2, e, RepO.cln h h2 o v l1 i.1 q, RepOK.cln h h2 os s l2 i.2 t, rfl⟩
theorem RepOF.cln (h : ∀ a vs, SqT K F a vs → SqT K F' a vs) (h2 : ∀ a vs, F a = some (.tup vs) → F' a = some (.tup vs)) : ∀ (os : List (Str × O)) (vs : List (Str × V)) (l : List Addr), cleanF os = true → RepOF C K F H os vs l → RepOF C K F' H os vs l
  | [], _, _, _, r => by simpa [RepOF] using r
  | (k0, o) :: os, vs, l, i, r => by
    simp only [cleanF, Bool.and_eq_true] at i
    simp only [RepOF] at r ⊢
    obtain ⟨v, s, l1, l2, e, q, t, rfl⟩ := r
    exact ⟨v, s, l1, l2, e, RepO.cln h h2 o v l1 i.1 q, RepOF.cln h h2 os s l2 i.2 t, rfl⟩
end
/-- what was lent comes back -/
def back (S : List Addr) (F : Hp) : Hp := fun a => if a ∈ S then none else F a
structure Lent (S T : List Addr) (F1 H1 F2 F' H' : Hp) : Prop where
  sub : Sub F1 F'
  le : Le F' H'
  same : ∀ a ∈ S, H' a = H1 a
  none_ : ∀ a ∈ S, F' a = none
  nn : ∀ a, F2 a = none → F' a = none
  out : ∀ a, F2 a = none → a ∉ S
  tup : ∀ a vs, F2 a = some (.tup vs) → F' a = some (.tup vs)
  sqt : ∀ a vs, SqT K F2 a vs → SqT K F' a vs
theorem lent {S : List Addr} (hS : ∀ a ∈ S, F1 a = none ∧ Own (H1 a)) (hT : ∀ a ∈ T, F1 a = none) (sub : Sub (frzH (S ++ T) F1 H1) F2) (le : Le F2 H') (kp : ∀ a, frzH (S ++ T) F1 H1 a ≠ none → H' a = H1 a) : Lent (K := K) S T F1 H1 F2 (back S F2) H' := by
  have own : ∀ a ∈ S, ∃ u, H1 a = some u ∧ Own (some u) ∧ F2 a = some u := fun a ha => by
    have h1 := (hS a ha).2
    cases e : H1 a with
    | none => rw [e] at h1; exact h1.elim
    | some u =>
      rw [e] at h1
      exact ⟨u, rfl, h1, sub a u (by rw [frzH_in (by simp [ha])]; exact e)⟩
  have notS : ∀ a u, F2 a = some u → ¬ Own (some u) → a ∉ S := fun a u e n ha => by
    obtain ⟨u', _, o, e'⟩ := own a ha
    rw [e] at e'; cases e'; exact n o
  have keep : ∀ a, a ∉ S → back S F2 a = F2 a := fun a ha => by unfold back; rw [if_neg ha]
  refine ⟨fun a u e => ?_, fun a u e => ?_, fun a ha => ?_, fun a ha => by unfold back; rw [if_pos ha], fun a e => ?_, fun a e ha => ?_, fun a vs e => ?_, fun a vs e => ?_⟩
  · have n1 : a ∉ S := fun z => by rw [(hS a z).1] at e; cases e
    have n2 : a ∉ T := fun z => by rw [hT a z] at e; cases e
    rw [keep a n1]
    exact sub a u (by rw [frzH_out (by simp [n1, n2])]; exact e)
  · unfold back at e
    split at e
    · cases e
    · exact le a u e
  · obtain ⟨u, e, _, _⟩ := own a ha
    exact kp a (by rw [frzH_in (by simp [ha]), e]; simp)
  · unfold back; split
    · rfl
    · exact e
  · obtain ⟨u, _, _, e'⟩ := own a ha
    rw [e] at e'; cases e'
  · rw [keep a (notS a _ e (fun z => z))]; exact e
  · rcases e with e | e
    · left
      rcases e with e | ⟨o, e⟩
      · exact .inl (by rw [keep a (notS a _ e (fun z => z))]; exact e)
      · exact .inr ⟨o, by rw [keep a (notS a _ e (fun z => z))]; exact e⟩
    · exact .inr e
/-- the callee's promise -/
def spF (C : Nat → Addr) (K : PySem.W.Frag) (xe : XK → XP) (cal : Nat → List O → CRes) (f np : Nat) (io : List Nat) : Sp := fun vs H Q E => ∃ F R os L, vs.length = np ∧ SR C K F H (vs.map some) (os.map some) L R ∧
  match cal f os with
  | .ok r outs => ∀ v F' H' T L', SR C K F' H' ((io.filterMap fun i => vs[i]?).map some) (outs.map some) L' (T ++ R) → RepO C K F' H' r v T → Sub F F' → (∀ a, F a ≠ none ∨ a ∈ R → H' a = H a) → Q v H'
  | .ex c d outs => ∀ F' H' L', SR C K F' H' ((io.filterMap fun i => vs[i]?).map some) (outs.map some) L' R → Sub F F' → (∀ a, F a ≠ none ∨ a ∈ R → H' a = H a) → xe E c d H'
  | .er => False
theorem arg_fr {h : Hd} {o : O} (n : ∀ i, h ≠ .io i) (e : h.arg env = some o) : ∃ d, o = .fr d ∧ h.view env = some d := by
  cases h with
  | io i => exact absurd rfl (n i)
  | _ =>
    simp only [Hd.arg] at e
    obtain ⟨d, hd, rfl⟩ := Option.map_eq_some_iff.mp e
    exact ⟨d, rfl, hd⟩
theorem args_frz {Fc Hc : Hp} {P : Hd → Prop} (key : ∀ (h : Hd) (v : V) (T0 : List Addr) (d : D), P h → (∀ a ∈ T0, a ∈ T) → HX C K F H σ L T0 h v → (∀ i, h ≠ .io i) → h.view env = some d → RepS C K Fc d v) :
    ∀ {T0 : List Addr} {hs : List Hd} {es : List CE} {vs : List V} {os : List O}, (∀ a ∈ T0, a ∈ T) → HXs C K F H σ L T0 hs es vs → stayOk hs es = true → ioSlots hs = [] → (∀ h ∈ hs, P h) → allSome (hs.map fun h => h.arg env) = some os → RepE C K Fc Hc (os.map some) (vs.map some) []
  | T0, [], [], vs, os, _, x, _, _, _, e => by
    simp only [List.map_nil, allSome, Option.some.injEq] at e
    subst e
    simp only [List.map_nil, RepE]
    exact ⟨by rw [x.1]; rfl, trivial⟩
  | T0, [], _ :: _, vs, os, _, x, _, _, _, e => x.elim
  | T0, _ :: _, [], vs, os, _, x, _, _, _, e => x.elim
  | T0, h :: hs, c :: es, vs, os, hT, x, k, n, hP, e => by
    obtain ⟨v, r, Ta, Tr, rfl, rfl, hx, ht⟩ := x
    simp only [stayOk, Bool.and_eq_true] at k
    have hn : ∀ i, h ≠ .io i := fun i z => by subst z; simp [ioSlots] at n
    have n' : ioSlots hs = [] := by cases h <;> first | exact n | exact absurd rfl (hn _)
    simp only [List.map_cons] at e
    cases e1 : h.arg env with
    | none => rw [e1] at e; cases e
    | some o =>
      rw [e1] at e
      simp only [allSome] at e
      cases e2 : allSome (hs.map fun h => h.arg env) with
      | none => rw [e2] at e; cases e
      | some os' =>
        rw [e2] at e
        simp only [Option.map_some, Option.some.injEq] at e
        subst e
        obtain ⟨d, rfl, hd⟩ := arg_fr hn e1
        simp only [List.map_cons, RepE]
        exact ⟨v, r.map some, [], [], rfl, ⟨rfl, key h v Ta d (hP h (by simp)) (fun a ha => hT a (by simp [ha])) (hx k.1) hn hd⟩, args_frz key (fun a ha => hT a (by simp [ha])) ht k.2 n' (fun h hh => hP h (by simp [hh])) e2, rfl⟩
theorem mem_nm {i : Nat} : ∀ {hs : List Hd}, (nmSlots hs).all (fun j => j != i) = true → hasQ hs = false → ∀ h ∈ hs, h ≠ .n i ∧ h.isQ = false
  | [], _, _, h, hh => by simp at hh
  | h0 :: hs, nm, nq, h, hh => by
    simp only [hasQ, Bool.or_eq_false_iff] at nq
    have nm' : (nmSlots hs).all (fun j => j != i) = true := by
      cases h0 <;> first | exact nm | skip
      simp only [nmSlots, List.all_cons, Bool.and_eq_true] at nm
      exact nm.2
    rcases List.mem_cons.mp hh with rfl | hh
    · exact ⟨fun z => by subst z; simp [nmSlots] at nm, nq.1⟩
    · exact mem_nm nm' nq.2 h hh
/-- .. where one of them may be changed -/
theorem args_io {Fc Hc : Hp} {i : Nat} {oi : O} {vi : V} {li : List Addr} (hi : (env[i]?).join = some oi) (hsi : σ[i]? = some (some vi)) (ri : RepO C K Fc Hc oi vi li)
    (key : ∀ (h : Hd) (v : V) (T0 : List Addr) (d : D), (∀ a ∈ T0, a ∈ T) → HX C K F H σ L T0 h v → (∀ i, h ≠ .io i) → h ≠ .n i → h.isQ = false → h.view env = some d → RepS C K Fc d v) :
    ∀ {T0 : List Addr} {hs : List Hd} {es : List CE} {vs : List V} {os : List O}, (∀ a ∈ T0, a ∈ T) → HXs C K F H σ L T0 hs es vs → stayOk hs es = true → ioSlots hs = [i] → (nmSlots hs).all (fun j => j != i) = true → hasQ hs = false →
      allSome (hs.map fun h => h.arg env) = some os → RepE C K Fc Hc (os.map some) (vs.map some) li ∧ ∀ k j, ioPos hs k = [j] → k ≤ j ∧ vs[j - k]? = some vi
  | T0, [], [], vs, os, _, x, _, n, _, _, e => by simp [ioSlots] at n
  | T0, [], _ :: _, vs, os, _, x, _, _, _, _, e => x.elim
  | T0, _ :: _, [], vs, os, _, x, _, _, _, _, e => x.elim
  | T0, h :: hs, c :: es, vs, os, hT, x, k, n, nm, nq, e => by
    obtain ⟨v, r, Ta, Tr, rfl, rfl, hx, ht⟩ := x
    simp only [stayOk, Bool.and_eq_true] at k
    simp only [hasQ, Bool.or_eq_false_iff] at nq
    simp only [List.map_cons] at e
    cases e1 : h.arg env with
    | none => rw [e1] at e; cases e
    | some o =>
      rw [e1] at e
      simp only [allSome] at e
      cases e2 : allSome (hs.map fun h => h.arg env) with
      | none => rw [e2] at e; cases e
      | some os' =>
        rw [e2] at e
        simp only [Option.map_some, Option.some.injEq] at e
        subst e
        by_cases hio : ∃ j, h = .io j
        · obtain ⟨j, rfl⟩ := hio
          have nm0 : (nmSlots hs).all (fun j => j != i) = true := nm
          simp only [ioSlots, List.cons.injEq] at n
          obtain ⟨rfl, n'⟩ := n
          have hv := hx k.1
          have ev : v = vi := by
            have := hv.2.symm.trans hsi
            simpa using this
          subst ev
          simp only [Hd.arg, hi] at e1
          have eo : o = oi := by
            cases oi with
            | fr d => cases e1
            | _ => cases e1; rfl
          subst eo
          simp only [List.map_cons, RepE]
          refine ⟨⟨v, r.map some, li, [], rfl, ri, args_frz (P := fun h => h ≠ .n j ∧ h.isQ = false) (F := F) (H := H) (σ := σ) (L := L) (env := env) (T := T) (fun h v T0 d hp h1 h2 h3 h4 => key h v T0 d h1 h2 h3 hp.1 hp.2 h4) (fun a ha => hT a (by simp [ha])) ht k.2 n' (mem_nm nm0 nq.2) e2, by simp⟩, fun k j hj => ?_⟩
          · simp only [ioPos] at hj
            have : k = j := by
              have := congrArg List.head? hj
              simpa using this
            subst this
            exact ⟨Nat.le_refl _, by simp⟩
        · have hn : ∀ j, h ≠ .io j := fun j z => hio ⟨j, z⟩
          have n' : ioSlots hs = [i] := by cases h <;> first | exact n | exact absurd rfl (hn _)
          have nmh : h ≠ .n i := fun z => by subst z; simp [nmSlots] at nm
          have nm' : (nmSlots hs).all (fun j => j != i) = true := by
            cases h <;> first | exact nm | skip
            simp only [nmSlots, List.all_cons, Bool.and_eq_true] at nm
            exact nm.2
          obtain ⟨d, rfl, hd⟩ := arg_fr hn e1
          obtain ⟨a1, a2⟩ := args_io hi hsi ri key (fun a ha => hT a (by simp [ha])) ht k.2 n' nm' nq.2 e2
          simp only [List.map_cons, RepE]
          refine ⟨⟨v, r.map some, [], li, rfl, ⟨rfl, key h v Ta d (fun a ha => hT a (by simp [ha])) (hx k.1) hn nmh nq.1 hd⟩, a1, rfl⟩, fun k j hj => ?_⟩
          have hj' : ioPos hs (k + 1) = [j] := by cases h <;> first | exact hj | exact absurd rfl (hn _)
          obtain ⟨b1, b2⟩ := a2 (k + 1) j hj'
          refine ⟨by omega, ?_⟩
          have : j - k = (j - (k + 1)) + 1 := by omega
          rw [this, List.getElem?_cons_succ]
          exact b2
theorem view_get {h : Hd} {d : D} (e : h.view env = some d) : ∃ o, h.get env = some o ∧ d = o.frz := by
  obtain ⟨o, h1, h2⟩ := Option.map_eq_some_iff.mp (show (h.get env).map O.frz = some d from e)
  exact ⟨o, h1, h2.symm⟩
theorem putNil {e1 e2 : Env} {outs : List O} (h : putOuts [] outs e1 = some e2) : outs = [] ∧ e2 = e1 := by
  cases outs with
  | nil => exact ⟨rfl, (Option.some.inj h).symm⟩
  | cons => cases h
theorem putOne {i : Nat} {e1 e2 : Env} {outs : List O} (h : putOuts [i] outs e1 = some e2) : ∃ o, outs = [o] ∧ i < e1.length ∧ e2 = e1.set i (some o) := by
  cases outs with
  | nil => cases h
  | cons o os =>
    simp only [putOuts, setS] at h
    split at h
    · rename_i hi
      simp only [Option.bind_some] at h
      obtain ⟨rfl, rfl⟩ := putNil h
      exact ⟨o, rfl, hi, rfl⟩
    · cases h
theorem RepE.one {o : O} {v : V} {l : List Addr} (r : RepE C K F H [some o] [some v] l) : RepO C K F H o v l := by
  simp only [RepE] at r
  obtain ⟨v', s, l1, l2, e, q, ⟨_, rfl⟩, rfl⟩ := r
  simp only [List.cons.injEq, Option.some.injEq] at e
  obtain ⟨rfl, _⟩ := e
  rw [List.append_nil]; exact q
end
section
variable {X : Cx} {C : Nat → Addr} {cal : Nat → List O → CRes} {xe : XK → XP}
theorem nd3 {A B D R : List Addr} (h : (A ++ (B ++ (D ++ R))).Nodup) : ∀ a ∈ B, a ∉ A ∧ a ∉ D ∧ a ∉ R := fun a ha => by
  have h1 := List.nodup_append.mp h
  have h2 := List.nodup_append.mp h1.2.1
  refine ⟨fun z => h1.2.2 a z a (by simp [ha]) rfl, fun z => h2.2.2 a ha a (by simp [z]) rfl, fun z => h2.2.2 a ha a (by simp [z]) rfl⟩
theorem io_mem {i : Nat} : ∀ {hs : List Hd}, ioSlots hs = [i] → Hd.io i ∈ hs
  | [], h => by simp [ioSlots] at h
  | .io j :: hs, h => by
    simp only [ioSlots, List.cons.injEq] at h
    rw [h.1]; simp
  | .p d :: hs, h => by simp [io_mem (hs := hs) h]
  | .t d :: hs, h => by simp [io_mem (hs := hs) h]
  | .n d :: hs, h => by simp [io_mem (hs := hs) h]
  | .q d :: hs, h => by simp [io_mem (hs := hs) h]
theorem io_len : ∀ (hs : List Hd) (k : Nat), (ioPos hs k).length = (ioSlots hs).length
  | [], _ => rfl
  | .io j :: hs, k => by simp [ioPos, ioSlots, io_len hs]
  | .p d :: hs, k => by simp [ioPos, ioSlots, io_len hs]
  | .t d :: hs, k => by simp [ioPos, ioSlots, io_len hs]
  | .n d :: hs, k => by simp [ioPos, ioSlots, io_len hs]
  | .q d :: hs, k => by simp [ioPos, ioSlots, io_len hs]
theorem allSome_mem {α : Type} : ∀ {l : List (Option α)} {r : List α}, allSome l = some r → ∀ x ∈ l, ∃ a, x = some a
  | [], r, h, x, hx => by simp at hx
  | some a :: l, r, h, x, hx => by
    simp only [allSome] at h
    rcases List.mem_cons.mp hx with rfl | hx
    · exact ⟨a, rfl⟩
    · cases e : allSome l with
      | none => rw [e] at h; cases h
      | some r' => exact allSome_mem e x hx
  | none :: l, r, h, x, hx => by cases h
theorem arg_io {i : Nat} {e : Env} {o : O} (h : (Hd.io i).arg e = some o) : (e[i]?).join = some o := by
  simp only [Hd.arg] at h
  split at h
  · cases h
  · rename_i o' _ e'
    cases h; exact e'
  · cases h
theorem call_core {E : XK} {f np : Nat} {io : List Nat} {cs : List CE} {σ : St} {H : Hp} {Q : VK} {K : PySem.W.Frag} (hnp : cs.length = np) (hq : tV C K cal (xe E) (.call f io cs) σ H Q) :
    tVs C K cal (xe E) cs σ H fun vs H1 => spF C K xe cal f np io (vs ++ []) H1 Q E := by
  obtain ⟨F, env, L, R, sr, hout⟩ := hq
  simp only [ev] at hout
  refine list1 sr hout fun xs F1 H1 e1 L1 T hs p hx ho => ?_
  rw [List.append_nil]
  dsimp only at ho
  split at ho
  case isFalse => exact ho.elim
  rename_i hk
  simp only [Bool.and_eq_true, beq_iff_eq] at hk
  obtain ⟨⟨hk1, hk2⟩, hk3⟩ := hk
  split at ho
  case h_2 => exact ho.elim
  rename_i os eo
  obtain ⟨hl1, hl2⟩ := hx.len
  have hlen : xs.length = np := by omega
  have hF1 : ∀ a ∈ L1 ++ (T ++ R), F1 a = none ∧ H1 a ≠ none := p.sr.fn
  have hOwn := p.sr.rep.own
  cases hio : ioSlots hs with
  | nil =>
    have hpos : io = [] := by
      rw [← hk3]
      have : ∀ (hs : List Hd) (k : Nat), ioSlots hs = [] → ioPos hs k = [] := fun hs => by
        induction hs with
        | nil => intro k _; rfl
        | cons h hs ih =>
          intro k z
          cases h <;> first | exact ih (k + 1) z | cases z
      exact this hs 0 hio
    subst hpos
    rw [hio] at ho
    have hS : ∀ a ∈ L1, F1 a = none ∧ Own (H1 a) := fun a ha => ⟨(hF1 a (by simp [ha])).1, hOwn a ha⟩
    have hT : ∀ a ∈ T, F1 a = none := fun a ha => (hF1 a (by simp [ha])).1
    have hST : ∀ a ∈ L1 ++ T, F1 a = none := fun a ha => (hF1 a (by
      rcases List.mem_append.mp ha with z | z <;> simp [z])).1
    have hsub := frzH_sub (H := H1) hST
    have hR : ∀ a ∈ R, a ∉ L1 ++ T := fun a ha z => by
      have nd := p.sr.nd
      rw [← List.append_assoc] at nd
      exact (List.nodup_append.mp nd).2.2 a z a ha rfl
    refine ⟨frzH (L1 ++ T) F1 H1, R, os, [], hlen, ⟨frzH_le p.sr.le, ?_, ?_, fun a ha => ?_⟩, ?_⟩
    · refine args_frz (P := fun _ => True) (F := F1) (H := H1) (σ := σ) (L := L1) (env := e1) (T := T) (fun h v T0 d _ hT0 x hn hv => ?_) (fun a ha => ha) hx hk1 hio (fun _ _ => trivial) eo
      obtain ⟨o, g, rfl⟩ := view_get hv
      obtain ⟨l, r, hl⟩ := x.get p.sr g
      exact RepO.frz hsub.le o v l (fun a ha => frzH_in (by
        rcases hl a ha with z | z
        · simp [z]
        · simp [hT0 a z])) r
    · have nd := p.sr.nd
      rw [← List.append_assoc] at nd
      exact (List.nodup_append.mp nd).2.1
    · have ha : a ∈ R := by simpa using ha
      rw [frzH_out (hR a ha)]
      exact hF1 a (by simp [ha])
    · revert ho
      cases hc : cal f os with
      | ok r outs =>
        intro ho
        dsimp only at ho
        split at ho
        case h_2 => exact ho.elim
        rename_i e2 hp
        obtain ⟨rfl, rfl⟩ := putNil hp
        split at ho
        case isFalse => exact ho.elim
        rename_i hcl
        simp only [Bool.and_eq_true] at hcl
        intro v F' H' T' L' sr' rr fe kp
        have lt : Lent (K := K) L1 T F1 H1 F' (back L1 F') H' := lent hS hT fe sr'.le (fun a z => kp a (.inl z))
        have hL' : L' = [] := by
          have := sr'.rep
          simp only [List.filterMap_nil, List.map_nil, RepE] at this
          exact this.2
        subst hL'
        have hnew : SR C K (back L1 F') H' σ e2 L1 (T' ++ R) := by
          refine ⟨lt.le, RepE.keep lt.sub.le (fun a ha => lt.same a ha) p.sr.rep, ?_, fun a ha => ?_⟩
          · refine List.nodup_append.mpr ⟨(List.nodup_append.mp p.sr.nd).1, by simpa using sr'.nd, fun a ha b hb e => ?_⟩
            subst e
            exact lt.out a (sr'.fn a (by simpa using hb)).1 ha
          · rcases List.mem_append.mp ha with z | z
            · exact ⟨lt.none_ a z, by rw [lt.same a z]; exact (hF1 a (by simp [z])).2⟩
            · have := sr'.fn a (by simpa using z)
              exact ⟨lt.nn a this.1, this.2⟩
        refine ho v (back L1 F') H' L1 T' ⟨hnew, p.fe.trans lt.sub, fun a ha => ?_, fun z => ?_⟩ ?_
        · rw [← p.kp a ha]
          rcases ha with ha | ha
          · refine kp a (.inl ?_)
            cases e : F a with
            | none => exact absurd e ha
            | some u => rw [hsub a u (p.fe a u e)]; simp
          · exact kp a (.inr ha)
        · have z' : quietL cs = true := by simpa [CE.quiet] using z
          obtain ⟨a1, a2, a3⟩ := p.qt z'
          exact ⟨a1, a2, fun a ha => by rw [lt.same a (by rw [a2]; exact ha), a3 a ha]⟩
        · have rr2 := RepO.cln lt.sqt lt.tup r v T' hcl.1 rr
          cases r with
          | fr d => exact ⟨rr2.1, rr2.2⟩
          | _ => exact rr2
      | ex c d outs =>
        intro ho
        dsimp only at ho
        split at ho
        case h_2 => exact ho.elim
        rename_i e2 hp
        obtain ⟨rfl, rfl⟩ := putNil hp
        split at ho
        case isFalse => exact ho.elim
        intro F' H' L' sr' fe kp
        have lt : Lent (K := K) L1 T F1 H1 F' (back L1 F') H' := lent hS hT fe sr'.le (fun a z => kp a (.inl z))
        have hL' : L' = [] := by
          have := sr'.rep
          simp only [List.filterMap_nil, List.map_nil, RepE] at this
          exact this.2
        subst hL'
        have hnew : SR C K (back L1 F') H' σ e2 L1 ([] ++ R) := by
          refine ⟨lt.le, RepE.keep lt.sub.le (fun a ha => lt.same a ha) p.sr.rep, ?_, fun a ha => ?_⟩
          · refine List.nodup_append.mpr ⟨(List.nodup_append.mp p.sr.nd).1, by simpa using sr'.nd, fun a ha b hb e => ?_⟩
            subst e
            exact lt.out a (sr'.fn a (by simpa using hb)).1 ha
          · rcases List.mem_append.mp ha with z | z
            · exact ⟨lt.none_ a z, by rw [lt.same a z]; exact (hF1 a (by simp [z])).2⟩
            · have := sr'.fn a (by simpa using z)
              exact ⟨lt.nn a this.1, this.2⟩
        refine ho (back L1 F') H' L1 ⟨hnew, p.fe.trans lt.sub, fun a ha => ?_, fun z => by cases z⟩
        rw [← p.kp a ha]
        rcases ha with ha | ha
        · refine kp a (.inl ?_)
          cases e : F a with
          | none => exact absurd e ha
          | some u => rw [hsub a u (p.fe a u e)]; simp
        · exact kp a (.inr ha)
      | er => intro ho; exact ho
  | cons i rest =>
    unfold ioOk at hk2
    rw [hio] at hk2
    have hrest : rest = [] := by
      cases rest with
      | nil => rfl
      | cons => cases hk2
    subst hrest
    simp only [Bool.and_eq_true, Bool.not_eq_true'] at hk2
    rw [hio] at ho
    obtain ⟨oi, hoi⟩ := allSome_mem eo _ (List.mem_map_of_mem (io_mem hio))
    have hei := arg_io hoi
    obtain ⟨vi, La, li, Lb, c, hσ, ri⟩ := p.sr.slot hei
    have hio1 : ∃ j, io = [j] := by
      have := io_len hs 0
      rw [hk3, hio] at this
      cases io with
      | nil => simp at this
      | cons j r => cases r with
        | nil => exact ⟨j, rfl⟩
        | cons => simp at this
    obtain ⟨j, rfl⟩ := hio1
    have hsubS : ∀ a ∈ La ++ Lb, a ∈ L1 := fun a ha => by
      rw [c.eq]
      rcases List.mem_append.mp ha with z | z <;> simp [z]
    have hS : ∀ a ∈ La ++ Lb, F1 a = none ∧ Own (H1 a) := fun a ha => ⟨(hF1 a (by simp [hsubS a ha])).1, hOwn a (hsubS a ha)⟩
    have hT : ∀ a ∈ T, F1 a = none := fun a ha => (hF1 a (by simp [ha])).1
    have hST : ∀ a ∈ (La ++ Lb) ++ T, F1 a = none := fun a ha => by
      rcases List.mem_append.mp ha with z | z
      · exact (hS a z).1
      · exact hT a z
    have hsub := frzH_sub (H := H1) hST
    have ndAll : ((La ++ Lb) ++ (T ++ (li ++ R))).Nodup := by
      have nd := p.sr.nd
      rw [c.eq] at nd
      refine (List.Perm.nodup_iff ?_).mp nd
      simp only [List.append_assoc]
      exact List.Perm.append_left La ((List.perm_append_comm_assoc li Lb (T ++ R)).trans (List.Perm.append_left Lb (List.perm_append_comm_assoc li T R)))
    have nd2 := List.nodup_append.mp ndAll
    have nd3' := List.nodup_append.mp nd2.2.1
    have hout2 : ∀ a ∈ li ++ R, a ∉ (La ++ Lb) ++ T := fun a ha z => by
      rcases List.mem_append.mp z with z | z
      · exact nd2.2.2 a z a (List.mem_append_right _ ha) rfl
      · exact nd3'.2.2 a z a ha rfl
    have ri' : RepO C K (frzH ((La ++ Lb) ++ T) F1 H1) H1 oi vi li := RepO.keep hsub.le oi vi li (fun _ _ => rfl) ri
    obtain ⟨hrep, hpos⟩ := args_io (F := F1) (H := H1) (σ := σ) (L := L1) (env := e1) (T := T) hei hσ ri' (fun h v T0 d hT0 x hn hni hnq hv => by
      obtain ⟨o, g, rfl⟩ := view_get hv
      cases h with
      | p d =>
        cases g
        exact RepS.le hsub.le _ _ x.2
      | t o' =>
        cases g
        exact RepO.frz hsub.le _ v T0 (fun a ha => frzH_in (by simp [hT0 a ha])) x
      | n j' =>
        have hj : j' ≠ i := fun z => hni (by rw [z])
        have hd := c.del F1 H1 (Le.refl F1) (fun _ _ => rfl)
        have gj : (e1.set i none)[j']? = some (some o) := by
          rw [List.getElem?_set_ne (Ne.symm hj)]
          exact getE (show (e1[j']?).join = some o from g)
        obtain ⟨A1, l', A2, c2⟩ := hd.cut (List.getElem?_eq_some_iff.mp gj).1
        obtain ⟨v', hv', r'⟩ := c2.at_ o gj
        have e : v' = v := by
          have := hv'.symm.trans x.2
          simpa using this
        subst e
        exact RepO.frz hsub.le o v' l' (fun a ha => frzH_in (List.mem_append_left _ (c2.mem a ha))) r'
      | q o' => cases hnq
      | io j' => exact absurd rfl (hn j')) (fun a ha => ha) hx hk1 hio hk2.1 hk2.2 eo
    have hvi : xs[j]? = some vi := by
      have := (hpos 0 j hk3).2
      simpa using this
    have hfm : ([j].filterMap fun i => xs[i]?).map some = [some vi] := by simp [hvi]
    refine ⟨frzH ((La ++ Lb) ++ T) F1 H1, R, os, li, hlen, ⟨frzH_le p.sr.le, hrep, nd3'.2.1, fun a ha => ?_⟩, ?_⟩
    · rw [frzH_out (hout2 a ha)]
      refine hF1 a ?_
      rw [c.eq]
      rcases List.mem_append.mp ha with z | z <;> simp [z]
    · -- behind the call
      have common : ∀ (F' H' : Hp) (L' T' : List Addr) (o' : O), o'.clean = true → SR C K F' H' (([j].filterMap fun i => xs[i]?).map some) ([o'].map some) L' (T' ++ R) → Sub (frzH ((La ++ Lb) ++ T) F1 H1) F' → (∀ a, frzH ((La ++ Lb) ++ T) F1 H1 a ≠ none ∨ a ∈ R → H' a = H1 a) →
          Lent (K := K) (La ++ Lb) T F1 H1 F' (back (La ++ Lb) F') H' ∧ Pst C K F H σ env L R (back (La ++ Lb) F') H' (e1.set i (some o')) (La ++ (L' ++ Lb)) T' false := by
        intro F' H' L' T' o' hcl sr' fe kp
        have lt : Lent (K := K) (La ++ Lb) T F1 H1 F' (back (La ++ Lb) F') H' := lent hS hT fe sr'.le (fun a z => kp a (.inl z))
        refine ⟨lt, ⟨?_, p.fe.trans lt.sub, fun a ha => ?_, fun z => by cases z⟩⟩
        · have ro : RepO C K F' H' o' vi L' := by
            have := sr'.rep
            rw [hfm] at this
            exact this.one
          have hput := c.put (back (La ++ Lb) F') H' o' vi L' lt.sub.le (fun a ha => lt.same a ha) (RepO.cln lt.sqt lt.tup o' vi L' hcl ro)
          rw [set_same hσ] at hput
          refine ⟨lt.le, hput, ?_, fun a ha => ?_⟩
          · have h1 : ((La ++ Lb) ++ (L' ++ (T' ++ R))).Nodup := List.nodup_append.mpr ⟨nd2.1, sr'.nd, fun a ha b hb e => by
              subst e
              exact lt.out a (sr'.fn a hb).1 ha⟩
            refine (List.Perm.nodup_iff ?_).mp h1
            simp only [List.append_assoc]
            refine List.Perm.append_left La ?_
            rw [← List.append_assoc, ← List.append_assoc (as := L')]
            exact List.Perm.append_right _ List.perm_append_comm
          · have hc : a ∈ La ++ Lb ∨ a ∈ L' ++ (T' ++ R) := by
              simp only [List.mem_append] at ha ⊢
              rcases ha with (z | z | z) | z | z
              · exact .inl (.inl z)
              · exact .inr (.inl z)
              · exact .inl (.inr z)
              · exact .inr (.inr (.inl z))
              · exact .inr (.inr (.inr z))
            rcases hc with z | z
            · exact ⟨lt.none_ a z, by rw [lt.same a z]; exact (hF1 a (by simp [hsubS a z])).2⟩
            · have := sr'.fn a z
              exact ⟨lt.nn a this.1, this.2⟩
        · rw [← p.kp a ha]
          rcases ha with ha | ha
          · refine kp a (.inl ?_)
            cases e : F a with
            | none => exact absurd e ha
            | some u => rw [hsub a u (p.fe a u e)]; simp
          · exact kp a (.inr ha)
      have nq : ∀ {b : Bool}, (CE.call f [j] cs).quiet = true → b = true := by
        intro b z
        simp [CE.quiet] at z
      revert ho
      cases hc : cal f os with
      | ok r outs =>
        intro ho
        dsimp only at ho
        split at ho
        case h_2 => exact ho.elim
        rename_i e2 hp
        obtain ⟨o', rfl, hi, rfl⟩ := putOne hp
        split at ho
        case isFalse => exact ho.elim
        rename_i hcl
        simp only [Bool.and_eq_true, cleanL] at hcl
        intro v F' H' T' L' sr' rr fe kp
        obtain ⟨lt, p2⟩ := common F' H' L' T' o' hcl.2.1 sr' fe kp
        refine ho v _ H' _ T' (p2.q_of nq) ?_
        have rr2 := RepO.cln lt.sqt lt.tup r v T' hcl.1 rr
        cases r with
        | fr d => exact ⟨rr2.1, rr2.2⟩
        | _ => exact rr2
      | ex x d outs =>
        intro ho
        dsimp only at ho
        split at ho
        case h_2 => exact ho.elim
        rename_i e2 hp
        obtain ⟨o', rfl, hi, rfl⟩ := putOne hp
        split at ho
        case isFalse => exact ho.elim
        rename_i hcl
        simp only [Bool.and_eq_true, cleanL] at hcl
        intro F' H' L' sr' fe kp
        obtain ⟨lt, p2⟩ := common F' H' L' [] o' hcl.2.1 (by simpa using sr') fe kp
        exact ho _ H' _ p2
      | er => intro ho; exact ho
end
end Cr
end

section
/-! Targets, and what is walked. -/
namespace Cr
open PySem L2

section
variable {X : Cx} {C : Nat → Addr} {cal : Nat → List O → CRes} {XE : XP} {K : PySem.W.Frag} {F F' F1 F2 H H' H1 H2 : Hp} {σ : St} {env env1 env2 : Env} {L L1 L2 R T T1 T2 : List Addr} {q q1 q2 : Bool}

/-! ### targets that take what stands still -/
mutual
def Tg.slots : Tg → List Nat
  | .v i => [i]
  | .tup ts => slotsL ts
def slotsL : List Tg → List Nat
  | [] => []
  | t :: ts => t.slots ++ slotsL ts
end
/-- the frame's slots but these are as they were -/
def But (vs : List Nat) (σ σ' : St) : Prop := σ'.length = σ.length ∧ ∀ j, j ∉ vs → σ'[j]? = σ[j]?
theorem But.refl (vs : List Nat) (σ : St) : But vs σ σ := ⟨rfl, fun _ _ => rfl⟩
theorem But.trans {v1 v2 : List Nat} {σ σ1 σ2 : St} (h : But v1 σ σ1) (h2 : But v2 σ1 σ2) : But (v1 ++ v2) σ σ2 :=
  ⟨h2.1.trans h.1, fun j hj => by
    simp only [List.mem_append, not_or] at hj
    rw [h2.2 j hj.2, h.2 j hj.1]⟩
theorem But.mono {v1 v2 : List Nat} {σ σ1 : St} (h : But v1 σ σ1) (hs : ∀ j ∈ v1, j ∈ v2) : But v2 σ σ1 := ⟨h.1, fun j hj => h.2 j (fun z => hj (hs j z))⟩
theorem But.set (σ : St) (i : Nat) (v : Option V) : But [i] σ (σ.set i v) := ⟨by simp, fun j hj => by
  rw [List.getElem?_set_ne (by simpa using Ne.symm (by simpa using hj))]⟩
/-- the slots own nothing -/
def Poor (vs : List Nat) (env : Env) : Prop := ∀ j ∈ vs, leafOrNone ((env[j]?).join) = true
def tTg (C : Nat → Addr) (K : PySem.W.Frag) (t : Tg) : TG := fun v σ H Q => ∃ F env L R d env', SR C K F H σ env L R ∧ RepS C K F d v ∧ t.bind d env = some env' ∧
  ∀ σ' L', SR C K F H σ' env' L' R → List.Sublist L' L → (Poor t.slots env → L' = L) → But t.slots σ σ' → Q σ' H
def tTgs (C : Nat → Addr) (K : PySem.W.Frag) (ts : List Tg) : TGs := fun vs σ H Q => ∃ F env L R ds env', SR C K F H σ env L R ∧ RepSL C K F ds vs ∧ bindL ts ds env = some env' ∧
  ∀ σ' L', SR C K F H σ' env' L' R → List.Sublist L' L → (Poor (slotsL ts) env → L' = L) → But (slotsL ts) σ σ' → Q σ' H
theorem PG.imp {X : Cx} {e : Expr} {t t' : TG} (h : PG X e t) (i : ∀ v σ H Q, t' v σ H Q → t v σ H Q) : PG X e t' := ⟨fun pins s σ H v u Q I r q => h.run pins s σ H v u Q I r (i v σ H Q q)⟩
theorem PGs.imp {X : Cx} {e : List Expr} {t t' : TGs} (h : PGs X e t) (i : ∀ v σ H Q, t' v σ H Q → t v σ H Q) : PGs X e t' := ⟨fun pins s σ H v u Q I r q => h.run pins s σ H v u Q I r (i v σ H Q q)⟩
/-- a slot takes a leaf -/
theorem SR.leaf {i : Nat} {d : D} {v : V} (sr : SR C K F H σ env L R) (hi : i < env.length) (r : RepS C K F d v) : ∃ L', SR C K F H (σ.set i (some v)) (env.set i (some (.fr d))) L' R ∧ List.Sublist L' L ∧ (Poor [i] env → L' = L) := by
  obtain ⟨La, l, Lb, c⟩ := sr.cut hi
  have hs : List.Sublist (La ++ ([] ++ Lb)) L := by
    rw [c.eq]
    exact List.Sublist.append_left (List.Sublist.append_right (List.nil_sublist _) _) _
  refine ⟨La ++ ([] ++ Lb), ⟨sr.le, c.put F H (.fr d) v [] (Le.refl F) (fun _ _ => rfl) ⟨rfl, r⟩, sr.nd.sublist (List.Sublist.append_right hs R), fun a ha => sr.fn a ?_⟩, hs, fun hp => ?_⟩
  rotate_left
  · rw [c.eq]
    have e1 := hp i (by simp)
    cases e : env[i] with
    | none => rw [c.non (by simp [hi, e])]
    | some o =>
      obtain ⟨w, _, r'⟩ := c.at_ o (by simp [hi, e])
      cases o with
      | fr d' => rw [r'.1]
      | _ => simp [hi, e, leafOrNone, O.isFr] at e1
  rcases List.mem_append.mp ha with z | z
  · exact List.mem_append_left _ (hs.subset z)
  · exact List.mem_append_right _ z
theorem g_name {i : Nat} {x : Str} {pos : Pos} (hN : X.N.Nodup) (hi : X.N[i]? = some x) (hx : Loc X.env.scope x) (hf : X.fn x = true ∨ X.env.scope.names.lookup x = some .local) : PG X (.Name x pos) (tTg C X.K (.v i)) := by
  refine PG.imp (pg_name hN hi hx hf) fun v σ H Q hq => ?_
  obtain ⟨F, env, L, R, d, env', sr, r, hb, k⟩ := hq
  simp only [Tg.bind] at hb
  split at hb
  · rename_i hlt
    cases hb
    obtain ⟨L', s', hs, hp⟩ := sr.leaf hlt r
    exact k _ L' s' hs hp (But.set σ i _)
  · cases hb
theorem bind_len : (∀ (t : Tg) (d : D) (e e' : Env), t.bind d e = some e' → e'.length = e.length) := fun t => by
  suffices h : ∀ (n : Nat), (∀ (t : Tg) (d : D) (e e' : Env), sizeOf t < n → t.bind d e = some e' → e'.length = e.length) ∧ (∀ (ts : List Tg) (ds : List D) (e e' : Env), sizeOf ts < n → bindL ts ds e = some e' → e'.length = e.length) from
    fun d e e' => (h (sizeOf t + 1)).1 t d e e' (Nat.lt_succ_self _)
  intro n
  induction n with
  | zero => exact ⟨fun _ _ _ _ h => absurd h (Nat.not_lt_zero _), fun _ _ _ _ h => absurd h (Nat.not_lt_zero _)⟩
  | succ n ih =>
    refine ⟨fun t d e e' hs h => ?_, fun ts ds e e' hs h => ?_⟩
    · cases t with
      | v i =>
        simp only [Tg.bind] at h
        split at h
        · cases h; simp
        · cases h
      | tup ts =>
        cases d with
        | tup ds =>
          simp only [Tg.bind] at h
          exact ih.2 ts ds e e' (by simp at hs; omega) h
        | _ => simp [Tg.bind] at h
    · cases ts with
      | nil =>
        cases ds with
        | nil => simp only [bindL, Option.some.injEq] at h; rw [h]
        | cons => simp [bindL] at h
      | cons t ts =>
        cases ds with
        | nil => simp [bindL] at h
        | cons d ds =>
          simp only [bindL] at h
          obtain ⟨e1, h1, h2⟩ := Option.bind_eq_some_iff.mp h
          rw [ih.2 ts ds e1 e' (by simp at hs; omega) h2, ih.1 t d e e1 (by simp at hs; omega) h1]
theorem bind_leaf (t : Tg) (d : D) (e e' : Env) : t.bind d e = some e' → ∀ j : Nat, leafOrNone ((e[j]?).join) = true → leafOrNone ((e'[j]?).join) = true := by
  suffices h : ∀ (n : Nat), (∀ (t : Tg) (d : D) (e e' : Env), sizeOf t < n → t.bind d e = some e' → ∀ j : Nat, leafOrNone ((e[j]?).join) = true → leafOrNone ((e'[j]?).join) = true) ∧
      (∀ (ts : List Tg) (ds : List D) (e e' : Env), sizeOf ts < n → bindL ts ds e = some e' → ∀ j : Nat, leafOrNone ((e[j]?).join) = true → leafOrNone ((e'[j]?).join) = true) from
    (h (sizeOf t + 1)).1 t d e e' (Nat.lt_succ_self _)
  intro n
  induction n with
  | zero => exact ⟨fun _ _ _ _ h => absurd h (Nat.not_lt_zero _), fun _ _ _ _ h => absurd h (Nat.not_lt_zero _)⟩
  | succ n ih =>
    refine ⟨fun t d e e' hs h j hj => ?_, fun ts ds e e' hs h j hj => ?_⟩
    · cases t with
      | v i =>
        simp only [Tg.bind] at h
        split at h
        · rename_i hl
          cases h
          by_cases z : i = j
          · subst z
            rw [List.getElem?_set_self hl]; rfl
          · rw [List.getElem?_set_ne z]; exact hj
        · cases h
      | tup ts =>
        cases d with
        | tup ds =>
          simp only [Tg.bind] at h
          exact ih.2 ts ds e e' (by simp at hs; omega) h j hj
        | _ => simp [Tg.bind] at h
    · cases ts with
      | nil =>
        cases ds with
        | nil => simp only [bindL, Option.some.injEq] at h; rw [← h]; exact hj
        | cons => simp [bindL] at h
      | cons t ts =>
        cases ds with
        | nil => simp [bindL] at h
        | cons d ds =>
          simp only [bindL] at h
          obtain ⟨e1, h1, h2⟩ := Option.bind_eq_some_iff.mp h
          exact ih.2 ts ds e1 e' (by simp at hs; omega) h2 j (ih.1 t d e e1 (by simp at hs; omega) h1 j hj)
theorem g_nil : PGs X [] (tTgs C X.K []) := PGs.imp pgs_nil fun vs σ H Q hq => by
  obtain ⟨F, env, L, R, ds, env', sr, r, hb, k⟩ := hq
  cases ds with
  | nil =>
    simp only [bindL, Option.some.injEq] at hb
    subst hb
    simp only [RepSL] at r
    exact ⟨r, k σ L sr (List.Sublist.refl _) (fun _ => rfl) (But.refl _ _)⟩
  | cons => simp [bindL] at hb
theorem g_cons {e : Expr} {es : List Expr} {t : Tg} {ts : List Tg} (h1 : PG X e (tTg C X.K t)) (h2 : PGs X es (tTgs C X.K ts)) (hs : (assignEach (e :: es) X.env).map (·.2) = assign e X.env :: (assignEach es X.env).map (·.2)) : PGs X (e :: es) (tTgs C X.K (t :: ts)) := by
  refine PGs.imp (pgs_cons h1 h2 hs) fun vs σ H Q hq => ?_
  obtain ⟨F, env, L, R, ds, env', sr, r, hb, k⟩ := hq
  cases ds with
  | nil => simp [bindL] at hb
  | cons d ds =>
    simp only [bindL] at hb
    obtain ⟨e1, hb1, hb2⟩ := Option.bind_eq_some_iff.mp hb
    simp only [RepSL] at r
    obtain ⟨v, s, rfl, rd, rt⟩ := r
    refine ⟨v, s, rfl, F, env, L, R, d, e1, sr, rd, hb1, fun σ1 L1 s1 hL1 p1 b1 => ?_⟩
    refine ⟨F, e1, L1, R, ds, env', s1, rt, hb2, fun σ2 L2 s2 hL2 p2 b2 => ?_⟩
    refine k σ2 L2 s2 (hL2.trans hL1) (fun hp => ?_) (b1.trans b2)
    have q1 := p1 fun j hj => hp j (by simp [slotsL, hj])
    rw [p2 fun j hj => bind_leaf t d env e1 hb1 j (hp j (by simp [slotsL, hj])), q1]
theorem bindL_len2 : ∀ {ts : List Tg} {ds : List D} {e e' : Env}, bindL ts ds e = some e' → ds.length = ts.length
  | [], [], _, _, _ => rfl
  | [], _ :: _, _, _, h => by simp [bindL] at h
  | _ :: _, [], _, _, h => by simp [bindL] at h
  | t :: ts, d :: ds, e, e', h => by
    simp only [bindL] at h
    obtain ⟨e1, _, h2⟩ := Option.bind_eq_some_iff.mp h
    simp [bindL_len2 h2]
theorem g_tup {es : List Expr} {k : Nat} {pos : Pos} {ts : List Tg} (hc : X.calm = true) (h : PGs X es (tTgs C X.K ts)) (hn : (assignEach es X.env).length = ts.length) (hst : (assignEach es X.env).findIdx? (·.1) = none) : PG X (.Tuple es k pos) (tTg C X.K (.tup ts)) := by
  refine PG.imp (pg_tup hc h hn hst) fun v σ H Q hq => ?_
  obtain ⟨F, env, L, R, d, env', sr, r, hb, k⟩ := hq
  cases d with
  | tup ds =>
    simp only [Tg.bind] at hb
    simp only [RepS] at r
    obtain ⟨a, vs, rfl, q, t⟩ := r
    exact ⟨a, vs, rfl, SqT.le sr.le q, by rw [t.len, bindL_len2 hb], F, env, L, R, ds, env', sr, t, hb, k⟩
  | _ => simp [Tg.bind] at hb

/-! ### what is walked -/
/-- how an iterator goes over ds -/
def ItOk (C : Nat → Addr) (K : PySem.W.Frag) (J : It) (F H : Hp) (L : List Addr) (tr : Bool) (ds : List D) : Prop :=
  ∀ F2 H2, Sub F F2 → Le F2 H2 → (tr = true → ∀ a ∈ L, H2 a = H a) → ∀ i, (i < ds.length → J.go i H2) ∧ (ds.length ≤ i → J.stop i H2) ∧
    ∀ x H3, i < ds.length → J.yld i H2 x H3 → ∃ F3 d, New F2 H2 F3 H3 [] ∧ ds[i]? = some d ∧ RepS C K F3 d x
def OutS (C : Nat → Addr) (K : PySem.W.Frag) (XE : XP) (F H : Hp) (σ : St) (env : Env) (L R : List Addr) (q : Bool) (res : Res (List D × Bool × Env)) (Q : It → Hp → Prop) : Prop := match res with
  | .ok (ds, tr, env') => ∀ J F' H' L', Pst C K F H σ env L R F' H' env' L' [] q → ItOk C K J F' H' L' tr ds → Q J H'
  | .ex c d env' => ∀ F' H' L', Pst C K F H σ env L R F' H' env' L' [] false → XE c d H'
  | .er => False
def tSr (C : Nat → Addr) (K : PySem.W.Frag) (cal : Nat → List O → CRes) (XE : XP) (s : Sr) : TI := fun σ H Q => ∃ F env L R, SR C K F H σ env L R ∧ OutS C K XE F H σ env L R s.quiet (evSr cal s env) Q
theorem PI.imp {X : Cx} {tg e : Expr} {t t' : TI} (h : PI X tg e t) (i : ∀ σ H Q, t' σ H Q → t σ H Q) : PI X tg e t' := ⟨fun pins s σ H Q I q => h.run pins s σ H Q I (i σ H Q q)⟩
def iSeq (K : PySem.W.Frag) (tl : TE) : TI := fun σ H R => tl σ H fun x H1 => ∃ a, x = .ref a ∧ (((∃ xs, SqL K H1 a xs) ∧ R (Itl K a) H1) ∨ ((∃ xs, SqT K H1 a xs) ∧ R (Itt K a) H1))
theorem pi_seq {tg l : Expr} {tl : TE} (hl : PE X l tl) : PI X tg l (iSeq X.K tl) := by
  constructor
  intro pins s0 σ0 H0 Q0 inv0 hq0
  have base := hl.run pins s0 σ0 H0 _ inv0 hq0
  refine thn base ?_
  rintro v sA ⟨x, HA, invA, rep, a, rfl, goal⟩
  cases rep
  have old : ∀ (ob : Obj) (b : Addr) (o : Obj), sA.heap.get? b = some o → (sA.heap.push ob).get? b = some o := fun _ b o e => Heap.get?_push_of_some _ e
  have frs : ∀ b ∈ [sA.heap.objs.size], _ := fun b hb => invA.fpOk (b := b) (Nat.le_of_eq (List.mem_singleton.mp hb).symm) (invA.hok.fresh (Nat.le_of_eq (List.mem_singleton.mp hb).symm))
  rcases goal with ⟨⟨xs, hq⟩, goal⟩ | ⟨⟨xs, hq⟩, goal⟩
  · obtain ⟨its, rv, isl, hz⟩ := invA.list hq
    exact wpAny_pyIter_list isl.isList ⟨_, [_], _, _, HA, rfl, invA.kept (t' := sA.toks) (old _), turn_list a _, ⟨_, Heap.get?_push_size _ rfl, rfl, rfl⟩, frs, goal⟩
  · obtain ⟨its, rv, isl, hz⟩ := invA.tuple hq
    exact PySem.wpAny_pyIter_tuple (show sA.heap.IsTuple a its.toArray from isl) ⟨_, [_], _, _, HA, rfl, invA.kept (t' := sA.toks) (old _), turn_tuple a _, ⟨_, Heap.get?_push_size _ rfl, rfl, rfl⟩, frs, goal⟩
/-- what an operand's list owns stands still -/
theorem Pst.frzT (p : Pst C K F H σ env L R F1 H1 env1 L1 T q) : Pst C K F H σ env L R (frzH T F1 H1) H1 env1 L1 [] q := by
  have hT : ∀ a ∈ T, F1 a = none := fun a ha => (p.sr.fn a (by simp [ha])).1
  have hs := frzH_sub (H := H1) hT
  refine ⟨⟨frzH_le p.sr.le, RepE.keep hs.le (fun _ _ => rfl) p.sr.rep, ?_, fun a ha => ?_⟩, p.fe.trans hs, p.kp, p.qt⟩
  · exact p.sr.nd.sublist (List.Sublist.append_left (List.Sublist.append_right (List.nil_sublist _) _) _)
  · have ha' : a ∈ L1 ++ (T ++ R) := by
      simp only [List.nil_append, List.mem_append] at ha ⊢
      rcases ha with z | z
      · exact .inl z
      · exact .inr (.inr z)
    have hn : a ∉ T := by
      intro z
      have nd := p.sr.nd
      have h2 := List.nodup_append.mp nd
      have h3 := List.nodup_append.mp h2.2.1
      simp only [List.nil_append, List.mem_append] at ha
      rcases ha with w | w
      · exact h2.2.2 a w a (by simp [z]) rfl
      · exact h3.2.2 a z a w rfl
    rw [frzH_out hn]
    exact p.sr.fn a ha'
theorem RepO.walkL {o : O} {v : V} {l : List Addr} {b : Bool} {ds : List D} (r : RepO C K F H o v l) (h : o.walk = some (b, ds)) :
    ∃ a vs, v = .ref a ∧ RepSL C K F ds vs ∧ ((b = false ∧ ((a ∈ l ∧ H a = some (.lst vs)) ∨ SqL K F a vs)) ∨ (b = true ∧ SqT K F a vs)) := by
  unfold O.walk at h
  split at h
  · simp only [Option.some.injEq, Prod.mk.injEq] at h
    obtain ⟨rfl, rfl⟩ := h
    simp only [RepO, RepS] at r
    obtain ⟨_, a, e, q⟩ := r
    exact ⟨a, _, e, RepSL_ints _, .inl ⟨rfl, .inr q⟩⟩
  · unfold O.items at h
    split at h
    · simp only [Option.some.injEq, Prod.mk.injEq] at h
      obtain ⟨rfl, rfl⟩ := h
      simp only [RepO, RepS] at r
      obtain ⟨_, a, vs, e, q, t⟩ := r
      exact ⟨a, vs, e, t, .inl ⟨rfl, .inr (.inl (.inl q))⟩⟩
    · simp only [Option.some.injEq, Prod.mk.injEq] at h
      obtain ⟨rfl, rfl⟩ := h
      simp only [RepO, RepS] at r
      obtain ⟨_, a, vs, e, q, t⟩ := r
      exact ⟨a, vs, e, t, .inr ⟨rfl, q⟩⟩
    · rename_i os _
      cases e : leafs os with
      | none => rw [e] at h; cases h
      | some es =>
        rw [e] at h
        simp only [Option.map_some, Option.some.injEq, Prod.mk.injEq] at h
        obtain ⟨rfl, rfl⟩ := h
        simp only [RepO] at r
        obtain ⟨a, vs, r', e1, q, t, rfl⟩ := r
        exact ⟨a, vs, e1, (t.leafs e).2, .inl ⟨rfl, .inl ⟨by simp, q⟩⟩⟩
    · rename_i os _
      cases e : leafs os with
      | none => rw [e] at h; cases h
      | some es =>
        rw [e] at h
        simp only [Option.map_some, Option.some.injEq, Prod.mk.injEq] at h
        obtain ⟨rfl, rfl⟩ := h
        simp only [RepO] at r
        obtain ⟨a, vs, e1, q, t⟩ := r
        exact ⟨a, vs, e1, (t.leafs e).2, .inr ⟨rfl, .inl (.inl q)⟩⟩
    · cases h
theorem walk_at {h : Hd} {v : V} {o : O} {b : Bool} {ds : List D} (x : HX C K F H σ L T h v) (s : SR C K F H σ env L (T ++ R)) (g : h.get env = some o) (w : o.walk = some (b, ds)) :
    ∃ a vs, v = .ref a ∧ ∀ F2 H2, Sub (frzH T F H) F2 → Le F2 H2 → (h.isTr = true → ∀ a ∈ L, H2 a = H a) → RepSL C K F2 ds vs ∧ ((b = false ∧ SqL K H2 a vs) ∨ (b = true ∧ SqT K H2 a vs)) := by
  obtain ⟨l, r, hl⟩ := x.get2 s g
  obtain ⟨a, vs, rfl, t, q⟩ := r.walkL w
  refine ⟨a, vs, rfl, fun F2 H2 hs le htr => ?_⟩
  have hF : Sub F F2 := (frzH_sub (H := H) (fun a ha => (s.fn a (by simp [ha])).1)).trans hs
  refine ⟨RepSL.le hF.le _ _ t, ?_⟩
  rcases q with ⟨hb, q | q⟩ | ⟨hb, q⟩
  · left
    refine ⟨hb, .inl (.inl ?_)⟩
    rcases hl with ⟨o0, ho, rfl⟩ | ⟨hn, hT, hL⟩
    · exact le.at (hs a _ (by rw [frzH_in q.1]; exact q.2)) (fun _ z => by cases z)
    · have htr' : h.isTr = true := by
        cases h with
        | p d =>
          cases g
          have : l = [] := r.1
          rw [this] at q
          simp at q
        | t o' => exact absurd rfl (hn o')
        | _ => rfl
      rw [htr htr' a (hL a q.1)]
      exact q.2
  · exact .inl ⟨hb, SqL.le le (SqL.le hF.le q)⟩
  · exact .inr ⟨hb, SqT.le le (SqT.le hF.le q)⟩
theorem it_list {J : It} {a : Addr} {vs : List V} {ds : List D} {tr : Bool} {F0 H0 : Hp} (hJ : J = Itl K a) (h : ∀ F2 H2, Sub F0 F2 → Le F2 H2 → (tr = true → ∀ a ∈ L, H2 a = H0 a) → RepSL C K F2 ds vs ∧ SqL K H2 a vs) : ItOk C K J F0 H0 L tr ds := by
  subst hJ
  intro F2 H2 hs le htr i
  obtain ⟨t, q⟩ := h F2 H2 hs le htr
  refine ⟨fun hi => ⟨vs, vs[i]'(by rw [t.len]; exact hi), q, by simp [t.len, hi]⟩, fun hi => ⟨vs, q, by rw [t.len]; exact hi⟩, fun x H3 hi hy => ?_⟩
  obtain ⟨rfl, hy⟩ := hy
  have hx := hy vs q
  obtain ⟨hlt, _⟩ := List.getElem?_eq_some_iff.mp hx
  have hd : ds[i]? = some (ds[i]'(by rw [← t.len]; exact hlt)) := by simp [← t.len, hlt]
  obtain ⟨w, hw, rw'⟩ := t.nth hd
  rw [hx] at hw
  cases hw
  exact ⟨F2, _, New.refl le, hd, rw'⟩
theorem it_tup {J : It} {a : Addr} {vs : List V} {ds : List D} {tr : Bool} {F0 H0 : Hp} (hJ : J = Itt K a) (h : ∀ F2 H2, Sub F0 F2 → Le F2 H2 → (tr = true → ∀ a ∈ L, H2 a = H0 a) → RepSL C K F2 ds vs ∧ SqT K H2 a vs) : ItOk C K J F0 H0 L tr ds := by
  subst hJ
  intro F2 H2 hs le htr i
  obtain ⟨t, q⟩ := h F2 H2 hs le htr
  refine ⟨fun hi => ⟨vs, vs[i]'(by rw [t.len]; exact hi), q, by simp [t.len, hi]⟩, fun hi => ⟨vs, q, by rw [t.len]; exact hi⟩, fun x H3 hi hy => ?_⟩
  obtain ⟨rfl, hy⟩ := hy
  have hx := hy vs q
  obtain ⟨hlt, _⟩ := List.getElem?_eq_some_iff.mp hx
  have hd : ds[i]? = some (ds[i]'(by rw [← t.len]; exact hlt)) := by simp [← t.len, hlt]
  obtain ⟨w, hw, rw'⟩ := t.nth hd
  rw [hx] at hw
  cases hw
  exact ⟨F2, _, New.refl le, hd, rw'⟩
theorem numd_len : ∀ (k : Nat) (ds : List D), (numd k ds).length = ds.length
  | _, [] => rfl
  | k, d :: ds => by simp [numd, numd_len]
theorem numd_nth : ∀ (k : Nat) (ds : List D) (i : Nat) (d : D), ds[i]? = some d → (numd k ds)[i]? = some (.tup [.int (k + i : Nat), d])
  | k, [], i, d, h => by simp at h
  | k, d0 :: ds, 0, d, h => by
    simp at h; subst h
    simp [numd]
  | k, d0 :: ds, i + 1, d, h => by
    simp only [numd, List.getElem?_cons_succ]
    rw [numd_nth (k + 1) ds i d (by simpa using h)]
    have : k + 1 + i = k + (i + 1) := by omega
    rw [this]
theorem it_enum {J : It} {a : Addr} {vs : List V} {ds : List D} {tr : Bool} {F0 H0 : Hp} (hJ : J = Ite K a) (h : ∀ F2 H2, Sub F0 F2 → Le F2 H2 → (tr = true → ∀ a ∈ L, H2 a = H0 a) → RepSL C K F2 ds vs ∧ SqL K H2 a vs) : ItOk C K J F0 H0 L tr (numd 0 ds) := by
  subst hJ
  intro F2 H2 hs le htr i
  obtain ⟨t, q⟩ := h F2 H2 hs le htr
  rw [numd_len]
  refine ⟨fun hi => ⟨vs, vs[i]'(by rw [t.len]; exact hi), q, by simp [t.len, hi]⟩, fun hi => ⟨vs, q, by rw [t.len]; exact hi⟩, fun x H3 hi hy => ?_⟩
  obtain ⟨T, y, rfl, hT, rfl, hy⟩ := hy
  have hx := hy vs q
  obtain ⟨hlt, _⟩ := List.getElem?_eq_some_iff.mp hx
  have hd : ds[i]? = some (ds[i]'(by rw [← t.len]; exact hlt)) := by simp [← t.len, hlt]
  obtain ⟨w, hw, rw'⟩ := t.nth hd
  rw [hx] at hw
  cases hw
  have n := New.tup (vs := [.int (i : Nat), y]) le hT
  refine ⟨_, _, n, numd_nth 0 ds i _ hd, ?_⟩
  simp only [RepS]
  refine ⟨T, _, rfl, .inl (.inl upd_same), ?_⟩
  simp only [RepSL, RepS]
  exact ⟨_, _, rfl, by simp, y, [], rfl, RepS.le n.fe.le _ _ rw', rfl⟩
theorem it_rng {J : It} {lo c : Int} {n : Nat} {ds : List D} {tr : Bool} {F0 H0 : Hp} (hJ : J = Itr lo n ∧ c = 1 ∨ J = Itc lo c n) (hds : ds = (List.range n).map fun (k : Nat) => D.int (lo + k * c)) : ItOk C K J F0 H0 L tr ds := by
  subst hds
  intro F2 H2 hs le htr i
  simp only [List.length_map, List.length_range]
  rcases hJ with ⟨rfl, rfl⟩ | rfl
  · refine ⟨fun hi => hi, fun hi => hi, fun x H3 hi hy => ?_⟩
    obtain ⟨rfl, rfl⟩ := hy
    exact ⟨F2, _, New.refl le, by simp [hi]; rfl, by simp [RepS]⟩
  · refine ⟨fun hi => hi, fun hi => hi, fun x H3 hi hy => ?_⟩
    obtain ⟨rfl, rfl⟩ := hy
    exact ⟨F2, _, New.refl le, by simp [hi]; rfl, by simp [RepS]⟩
end
section
variable {X : Cx} {C : Nat → Addr} {cal : Nat → List O → CRes} {XE : XP}
theorem sr_seq {tg e : Expr} {c : CE} (he : EV X C cal XE e c) : PI X tg e (tSr C X.K cal XE (.seq c)) := by
  refine PI.imp (pi_seq he) fun σ H Q hq => ?_
  obtain ⟨F, env, L, R, sr, ho⟩ := hq
  simp only [evSr] at ho
  refine ⟨F, env, L, R, sr, ?_⟩
  cases e1 : ev cal c env with
  | ok x =>
    rw [e1] at ho
    intro v F1 H1 L1 T p hx
    simp only [Res.bind] at ho
    split at ho
    case h_2 => exact ho.elim
    rename_i o g
    split at ho
    case h_2 => exact ho.elim
    rename_i b ds w
    obtain ⟨a, vs, rfl, hw⟩ := walk_at hx p.sr g w
    refine ⟨a, rfl, ?_⟩
    have h0 := hw (frzH T F1 H1) H1 (Sub.refl _) (frzH_le p.sr.le) (fun _ _ _ => rfl)
    cases b with
    | false =>
      left
      have q0 : SqL X.K H1 a vs := by
        rcases h0.2 with ⟨_, q⟩ | ⟨z, _⟩
        · exact q
        · cases z
      refine ⟨⟨vs, q0⟩, ho _ _ _ _ (p.frzT.q_of fun z => by simpa [Sr.quiet] using z) (it_list (vs := vs) rfl fun F2 H2 hs le htr => ?_)⟩
      obtain ⟨t, q⟩ := hw F2 H2 hs le htr
      rcases q with ⟨_, q⟩ | ⟨z, _⟩
      · exact ⟨t, q⟩
      · cases z
    | true =>
      right
      have q0 : SqT X.K H1 a vs := by
        rcases h0.2 with ⟨z, _⟩ | ⟨_, q⟩
        · cases z
        · exact q
      refine ⟨⟨vs, q0⟩, ho _ _ _ _ (p.frzT.q_of fun z => by simpa [Sr.quiet] using z) (it_tup (vs := vs) rfl fun F2 H2 hs le htr => ?_)⟩
      obtain ⟨t, q⟩ := hw F2 H2 hs le htr
      rcases q with ⟨z, _⟩ | ⟨_, q⟩
      · cases z
      · exact ⟨t, q⟩
  | ex c d e => rw [e1] at ho; exact ho
  | er => rw [e1] at ho; exact ho
end
end Cr
end

section
/-! List comprehensions. -/
namespace Cr
open PySem L2

section
variable {C : Nat → Addr} {K : PySem.W.Frag} {F F' F1 F2 H H' H1 H2 : Hp} {σ σ1 : St} {env env1 env2 : Env} {L L1 L2 R T T1 T2 : List Addr}
/-- what may stand in a slot that owns nothing -/
def Bare (C : Nat → Addr) (K : PySem.W.Frag) (F : Hp) (o : Option O) (x : Option V) : Prop := match o with
  | none => True
  | some (.fr d) => ∃ v, x = some v ∧ RepS C K F d v
  | _ => False
theorem RepE.swap {x : Option V} {o' : Option O} (hb : Bare C K F o' x) : ∀ {env : Env} {σ : St} {L : List Addr} {i : Nat}, RepE C K F H env σ L → i < env.length → leafOrNone ((env[i]?).join) = true → RepE C K F H (env.set i o') (σ.set i x) L
  | [], σ, L, i, r, hi, hl => absurd hi (by simp)
  | none :: e, σ, L, 0, r, hi, hl => by
    simp only [RepE] at r
    obtain ⟨y, s, rfl, t⟩ := r
    cases o' with
    | none => simp only [List.set_cons_zero, RepE]; exact ⟨x, s, rfl, t⟩
    | some o =>
      cases o with
      | fr d =>
        obtain ⟨v, rfl, rd⟩ := hb
        simp only [List.set_cons_zero, RepE, RepO]
        exact ⟨v, s, [], L, rfl, ⟨rfl, rd⟩, t, rfl⟩
      | _ => exact hb.elim
  | some o0 :: e, σ, L, 0, r, hi, hl => by
    simp only [RepE] at r
    obtain ⟨y, s, l1, l2, rfl, ro, t, rfl⟩ := r
    have e1 : l1 = [] := by
      cases o0 with
      | fr d => exact ro.1
      | _ => simp [leafOrNone, O.isFr] at hl
    subst e1
    cases o' with
    | none => simp only [List.set_cons_zero, RepE]; exact ⟨x, s, rfl, t⟩
    | some o =>
      cases o with
      | fr d =>
        obtain ⟨v, rfl, rd⟩ := hb
        simp only [List.set_cons_zero, RepE, RepO]
        exact ⟨v, s, [], l2, rfl, ⟨rfl, rd⟩, t, rfl⟩
      | _ => exact hb.elim
  | none :: e, σ, L, i + 1, r, hi, hl => by
    simp only [RepE] at r
    obtain ⟨y, s, rfl, t⟩ := r
    simp only [List.set_cons_succ, RepE]
    exact ⟨y, _, rfl, RepE.swap hb t (by simpa using hi) (by simpa using hl)⟩
  | some o0 :: e, σ, L, i + 1, r, hi, hl => by
    simp only [RepE] at r
    obtain ⟨y, s, l1, l2, rfl, ro, t, rfl⟩ := r
    simp only [List.set_cons_succ, RepE]
    exact ⟨y, _, l1, l2, rfl, ro, RepE.swap hb t (by simpa using hi) (by simpa using hl), rfl⟩
theorem wipeE_len (e : Env) : ∀ own : List Nat, (wipeE e own).length = e.length
  | [] => rfl
  | i :: is => by simp [wipeE, wipeE_len e is]
theorem wipeE_in {e : Env} {j : Nat} (hj : j < e.length) : ∀ {own : List Nat}, j ∈ own → (wipeE e own)[j]? = some none
  | [], h => by simp at h
  | i :: is, h => by
    unfold wipeE
    by_cases e1 : i = j
    · subst e1
      rw [List.getElem?_set_self (by rw [wipeE_len]; exact hj)]
    · rw [List.getElem?_set_ne e1]
      exact wipeE_in hj (by simpa [Ne.symm e1] using h)
theorem wipeE_leaf {e : Env} {j : Nat} (hl : leafOrNone ((e[j]?).join) = true) : ∀ (own : List Nat), leafOrNone (((wipeE e own)[j]?).join) = true
  | [] => hl
  | i :: is => by
    unfold wipeE
    by_cases e1 : i = j
    · subst e1
      by_cases h : i < (wipeE e is).length
      · rw [List.getElem?_set_self h]; rfl
      · rw [List.getElem?_eq_none (by simpa using h)]; rfl
    · rw [List.getElem?_set_ne e1]
      exact wipeE_leaf hl is
theorem RepE.wiped (r : RepE C K F H env σ L) : ∀ {own : List Nat}, wipeOk own env = true → RepE C K F H (wipeE env own) (wipe σ own) L
  | [], h => r
  | i :: is, h => by
    simp only [wipeOk, List.all_cons, Bool.and_eq_true, decide_eq_true_eq] at h
    exact RepE.swap (o' := none) (x := none) trivial (RepE.wiped r h.2) (by rw [wipeE_len]; exact h.1.1) (wipeE_leaf h.1.2 is)
/-- the slots put back -/
def undo (σ s : St) : List Nat → St
  | [] => s
  | i :: is => (undo σ s is).set i ((σ[i]?).join)
theorem undo_len (σ s : St) : ∀ own : List Nat, (undo σ s own).length = s.length
  | [] => rfl
  | i :: is => by simp [undo, undo_len σ s is]
theorem undo_out {σ s : St} {j : Nat} : ∀ {own : List Nat}, j ∉ own → (undo σ s own)[j]? = s[j]?
  | [], h => rfl
  | i :: is, h => by
    simp only [List.mem_cons, not_or] at h
    unfold undo
    rw [List.getElem?_set_ne (Ne.symm h.1)]
    exact undo_out h.2
theorem undo_in {σ s : St} {j : Nat} (hs : s.length = σ.length) (hj : j < σ.length) : ∀ {own : List Nat}, j ∈ own → (undo σ s own)[j]? = σ[j]?
  | [], h => by simp at h
  | i :: is, h => by
    unfold undo
    by_cases e1 : i = j
    · subst e1
      rw [List.getElem?_set_self (by rw [undo_len, hs]; exact hj)]
      simp [hj]
    · rw [List.getElem?_set_ne e1]
      exact undo_in hs hj (by simpa [Ne.symm e1] using h)
theorem wipe_out {σ : St} {j : Nat} : ∀ {own : List Nat}, j ∉ own → (wipe σ own)[j]? = σ[j]?
  | [], h => rfl
  | i :: is, h => by
    simp only [List.mem_cons, not_or] at h
    unfold wipe
    rw [List.getElem?_set_ne (Ne.symm h.1)]
    exact wipe_out h.2
theorem wipe_in {σ : St} {j : Nat} (hj : j < σ.length) : ∀ {own : List Nat}, j ∈ own → (wipe σ own)[j]? = some none
  | [], h => by simp at h
  | i :: is, h => by
    unfold wipe
    by_cases e1 : i = j
    · subst e1
      rw [List.getElem?_set_self (by rw [wipe_length]; exact hj)]
    · rw [List.getElem?_set_ne e1]
      exact wipe_in hj (by simpa [Ne.symm e1] using h)
theorem wipe_eq {σ σ1 : St} {own : List Nat} (h : σ1.length = σ.length) (k : ∀ j, j ∉ own → σ1[j]? = σ[j]?) : wipe σ1 own = wipe σ own := by
  refine List.ext_getElem? fun j => ?_
  by_cases hj : j ∈ own
  · by_cases hl : j < σ.length
    · rw [wipe_in (by rw [h]; exact hl) hj, wipe_in hl hj]
    · rw [List.getElem?_eq_none (by rw [wipe_length, h]; omega), List.getElem?_eq_none (by rw [wipe_length]; omega)]
  · rw [wipe_out hj, wipe_out hj, k j hj]
theorem undo_wipe (σ : St) (own : List Nat) : undo σ (wipe σ own) own = σ := by
  refine List.ext_getElem? fun j => ?_
  by_cases hj : j ∈ own
  · by_cases hl : j < σ.length
    · rw [undo_in (by rw [wipe_length]) hl hj]
    · rw [List.getElem?_eq_none (by rw [undo_len, wipe_length]; omega), List.getElem?_eq_none (by omega)]
  · rw [undo_out hj, wipe_out hj]
theorem backE_len (e0 e1 : Env) : ∀ own : List Nat, (backE e0 e1 own).length = e1.length
  | [] => rfl
  | i :: is => by simp [backE, backE_len e0 e1 is]
theorem backE_leaf {e0 e1 : Env} {j : Nat} (h1 : leafOrNone ((e1[j]?).join) = true) (h0 : leafOrNone ((e0[j]?).join) = true) : ∀ own : List Nat, leafOrNone (((backE e0 e1 own)[j]?).join) = true
  | [] => h1
  | i :: is => by
    unfold backE
    by_cases e : i = j
    · subst e
      by_cases h : i < (backE e0 e1 is).length
      · rw [List.getElem?_set_self h]; exact h0
      · rw [List.getElem?_eq_none (by simpa using h)]; rfl
    · rw [List.getElem?_set_ne e]
      exact backE_leaf h1 h0 is
theorem RepE.back {s : St} (s0 : SR C K F1 H1 σ env L1 R) (le : Le F1 F) (r : RepE C K F H env1 s L) : ∀ {own : List Nat}, (∀ i ∈ own, i < env1.length ∧ leafOrNone ((env[i]?).join) = true ∧ leafOrNone ((env1[i]?).join) = true) → RepE C K F H (backE env env1 own) (undo σ s own) L
  | [], h => r
  | i :: is, h => by
    have hi := h i (by simp)
    refine RepE.swap (i := i) ?_ (RepE.back s0 le r fun j hj => h j (by simp [hj])) (by rw [backE_len]; exact hi.1) (backE_leaf hi.2.2 hi.2.1 is)
    cases e : (env[i]?).join with
    | none => trivial
    | some o =>
      cases o with
      | fr d =>
        obtain ⟨v, La, l, Lb, c, hv, rv⟩ := s0.slot e
        exact ⟨v, by rw [hv]; rfl, RepS.le le d v rv.2⟩
      | _ => rw [e] at hi; simp [leafOrNone, O.isFr] at hi
end

section
variable {C : Nat → Addr} {K : PySem.W.Frag} {cal : Nat → List O → CRes} {F F' F1 F2 H H' H1 H2 : Hp} {σ σ1 : St} {env env1 env2 : Env} {L L1 L2 R T T1 T2 : List Addr}
abbrev X0 : XP := fun _ _ _ => False
def tCs (C : Nat → Addr) (K : PySem.W.Frag) (cal : Nat → List O → CRes) (XE : XP) : List CE → TT
  | [] => tYes
  | [c] => tB (tV C K cal XE c)
  | _ => fun _ _ _ => False
/-- the conditions of a turn -/
theorem tCs_run {cs : List CE} (hc : cs.length ≤ 1) (sr : SR C K F H σ env L R) {b : Bool} {e' : Env} (h : evC cal cs env = .ok (b, e')) {Q : Bool → Hp → Prop}
    (k : ∀ F1 H1 L1, Pst C K F H σ env L R F1 H1 e' L1 [] (quietL cs) → Q b H1) : tCs C K cal X0 cs σ H Q := by
  match cs, hc with
  | [], _ =>
    simp only [evC, Res.ok.injEq, Prod.mk.injEq] at h
    obtain ⟨rfl, rfl⟩ := h
    exact k F H L ((Pst.refl sr).q_of fun _ => rfl)
  | [c], _ =>
    simp only [evC] at h
    refine ⟨F, env, L, R, sr, ?_⟩
    cases h1 : ev cal c env with
    | ok x =>
      rw [h1] at h
      intro v F1 H1 L1 T p hx
      simp only [Res.bind] at h
      split at h
      · rename_i e
        simp only [Res.ok.injEq, Prod.mk.injEq] at h
        obtain ⟨rfl, rfl⟩ := h
        obtain ⟨rfl, _, rfl⟩ := boolH_of e hx
        exact ⟨true, rfl, k F1 H1 L1 (p.q_of fun z => by simpa [quietL] using z)⟩
      · rename_i e
        simp only [Res.ok.injEq, Prod.mk.injEq] at h
        obtain ⟨rfl, rfl⟩ := h
        obtain ⟨rfl, _, rfl⟩ := boolH_of e hx
        exact ⟨false, rfl, k F1 H1 L1 (p.q_of fun z => by simpa [quietL] using z)⟩
      · cases h
    | ex c d e => rw [h1] at h; cases h
    | er => rw [h1] at h; cases h
end

theorem upd_id {H : Hp} {a : Addr} {o : HO} (h : H a = some o) : upd H a o = H := by
  funext b
  by_cases e : b = a
  · subst e; rw [upd_same, h]
  · exact upd_ne e
theorem wipeE_out {e : Env} {j : Nat} : ∀ {own : List Nat}, j ∉ own → (wipeE e own)[j]? = e[j]?
  | [], h => rfl
  | i :: is, h => by
    simp only [List.mem_cons, not_or] at h
    unfold wipeE
    rw [List.getElem?_set_ne (Ne.symm h.1)]
    exact wipeE_out h.2
theorem bind_out (t : Tg) (d : D) (e e' : Env) : t.bind d e = some e' → ∀ j : Nat, j ∉ t.slots → e'[j]? = e[j]? := by
  suffices h : ∀ (n : Nat), (∀ (t : Tg) (d : D) (e e' : Env), sizeOf t < n → t.bind d e = some e' → ∀ j : Nat, j ∉ t.slots → e'[j]? = e[j]?) ∧
      (∀ (ts : List Tg) (ds : List D) (e e' : Env), sizeOf ts < n → bindL ts ds e = some e' → ∀ j : Nat, j ∉ slotsL ts → e'[j]? = e[j]?) from
    (h (sizeOf t + 1)).1 t d e e' (Nat.lt_succ_self _)
  intro n
  induction n with
  | zero => exact ⟨fun _ _ _ _ h => absurd h (Nat.not_lt_zero _), fun _ _ _ _ h => absurd h (Nat.not_lt_zero _)⟩
  | succ n ih =>
    refine ⟨fun t d e e' hs h j hj => ?_, fun ts ds e e' hs h j hj => ?_⟩
    · cases t with
      | v i =>
        simp only [Tg.bind] at h
        simp only [Tg.slots, List.mem_singleton] at hj
        split at h
        · cases h
          rw [List.getElem?_set_ne (Ne.symm hj)]
        · cases h
      | tup ts =>
        cases d with
        | tup ds =>
          simp only [Tg.bind] at h
          exact ih.2 ts ds e e' (by simp at hs; omega) h j hj
        | _ => simp [Tg.bind] at h
    · cases ts with
      | nil =>
        cases ds with
        | nil => simp only [bindL, Option.some.injEq] at h; rw [← h]
        | cons => simp [bindL] at h
      | cons t ts =>
        cases ds with
        | nil => simp [bindL] at h
        | cons d ds =>
          simp only [bindL] at h
          simp only [slotsL, List.mem_append, not_or] at hj
          obtain ⟨e1, h1, h2⟩ := Option.bind_eq_some_iff.mp h
          rw [ih.2 ts ds e1 e' (by simp at hs; omega) h2 j hj.2, ih.1 t d e e1 (by simp at hs; omega) h1 j hj.1]
theorem backE_in {e0 e1 : Env} {j : Nat} (hs : e1.length = e0.length) (hj : j < e0.length) : ∀ {own : List Nat}, j ∈ own → (backE e0 e1 own)[j]? = e0[j]?
  | [], h => by simp at h
  | i :: is, h => by
    unfold backE
    by_cases z : i = j
    · subst z
      rw [List.getElem?_set_self (by rw [backE_len, hs]; exact hj)]
      simp [hj]
    · rw [List.getElem?_set_ne z]
      exact backE_in hs hj (by simpa [Ne.symm z] using h)
theorem backE_out {e0 e1 : Env} {j : Nat} : ∀ {own : List Nat}, j ∉ own → (backE e0 e1 own)[j]? = e1[j]?
  | [], h => rfl
  | i :: is, h => by
    simp only [List.mem_cons, not_or] at h
    unfold backE
    rw [List.getElem?_set_ne (Ne.symm h.1)]
    exact backE_out h.2
theorem backE_wipe {e : Env} {vs : List Nat} (h : ∀ j ∈ vs, j < e.length) (j : Nat) : (backE e (wipeE e vs) vs)[j]? = e[j]? := by
  by_cases hj : j ∈ vs
  · exact backE_in (wipeE_len e vs) (h j hj) hj
  · rw [backE_out hj, wipeE_out hj]
section
variable {X : Cx} {C : Nat → Addr} {cal : Nat → List O → CRes} {XE : XP} {K : PySem.W.Frag} {F F' F1 F2 H H' H1 H2 : Hp} {σ σ1 : St} {env env1 env2 : Env} {L L1 L2 R T T1 T2 : List Addr}
theorem noEx_ok {α : Type} {r : Res α} {a : α} (h : r.noEx = .ok a) : r = .ok a := by
  cases r with
  | ok b => simpa using h
  | ex => simp at h
  | er => simp at h
theorem bind_ok {α β : Type} {r : Res α} {f : α → Res β} {b : β} (h : r.bind f = .ok b) : ∃ a, r = .ok a ∧ f a = .ok b := by
  cases r with
  | ok a => exact ⟨a, rfl, h⟩
  | ex => simp at h
  | er => simp at h
theorem RepOL.snoc : ∀ {os : List O} {vs : List V} {l : List Addr} {o : O} {v : V}, RepOL C K F H os vs l → RepO C K F H o v T → RepOL C K F H (os ++ [o]) (vs ++ [v]) (l ++ T)
  | [], vs, l, o, v, r, h => by
    simp only [RepOL] at r
    obtain ⟨rfl, rfl⟩ := r
    simp only [List.nil_append, RepOL]
    exact ⟨v, [], T, [], rfl, h, ⟨rfl, rfl⟩, by simp⟩
  | o0 :: os, vs, l, o, v, r, h => by
    simp only [RepOL] at r
    obtain ⟨w, s, l1, l2, rfl, q, t, rfl⟩ := r
    simp only [List.cons_append, RepOL]
    exact ⟨w, _, l1, _, rfl, q, RepOL.snoc t h, by simp⟩
/-- the list that grows, and all else -/
structure Grow (C : Nat → Addr) (K : PySem.W.Frag) (f : D → Env → Res (Option O × Env)) (F1 H1 : Hp) (σw : St) (env1w e1 : Env) (L1 R : List Addr) (vs : List Nat) (q2 : Bool) (ds : List D) (os : List O) (D : Addr) (i : Nat) (H' : Hp) : Prop where
  le : i ≤ ds.length
  ex : ∃ F' ei Li acc oacc Tacc rest, SR C K F' H' σw ei Li (D :: Tacc ++ R) ∧ Sub F1 F' ∧ (∀ a, (F1 a ≠ none ∨ a ∈ R) → H' a = H1 a) ∧ H' D = some (.lst acc) ∧ RepOL C K F' H' oacc acc Tacc ∧ acc.length ≤ i ∧
    lcL f (ds.drop i) ei = .ok (rest, e1) ∧ os = oacc ++ rest ∧ (q2 = true → ei = env1w ∧ Li = L1 ∧ ∀ a ∈ L1, H' a = H1 a) ∧ (∀ j ∈ vs, ei[j]? = some none)
theorem Pst.seq {q1 q2 : Bool} (p : Pst C K F H σ env L R F1 H1 env1 L1 [] q1) (p2 : Pst C K F1 H1 σ env1 L1 R F2 H2 env2 L2 T q2) : Pst C K F H σ env L R F2 H2 env2 L2 T (q1 && q2) := by
  have := p.trans (p2 : Pst C K F1 H1 σ env1 L1 ([] ++ R) F2 H2 env2 L2 T q2)
  simpa using this
theorem hval {h : Hd} {v : V} {o : O} (x : HX C K F H σ L T h v) (e : h.val = some o) : RepO C K F H o v T := by
  cases h with
  | p d => cases e; exact ⟨x.1, x.2⟩
  | t o' => cases e; exact x
  | _ => cases e
theorem lc_in {t : Tg} {src : Sr} {cs : List CE} {x : CE} {vs : List Nat} {Q : VK} {H0 : Hp} (hcs : cs.length ≤ 1) (hsl : ∀ i ∈ t.slots, i ∈ vs) (hq : tV C K cal XE (.lc vs t src cs x) σ H0 Q) :
    tLc (tSr C K cal XE src) (tTg C K t) (tCs C K cal X0 cs) (tV C K cal X0 x) vs σ H0 Q := by
  obtain ⟨F, env, L, R, sr, ho⟩ := hq
  simp only [ev] at ho
  refine ⟨F, env, L, R, sr, ?_⟩
  cases hsrc : evSr cal src env with
  | ex c d e => rw [hsrc] at ho; exact ho
  | er => rw [hsrc] at ho; exact ho
  | ok y =>
    obtain ⟨ds, tr, env1⟩ := y
    rw [hsrc] at ho
    intro J F1 H1 L1 p it D hD
    simp only [Res.bind] at ho
    split at ho
    case isFalse => exact ho.elim
    rename_i hk
    obtain ⟨hown, htr⟩ := Bool.and_eq_true_iff.mp hk
    generalize hf : lcF (fun e => evC cal cs e) (fun e => ev cal x e) t vs = f at ho
    cases hl : Res.noEx (lcL f ds (wipeE env1 vs)) with
    | ex c d e => simp only [hl] at ho; cases hz : lcL f ds (wipeE env1 vs) <;> rw [hz] at hl <;> simp at hl
    | er => simp only [hl] at ho; exact ho.elim
    | ok y =>
      obtain ⟨os, e1⟩ := y
      simp only [hl] at ho
      have hl := noEx_ok hl
      split at ho
      case isFalse => exact ho.elim
      rename_i hline
      have hline : ds.length ≤ 16777216 := by simpa [lineOk] using hline
      have sr1 : SR C K F1 H1 σ env1 L1 R := p.sr
      have hvl : ∀ j ∈ vs, j < env1.length ∧ leafOrNone ((env1[j]?).join) = true := fun j hj => by
        have := List.all_eq_true.mp hown j hj
        simpa using this
      have hlt : ∀ j ∈ vs, j < σ.length := fun j hj => by rw [sr1.len]; exact (hvl j hj).1
      have nw := New.lst (vs := []) sr1.le hD
      have hDn := nw.fresh D (by simp)
      have sr2 : SR C K F1 (upd H1 D (.lst [])) (wipe σ vs) (wipeE env1 vs) L1 (D :: [] ++ R) := by
        have s := sr1.new nw
        exact ⟨s.le, s.rep.wiped hown, s.nd, s.fn⟩
      have live : ∀ a, (F1 a ≠ none ∨ a ∈ R) → H1 a ≠ none := fun a ha => by
        rcases ha with ha | ha
        · cases e : F1 a with
          | none => exact absurd e ha
          | some u => rcases sr1.le a u e with z | ⟨_, o, z⟩ <;> rw [z] <;> simp
        · exact (sr1.fn a (by simp [ha])).2
      generalize hq2 : (quietL cs && x.quiet) = q2
      refine ⟨fun i m H' => m = ds.length - i ∧ Grow C K f F1 H1 (wipe σ vs) (wipeE env1 vs) e1 L1 R vs q2 ds os D i H', ⟨_, rfl, Nat.zero_le _, F1, _, L1, [], [], [], os, sr2, Sub.refl F1, fun a ha => nw.same a (live a ha), upd_same, by simp [RepOL], Nat.le_refl _, hl, rfl, fun _ => ⟨rfl, rfl, fun a ha => nw.same a (sr1.fn a (by simp [ha])).2⟩, fun j hj => wipeE_in (hvl j hj).1 hj⟩, ?_⟩
      rintro i m H' ⟨rfl, hle, F', ei, Li, acc, oacc, Tacc, rest, srI, subI, kpI, hDI, rI, alen, hrest, hos, hqI, hnone⟩
      have liD : ∀ a ∈ L1, a ≠ D := fun a ha z => (sr1.fn a (by simp [ha])).2 (z ▸ hD)
      have itI := it F' H' subI srI.le (fun z a ha => (hqI (by rw [← hq2]; rw [z] at htr; simpa using htr)).2.2 a ha) i
      by_cases hi : i < ds.length
      · right
        refine ⟨itI.1 hi, fun H' => Grow C K f F1 H1 (wipe σ vs) (wipeE env1 vs) e1 L1 R vs q2 ds os D (i + 1) H', fun H' g => ⟨_, by omega, rfl, g⟩, fun v H3 hy => ?_⟩
        obtain ⟨F3, d, n3, hd, rd⟩ := itI.2.2 v H3 hi hy
        have sr3 : SR C K F3 H3 (wipe σ vs) ei Li (D :: Tacc ++ R) := srI.new n3
        have hdrop : ds.drop i = d :: ds.drop (i + 1) := by
          obtain ⟨h1, h2⟩ := List.getElem?_eq_some_iff.mp hd
          rw [← h2]
          exact List.drop_eq_getElem_cons h1
        rw [hdrop] at hrest
        simp only [lcL] at hrest
        obtain ⟨⟨o?, ei'⟩, hfd, hrest⟩ := bind_ok hrest
        obtain ⟨⟨rest', e1'⟩, hrest', hrest⟩ := bind_ok hrest
        simp only [Res.ok.injEq, Prod.mk.injEq] at hrest
        obtain ⟨hr, rfl⟩ := hrest
        rw [← hf] at hfd
        unfold lcF at hfd
        split at hfd
        case h_2 => cases hfd
        rename_i eb hb
        obtain ⟨⟨k, ec⟩, hcond, hfd⟩ := bind_ok hfd
        refine ⟨F3, ei, Li, _, d, eb, sr3, rd, hb, fun σ2 L2 s2 hsub hpoor hbut => ⟨?_, ?_⟩⟩
        · rw [wipe_eq (σ := wipe σ vs) hbut.1 fun j hj => hbut.2 j fun z => hj (hsl j z)]
          exact wipe_eq (wipe_length σ vs) fun j hj => wipe_out hj
        have hw2 : wipe σ2 vs = wipe σ vs := by
          rw [wipe_eq (σ := wipe σ vs) hbut.1 fun j hj => hbut.2 j fun z => hj (hsl j z)]
          exact wipe_eq (wipe_length σ vs) fun j hj => wipe_out hj
        have hL2 : L2 = Li := hpoor fun j hj => by rw [hnone j (hsl j hj)]; rfl
        refine tCs_run hcs s2 hcond fun F4 H4 L4 p4 => ?_
        have big : ∀ {F5 H5 e5 L5 T5 q5}, Pst C K F3 H3 σ2 eb L2 (D :: Tacc ++ R) F5 H5 e5 L5 T5 q5 → wipeOk vs e5 = true → ei' = wipeE e5 vs → (q2 = true → q5 = true) → ∀ (acc' : List V) (oacc' : List O), (∀ H6, RepOL C K F5 H5 oacc acc Tacc → (∀ a ∈ T5 ++ Tacc, H6 a = H5 a) → RepOL C K F5 H6 oacc' acc' (Tacc ++ T5)) → acc'.length ≤ i + 1 → os = oacc' ++ rest' →
            Grow C K f F1 H1 (wipe σ vs) (wipeE env1 vs) e1' L1 R vs q2 ds os D (i + 1) (upd H5 D (.lst acc')) := by
          intro F5 H5 e5 L5 T5 q5 p5 hw5 he5 hq5 acc' oacc' hrep hlen hos'
          have nd5 := p5.sr.nd
          have perm : (L5 ++ (T5 ++ (D :: Tacc ++ R))).Perm (L5 ++ (D :: (Tacc ++ T5) ++ R)) := by
            refine List.Perm.append_left L5 ?_
            have : (T5 ++ (D :: Tacc ++ R)).Perm ((D :: Tacc ++ R) ++ T5) := List.perm_append_comm
            refine this.trans ?_
            simp only [List.cons_append, List.append_assoc]
            exact List.Perm.cons D (List.Perm.append_left Tacc List.perm_append_comm)
          have nd6 := (List.Perm.nodup_iff perm).mp nd5
          have nDT : D ∉ L5 ∧ D ∉ Tacc ++ T5 ++ R := by
            have h1 := List.nodup_append.mp nd6
            refine ⟨fun z => h1.2.2 D z D (by simp) rfl, ?_⟩
            have h2 := h1.2.1
            simp only [List.cons_append, List.nodup_cons] at h2
            exact h2.1
          have fD := (p5.sr.fn D (by simp))
          have k6 : ∀ a, a ≠ D → upd H5 D (.lst acc') a = H5 a := fun a ha => upd_ne ha
          have nT : ∀ a ∈ T5 ++ Tacc, a ≠ D := fun a ha z => nDT.2 (by subst z; simp only [List.mem_append] at ha ⊢; rcases ha with z | z <;> simp [z])
          have le6 : Le F5 (upd H5 D (.lst acc')) := fun a u e => by
            have hne : a ≠ D := fun z => by rw [z, fD.1] at e; cases e
            rw [k6 a hne]
            exact p5.sr.le a u e
          refine ⟨hi, F5, ei', L5, acc', oacc', Tacc ++ T5, rest', ?_, subI.trans (n3.fe.trans p5.fe), fun a ha => ?_, upd_same, ?_, hlen, hrest', hos', fun z => ?_, fun j hj => ?_⟩
          · refine ⟨le6, ?_, nd6, fun a ha => ?_⟩
            · rw [he5, ← hw2]
              exact RepE.keep (Le.refl F5) (fun a ha => k6 a fun z => nDT.1 (z ▸ ha)) (p5.sr.rep.wiped hw5)
            · have := p5.sr.fn a ((List.Perm.mem_iff perm).mpr ha)
              refine ⟨this.1, ?_⟩
              by_cases z : a = D
              · subst z; rw [upd_same]; simp
              · rw [k6 a z]; exact this.2
          · have hne : a ≠ D := fun z => by
              subst z
              rcases ha with ha | ha
              · exact ha hDn.2.1
              · exact nDT.2 (by simp [ha])
            rw [k6 a hne]
            have hn3 : H' a ≠ none := by rw [kpI a ha]; exact live a ha
            have h3 : H3 a = H1 a := (n3.same a hn3).trans (kpI a ha)
            rw [← h3]
            refine p5.kp a ?_
            rcases ha with ha | ha
            · left
              cases e : F1 a with
              | none => exact absurd e ha
              | some u => rw [n3.fe a u (subI a u e)]; simp
            · right; simp [ha]
          · refine hrep _ ?_ fun a ha => k6 a (nT a ha)
            refine RepOL.keep (n3.fe.trans p5.fe).le oacc acc Tacc (fun a ha => ?_) rI
            rw [p5.kp a (.inr (by simp [ha]))]
            exact n3.same a (srI.fn a (by simp [ha])).2
          · obtain ⟨a1, a2, a3⟩ := hqI z
            obtain ⟨b1, b2, b3⟩ := p5.qt (hq5 z)
            refine ⟨?_, by rw [b2, hL2, a2], fun a ha => ?_⟩
            · rw [he5, b1]
              refine List.ext_getElem? fun j => ?_
              by_cases hj : j ∈ vs
              · have hlb := bind_len t d ei eb hb
                have : j < eb.length := by rw [hlb, a1, wipeE_len]; exact (hvl j hj).1
                rw [wipeE_in this hj, wipeE_in (hvl j hj).1 hj]
              · have e2 : ∀ (e : Env), (wipeE e vs)[j]? = e[j]? := fun e => wipeE_out hj
                rw [e2, bind_out t d ei eb hb j (fun z => hj (hsl j z)), a1]
            · rw [k6 a (liD a ha), b3 a (by rw [hL2, a2]; exact ha), n3.same a (by rw [a3 a ha]; exact (sr1.fn a (by simp [ha])).2), a3 a ha]
          · have hlb := bind_len t d ei eb hb
            have hlen5 : e5.length = ei.length := by rw [← hlb, ← s2.len, ← p5.sr.len]
            have : j < e5.length := by rw [hlen5]; exact (List.getElem?_eq_some_iff.mp (hnone j hj)).1
            rw [he5, wipeE_in this hj]
        have hD3 : H3 D = some (.lst acc) := (n3.same D (by rw [hDI]; simp)).trans hDI
        cases k with
        | true =>
          simp only [if_true] at hfd ⊢
          obtain ⟨⟨h, ed⟩, hx, hfd⟩ := bind_ok hfd
          split at hfd
          case h_2 => cases hfd
          rename_i o hval'
          split at hfd
          case isFalse => cases hfd
          rename_i hwo
          simp only [Res.ok.injEq, Prod.mk.injEq] at hfd
          obtain ⟨rfl, rfl⟩ := hfd
          refine ⟨F4, ec, L4, D :: Tacc ++ R, p4.sr, ?_⟩
          rw [hx]
          intro y F5 H5 L5 T5 p5 hx5
          have p45 := p4.seq p5
          have ry := hval hx5 hval'
          have hD5 : H5 D = some (.lst acc) := by rw [p45.kp D (.inr (by simp)), hD3]
          refine ⟨acc, hD5, by rw [sizeLine_eq]; omega, big p45 hwo rfl (fun z => by rw [← hq2] at z; exact z) (acc ++ [y]) (oacc ++ [o]) (fun H6 r k6 => ?_) (by simp; omega) ?_⟩
          · exact RepOL.snoc (RepOL.keep (Le.refl F5) _ _ _ (fun a ha => k6 a (by simp [ha])) r) (RepO.keep (Le.refl F5) _ _ _ (fun a ha => k6 a (by simp [ha])) ry)
          · rw [hos, ← hr]; simp
        | false =>
          simp only [Bool.false_eq_true, if_false] at hfd ⊢
          split at hfd
          case isFalse => cases hfd
          rename_i hwo
          simp only [Res.ok.injEq, Prod.mk.injEq] at hfd
          obtain ⟨rfl, rfl⟩ := hfd
          have hD4 : H4 D = some (.lst acc) := by rw [p4.kp D (.inr (by simp)), hD3]
          have e4 : upd H4 D (.lst acc) = H4 := upd_id hD4
          have := big p4 hwo rfl (fun z => by rw [← hq2] at z; exact (Bool.and_eq_true_iff.mp z).1) acc oacc (fun H6 r k6 => by simpa using RepOL.keep (Le.refl F4) _ _ _ (fun a ha => k6 a (by simpa using ha)) r) (by omega) (by rw [hos, ← hr])
          rw [e4] at this
          exact this
      · left
        have hi : i = ds.length := by omega
        refine ⟨itI.2.1 (by omega), ?_⟩
        rw [hi, List.drop_length] at hrest
        simp only [lcL, Res.ok.injEq, Prod.mk.injEq] at hrest
        obtain ⟨rfl, rfl⟩ := hrest
        rw [List.append_nil] at hos
        subst hos
        have hlen1 : ei.length = env1.length := by rw [← srI.len, wipe_length, sr1.len]
        have back := RepE.back (s := wipe σ vs) (own := vs) sr1 subI.le srI.rep fun j hj => ⟨by rw [hlen1]; exact (hvl j hj).1, (hvl j hj).2, by rw [hnone j hj]; rfl⟩
        rw [undo_wipe] at back
        refine ho (.ref D) F' H' Li (D :: Tacc) ⟨⟨srI.le, back, srI.nd, srI.fn⟩, p.fe.trans subI, fun a ha => ?_, fun z => ?_⟩ ?_
        · rw [kpI a, p.kp a ha]
          rcases ha with ha | ha
          · left
            cases e : F a with
            | none => exact absurd e ha
            | some u => rw [p.fe a u e]; simp
          · exact .inr ha
        · simp only [CE.quiet, Bool.and_eq_true] at z
          obtain ⟨a1, a2, a3⟩ := p.qt z.1.1
          obtain ⟨b1, b2, b3⟩ := hqI (by rw [← hq2]; simp [z])
          refine ⟨?_, by rw [b2, a2], fun a ha => by rw [b3 a (by rw [a2]; exact ha), a3 a ha]⟩
          rw [← a1, b1]
          refine List.ext_getElem? fun j => ?_
          exact backE_wipe (fun j hj => (hvl j hj).1) j
        · show RepO C K F' H' (.ol os) (.ref D) (D :: Tacc)
          simp only [RepO]
          exact ⟨D, acc, Tacc, rfl, hDI, rI, rfl⟩
end
end Cr
end

section
/-! Ranges, enumerate, list comprehensions as values. -/
namespace Cr
open PySem L2

section
variable {X : Cx} {C : Nat → Addr} {cal : Nat → List O → CRes} {XE : XP} {F F' F1 F2 H H' H1 H2 : Hp} {σ : St} {env env1 env2 : Env} {L L1 L2 R T T1 T2 : List Addr}
theorem walk_of_items {o : O} {b : Bool} {ds : List D} (h : o.items = some (b, ds)) : o.walk = some (b, ds) := by
  unfold O.walk
  split
  · simp [O.items] at h
  · exact h
theorem iEnum_in {K : PySem.W.Frag} {c : CE} {Q : It → Hp → Prop} {H0 : Hp} (hq : tSr C K cal XE (.enum c) σ H0 Q) : iEnum K (tVs C K cal XE [c]) σ H0 Q := by
  obtain ⟨F, env, L, R, sr, ho⟩ := hq
  simp only [evSr] at ho
  refine ⟨F, env, L, R, sr, ?_⟩
  simp only [evs]
  cases e1 : ev cal c env with
  | ok x =>
    rw [e1] at ho
    intro vs F1 H1 L1 T p hx
    obtain ⟨v, r, T0, Tr, rfl, rfl, hx, hr⟩ := hx
    obtain ⟨rfl, rfl⟩ := hr
    have hx := hx (by simp [quietL])
    simp only [List.append_nil] at p
    simp only [Res.bind] at ho
    split at ho
    case h_2 => exact ho.elim
    rename_i o g
    split at ho
    case h_2 => exact ho.elim
    rename_i ds w
    obtain ⟨a, vs, rfl, hw⟩ := walk_at hx p.sr g (walk_of_items w)
    have q0 : SqL K H1 a vs := by
      rcases (hw (frzH T0 F1 H1) H1 (Sub.refl _) (frzH_le p.sr.le) (fun _ _ _ => rfl)).2 with ⟨_, q⟩ | ⟨z, _⟩
      · exact q
      · cases z
    refine ⟨a, vs, rfl, q0, ho _ _ _ _ (p.frzT.q_of fun z => by simpa [quietL, Sr.quiet] using z) (it_enum (vs := vs) rfl fun F2 H2 hs le htr => ?_)⟩
    obtain ⟨t, q⟩ := hw F2 H2 hs le htr
    rcases q with ⟨_, q⟩ | ⟨z, _⟩
    · exact ⟨t, q⟩
    · cases z
  | ex c d e => rw [e1] at ho; exact ho
  | er => rw [e1] at ho; exact ho
theorem sr_enum {e : Expr} {c : CE} {p pos tpos : Pos} {elts : List Expr} {kk : Nat} (hg : Gl X "enumerate") (hm : X.mg "enumerate" = none) (he : EV X C cal XE e c) (hs : starEach [e] X.env = (false, eval e X.env) :: starEach [] X.env) :
    PI X (.Tuple elts kk tpos) (.Call (.Name "enumerate" p) [e] [] pos) (tSr C X.K cal XE (.enum c)) :=
  PI.imp (pi_enum hg hm (a_cons hs he a_nil) hs) fun σ H Q hq => iEnum_in hq
/-- whole numbers -/
theorem rng_vals {K : PySem.W.Frag} {T : List Addr} {hs : List Hd} {es : List CE} {vs : List V} {os : List O} {ds : List D} (x : HXs C K F H σ L T hs es vs) (e1 : allSome (hs.map Hd.val) = some os) (e2 : leafs os = some ds) : RepSL C K F ds vs ∧ T = [] := by
  have := x.vals e1
  have h := this.1.leafs e2
  exact ⟨h.2, h.1⟩
theorem rangeCnt {i j c : Int} (h : rngOk i j c = true) : RgC i j c (rngN i j c) := by
  unfold rngOk at h
  simp only [Bool.and_eq_true, Bool.or_eq_true, decide_eq_true_eq, beq_iff_eq] at h
  obtain ⟨⟨⟨⟨hc, h1⟩, h2⟩, h3⟩, h4⟩ := h
  rcases hc with rfl | ⟨hc, hc2⟩
  · have := RgC.neg (i := i) (j := j) (by omega) (by omega) (by omega) (by omega)
    simpa [rngN] using this
  · have sz : Builtin.Range.rangeSize i j c = (((j - i + c - 1) / c).toNat : Nat) := by
      unfold Builtin.Range.rangeSize
      rw [if_pos hc]
      split
      · rename_i hlt
        have e : j - i + c - 1 = (j - i - 1) + 1 * c := by omega
        rw [e, Int.add_mul_ediv_right _ _ (by omega)]
        have : 0 ≤ (j - i - 1) / c := Int.ediv_nonneg (by omega) (by omega)
        omega
      · rename_i hlt
        have : (j - i + c - 1) / c ≤ 0 := by
          have h0 : (j - i + c - 1) / c < 1 := Int.ediv_lt_of_lt_mul hc (by omega)
          omega
        omega
    refine ⟨by omega, by omega, ?_, by rw [sz]; unfold rngN; rw [if_neg (by simp; omega)]⟩
    have b1 : 0 ≤ Builtin.Range.rangeSize i j c ∧ Builtin.Range.rangeSize i j c < 2 ^ 62 := by
      rw [sz]
      have : (j - i + c - 1) / c ≤ 2 ^ 61 := by
        have h0 : (j - i + c - 1) / c < 2 ^ 61 + 1 := Int.ediv_lt_of_lt_mul hc (by
          have h5 : (2 : Int) ^ 61 ≤ 2 ^ 61 * c := by have := Int.mul_le_mul_of_nonneg_left (show (1 : Int) ≤ c by omega) (show (0 : Int) ≤ 2 ^ 61 by decide); simpa using this
          have h6 : (2 ^ 61 + 1) * c = 2 ^ 61 * c + c := by rw [Int.add_mul, Int.one_mul]
          omega)
        omega
      omega
    unfold Builtin.Range.small
    simp only [Builtin.Range.rangeFitsLong, Bool.and_eq_true, Bool.or_eq_true, decide_eq_true_eq, beq_iff_eq, hc, if_true]
    omega
theorem sr_rng1 {tg a : Expr} {p pos : Pos} {cs : List CE} (hl : cs.length = 1) (hg : Gl X "range") (hm : X.mg "range" = none) (ha : PA X [a] (tVs C X.K cal XE cs)) (hs : starEach [a] X.env = [(false, eval a X.env)]) : PI X tg (.Call (.Name "range" p) [a] [] pos) (tSr C X.K cal XE (.rng cs)) := by
  refine PI.imp (pi_range1 hg hm ha hs) fun σ H Q hq => ?_
  obtain ⟨F, env, L, R, sr, ho⟩ := hq
  simp only [evSr] at ho
  refine ⟨F, env, L, R, sr, ?_⟩
  cases e1 : evs cal cs env with
  | ok x =>
    rw [e1] at ho
    intro vs F1 H1 L1 T p hx
    simp only [Res.bind] at ho
    split at ho
    case h_2 => exact ho.elim
    rename_i os g
    cases e2 : leafs os with
    | none => rw [e2] at ho; exact ho.elim
    | some ds =>
      rw [e2] at ho
      simp only [Option.bind] at ho
      split at ho
      case h_2 => exact ho.elim
      rename_i rs w
      obtain ⟨t, rfl⟩ := rng_vals hx g e2
      have hlen : ds.length = 1 := by
        have h1 := t.len
        have h2 := hx.len
        omega
      match ds, hlen with
      | [d], _ =>
        unfold rngOf at w
        split at w
        case h_1 j hj =>
          cases hj
          split at w
          case isFalse => cases w
          rename_i hok
          simp only [Option.some.injEq] at w
          simp only [RepSL, RepS] at t
          obtain ⟨_, _, rfl, rfl, rfl⟩ := t
          have h := hok
          unfold rngOk at h
          simp only [Bool.and_eq_true, decide_eq_true_eq] at h
          refine ⟨j, rfl, by omega, by omega, ho _ _ _ _ p (it_rng (lo := 0) (c := 1) (.inl ⟨rfl, rfl⟩) ?_)⟩
          rw [← w]
          unfold rngL rngN
          simp
        case h_2 hj => cases hj
        case h_3 hj => cases hj
        case h_4 => cases w
  | ex c d e => rw [e1] at ho; exact ho
  | er => rw [e1] at ho; exact ho
theorem sr_rng2 {tg a b : Expr} {p pos : Pos} {cs : List CE} (hl : cs.length = 2) (hg : Gl X "range") (hm : X.mg "range" = none) (ha : PA X [a, b] (tVs C X.K cal XE cs)) (hs : starEach [a, b] X.env = [(false, eval a X.env), (false, eval b X.env)])
    (hs2 : starEach [b] X.env = [(false, eval b X.env)]) : PI X tg (.Call (.Name "range" p) [a, b] [] pos) (tSr C X.K cal XE (.rng cs)) := by
  refine PI.imp (pi_range2 hg hm ha hs hs2) fun σ H Q hq => ?_
  obtain ⟨F, env, L, R, sr, ho⟩ := hq
  simp only [evSr] at ho
  refine ⟨F, env, L, R, sr, ?_⟩
  cases e1 : evs cal cs env with
  | ok x =>
    rw [e1] at ho
    intro vs F1 H1 L1 T p hx
    simp only [Res.bind] at ho
    split at ho
    case h_2 => exact ho.elim
    rename_i os g
    cases e2 : leafs os with
    | none => rw [e2] at ho; exact ho.elim
    | some ds =>
      rw [e2] at ho
      simp only [Option.bind] at ho
      split at ho
      case h_2 => exact ho.elim
      rename_i rs w
      obtain ⟨t, rfl⟩ := rng_vals hx g e2
      have hlen : ds.length = 2 := by
        have h1 := t.len
        have h2 := hx.len
        omega
      match ds, hlen with
      | [d1, d2], _ =>
        unfold rngOf at w
        split at w
        case h_1 hj => cases hj
        case h_2 i j hj =>
          cases hj
          split at w
          case isFalse => cases w
          rename_i hok
          simp only [Option.some.injEq] at w
          simp only [RepSL, RepS] at t
          obtain ⟨_, _, rfl, rfl, _, _, rfl, rfl, rfl⟩ := t
          have h := hok
          unfold rngOk at h
          simp only [Bool.and_eq_true, decide_eq_true_eq] at h
          refine ⟨i, j, rfl, by omega, ho _ _ _ _ p (it_rng (lo := i) (c := 1) (.inl ⟨rfl, rfl⟩) ?_)⟩
          rw [← w]
          unfold rngL rngN
          simp
        case h_3 hj => cases hj
        case h_4 => cases w
  | ex c d e => rw [e1] at ho; exact ho
  | er => rw [e1] at ho; exact ho
theorem sr_rng3 {tg a b c : Expr} {p pos : Pos} {cs : List CE} (hl : cs.length = 3) (hg : Gl X "range") (hm : X.mg "range" = none) (ha : PA X [a, b, c] (tVs C X.K cal XE cs))
    (hs : starEach [a, b, c] X.env = (false, eval a X.env) :: starEach [b, c] X.env) (hpl : (backTo pos (starEach [b, c] X.env)).any (·.1) = false) : PI X tg (.Call (.Name "range" p) [a, b, c] [] pos) (tSr C X.K cal XE (.rng cs)) := by
  refine PI.imp (pi_range3 hg hm ha hs hpl) fun σ H Q hq => ?_
  obtain ⟨F, env, L, R, sr, ho⟩ := hq
  simp only [evSr] at ho
  refine ⟨F, env, L, R, sr, ?_⟩
  cases e1 : evs cal cs env with
  | ok x =>
    rw [e1] at ho
    intro vs F1 H1 L1 T p hx
    simp only [Res.bind] at ho
    split at ho
    case h_2 => exact ho.elim
    rename_i os g
    cases e2 : leafs os with
    | none => rw [e2] at ho; exact ho.elim
    | some ds =>
      rw [e2] at ho
      simp only [Option.bind] at ho
      split at ho
      case h_2 => exact ho.elim
      rename_i rs w
      obtain ⟨t, rfl⟩ := rng_vals hx g e2
      have hlen : ds.length = 3 := by
        have h1 := t.len
        have h2 := hx.len
        omega
      match ds, hlen with
      | [d1, d2, d3], _ =>
        unfold rngOf at w
        split at w
        case h_1 hj => cases hj
        case h_2 hj => cases hj
        case h_3 i j k hj =>
          cases hj
          split at w
          case isFalse => cases w
          rename_i hok
          simp only [Option.some.injEq] at w
          simp only [RepSL, RepS] at t
          obtain ⟨_, _, rfl, rfl, _, _, rfl, rfl, _, _, rfl, rfl, rfl⟩ := t
          exact ⟨i, j, k, _, rfl, rangeCnt hok, ho _ _ _ _ p (it_rng (lo := i) (c := k) (.inr rfl) (by rw [← w]; rfl))⟩
        case h_4 => cases w
  | ex c d e => rw [e1] at ho; exact ho
  | er => rw [e1] at ho; exact ho

theorem s_lc {elt tg iter : Expr} {ifs : List Expr} {scope : Scope} {own : List (Str × Nat)} {pos : Pos} {t : Tg} {src : Sr} {cs : List CE} {x : CE} (hc : X.calm = true) (hN : X.N.Nodup) (hi : PI X tg iter (tSr C X.K cal XE src)) (ok : BlkOk X.N X.env.scope scope own)
    (hg : ∀ (s : Shared) (H : Hp) (A : Addr) (cl : List (Str × Addr)) (fp : List Addr), PG (X.blk s H scope (compEnvC scope cl A X.env) fp) tg (tTg C X.K t)) (ht : ∀ (s : Shared) (H : Hp) (A : Addr) (cl : List (Str × Addr)) (fp : List Addr), PTs (X.blk s H scope (compEnvC scope cl A X.env) fp) ifs (tCs C X.K cal X0 cs))
    (he : ∀ (s : Shared) (H : Hp) (A : Addr) (cl : List (Str × Addr)) (fp : List Addr), PE (X.blk s H scope (compEnvC scope cl A X.env) fp) elt (tV C X.K cal X0 x)) (hcs : cs.length ≤ 1) (hsl : ∀ i ∈ t.slots, i ∈ own.map (·.2)) (hs : ∀ x, foldedSetIterable iter X.env x = pure x) :
    EV X C cal XE (.ListComp elt [⟨tg, iter, ifs, 0⟩] scope pos) (.lc (own.map (·.2)) t src cs x) :=
  PE.imp (pe_lc hc hN hi ok hg ht he hs) fun σ H Q hq => lc_in hcs hsl hq
end
end Cr
end

section
/-! Statements. -/
namespace Cr
open PySem L2

section
variable (C : Nat → Addr) (K : PySem.W.Frag) (cal : Nat → List O → CRes) (XE : XP) (pin : List Nat)
/-- behind a statement -/
structure Sst (F H : Hp) (σ : St) (env : Env) (L R : List Addr) (F' H' : Hp) (σ' : St) (env' : Env) (L' T : List Addr) : Prop where
  sr : SR C K F' H' σ' env' L' (T ++ R)
  fe : Sub F F'
  kp : ∀ a, (F a ≠ none ∨ a ∈ R) → H' a = H a
  pn : ∀ i ∈ pin, σ'[i]? = σ[i]?
def OutB (F H : Hp) (σ : St) (env : Env) (L R : List Addr) (res : Res (Fl × Env)) (D : Ends) : Prop := match res with
  | .ok (.next, env') => ∀ F' H' σ' L', Sst C K pin F H σ env L R F' H' σ' env' L' [] → D.nx σ' H'
  | .ok (.brk, env') => ∀ F' H' σ' L', Sst C K pin F H σ env L R F' H' σ' env' L' [] → D.bk σ' H'
  | .ok (.cont, env') => ∀ F' H' σ' L', Sst C K pin F H σ env L R F' H' σ' env' L' [] → D.ct σ' H'
  | .ok (.ret o, env') => ∀ v F' H' σ' L' T, Sst C K pin F H σ env L R F' H' σ' env' L' T → RepO C K F' H' o v T → D.rt v H'
  | .ex c d env' => ∀ F' H' σ' L', Sst C K pin F H σ env L R F' H' σ' env' L' [] → XE c d H'
  | .er => False
def tS (W : Nat) (s : CS) : TS := fun D σ H => ∃ F env L R, SR C K F H σ env L R ∧ OutB C K XE pin F H σ env L R (evS cal W s env) D
def tSs (W : Nat) (s : List CS) : TS := fun D σ H => ∃ F env L R, SR C K F H σ env L R ∧ OutB C K XE pin F H σ env L R (evSs cal W s env) D
end
theorem PS.imp {X : Cx} {st : Stmt} {t t' : TS} (h : PS X st t) (i : ∀ D σ H, t' D σ H → t D σ H) : PS X st t' := ⟨fun pins s σ H D I q => h.run pins s σ H D I (i D σ H q)⟩
theorem PSs.imp {X : Cx} {st : List Stmt} {t t' : TS} (h : PSs X st t) (i : ∀ D σ H, t' D σ H → t D σ H) : PSs X st t' := ⟨fun pins s σ H D I q => h.run pins s σ H D I (i D σ H q)⟩

section
variable {X : Cx} {C : Nat → Addr} {cal : Nat → List O → CRes} {XE : XP} {K : PySem.W.Frag} {pin : List Nat} {W : Nat} {F F' F1 F2 F3 H H' H1 H2 H3 : Hp} {σ σ1 σ2 : St} {env env1 env2 : Env} {L L1 L2 R T T1 T2 : List Addr} {q : Bool} {D : Ends}
theorem Sst.refl (sr : SR C K F H σ env L R) : Sst C K pin F H σ env L R F H σ env L [] := ⟨sr, Sub.refl F, fun _ _ => rfl, fun _ _ => rfl⟩
theorem Sst.of (p : Pst C K F H σ env L R F1 H1 env1 L1 T q) : Sst C K pin F H σ env L R F1 H1 σ env1 L1 T := ⟨p.sr, p.fe, p.kp, fun _ _ => rfl⟩
theorem Sst.trans (p : Sst C K pin F H σ env L R F1 H1 σ1 env1 L1 []) (p2 : Sst C K pin F1 H1 σ1 env1 L1 R F2 H2 σ2 env2 L2 T) : Sst C K pin F H σ env L R F2 H2 σ2 env2 L2 T := by
  refine ⟨p2.sr, p.fe.trans p2.fe, fun a ha => ?_, fun i hi => by rw [p2.pn i hi, p.pn i hi]⟩
  rw [p2.kp a, p.kp a ha]
  rcases ha with ha | ha
  · left
    cases e : F a with
    | none => exact absurd e ha
    | some u => rw [p.fe a u e]; simp
  · exact .inr ha
theorem Sst.new (p : Sst C K pin F H σ env L R F1 H1 σ1 env1 L1 []) (n : New F1 H1 F2 H2 []) : Sst C K pin F H σ env L R F2 H2 σ1 env1 L1 [] := by
  refine p.trans ⟨SR.new p.sr n, n.fe, fun a ha => ?_, fun _ _ => rfl⟩
  refine n.same a ?_
  rcases ha with ha | ha
  · cases e : F1 a with
    | none => exact absurd e ha
    | some u => rcases p.sr.le a u e with z | ⟨_, o, z⟩ <;> rw [z] <;> simp
  · exact (p.sr.fn a (by simp [ha])).2
theorem OutB.pre {res : Res (Fl × Env)} (h : OutB C K XE pin F H σ env L R res D) (p : Sst C K pin F H σ env L R F1 H1 σ1 env1 L1 []) : OutB C K XE pin F1 H1 σ1 env1 L1 R res D := by
  match res with
  | .ok (.next, e') => exact fun F' H' σ' L' p2 => h F' H' σ' L' (p.trans p2)
  | .ok (.brk, e') => exact fun F' H' σ' L' p2 => h F' H' σ' L' (p.trans p2)
  | .ok (.cont, e') => exact fun F' H' σ' L' p2 => h F' H' σ' L' (p.trans p2)
  | .ok (.ret o, e') => exact fun v F' H' σ' L' T p2 r => h v F' H' σ' L' T (p.trans p2) r
  | .ex c d e' => exact fun F' H' σ' L' p2 => h F' H' σ' L' (p.trans p2)
  | .er => exact h.elim
theorem OutB.exP {c : Nat} {d : Cr.D} {e2 : Env} (h : OutB C K XE pin F H σ env L R (.ex c d e2) D) {Q : VK} {qq : Bool} : Out C K XE F H σ env L R qq (.ex c d e2) Q :=
  fun F' H' L' p => h F' H' σ L' (Sst.of p)
/-- an expression ahead -/
theorem OutB.ex1 {a : CE} {k : Hd × Env → Res (Fl × Env)} {Q : VK} (sr : SR C K F H σ env L R) (hout : OutB C K XE pin F H σ env L R ((ev cal a env).bind k) D)
    (fin : ∀ v F1 H1 e1 L1 T h, Pst C K F H σ env L R F1 H1 e1 L1 T a.quiet → HX C K F1 H1 σ L1 T h v → OutB C K XE pin F H σ env L R (k (h, e1)) D → Q v H1) : tV C K cal XE a σ H Q := by
  refine ⟨F, env, L, R, sr, ?_⟩
  cases ha : ev cal a env with
  | ok x =>
    rw [ha] at hout
    intro v F1 H1 L1 T p hx
    exact fin v F1 H1 x.2 L1 T x.1 p hx hout
  | ex c d e => rw [ha] at hout; exact OutB.exP hout
  | er => rw [ha] at hout; exact hout
/-- a slot takes a value with all that it owns -/
theorem SR.put {i : Nat} {o : O} {v : V} (sr : SR C K F H σ env L (T ++ R)) (hi : i < env.length) (r : RepO C K F H o v T) :
    ∃ L', SR C K F H (σ.set i (some v)) (env.set i (some o)) L' R := by
  obtain ⟨La, l, Lb, c⟩ := sr.cut hi
  refine ⟨La ++ (T ++ Lb), ⟨sr.le, c.put F H o v T (Le.refl F) (fun _ _ => rfl) r, ?_, fun a ha => sr.fn a ?_⟩⟩
  · have h1 := sr.nd
    rw [c.eq] at h1
    have h2 : ((La ++ Lb) ++ (T ++ R)).Nodup := h1.sublist (List.Sublist.append_right (List.Sublist.append_left (List.sublist_append_right _ _) _) _)
    refine (List.Perm.nodup_iff ?_).mp h2
    simp only [List.append_assoc]
    refine List.Perm.append_left La ?_
    rw [← List.append_assoc, ← List.append_assoc]
    exact List.Perm.append_right R List.perm_append_comm
  · rw [c.eq]
    simp only [List.mem_append] at ha ⊢
    rcases ha with (z | z | z) | z
    · exact .inl (.inl z)
    · exact .inr (.inl z)
    · exact .inl (.inr (.inr z))
    · exact .inr (.inr z)
theorem Sst.put {i : Nat} {o : O} {v : V} (p : Sst C K pin F H σ env L R F1 H1 σ1 env1 L1 T) (hi : i < env1.length) (hp : i ∉ pin) (r : RepO C K F1 H1 o v T) :
    ∃ L', Sst C K pin F H σ env L R F1 H1 (σ1.set i (some v)) (env1.set i (some o)) L' [] := by
  obtain ⟨L', s⟩ := p.sr.put hi r
  refine ⟨L', s, p.fe, p.kp, fun j hj => ?_⟩
  rw [List.getElem?_set_ne (fun z : i = j => hp (z ▸ hj))]
  exact p.pn j hj
theorem setS_some {e e' : Env} {i : Nat} {o : O} (h : setS e i o = some e') : i < e.length ∧ e' = e.set i (some o) := by
  unfold setS at h
  split at h
  · cases h; exact ⟨by assumption, rfl⟩
  · cases h

/-! ### the statements one by one -/
theorem b_nil : PSs X [] (tSs C X.K cal XE pin W []) := PSs.imp pss_nil fun D σ H h => by
  obtain ⟨F, env, L, R, sr, ho⟩ := h
  simp only [evSs] at ho
  exact ho F H σ L (Sst.refl sr)
theorem b_cons {st : Stmt} {sts : List Stmt} {c : CS} {cs : List CS} (h1 : PS X st (tS C X.K cal XE pin W c)) (h2 : PSs X sts (tSs C X.K cal XE pin W cs)) : PSs X (st :: sts) (tSs C X.K cal XE pin W (c :: cs)) :=
  PSs.imp (pss_cons h1 h2) fun D σ H h => by
    obtain ⟨F, env, L, R, sr, ho⟩ := h
    simp only [evSs] at ho
    refine ⟨F, env, L, R, sr, ?_⟩
    cases e1 : evS cal W c env with
    | ok x =>
      obtain ⟨fl, e⟩ := x
      rw [e1] at ho
      cases fl with
      | next => exact fun F' H' σ' L' p => ⟨F', e, L', R, p.sr, OutB.pre ho p⟩
      | ret o => exact ho
      | brk => exact ho
      | cont => exact ho
    | ex c d e => rw [e1] at ho; exact ho
    | er => rw [e1] at ho; exact ho
theorem b_expr {e : Expr} {c : CE} {pos : Pos} (he : EV X C cal XE e c) (hs : swapsWith e none pos.line X.env = pure false) : PS X (.Expr e pos) (tS C X.K cal XE pin W (.expr c)) :=
  PS.imp (ps_expr he hs) fun D σ H h => by
    obtain ⟨F, env, L, R, sr, ho⟩ := h
    simp only [evS] at ho
    exact OutB.ex1 sr ho fun v F1 H1 e1 L1 T h p hx ho => ho F1 H1 σ L1 (Sst.of p.nil)
theorem b_doc {x : Str} {j : Nat} {pos pos' : Pos} : PS X (.Expr (.Constant (.str x) j pos) pos') (tS C X.K cal XE pin W .pass) := PS.imp ps_doc fun D σ H h => by
  obtain ⟨F, env, L, R, sr, ho⟩ := h
  simp only [evS] at ho
  exact ho F H σ L (Sst.refl sr)
theorem b_pass {pos : Pos} : PS X (.Pass pos) (tS C X.K cal XE pin W .pass) := PS.imp ps_pass fun D σ H h => by
  obtain ⟨F, env, L, R, sr, ho⟩ := h
  simp only [evS] at ho
  exact ho F H σ L (Sst.refl sr)
theorem b_brk {pos : Pos} : PS X (.Break pos) (tS C X.K cal XE pin W .brk) := PS.imp ps_break fun D σ H h => by
  obtain ⟨F, env, L, R, sr, ho⟩ := h
  simp only [evS] at ho
  exact ho F H σ L (Sst.refl sr)
theorem b_cont {pos : Pos} : PS X (.Continue pos) (tS C X.K cal XE pin W .cont) := PS.imp ps_continue fun D σ H h => by
  obtain ⟨F, env, L, R, sr, ho⟩ := h
  simp only [evS] at ho
  exact ho F H σ L (Sst.refl sr)
theorem b_never {st : Stmt} : PS X st (tS C X.K cal XE pin W .never) := PS.imp ps_never fun D σ H h => by
  obtain ⟨F, env, L, R, sr, ho⟩ := h
  simp only [evS] at ho
  exact ho
theorem set_in {i : Nat} {c : CE} {σ : St} {H : Hp} (hp : i ∉ pin) (h : tS C K cal XE pin W (.set i c) D σ H) : tV C K cal XE c σ H fun x H1 => D.nx (σ.set i (some x)) H1 := by
  obtain ⟨F, env, L, R, sr, ho⟩ := h
  simp only [evS] at ho
  refine OutB.ex1 sr ho fun v F1 H1 e1 L1 T h p hx ho => ?_
  dsimp only at ho
  split at ho
  case h_2 => exact ho.elim
  rename_i o hv
  split at ho
  case h_2 => exact ho.elim
  rename_i e2 hs
  obtain ⟨hi, rfl⟩ := setS_some hs
  obtain ⟨L', p'⟩ := (Sst.of (pin := pin) p).put hi hp (hval hx hv)
  exact ho _ _ _ _ p'
theorem b_set {i : Nat} {x : Str} {e : Expr} {c : CE} {pos pos' : Pos} (hN : X.N.Nodup) (hi : X.N[i]? = some x) (hx : Loc X.env.scope x) (hfn : X.fn x = true ∨ X.env.scope.names.lookup x = some .local) (hp : i ∉ pin) (he : EV X C cal XE e c) (hs : swapsWith e (some (.Name x pos')) pos.line X.env = pure false) :
    PS X (.Assign [.Name x pos'] e pos) (tS C X.K cal XE pin W (.set i c)) := PS.imp (ps_set hN hi hx he hs hfn) fun D σ H h => set_in hp h
theorem b_setLc {i : Nat} {y : Str} {py : Pos} {elt tg iter : Expr} {ifs : List Expr} {scope : Scope} {own : List (Str × Nat)} {pos spos : Pos} {t : Tg} {src : Sr} {cs : List CE} {x : CE} (hc : X.calm = true) (hN : X.N.Nodup) (hy : X.N[i]? = some y) (hyl : X.env.scope.names.lookup y = some .local) (hp : i ∉ pin)
    (hsw : swapsWith (.ListComp elt [⟨tg, iter, ifs, 0⟩] scope pos) (some (.Name y py)) spos.line X.env = pure true) (hi : PI X tg iter (tSr C X.K cal XE src)) (ok : BlkOk X.N X.env.scope scope own)
    (hg : ∀ (s : Shared) (H : Hp) (A : Addr) (cl : List (Str × Addr)) (fp : List Addr), PG (X.blk s H scope (compEnvC scope cl A X.env) fp) tg (tTg C X.K t)) (ht : ∀ (s : Shared) (H : Hp) (A : Addr) (cl : List (Str × Addr)) (fp : List Addr), PTs (X.blk s H scope (compEnvC scope cl A X.env) fp) ifs (tCs C X.K cal X0 cs))
    (he : ∀ (s : Shared) (H : Hp) (A : Addr) (cl : List (Str × Addr)) (fp : List Addr), PE (X.blk s H scope (compEnvC scope cl A X.env) fp) elt (tV C X.K cal X0 x)) (hcs : cs.length ≤ 1) (hsl : ∀ i ∈ t.slots, i ∈ own.map (·.2)) (hs : ∀ x, foldedSetIterable iter X.env x = pure x) :
    PS X (.Assign [.Name y py] (.ListComp elt [⟨tg, iter, ifs, 0⟩] scope pos) spos) (tS C X.K cal XE pin W (.set i (.lc (own.map (·.2)) t src cs x))) :=
  PS.imp (ps_setLc hc hN hy hyl hsw hi ok hg ht he hs) fun D σ H h => lc_in hcs hsl (set_in hp h)
/-- two values -/
theorem vals2 {a b : CE} {k : Hd → Hd → Env → Res (Fl × Env)} {Q : List V → Hp → Prop} (sr : SR C K F H σ env L R) (hout : OutB C K XE pin F H σ env L R ((ev cal a env).bind fun x => (ev cal b x.2).bind fun y => k x.1 y.1 y.2) D)
    (fin : ∀ x y F2 H2 e2 L2 Ta Tb ha hb, Sst C K pin F H σ env L R F2 H2 σ e2 L2 (Ta ++ Tb) → (ha.isQ = false → HX C K F2 H2 σ L2 Ta ha x) → HX C K F2 H2 σ L2 Tb hb y → OutB C K XE pin F H σ env L R (k ha hb e2) D → Q [x, y] H2) : tVs C K cal XE [a, b] σ H Q := by
  refine ⟨F, env, L, R, sr, ?_⟩
  simp only [evs]
  cases h1 : ev cal a env with
  | ok x =>
    rw [h1] at hout
    simp only [Res.bind] at hout ⊢
    cases h2 : ev cal b x.2 with
    | ok y =>
      rw [h2] at hout
      intro vs F2 H2 L2 T p hx
      obtain ⟨v, r, T0, Tr, rfl, rfl, hx1, w, r', T1, Tr', rfl, rfl, hx2, rfl, rfl⟩ := hx
      simp only [List.append_nil] at p
      exact fin v w F2 H2 _ L2 T0 T1 x.1 y.1 (Sst.of p) (fun z => hx1 (by simp [z])) (hx2 (by simp [quietL])) hout
    | ex c d e => rw [h2] at hout; exact fun F' H' L' p => hout F' H' σ L' (Sst.of p)
    | er => rw [h2] at hout; exact hout
  | ex c d e => rw [h1] at hout; exact fun F' H' L' p => hout F' H' σ L' (Sst.of p)
  | er => rw [h1] at hout; exact hout
theorem val_q {h : Hd} {o : O} (e : h.val = some o) : h.isQ = false := by
  cases h <;> first | rfl | cases e
theorem b_par {i j : Nat} {x y : Str} {a b : Expr} {ca cb : CE} {px py pt pos : Pos} {kt k2 pt2} (hc : X.calm = true) (hN : X.N.Nodup) (hi : X.N[i]? = some x) (hj : X.N[j]? = some y) (hij : i ≠ j) (hpi : i ∉ pin) (hpj : j ∉ pin)
    (hx : X.env.scope.names.lookup x = some .local) (hy : X.env.scope.names.lookup y = some .local) (ha : PA X [a, b] (tVs C X.K cal XE [ca, cb]))
    (hw : swappedStores [.Tuple [.Name x px, .Name y py] kt pt] (.Tuple [a, b] k2 pt2) X.env = pure (some [x, y]))
    (hs : swapsWithSole [.Tuple [.Name x px, .Name y py] kt pt] (.Tuple [a, b] k2 pt2) pos.line X.env = pure false) :
    PS X (.Assign [.Tuple [.Name x px, .Name y py] kt pt] (.Tuple [a, b] k2 pt2) pos) (tS C X.K cal XE pin W (.par i j ca cb)) :=
  PS.imp (ps_par hc hN hi hj hij hx hy ha hw hs) fun D σ H h => by
    obtain ⟨F, env, L, R, sr, ho⟩ := h
    simp only [evS] at ho
    refine vals2 (k := fun ha hb e => match ha.val, hb.val with
      | some x, some y => match (setS e i x).bind fun e => setS e j y with
        | some e => .ok (.next, e)
        | none => .er
      | _, _ => .er) sr ho fun v w F2 H2 e2 L2 Ta Tb ha hb p hxa hxb ho => ?_
    split at ho
    case h_2 => exact ho.elim
    rename_i oa ob ea eb
    split at ho
    case h_2 => exact ho.elim
    rename_i e3 hse
    obtain ⟨e4, hs1, hs2⟩ := Option.bind_eq_some_iff.mp hse
    obtain ⟨hl1, rfl⟩ := setS_some hs1
    obtain ⟨hl2, rfl⟩ := setS_some hs2
    refine ⟨v, w, rfl, ?_⟩
    have s1 := p.sr
    rw [List.append_assoc] at s1
    obtain ⟨L3, s3⟩ := s1.put hl1 (hval (hxa (val_q ea)) ea)
    obtain ⟨L4, s4⟩ := s3.put hl2 (hval hxb eb)
    refine ho _ _ _ _ ⟨s4, p.fe, p.kp, fun n hn => ?_⟩
    rw [List.getElem?_set_ne (fun z : j = n => hpj (z ▸ hn)), List.getElem?_set_ne (fun z : i = n => hpi (z ▸ hn))]
theorem b_ret {e : Expr} {c : CE} {pos : Pos} (he : EV X C cal XE e c) : PS X (.Return (some e) pos) (tS C X.K cal XE pin W (.ret c)) := PS.imp (ps_ret he) fun D σ H h => by
  obtain ⟨F, env, L, R, sr, ho⟩ := h
  simp only [evS] at ho
  refine OutB.ex1 sr ho fun v F1 H1 e1 L1 T h p hx ho => ?_
  dsimp only at ho
  split at ho
  case h_2 => exact ho.elim
  rename_i o hv
  exact ho v _ _ _ _ T (Sst.of p) (hval hx hv)
theorem b_if {c : Expr} {a b : List Stmt} {cc : CE} {ca cb : List CS} {pos : Pos} (hc : ET X C cal XE c cc) (ha : PSs X a (tSs C X.K cal XE pin W ca)) (hb : PSs X b (tSs C X.K cal XE pin W cb)) : PS X (.If c a b pos) (tS C X.K cal XE pin W (.if_ cc ca cb)) :=
  PS.imp (ps_if hc ha hb) fun D σ H h => by
    obtain ⟨F, env, L, R, sr, ho⟩ := h
    simp only [evS] at ho
    refine OutB.ex1 sr ho fun v F1 H1 e1 L1 T h p hx ho => ?_
    dsimp only at ho
    split at ho
    · rename_i e
      obtain ⟨rfl, _, rfl⟩ := boolH_of e hx
      refine ⟨true, rfl, ?_⟩
      show tSs C X.K cal XE pin W ca D σ H1
      exact ⟨F1, e1, L1, R, p.sr, OutB.pre ho (Sst.of p)⟩
    · rename_i e
      obtain ⟨rfl, _, rfl⟩ := boolH_of e hx
      refine ⟨false, rfl, ?_⟩
      show tSs C X.K cal XE pin W cb D σ H1
      exact ⟨F1, e1, L1, R, p.sr, OutB.pre ho (Sst.of p)⟩
    · exact ho.elim
theorem b_aug {i : Nat} {x : Str} {e : Expr} {c : CE} {op : Operator} {pos pos' : Pos} (hN : X.N.Nodup) (hi : X.N[i]? = some x) (hx : Loc X.env.scope x) (hfn : X.fn x = true ∨ X.env.scope.names.lookup x = some .local) (hp : i ∉ pin) (he : EV X C cal XE e c) (hop : op = .Add ∨ op = .Sub) :
    PS X (.AugAssign (.Name x pos') op e pos) (tS C X.K cal XE pin W (.aug i op c)) := by
  have main : ∀ (f : Int → Int → Int), (∀ D σ H, tS C X.K cal XE pin W (.aug i op c) D σ H → tAug i (tV C X.K cal XE c) (ipI f) D σ H) → PIp X op (ipI f) → PS X (.AugAssign (.Name x pos') op e pos) (tS C X.K cal XE pin W (.aug i op c)) := fun f h ho => PS.imp (ps_aug hN hi hx he ho hfn) h
  rcases hop with rfl | rfl
  · refine main _ (fun D σ H h => ?_) ip_add
    obtain ⟨F, env, L, R, sr, ho⟩ := h
    simp only [evS] at ho
    split at ho
    case h_2 => exact ho.elim
    rename_i a hs
    obtain ⟨v, La, l, Lb, _, hv, r⟩ := sr.slot hs
    have hr : v = .int a := r.2
    subst hr
    refine ⟨_, hv, OutB.ex1 sr ho fun w F1 H1 e1 L1 T h p hx ho => ?_⟩
    dsimp only at ho
    split at ho
    case h_2 => exact ho.elim
    rename_i b
    obtain ⟨rfl, hw⟩ := hx
    have hw : w = .int b := hw
    subst hw
    split at ho
    case h_2 => exact ho.elim
    rename_i e2 hs2
    obtain ⟨hl, rfl⟩ := setS_some hs2
    refine ⟨a, b, rfl, rfl, ?_⟩
    obtain ⟨L', p'⟩ := (Sst.of (pin := pin) p).put (o := .fr (.int (a + b))) (v := .int (a + b)) hl hp ⟨rfl, rfl⟩
    exact ho _ _ _ _ p'
  · refine main _ (fun D σ H h => ?_) ip_sub
    obtain ⟨F, env, L, R, sr, ho⟩ := h
    simp only [evS] at ho
    split at ho
    case h_2 => exact ho.elim
    rename_i a hs
    obtain ⟨v, La, l, Lb, _, hv, r⟩ := sr.slot hs
    have hr : v = .int a := r.2
    subst hr
    refine ⟨_, hv, OutB.ex1 sr ho fun w F1 H1 e1 L1 T h p hx ho => ?_⟩
    dsimp only at ho
    split at ho
    case h_2 => exact ho.elim
    rename_i b
    obtain ⟨rfl, hw⟩ := hx
    have hw : w = .int b := hw
    subst hw
    split at ho
    case h_2 => exact ho.elim
    rename_i e2 hs2
    obtain ⟨hl, rfl⟩ := setS_some hs2
    refine ⟨a, b, rfl, rfl, ?_⟩
    obtain ⟨L', p'⟩ := (Sst.of (pin := pin) p).put (o := .fr (.int (a - b))) (v := .int (a - b)) hl hp ⟨rfl, rfl⟩
    exact ho _ _ _ _ p'
theorem b_while {c : Expr} {body : List Stmt} {cc : CE} {cb : List CS} {pos : Pos} (hp : PassesOwn (model X.prog X.w) X.A X.env X.xe) (hc : ET X C cal XE c cc) (hb : PSs X body (tSs C X.K cal XE pin W cb)) : PS X (.While c body [] pos) (tS C X.K cal XE pin W (.while_ cc cb)) :=
  PS.imp (ps_while hp hc hb) fun D σ H h => by
    obtain ⟨F, env, L, R, sr, ho⟩ := h
    simp only [evS] at ho
    generalize hcf : (fun e => (ev cal cc e).bind fun (h, e) => match boolH h with
      | some k => .ok (k, e)
      | none => .er : Env → Res (Bool × Env)) = fc at ho
    generalize hbf : (fun e => evSs cal W cb e : Env → Res (Fl × Env)) = fb at ho
    refine ⟨fun m σ' H' => ∃ F' env' L', SR C X.K F' H' σ' env' L' R ∧ OutB C X.K XE pin F' H' σ' env' L' R (whL fc fb m env') D, ⟨W, F, env, L, sr, ho⟩, ?_⟩
    rintro m σ' H' ⟨F', env', L', sr', ho'⟩
    cases m with
    | zero => simp only [whL] at ho'; exact ho'.elim
    | succ m =>
      simp only [whL] at ho'
      rw [← hcf] at ho'
      dsimp only at ho'
      have ho2 : OutB C X.K XE pin F' H' σ' env' L' R ((ev cal cc env').bind fun x => (match boolH x.1 with
          | some k => .ok (k, x.2)
          | none => .er : Res (Bool × Env)).bind fun (b, e) => if b then (fb e).bind fun (fl, e) => match fl with
            | .next => whL fc fb m e
            | .cont => whL fc fb m e
            | .brk => .ok (.next, e)
            | .ret o => .ok (.ret o, e)
          else .ok (.next, e)) D := by
        rw [← hcf]
        cases h1 : ev cal cc env' with
        | ok x => rw [h1] at ho'; exact ho'
        | ex c d e => rw [h1] at ho'; exact ho'
        | er => rw [h1] at ho'; exact ho'
      refine OutB.ex1 sr' ho2 fun v F1 H1 e1 L1 T h p hx ho => ?_
      dsimp only at ho
      cases hbo : boolH h with
      | none => rw [hbo] at ho; exact ho.elim
      | some k =>
        rw [hbo] at ho
        obtain ⟨rfl, _, rfl⟩ := boolH_of hbo hx
        refine ⟨k, rfl, ?_⟩
        simp only [Res.bind] at ho
        cases k with
        | false =>
          simp only [Bool.false_eq_true, if_false] at ho
          show D.nx σ' H1
          exact ho F1 H1 σ' L1 (Sst.of p)
        | true =>
          simp only [if_true] at ho
          show ∃ N : St → Hp → Prop, _ ∧ _
          refine ⟨fun σ2 H2 => ∃ F' env' L', SR C X.K F' H2 σ2 env' L' R ∧ OutB C X.K XE pin F' H2 σ2 env' L' R (whL fc fb m env') D, fun σ2 H2 n => ⟨m, Nat.lt_succ_self m, n⟩, F1, e1, L1, R, p.sr, ?_⟩
          have ho := OutB.pre ho (Sst.of p)
          rw [← hbf] at ho
          dsimp only at ho
          rw [hbf] at ho
          cases hb1 : evSs cal W cb e1 with
          | ex c d e => rw [hb1] at ho; exact ho
          | er => rw [hb1] at ho; exact ho
          | ok x =>
            obtain ⟨fl, e2⟩ := x
            rw [hb1] at ho
            cases fl with
            | next => exact fun F2 H2 σ2 L2 p2 => ⟨F2, e2, L2, p2.sr, OutB.pre ho p2⟩
            | cont => exact fun F2 H2 σ2 L2 p2 => ⟨F2, e2, L2, p2.sr, OutB.pre ho p2⟩
            | brk => exact ho
            | ret o => exact ho
theorem b_for {tg iter : Expr} {body : List Stmt} {t : Tg} {src : Sr} {cb : List CS} {pos : Pos} (hp : PassesOwn (model X.prog X.w) X.A X.env X.xe) (hc : X.calm = true) (hi : PI X tg iter (tSr C X.K cal XE src)) (hg : PG X tg (tTg C X.K t)) (hb : PSs X body (tSs C X.K cal XE pin W cb))
    (hs : ∀ x, foldedSetIterable iter X.env x = pure x) (hpin : ∀ i ∈ t.slots, i ∉ pin) : PS X (.For tg iter body [] pos) (tS C X.K cal XE pin W (.for_ t src cb)) :=
  PS.imp (ps_for hp hc hi hg hb hs) fun D σ H h => by
    obtain ⟨F, env, L, R, sr, ho⟩ := h
    simp only [evS] at ho
    refine ⟨F, env, L, R, sr, ?_⟩
    cases hsrc : evSr cal src env with
    | ex c d e => rw [hsrc] at ho; exact fun F' H' L' p => ho F' H' σ L' (Sst.of p)
    | er => rw [hsrc] at ho; exact ho
    | ok y =>
      obtain ⟨ds, tr, env1⟩ := y
      rw [hsrc] at ho
      intro J F1 H1 L1 p it
      simp only [Res.bind] at ho
      split at ho
      case isTrue => exact ho.elim
      rename_i htr
      have htr : tr = false := by simpa using htr
      subst htr
      generalize hf : (fun d e => match t.bind d e with
        | some e => evSs cal W cb e
        | none => .er : Cr.D → Env → Res (Fl × Env)) = f at ho
      have ho := OutB.pre ho (Sst.of p)
      have sr1 : SR C X.K F1 H1 σ env1 L1 R := p.sr
      refine ⟨fun i m σ' H' => m = ds.length - i ∧ i ≤ ds.length ∧ ∃ F' env' L', Sst C X.K pin F1 H1 σ env1 L1 R F' H' σ' env' L' [] ∧ OutB C X.K XE pin F' H' σ' env' L' R (forL f (ds.drop i) env') D, ⟨_, rfl, Nat.zero_le _, F1, env1, L1, Sst.refl sr1, ho⟩, ?_⟩
      rintro i m σ' H' ⟨rfl, hle, F', env', L', s', ho'⟩
      have itI := it F' H' s'.fe s'.sr.le (fun z => by cases z) i
      by_cases hi : i < ds.length
      · right
        refine ⟨itI.1 hi, fun σ2 H2 => i + 1 ≤ ds.length ∧ ∃ F' env' L', Sst C X.K pin F1 H1 σ env1 L1 R F' H2 σ2 env' L' [] ∧ OutB C X.K XE pin F' H2 σ2 env' L' R (forL f (ds.drop (i + 1)) env') D, fun σ2 H2 n => ⟨_, by omega, rfl, n⟩, fun v H3 hy => ?_⟩
        obtain ⟨F3, d, n3, hd, rd⟩ := itI.2.2 v H3 hi hy
        have s3 := s'.new n3
        have hdrop : ds.drop i = d :: ds.drop (i + 1) := by
          obtain ⟨h1, h2⟩ := List.getElem?_eq_some_iff.mp hd
          rw [← h2]
          exact List.drop_eq_getElem_cons h1
        rw [hdrop] at ho'
        simp only [forL] at ho'
        have ho3 := OutB.pre ho' (Sst.new (Sst.refl (pin := pin) s'.sr) n3)
        rw [← hf] at ho3
        dsimp only at ho3
        rw [hf] at ho3
        cases hb1 : t.bind d env' with
        | none => rw [hb1] at ho3; exact ho3.elim
        | some eb =>
          rw [hb1] at ho3
          dsimp only at ho3
          refine ⟨F3, env', L', R, d, eb, s3.sr, rd, hb1, fun σ2 L2 s2 hsub hpoor hbut => ?_⟩
          have st2 : Sst C X.K pin F3 H3 σ' env' L' R F3 H3 σ2 eb L2 [] := ⟨s2, Sub.refl F3, fun _ _ => rfl, fun j hj => hbut.2 j fun z => hpin j z hj⟩
          have ho4 := OutB.pre ho3 st2
          have s4 := s3.trans st2
          refine ⟨F3, eb, L2, R, s2, ?_⟩
          cases hbd : evSs cal W cb eb with
          | ex c d e => rw [hbd] at ho4; exact ho4
          | er => rw [hbd] at ho4; exact ho4
          | ok x =>
            obtain ⟨fl, e2⟩ := x
            rw [hbd] at ho4
            cases fl with
            | next => exact fun F5 H5 σ5 L5 p5 => ⟨hi, F5, e2, L5, s4.trans p5, OutB.pre ho4 p5⟩
            | cont => exact fun F5 H5 σ5 L5 p5 => ⟨hi, F5, e2, L5, s4.trans p5, OutB.pre ho4 p5⟩
            | brk => exact ho4
            | ret o => exact ho4
      · left
        have hi : i = ds.length := by omega
        refine ⟨itI.2.1 (by omega), ?_⟩
        rw [hi, List.drop_length] at ho'
        simp only [forL] at ho'
        exact ho' F' H' σ' L' (Sst.refl s'.sr)
end
end Cr
end

section
/-! Unpacking, stores into lists. -/
namespace Cr
open PySem L2

section
variable {X : Cx} {C : Nat → Addr} {cal : Nat → List O → CRes} {XE : XP} {K : PySem.W.Frag} {pin : List Nat} {W : Nat} {F F' F1 F2 F3 H H' H1 H2 H3 : Hp} {σ σ1 σ2 : St} {env env1 env2 : Env} {L L1 L2 R T T1 T2 : List Addr} {q : Bool} {D : Ends}
def tTgO (C : Nat → Addr) (K : PySem.W.Frag) (t : Tg) : TG := fun v σ H Q => ∃ F env L R o T env', SR C K F H σ env L (T ++ R) ∧ RepO C K F H o v T ∧ t.bindO o env = some env' ∧
  ∀ σ' L', SR C K F H σ' env' L' R → But t.slots σ σ' → Q σ' H
def tTgOs (C : Nat → Addr) (K : PySem.W.Frag) (ts : List Tg) : TGs := fun vs σ H Q => ∃ F env L R os T env', SR C K F H σ env L (T ++ R) ∧ RepOL C K F H os vs T ∧ bindOL ts os env = some env' ∧
  ∀ σ' L', SR C K F H σ' env' L' R → But (slotsL ts) σ σ' → Q σ' H
theorem go_name {i : Nat} {x : Str} {pos : Pos} (hN : X.N.Nodup) (hi : X.N[i]? = some x) (hx : Loc X.env.scope x) (hf : X.fn x = true ∨ X.env.scope.names.lookup x = some .local) : PG X (.Name x pos) (tTgO C X.K (.v i)) := by
  refine PG.imp (pg_name hN hi hx hf) fun v σ H Q hq => ?_
  obtain ⟨F, env, L, R, o, T, env', sr, r, hb, k⟩ := hq
  simp only [Tg.bindO] at hb
  obtain ⟨hl, rfl⟩ := setS_some hb
  obtain ⟨L', s'⟩ := sr.put hl r
  exact k _ L' s' (But.set σ i _)
theorem go_nil : PGs X [] (tTgOs C X.K []) := PGs.imp pgs_nil fun vs σ H Q hq => by
  obtain ⟨F, env, L, R, os, T, env', sr, r, hb, k⟩ := hq
  cases os with
  | nil =>
    simp only [bindOL, Option.some.injEq] at hb
    subst hb
    simp only [RepOL] at r
    obtain ⟨rfl, rfl⟩ := r
    exact ⟨rfl, k σ L sr (But.refl _ _)⟩
  | cons => simp [bindOL] at hb
theorem go_cons {e : Expr} {es : List Expr} {t : Tg} {ts : List Tg} (h1 : PG X e (tTgO C X.K t)) (h2 : PGs X es (tTgOs C X.K ts)) (hs : (assignEach (e :: es) X.env).map (·.2) = assign e X.env :: (assignEach es X.env).map (·.2)) : PGs X (e :: es) (tTgOs C X.K (t :: ts)) := by
  refine PGs.imp (pgs_cons h1 h2 hs) fun vs σ H Q hq => ?_
  obtain ⟨F, env, L, R, os, T, env', sr, r, hb, k⟩ := hq
  cases os with
  | nil => simp [bindOL] at hb
  | cons o os =>
    simp only [bindOL] at hb
    obtain ⟨e1, hb1, hb2⟩ := Option.bind_eq_some_iff.mp hb
    simp only [RepOL] at r
    obtain ⟨v, s, l1, l2, rfl, ro, rt, rfl⟩ := r
    rw [List.append_assoc] at sr
    refine ⟨v, s, rfl, F, env, L, l2 ++ R, o, l1, e1, sr, ro, hb1, fun σ1 L1 s1 b1 => ?_⟩
    exact ⟨F, e1, L1, R, os, l2, env', s1, rt, hb2, fun σ2 L2 s2 b2 => k σ2 L2 s2 (b1.trans b2)⟩
theorem bindL_eq (ts : List Tg) : ∀ (ds : List Cr.D) (e : Env), bindL ts ds e = bindOL ts (ds.map .fr) e := by
  induction ts with
  | nil => intro ds e; cases ds <;> simp [bindL, bindOL]
  | cons t ts ih =>
    intro ds e
    cases ds with
    | nil => simp [bindL, bindOL]
    | cons d ds =>
      simp only [bindL, bindOL, List.map_cons]
      have h1 : t.bind d e = t.bindO (.fr d) e := by
        cases t with
        | v i => simp only [Tg.bind, Tg.bindO, setS]
        | tup us => cases d <;> simp [Tg.bind, Tg.bindO]
      rw [h1]
      cases t.bindO (.fr d) e with
      | none => rfl
      | some e1 => exact ih ds e1
theorem bindOL_len {ts : List Tg} : ∀ {os : List O} {e e' : Env}, bindOL ts os e = some e' → os.length = ts.length := by
  induction ts with
  | nil => intro os e e' h; cases os <;> simp [bindOL] at h ⊢
  | cons t ts ih =>
    intro os e e' h
    cases os with
    | nil => simp [bindOL] at h
    | cons o os =>
      simp only [bindOL] at h
      obtain ⟨e1, _, h2⟩ := Option.bind_eq_some_iff.mp h
      simp [ih h2]
theorem RepOL.ofS : ∀ {ds : List Cr.D} {vs : List V}, RepSL C K F ds vs → RepOL C K F H (ds.map .fr) vs []
  | [], vs, r => by simp only [RepSL] at r; simp [RepOL, r]
  | d :: ds, vs, r => by
    simp only [RepSL] at r
    obtain ⟨v, s, rfl, q, t⟩ := r
    simp only [List.map_cons, RepOL]
    exact ⟨v, s, [], [], rfl, ⟨rfl, q⟩, RepOL.ofS t, rfl⟩
theorem go_tup {es : List Expr} {k : Nat} {pos : Pos} {ts : List Tg} (hc : X.calm = true) (h : PGs X es (tTgOs C X.K ts)) (hn : (assignEach es X.env).length = ts.length) (hst : (assignEach es X.env).findIdx? (·.1) = none) : PG X (.Tuple es k pos) (tTgO C X.K (.tup ts)) := by
  refine PG.imp (pg_tup hc h hn hst) fun v σ H Q hq => ?_
  obtain ⟨F, env, L, R, o, T, env', sr, r, hb, k⟩ := hq
  unfold Tg.bindO at hb
  split at hb
  · rename_i e1; cases e1
  · rename_i e1
    cases e1
    rename_i ds
    simp only [RepO, RepS] at r
    obtain ⟨rfl, a, vs, rfl, q, t⟩ := r
    rw [bindL_eq] at hb
    have hl := bindOL_len hb
    exact ⟨a, vs, rfl, SqT.le sr.le q, by rw [t.len]; simpa using hl, F, _, L, R, _, [], env', sr, RepOL.ofS t, hb, k⟩
  · rename_i e1
    cases e1
    rename_i os
    simp only [RepO] at r
    obtain ⟨a, vs, rfl, q, t⟩ := r
    have hl := bindOL_len hb
    exact ⟨a, vs, rfl, SqT.le sr.le (.inl (.inl q)), by rw [t.len]; exact hl, F, _, L, R, os, T, env', sr, t, hb, k⟩
  · cases hb
theorem b_unp {tg e : Expr} {c : CE} {t : Tg} {pos : Pos} (he : EV X C cal XE e c) (hg : PG X tg (tTgO C X.K t)) (hs : swapsWithSole [tg] e pos.line X.env = pure false) (hw : swappedStores [tg] e X.env = pure none)
    (h1 : (assignEach [tg] X.env).map (·.2) = [assign tg X.env]) (hpin : ∀ i ∈ t.slots, i ∉ pin) : PS X (.Assign [tg] e pos) (tS C X.K cal XE pin W (.unp t c)) :=
  PS.imp (ps_asg he hg hs hw h1) fun D σ H h => by
    obtain ⟨F, env, L, R, sr, ho⟩ := h
    simp only [evS] at ho
    refine OutB.ex1 sr ho fun v F1 H1 e1 L1 T h p hx ho => ?_
    dsimp only at ho
    split at ho
    case h_2 => exact ho.elim
    rename_i o hv
    split at ho
    case h_2 => exact ho.elim
    rename_i e2 hb
    exact ⟨F1, e1, L1, R, o, T, e2, p.sr, hval hx hv, hb, fun σ' L' s' b => ho _ _ σ' L' ⟨s', p.fe, p.kp, fun j hj => b.2 j fun z => hpin j z hj⟩⟩
/-! ### stores into lists -/
theorem Pst.less2 (p : Pst C K F H σ env L R F1 H1 env1 L1 (T2 ++ T1) q) : Pst C K F H σ env L R F1 H1 env1 L1 T1 q := p.less (List.sublist_append_right _ _)
theorem Pst.less3 {T3 : List Addr} (p : Pst C K F H σ env L R F1 H1 env1 L1 (T3 ++ (T2 ++ T1)) q) : Pst C K F H σ env L R F1 H1 env1 L1 T1 q := p.less2.less2
theorem Pst.assoc {Ra Rb Rc : List Addr} (p : Pst C K F H σ env L (Ra ++ (Rb ++ Rc)) F1 H1 env1 L1 T q) : Pst C K F H σ env L ((Ra ++ Rb) ++ Rc) F1 H1 env1 L1 T q := by rw [List.append_assoc]; exact p
theorem SR.mod {i : Nat} {o : O} (sr : SR C K F H σ env L R) (h : (env[i]?).join = some o) :
    ∃ v La l Lb, σ[i]? = some (some v) ∧ RepO C K F H o v l ∧ L = La ++ (l ++ Lb) ∧
      ∀ (H2 : Hp) (o2 : O) (l2 R2 : List Addr), (∀ b, b ∉ l → H2 b = H b) → RepO C K F H2 o2 v l2 → (l2 ++ R2).Nodup → (∀ b ∈ l2 ++ R2, b ∈ l ++ R) → (∀ b ∈ R2, b ∈ l → H2 b ≠ none) →
        SR C K F H2 σ (env.set i (some o2)) (La ++ (l2 ++ Lb)) R2 := by
  obtain ⟨v, La, l, Lb, c, hv, r⟩ := sr.slot h
  refine ⟨v, La, l, Lb, hv, r, c.eq, fun H2 o2 l2 R2 hk r2 hd hs hn => ?_⟩
  have hnd := sr.nd
  rw [c.eq] at hnd
  have move : ∀ (x y : List Addr), ((La ++ (x ++ Lb)) ++ y).Perm ((La ++ Lb) ++ (x ++ y)) := fun x y => by
    simp only [List.append_assoc]
    refine List.Perm.append_left La ?_
    have : (x ++ (Lb ++ y)).Perm (Lb ++ (x ++ y)) := by
      rw [← List.append_assoc x, ← List.append_assoc Lb]
      exact List.perm_append_comm.append_right y
    exact this
  have hnd2 : ((La ++ Lb) ++ (l ++ R)).Nodup := (List.Perm.nodup_iff (move l R)).mp hnd
  have far : ∀ b ∈ La ++ Lb, b ∉ l := fun b hb hl => (List.nodup_append.mp hnd2).2.2 b hb b (by simp [hl]) rfl
  have hset : σ.set i (some v) = σ := by
    obtain ⟨hl, e⟩ := List.getElem?_eq_some_iff.mp hv
    rw [← e]
    exact List.set_getElem_self hl
  have rep := c.put F H2 o2 v l2 (Le.refl F) (fun b hb => hk b (far b hb)) r2
  rw [hset] at rep
  have fnL : ∀ b ∈ l ++ R, F b = none ∧ H b ≠ none := fun b hb => sr.fn b (by
    rw [c.eq]
    exact (List.Perm.mem_iff (move l R)).mpr (List.mem_append_right _ hb))
  refine ⟨fun b u e => ?_, rep, ?_, fun b hb => ?_⟩
  · rw [hk b fun z => by rw [(fnL b (by simp [z])).1] at e; cases e]
    exact sr.le b u e
  · refine (List.Perm.nodup_iff (move l2 R2)).mpr ?_
    have h3 := List.nodup_append.mp hnd2
    exact List.nodup_append.mpr ⟨h3.1, hd, fun a ha b hb => h3.2.2 a ha b (hs b hb)⟩
  · have hb := (List.Perm.mem_iff (move l2 R2)).mp hb
    rcases List.mem_append.mp hb with h1 | h1
    · have h2 := sr.fn b (by
        rw [c.eq]
        exact (List.Perm.mem_iff (move l R)).mpr (List.mem_append_left _ h1))
      exact ⟨h2.1, by rw [hk b (far b h1)]; exact h2.2⟩
    · have h2 := fnL b (hs b h1)
      refine ⟨h2.1, ?_⟩
      rcases List.mem_append.mp h1 with h3 | h3
      · have := RepO.own o2 v l2 r2 b h3
        intro e
        rw [e] at this
        exact this
      · by_cases h4 : b ∈ l
        · exact hn b h3 h4
        · rw [hk b h4]; exact h2.2
theorem Sst.mod {i : Nat} {o : O} (p : Sst C K pin F H σ env L R F1 H1 σ1 env1 L1 T) (h : (env1[i]?).join = some o) :
    ∃ v l, σ1[i]? = some (some v) ∧ RepO C K F1 H1 o v l ∧ (∀ b ∈ l, b ∈ L1 ∧ F1 b = none) ∧ (l ++ T).Nodup ∧
      ∀ (H2 : Hp) (o2 : O) (l2 : List Addr), (∀ b, b ∉ l → H2 b = H1 b) → RepO C K F1 H2 o2 v l2 → l2.Nodup → (∀ b ∈ l2, b ∈ l ++ T) → ∃ L', Sst C K pin F H σ env L R F1 H2 σ1 (env1.set i (some o2)) L' [] := by
  obtain ⟨v, La, l, Lb, hv, r, e, k⟩ := p.sr.mod h
  have hnd := p.sr.nd
  have sub : List.Sublist (l ++ (T ++ R)) (L1 ++ (T ++ R)) := by
    refine List.Sublist.append_right ?_ _
    rw [e]
    exact (List.sublist_append_left l Lb).trans (List.sublist_append_right La _)
  have hnd2 := hnd.sublist sub
  have h2 := List.nodup_append.mp hnd2
  have h3 := List.nodup_append.mp h2.2.1
  have hlR : ∀ b ∈ l, b ∉ R := fun b hb hr => h2.2.2 b hb b (by simp [hr]) rfl
  refine ⟨v, l, hv, r, fun b hb => ⟨by rw [e]; simp [hb], (p.sr.fn b (by rw [e]; simp [hb])).1⟩, ?_, fun H2 o2 l2 hk r2 hd hs => ⟨La ++ (l2 ++ Lb), ⟨?_, p.fe, fun a ha => ?_, p.pn⟩⟩⟩
  · rw [← List.append_assoc] at hnd2
    exact (List.nodup_append.mp hnd2).1
  · refine k H2 o2 l2 R hk r2 ?_ (fun b hb => ?_) fun b hb hl => absurd hb (hlR b hl)
    · refine List.nodup_append.mpr ⟨hd, h3.2.1, fun a ha b hb z => ?_⟩
      subst z
      rcases List.mem_append.mp (hs a ha) with z | z
      · exact hlR a z hb
      · exact h3.2.2 a z a hb rfl
    · rcases List.mem_append.mp hb with z | z
      · have := hs b z
        simp only [List.mem_append] at this ⊢
        rcases this with z | z
        · exact .inl z
        · exact .inr (.inl z)
      · simp [z]
  · have hn : a ∉ l := by
      intro hl
      rcases ha with ha | ha
      · cases e1 : F a with
        | none => exact ha e1
        | some u =>
          have := p.fe a u e1
          rw [(p.sr.fn a (by rw [e]; simp [hl])).1] at this
          cases this
      · exact hlR a hl ha
    rw [hk a hn]
    exact p.kp a ha
theorem RepOL.nthC : ∀ {os : List O} {vs : List V} {l : List Addr} {j : Nat} {o : O}, RepOL C K F H os vs l → os[j]? = some o → ∃ v la lo lb, vs[j]? = some v ∧ l = la ++ (lo ++ lb) ∧ RepO C K F H o v lo ∧
    ∀ (H2 : Hp) (o2 : O) (v2 : V) (l2 : List Addr), (∀ b ∈ la ++ lb, H2 b = H b) → RepO C K F H2 o2 v2 l2 → RepOL C K F H2 (os.set j o2) (vs.set j v2) (la ++ (l2 ++ lb))
  | [], vs, l, j, o, r, h => by simp at h
  | o0 :: os, vs, l, 0, o, r, h => by
    simp only [RepOL] at r
    obtain ⟨v, s, l1, l2, rfl, q, t, rfl⟩ := r
    simp only [List.getElem?_cons_zero, Option.some.injEq] at h
    subst h
    refine ⟨v, [], l1, l2, rfl, rfl, q, fun H2 o2 v2 l3 hk r2 => ?_⟩
    simp only [List.set_cons_zero, RepOL]
    exact ⟨v2, s, l3, l2, rfl, r2, RepOL.keep (Le.refl F) _ _ _ (fun a ha => hk a (by simpa using ha)) t, rfl⟩
  | o0 :: os, vs, l, j + 1, o, r, h => by
    simp only [RepOL] at r
    obtain ⟨v, s, l1, l2, rfl, q, t, rfl⟩ := r
    obtain ⟨w, la, lo, lb, h1, rfl, h3, h4⟩ := RepOL.nthC t (by simpa using h)
    refine ⟨w, l1 ++ la, lo, lb, by simpa using h1, by simp, h3, fun H2 o2 v2 l3 hk r2 => ?_⟩
    simp only [List.set_cons_succ, RepOL]
    exact ⟨v, _, l1, _, rfl, RepO.keep (Le.refl F) _ _ _ (fun a ha => hk a (by simp [ha])) q, h4 H2 o2 v2 l3 (fun b hb => hk b (by
      simp only [List.mem_append] at hb ⊢
      rcases hb with z | z
      · exact .inl (.inr z)
      · exact .inr z)) r2, by simp⟩
/-- os[j] = o -/
theorem RepO.setAt {os : List O} {v w : V} {l : List Addr} {j : Nat} {o : O} (r : RepO C K F H (.ol os) v l) (hj : j < os.length) (ro : RepO C K F H o w T) (nd : (l ++ T).Nodup) :
    ∃ a vs l2, v = .ref a ∧ H a = some (.lst vs) ∧ vs.length = os.length ∧ a ∈ l ∧ RepO C K F (upd H a (.lst (vs.set j w))) (.ol (os.set j o)) v l2 ∧ l2.Nodup ∧ (∀ b ∈ l2, b ∈ l ++ T) := by
  simp only [RepO] at r
  obtain ⟨a, vs, l', rfl, ha, t, rfl⟩ := r
  obtain ⟨w0, la, lo, lb, h1, rfl, h3, h4⟩ := t.nthC (j := j) (o := os[j]) (by simp [hj])
  have hn : a ∉ (la ++ (lo ++ lb)) ++ T := by
    have := nd
    simp only [List.cons_append, List.nodup_cons] at this
    exact this.1
  have nd2 : ((la ++ (lo ++ lb)) ++ T).Nodup := by
    simp only [List.cons_append, List.nodup_cons] at nd
    exact nd.2
  have r2 := h4 (upd H a (.lst (vs.set j w))) o w T (fun b hb => upd_ne fun z => hn (by
    subst z
    simp only [List.mem_append] at hb ⊢
    rcases hb with z | z
    · exact .inl (.inl z)
    · exact .inl (.inr (.inr z)))) (RepO.keep (Le.refl F) o w T (fun b hb => upd_ne fun z => hn (by subst z; simp [hb])) ro)
  refine ⟨a, vs, a :: (la ++ (T ++ lb)), rfl, ha, t.len, by simp, ?_, ?_, fun b hb => ?_⟩
  · simp only [RepO]
    exact ⟨a, _, _, rfl, upd_same, r2, rfl⟩
  · have nd3 : (la ++ (T ++ lb)).Nodup := by
      have e1 : List.Sublist ((la ++ lb) ++ T) ((la ++ (lo ++ lb)) ++ T) := List.Sublist.append_right (List.Sublist.append_left (List.sublist_append_right lo lb) la) T
      refine (List.Perm.nodup_iff ?_).mp (nd2.sublist e1)
      rw [List.append_assoc]
      exact List.Perm.append_left la List.perm_append_comm
    refine List.nodup_cons.mpr ⟨fun z => hn ?_, nd3⟩
    simp only [List.mem_append] at z ⊢
    rcases z with z | z | z
    · exact .inl (.inl z)
    · exact .inr z
    · exact .inl (.inr (.inr z))
  · simp only [List.mem_cons, List.mem_append] at hb ⊢
    rcases hb with z | z | z | z
    · exact .inl (.inl z)
    · exact .inl (.inr (.inl z))
    · exact .inr z
    · exact .inl (.inr (.inr (.inr z)))
theorem b_seti {i : Nat} {x : Str} {px ps pos : Pos} {ix e : Expr} {ci c : CE} (hN : X.N[i]? = some x) (hv : Vis X.env.scope x) (hd : (x == ("__debug__" : Str)) = false) (hcd : (x == ("__classdict__" : Str)) = false) (hi : EV X C cal XE ix ci) (he : EV X C cal XE e c)
    (ha : ∀ v, assign (.Subscript (.Name x px) ix ps) X.env v = (do
      let ov ← holding [v] (eval (.Name x px) X.env)
      let iv ← holding [v, ov] (eval ix X.env)
      standAt ps
      holding [v, ov, iv] (setItem ov iv v)
      release [v, ov, iv] []))
    (hs : swapsWithSole [.Subscript (.Name x px) ix ps] e pos.line X.env = pure false) (hw : swappedStores [.Subscript (.Name x px) ix ps] e X.env = pure none)
    (h1 : (assignEach [.Subscript (.Name x px) ix ps] X.env).map (·.2) = [assign (.Subscript (.Name x px) ix ps) X.env]) :
    PS X (.Assign [.Subscript (.Name x px) ix ps] e pos) (tS C X.K cal XE pin W (.seti i none ci c)) :=
  PS.imp (ps_asg he (pg_sub (pe_var hN hv hd hcd) hi set_list ha) hs hw h1) fun D σ H h => by
    obtain ⟨F, env, L, R, sr, ho⟩ := h
    simp only [evS] at ho
    refine OutB.ex1 sr ho fun w F1 H1 e1 L1 T h p hx ho => ?_
    dsimp only at ho
    split at ho
    case h_2 => exact ho.elim
    rename_i o o0 hv' hs0
    have ro := hval hx hv'
    obtain ⟨v, La, l0, Lb, _, hσ, _⟩ := p.sr.slot hs0
    refine ⟨v, hσ, F1, e1, L1, T ++ R, p.sr, ?_⟩
    cases e2 : ev cal ci e1 with
    | ex c' d' e' => rw [e2] at ho; exact fun F' H' L' p2 => ho F' H' σ L' (Sst.of (p.trans p2).nil)
    | er => rw [e2] at ho; exact ho
    | ok y =>
      obtain ⟨hi', e2'⟩ := y
      rw [e2] at ho
      intro k F2 H2 L2 T2 p2 hx2
      simp only [Res.bind] at ho
      split at ho
      case h_2 => exact ho.elim
      rename_i kd a0 ha0
      split at ho
      case h_2 => exact ho.elim
      rename_i e3 hb
      obtain ⟨a1, hset, hse⟩ := Option.bind_eq_some_iff.mp hb
      obtain ⟨hil, rfl⟩ := setS_some hse
      unfold Cr.setAt at hset
      split at hset
      case h_2 => cases hset
      rename_i os kk
      obtain ⟨j, hj, rfl⟩ := Option.map_eq_some_iff.mp hset
      obtain ⟨_, hkv⟩ := hx2
      have hkv : k = .int kk := hkv
      subst hkv
      have ro2 : RepO C X.K F2 H2 o w T := RepO.keep p2.fe.le o w T (fun a ha => p2.kp a (.inr (by simp [ha]))) ro
      have pp := (Sst.of (pin := pin) (p.trans p2).less2)
      obtain ⟨v', l, hσ', r, _, nd, fin⟩ := pp.mod ha0
      rw [hσ] at hσ'
      cases hσ'
      obtain ⟨a, vs, l2, rfl, hH, hlen, hal, r2, nd2, hs2⟩ := r.setAt (ixN_seq hj).2.1 ro2 nd
      refine ⟨a, vs, kk, j, rfl, rfl, hH, by rw [hlen]; exact hj, ?_⟩
      obtain ⟨L', q⟩ := fin _ _ l2 (fun b hb => upd_ne fun z => hb (z ▸ hal)) r2 nd2 hs2
      exact ho _ _ _ _ q
theorem b_seti2 {i : Nat} {x : Str} {px pp ps pos : Pos} {ip ix e : Expr} {cp ci c : CE} (hN : X.N[i]? = some x) (hv : Vis X.env.scope x) (hd : (x == ("__debug__" : Str)) = false) (hcd : (x == ("__classdict__" : Str)) = false) (hp : EV X C cal XE ip cp) (hpl : PlainIx ip) (hi : EV X C cal XE ix ci) (he : EV X C cal XE e c)
    (ha : ∀ v, assign (.Subscript (.Subscript (.Name x px) ip pp) ix ps) X.env v = (do
      let ov ← holding [v] (eval (.Subscript (.Name x px) ip pp) X.env)
      let iv ← holding [v, ov] (eval ix X.env)
      standAt ps
      holding [v, ov, iv] (setItem ov iv v)
      release [v, ov, iv] []))
    (hs : swapsWithSole [.Subscript (.Subscript (.Name x px) ip pp) ix ps] e pos.line X.env = pure false) (hw : swappedStores [.Subscript (.Subscript (.Name x px) ip pp) ix ps] e X.env = pure none)
    (h1 : (assignEach [.Subscript (.Subscript (.Name x px) ip pp) ix ps] X.env).map (·.2) = [assign (.Subscript (.Subscript (.Name x px) ip pp) ix ps) X.env]) :
    PS X (.Assign [.Subscript (.Subscript (.Name x px) ip pp) ix ps] e pos) (tS C X.K cal XE pin W (.seti i (some cp) ci c)) :=
  PS.imp (ps_asg he (pg_sub (pe_ix ix_list (pe_var hN hv hd hcd) hp hpl) hi set_list ha) hs hw h1) fun D σ H h => by
    obtain ⟨F, env, L, R, sr, ho⟩ := h
    simp only [evS] at ho
    refine OutB.ex1 sr ho fun w F1 H1 e1 L1 T h p hx ho => ?_
    dsimp only at ho
    split at ho
    case h_2 => exact ho.elim
    rename_i o o0 hv' hs0
    have ro := hval hx hv'
    obtain ⟨v, La, l0, Lb, _, hσ, _⟩ := p.sr.slot hs0
    refine ⟨v, hσ, F1, e1, L1, T ++ R, p.sr, ?_⟩
    cases ep : ev cal cp e1 with
    | ex c' d' e' => rw [ep] at ho; exact fun F' H' L' p2 => ho F' H' σ L' (Sst.of (p.trans p2).nil)
    | er => rw [ep] at ho; exact ho
    | ok y =>
      obtain ⟨hp', e2'⟩ := y
      rw [ep] at ho
      intro kp F2 H2 L2 T2 p2 hx2
      simp only [Res.bind] at ho
      split at ho
      case h_2 => exact ho.elim
      rename_i pk xs hs2
      split at ho
      case h_2 => exact ho.elim
      rename_i b hb
      obtain ⟨_, hkv⟩ := hx2
      have hkv : kp = .int pk := hkv
      subst hkv
      have p12 := (p.trans p2).less2
      obtain ⟨v2, La2, l2, Lb2, c2, hσ2, r2⟩ := p12.sr.slot hs2
      rw [hσ] at hσ2
      cases hσ2
      have r2' := r2
      simp only [RepO] at r2'
      obtain ⟨a, vs, l', rfl, hH, t, rfl⟩ := r2'
      obtain ⟨jp, hjp, hb2⟩ := Option.bind_eq_some_iff.mp hb
      obtain ⟨w2, la, lo, lb, hw2, rfl, rb, _⟩ := t.nthC hb2
      refine ⟨a, vs, pk, w2, rfl, rfl, SqL.of hH, ?_, F2, e2', L2, T2 ++ (T ++ R), p2.sr, ?_⟩
      · unfold atI
        rw [t.len, hjp]
        exact hw2
      · cases ei : ev cal ci e2' with
        | ex c' d' e' => rw [ei] at ho; exact fun F' H' L' p3 => ho F' H' σ L' (Sst.of ((p.trans p2).trans (p3 : Pst C X.K F2 H2 σ e2' L2 (T2 ++ (T ++ R)) F' H' e' L' [] _).assoc).nil)
        | er => rw [ei] at ho; exact ho
        | ok y =>
          obtain ⟨hi', e3'⟩ := y
          rw [ei] at ho
          intro k F3 H3 L3 T3 p3 hx3
          simp only at ho
          split at ho
          case isFalse => exact ho.elim
          rename_i hq
          split at ho
          case h_2 => exact ho.elim
          rename_i kd
          split at ho
          case h_2 => exact ho.elim
          rename_i e4 hbb
          obtain ⟨a2, hset, hse⟩ := Option.bind_eq_some_iff.mp hbb
          obtain ⟨hil, rfl⟩ := setS_some hse
          obtain ⟨b2, hset1, hset2⟩ := Option.bind_eq_some_iff.mp hset
          unfold Cr.setAt at hset1
          split at hset1
          case h_2 => cases hset1
          rename_i os kk
          obtain ⟨j, hj, rfl⟩ := Option.map_eq_some_iff.mp hset1
          simp only [Cr.setAt, hjp, Option.map_some, Option.some.injEq] at hset2
          subst hset2
          obtain ⟨_, hkv⟩ := hx3
          have hkv : k = .int kk := hkv
          subst hkv
          obtain ⟨he3, hL3, hH3⟩ := p3.qt hq
          subst he3
          have p123 := ((p.trans p2).trans p3.assoc).less3
          have ro3 : RepO C X.K F3 H3 o w T := RepO.keep (p2.fe.trans p3.fe).le o w T (fun a ha => by rw [p3.kp a (.inr (by simp [ha])), p2.kp a (.inr (by simp [ha]))]) ro
          obtain ⟨v', l, hσ', r, _, nd, fin⟩ := (Sst.of (pin := pin) p123).mod hs2
          rw [hσ] at hσ'
          cases hσ'
          simp only [RepO] at r
          obtain ⟨a', vs', l'', ea, hH', t', rfl⟩ := r
          cases ea
          have haL : a ∈ L2 := c2.mem a (by simp)
          have evs : vs' = vs := by
            rw [hH3 a haL, hH] at hH'
            cases hH'
            rfl
          subst evs
          obtain ⟨w2', la', lo', lb', hw2', rfl, rb', put⟩ := t'.nthC hb2
          rw [hw2] at hw2'
          cases hw2'
          have nda : a ∉ (la' ++ (lo' ++ lb')) ++ T := by
            simp only [List.cons_append, List.nodup_cons] at nd
            exact nd.1
          have ndl : ((la' ++ (lo' ++ lb')) ++ T).Nodup := by
            simp only [List.cons_append, List.nodup_cons] at nd
            exact nd.2
          have nd1 : (lo' ++ T).Nodup := ndl.sublist (List.Sublist.append_right ((List.sublist_append_left lo' lb').trans (List.sublist_append_right la' _)) T)
          obtain ⟨a2, vs2, lz, rfl, hH2, hlen2, hal2, rz, ndz, hsz⟩ := rb'.setAt (ixN_seq hj).2.1 ro3 nd1
          refine ⟨a2, vs2, kk, j, rfl, rfl, hH2, by rw [hlen2]; exact hj, ?_⟩
          have hdis : ∀ c ∈ la' ++ lb', c ∉ lo' ++ T := fun c hc hz => by
            have e1 : ((la' ++ lb') ++ (lo' ++ T)).Nodup := by
              refine (List.Perm.nodup_iff ?_).mp ndl
              simp only [List.append_assoc]
              refine List.Perm.append_left la' ?_
              rw [← List.append_assoc, ← List.append_assoc]
              exact List.perm_append_comm.append_right T
            exact (List.nodup_append.mp e1).2.2 c hc c hz rfl
          have hne : a ≠ a2 := fun z => nda (by subst z; simp [hal2])
          have rz' := put _ _ _ lz (fun c hc => upd_ne fun z => hdis c hc (by subst z; simp [hal2])) rz
          have hvs : vs'.set jp (V.ref a2) = vs' := by
            obtain ⟨h1, h2⟩ := List.getElem?_eq_some_iff.mp hw2
            rw [← h2]
            exact List.set_getElem_self h1
          rw [hvs] at rz'
          obtain ⟨L', q⟩ := fin (upd H3 a2 (.lst (vs2.set j w))) (.ol (xs.set jp (.ol (os.set j o)))) (a :: (la' ++ (lz ++ lb'))) (fun c hc => upd_ne fun z => hc (by subst z; simp [hal2])) (by
            simp only [RepO]
            exact ⟨a, vs', _, rfl, by rw [upd_ne hne]; exact hH', rz', rfl⟩) (by
            refine List.nodup_cons.mpr ⟨fun z => nda ?_, ?_⟩
            · simp only [List.mem_append] at z ⊢
              rcases z with z | z | z
              · exact .inl (.inl z)
              · have := hsz a z
                simp only [List.mem_append] at this
                rcases this with z | z
                · exact .inl (.inr (.inl z))
                · exact .inr z
              · exact .inl (.inr (.inr z))
            · have e2 : ((la' ++ lb') ++ lz).Nodup := by
                refine List.nodup_append.mpr ⟨?_, ndz, fun c hc c2 hc2 z => ?_⟩
                · exact ndl.sublist ((List.Sublist.append_left (List.sublist_append_right lo' lb') la').trans (List.sublist_append_left _ T))
                · subst z
                  exact hdis c hc (hsz c hc2)
              refine (List.Perm.nodup_iff ?_).mp e2
              rw [List.append_assoc]
              exact List.Perm.append_left la' List.perm_append_comm) (fun c hc => by
            simp only [List.cons_append, List.mem_cons, List.mem_append] at hc ⊢
            rcases hc with z | z | z | z
            · exact .inl z
            · exact .inr (.inl (.inl z))
            · have := hsz c z
              simp only [List.mem_append] at this
              rcases this with z | z
              · exact .inr (.inl (.inr (.inl z)))
              · exact .inr (.inr z)
            · exact .inr (.inl (.inr (.inr z))))
          exact ho _ _ _ _ q
end
end Cr
end

section
/-! xs[i] op= e, list(range(..)). -/
namespace Cr
open PySem L2
open PySem.Spec
open PyProof.Rows hiding St

section
variable {X : Cx} {C : Nat → Addr} {cal : Nat → List O → CRes} {XE : XP} {K : PySem.W.Frag} {pin : List Nat} {W : Nat} {F F' F1 F2 F3 H H' H1 H2 H3 : Hp} {σ σ1 σ2 : St} {env env1 env2 : Env} {L L1 L2 R T T1 T2 : List Addr} {q : Bool} {D : Ends}
theorem get_list : PGet X (rIxL X.K) := by
  intro pins s σ H o i ov iv Q inv ro ri ⟨p, xs, k, v, eo, ei, hq, hat, goal⟩
  subst eo ei
  cases ro
  obtain ⟨t, rfl⟩ := ri
  obtain ⟨its, rv, isl, _⟩ := inv.list hq
  obtain ⟨j, hsi, hxj, _, hlo, hhi⟩ := atI_get hat
  obtain ⟨u, hu, ru⟩ := rv.get hxj
  have hsz : (its.toArray.size : Int) = xs.length := by rw [List.size_toArray, rv.length]
  have hb := line63
  have hlen := rv.length
  by_cases hk : 0 ≤ k
  · rw [seqIndex_of hk hhi] at hsi
    cases hsi
    exact PySem.wpAny_getItem_list isl.isList hk (by omega) (by simpa using hu) ⟨v, H, inv, ru, goal⟩
  · rw [seqIndex_neg (by omega) hlo] at hsi
    cases hsi
    exact PySem.wpAny_getItem_list_neg isl.isList (by omega) (by rw [hsz]; exact hlo) (by omega) (by rw [hsz]; simpa using hu) ⟨v, H, inv, ru, goal⟩
theorem b_augi {i : Nat} {x : Str} {px ps pos : Pos} {ix e : Expr} {ci c : CE} {op : Operator} (hN : X.N[i]? = some x) (hv : Vis X.env.scope x) (hd : (x == ("__debug__" : Str)) = false) (hcd : (x == ("__classdict__" : Str)) = false) (hi : EV X C cal XE ix ci) (he : EV X C cal XE e c)
    (ha : ∀ ov iv new, augStore ix ov iv new = (do holding [new, ov, iv] (setItem ov iv new); release [new, ov, iv] []; pure .next)) (hop : op = .Add ∨ op = .Sub) :
    PS X (.AugAssign (.Subscript (.Name x px) ix ps) op e pos) (tS C X.K cal XE pin W (.augi i op ci c)) := by
  have main : ∀ (f : Int → Int → Int), (∀ D σ H, tS C X.K cal XE pin W (.augi i op ci c) D σ H → tAugS (tVar i) (tV C X.K cal XE ci) (tV C X.K cal XE c) (rIxL X.K) (ipI f) rSetL D σ H) → PIp X op (ipI f) → PS X (.AugAssign (.Subscript (.Name x px) ix ps) op e pos) (tS C X.K cal XE pin W (.augi i op ci c)) :=
    fun f h ho => PS.imp (ps_augS (pe_var hN hv hd hcd) hi get_list he ho set_list ha) h
  have core : ∀ (f : Int → Int → Int) (D : Ends) (σ : St) (H F : Hp) (env : Env) (L R : List Addr), SR C X.K F H σ env L R →
      OutB C X.K XE pin F H σ env L R (match (env[i]?).join with
    | some _ => (ev cal ci env).bind fun (hi, e) => match hi, (e[i]?).join with
      | .p (.int k), some (.ol xs) => match atI xs k with
        | some (.fr (.int old)) => (ev cal c e).bind fun (h, e) => match h, (e[i]?).join with
          | .p (.int d), some (.ol ys) => match (Cr.setAt (.ol ys) (.int k) (.fr (.int (f old d)))).bind fun a => setS e i a with
              | some e => .ok (.next, e)
              | none => .er
          | _, _ => .er
        | _ => .er
      | _, _ => .er
    | none => .er : Res (Fl × Env)) D → tAugS (tVar i) (tV C X.K cal XE ci) (tV C X.K cal XE c) (rIxL X.K) (ipI f) rSetL D σ H := by
    intro f D σ H F env L R sr ho
    split at ho
    case h_2 => exact ho.elim
    rename_i o0 hs0
    obtain ⟨v, La, l0, Lb, _, hσ, _⟩ := sr.slot hs0
    refine ⟨v, hσ, OutB.ex1 sr ho fun kv F1 H1 e1 L1 T h p hx ho => ?_⟩
    dsimp only at ho
    split at ho
    case h_2 => exact ho.elim
    rename_i k xs hs1
    obtain ⟨rfl, hkv⟩ := hx
    have hkv : kv = .int k := hkv
    subst hkv
    split at ho
    case h_2 => exact ho.elim
    rename_i old hat
    obtain ⟨v2, La2, l2, Lb2, c2, hσ2, r2⟩ := p.sr.slot hs1
    rw [hσ] at hσ2
    cases hσ2
    simp only [RepO] at r2
    obtain ⟨a, vs, l', rfl, hH, t, rfl⟩ := r2
    obtain ⟨j, hj, hb2⟩ := Option.bind_eq_some_iff.mp hat
    obtain ⟨w2, la, lo, lb, hw2, rfl, rb, _⟩ := t.nthC hb2
    have hw : w2 = .int old := rb.2
    subst hw
    refine ⟨a, vs, k, .int old, rfl, rfl, SqL.of hH, ?_, F1, e1, L1, R, p.sr, ?_⟩
    · unfold atI
      rw [t.len, hj]
      exact hw2
    · cases ec : ev cal c e1 with
      | ex c' d' e' => rw [ec] at ho; exact fun F' H' L' p2 => ho F' H' σ L' (Sst.of (p.seq p2))
      | er => rw [ec] at ho; exact ho
      | ok y =>
        obtain ⟨hd', e2⟩ := y
        rw [ec] at ho
        intro dv F2 H2 L2 T2 p2 hx2
        simp only [Res.bind] at ho
        split at ho
        case h_2 => exact ho.elim
        rename_i d ys hs2
        obtain ⟨rfl, hkv⟩ := hx2
        have hkv : dv = .int d := hkv
        subst hkv
        split at ho
        case h_2 => exact ho.elim
        rename_i e3 hbb
        obtain ⟨a2, hset, hse⟩ := Option.bind_eq_some_iff.mp hbb
        obtain ⟨hil, rfl⟩ := setS_some hse
        obtain ⟨j2, hj2, rfl⟩ := Option.map_eq_some_iff.mp hset
        obtain ⟨v', l, hσ', r, _, nd, fin⟩ := (Sst.of (pin := pin) (p.seq p2)).mod hs2
        rw [hσ] at hσ'
        cases hσ'
        obtain ⟨a', vs', lz, ea, hH', hlen, hal, rz, ndz, hsz⟩ := r.setAt (w := .int (f old d)) (o := .fr (.int (f old d))) (T := []) (ixN_seq hj2).2.1 ⟨rfl, rfl⟩ nd
        cases ea
        refine ⟨old, d, rfl, rfl, a, vs', k, j2, rfl, rfl, hH', by rw [hlen]; exact hj2, ?_⟩
        obtain ⟨L', q⟩ := fin _ _ lz (fun b hb => upd_ne fun z => hb (z ▸ hal)) rz ndz hsz
        exact ho _ _ _ _ q
  rcases hop with rfl | rfl
  · refine main (fun i j => i + j) (fun D σ H h => ?_) ip_add
    obtain ⟨F, env, L, R, sr, ho⟩ := h
    simp only [evS] at ho
    exact core _ D σ H F env L R sr ho
  · refine main (fun i j => i - j) (fun D σ H h => ?_) ip_sub
    obtain ⟨F, env, L, R, sr, ho⟩ := h
    simp only [evS] at ho
    exact core _ D σ H F env L R sr ho
/-! ### list(range(..)) -/
def rgArgs (vs : List V) (i j c : Int) : Prop := (vs = [.int j] ∧ i = 0 ∧ c = 1) ∨ (vs = [.int i, .int j] ∧ c = 1) ∨ vs = [.int i, .int j, .int c]
abbrev TR := St → Hp → (Int → Int → Int → Nat → Hp → Prop) → Prop
/-- an expression that makes a range -/
def PRc (X : Cx) (e : Expr) (t : TR) : Prop :=
  ∀ (pins : List (Addr × Obj)) (s : Shared) (σ : St) (H : Hp) (Q : Int → Int → Int → Nat → Hp → Prop), Inv X pins σ H s → t σ H Q →
    wpAny (model X.prog X.w) X.A (eval e X.env) (fun x s' => ∃ r i j c n t u v H', x = .ref r ∧ IsRange s'.heap r i j c t u v ∧ RgC i j c n ∧ Inv X pins σ H' s' ∧ Q i j c n H') X.xe s
def tRc (ta : TA) : TR := fun σ H Q => ta σ H fun vs H1 => ∃ i j c n, rgArgs vs i j c ∧ RgC i j c n ∧ Q i j c n H1
theorem prc {a : Expr} {as : List Expr} {ta : TA} {p pos : Pos} (hg : Gl X "range") (hm : X.mg "range" = none) (ha : PA X (a :: as) ta) (hs : starEach (a :: as) X.env = (false, eval a X.env) :: starEach as X.env)
    (hpl : (backTo pos (starEach as X.env)).any (·.1) = false) : PRc X (.Call (.Name "range" p) (a :: as) [] pos) (tRc ta) := by
  intro pins s σ H Q inv hq
  refine PyProof.Rows.Call_ (ld_blt inv hg hm boot_range (PyProof.Rows.callWith_type1 (thn (ha.run pos pins s σ H _ inv hq) ?_) hs hpl))
  rintro us sA ⟨vs, HA, invA, rel, i, j, c, n, hargs, hc, goal⟩
  have old : ∀ (ob : Obj) (b : Addr) (o : Obj), sA.heap.get? b = some o → (sA.heap.push ob).get? b = some o := fun _ b o e => Heap.get?_push_of_some _ e
  rcases hargs with ⟨rfl, rfl, rfl⟩ | ⟨rfl, rfl⟩ | rfl
  · cases rel with
    | cons rj rn =>
      cases rn
      obtain ⟨tj, rfl⟩ := rj
      exact call_range_1 ⟨_, 0, j, 1, n, _, _, _, HA, rfl, IsRange.new _ _ _ _ _ _ _, hc, invA.kept (old _), goal⟩
  · cases rel with
    | cons ri rn =>
      cases rn with
      | cons rj rn =>
        cases rn
        obtain ⟨ti, rfl⟩ := ri
        obtain ⟨tj, rfl⟩ := rj
        exact call_range_2 ⟨_, i, j, 1, n, _, _, _, HA, rfl, IsRange.new _ _ _ _ _ _ _, hc, invA.kept (old _), goal⟩
  · cases rel with
    | cons ri rn =>
      cases rn with
      | cons rj rn =>
        cases rn with
        | cons rc rn =>
          cases rn
          obtain ⟨ti, rfl⟩ := ri
          obtain ⟨tj, rfl⟩ := rj
          obtain ⟨tc, rfl⟩ := rc
          exact PySem.call_range_3 hc.1 ⟨_, i, j, c, n, _, _, _, HA, rfl, IsRange.new _ _ _ _ _ _ _, hc, invA.kept (t' := sA.toks) (old _), goal⟩ (.inl (PyProof.noPylong_small hc.2.1))
def rgVc (i c : Int) (n : Nat) : List V := (List.range n).map fun k => V.int (i + (k : Nat) * c)
theorem vals_rgc {i c : Int} {n : Nat} {acc : Array Value} (h : ItemsOf (fun k v => ∃ t, v = .int (i + k * c) t) acc n) : Vals (rgVc i c n) acc.toList := by
  have len : acc.toList.length = n := by simpa using h.1
  have := vals_of_get acc.toList (fun k => V.int (i + (k : Nat) * c)) fun k u hk => by
    obtain ⟨t, rfl⟩ := h.2 k u (by rw [← hk, Array.getElem?_toList])
    exact ⟨t, rfl⟩
  rw [len] at this
  exact this
theorem pe_listC {e : Expr} {te : TR} {p pos : Pos} (hc : X.calm = true) (hg : Gl X "list") (hm : X.mg "list" = none) (he : PRc X e te) (na : starEach [e] X.env = (false, eval e X.env) :: starEach [] X.env) :
    PE X (.Call (.Name "list" p) [e] [] pos) (fun σ H Q => te σ H fun i _ c n H1 => n ≤ 16777216 ∧ ∀ q, H1 q = none → Q (.ref q) (upd H1 q (.lst (rgVc i c n)))) := by
  constructor
  intro pins s σ H Q inv hq
  refine PyProof.Rows.Call_ (ld_blt inv hg hm boot_list (PyProof.Rows.callWith_type1 (args_cons (thn (he pins s σ H _ inv hq) ?_) na) na))
  rintro x sA ⟨r, i, j, c, n, t, u, v, HA, rfl, isr, hrg, invA, hn, goal⟩
  refine args_nil (call_list_range (n := n) (invA.ok.hd hc) isr hrg.2.2.1 hrg.2.2.2 (by omega) fun h' tk acc cap hk hnew hitems => ?_)
  refine ⟨.ref sA.heap.objs.size, upd HA sA.heap.objs.size (.lst (rgVc i c n)), invA.laid hk (Nat.le_refl _) ⟨?_, acc.toList, cap, vals_rgc hitems, ?_⟩, rfl, goal _ (invA.hok.fresh (Nat.le_refl _))⟩
  · simp only [rgVc, List.length_map, List.length_range, sizeLine_eq]
    omega
  · rw [Array.toArray_toList]
    exact hnew
theorem repS_rg {i c : Int} {n : Nat} : RepSL C K F ((List.range n).map fun (k : Nat) => Cr.D.int (i + k * c)) (rgVc i c n) := by
  unfold rgVc
  have : ∀ (l : List Nat), RepSL C K F (l.map fun (k : Nat) => Cr.D.int (i + k * c)) (l.map fun (k : Nat) => V.int (i + (k : Nat) * c)) := fun l => by
    induction l with
    | nil => simp [RepSL]
    | cons a l ih =>
      simp only [List.map_cons, RepSL, RepS]
      exact ⟨_, _, rfl, rfl, ih⟩
  exact this _
theorem rngOf_args {ds : List Cr.D} {vs : List V} {rs : List Cr.D} (t : RepSL C K F ds vs) (h : rngOf ds = some rs) : ∃ i j c, rgArgs vs i j c ∧ RgC i j c (rngN i j c) ∧ rs = (List.range (rngN i j c)).map fun (k : Nat) => Cr.D.int (i + k * c) := by
  unfold rngOf at h
  split at h
  · rename_i j
    split at h
    case isFalse => cases h
    rename_i ok
    simp only [Option.some.injEq] at h
    simp only [RepSL, RepS] at t
    obtain ⟨_, _, rfl, rfl, rfl⟩ := t
    exact ⟨0, j, 1, .inl ⟨rfl, rfl, rfl⟩, rangeCnt ok, by rw [← h]; rfl⟩
  · rename_i i j
    split at h
    case isFalse => cases h
    rename_i ok
    simp only [Option.some.injEq] at h
    simp only [RepSL, RepS] at t
    obtain ⟨_, _, rfl, rfl, _, _, rfl, rfl, rfl⟩ := t
    exact ⟨i, j, 1, .inr (.inl ⟨rfl, rfl⟩), rangeCnt ok, by rw [← h]; rfl⟩
  · rename_i i j c
    split at h
    case isFalse => cases h
    rename_i ok
    simp only [Option.some.injEq] at h
    simp only [RepSL, RepS] at t
    obtain ⟨_, _, rfl, rfl, _, _, rfl, rfl, _, _, rfl, rfl, rfl⟩ := t
    exact ⟨i, j, c, .inr (.inr rfl), rangeCnt ok, by rw [← h]; rfl⟩
  · cases h
theorem s_listR {a : Expr} {as : List Expr} {cs : List CE} {p p2 pos pos2 : Pos} (hc : X.calm = true) (hg : Gl X "range") (hm : X.mg "range" = none) (hg2 : Gl X "list") (hm2 : X.mg "list" = none) (ha : PA X (a :: as) (tVs C X.K cal XE cs))
    (hs : starEach (a :: as) X.env = (false, eval a X.env) :: starEach as X.env) (hpl : (backTo pos (starEach as X.env)).any (·.1) = false)
    (na : starEach [.Call (.Name "range" p) (a :: as) [] pos] X.env = (false, eval (.Call (.Name "range" p) (a :: as) [] pos) X.env) :: starEach [] X.env) :
    EV X C cal XE (.Call (.Name "list" p2) [.Call (.Name "range" p) (a :: as) [] pos] [] pos2) (.listR (.rng cs)) := by
  refine PE.imp (pe_listC hc hg2 hm2 (prc hg hm ha hs hpl) na) fun σ H Q hq => ?_
  obtain ⟨F, env, L, R, sr, ho⟩ := hq
  simp only [ev, evSr] at ho
  refine ⟨F, env, L, R, sr, ?_⟩
  cases e1 : evs cal cs env with
  | ok x =>
    rw [e1] at ho
    intro vs F1 H1 L1 T p hx
    simp only [Res.bind] at ho
    cases g : allSome (x.1.map Hd.val) with
    | none => rw [g] at ho; exact ho.elim
    | some os =>
      rw [g] at ho
      dsimp only at ho
      cases e2 : leafs os with
      | none => rw [e2] at ho; exact ho.elim
      | some ds =>
        rw [e2] at ho
        simp only [Option.bind] at ho
        cases w : rngOf ds with
        | none => rw [w] at ho; exact ho.elim
        | some rs =>
          rw [w] at ho
          dsimp only at ho
          obtain ⟨t, rfl⟩ := rng_vals hx g e2
          obtain ⟨i, j, c, hargs, hrg, hrs⟩ := rngOf_args t w
          subst hrs
          split at ho
          case isFalse => exact ho.elim
          rename_i hline
          refine ⟨i, j, c, _, hargs, hrg, by simpa [lineOk] using hline, fun q hq => ?_⟩
          have nw := New.lst (vs := rgVc i c (rngN i j c)) p.sr.le hq
          refine ho (.ref q) F1 _ L1 [q] ((p.newT nw).q_of fun z => by simpa [CE.quiet, Sr.quiet] using z) ?_
          show RepO C X.K _ _ (.ol _) (.ref q) [q]
          simp only [RepO]
          exact ⟨q, rgVc i c (rngN i j c), [], rfl, upd_same, RepOL.ofS repS_rg, rfl⟩
  | ex c d e => rw [e1] at ho; exact ho
  | er => rw [e1] at ho; exact ho
end
end Cr
end

section
/-! The checker: a core term stands for an expression. -/
namespace Cr
open PySem L2

/-- names that are known -/
structure Tb where
  fns : List (Str × (Nat × Nat × List Nat))
  gls : List (Str × D)
/-- a block's names; the cells that were made for it -/
structure Sc where
  s : Scope
  f : Str → Bool
def Sc.blk (sc : Sc) (scope : Scope) : Sc := ⟨relS scope sc.s, fun x => scope.names.lookup x == some .cell⟩
def isGl (sc : Sc) (x : Str) : Bool := decide (sc.s.names.lookup x = some .globalImplicit)
def visC (sc : Sc) (x : Str) : Bool := match sc.s.names.lookup x with
  | some .local => true | some .cell => true | some .free => true | _ => false
def nameC (x : Str) : Bool := !(x == ("__debug__" : Str)) && !(x == ("__classdict__" : Str))
def slotC (N : List Str) (sc : Sc) (i : Nat) (x : Str) : Bool := decide (N[i]? = some x) && visC sc x && nameC x
def localC (N : List Str) (sc : Sc) (i : Nat) (x : Str) : Bool := decide (N[i]? = some x) && (decide (sc.s.names.lookup x = some .local) || (decide (sc.s.names.lookup x = some .cell) && sc.f x))
def litC : Expr → D → Bool
  | .Constant (.int i) _ _, .int j => decide (i = j)
  | .Constant (.str s) _ _, .str t => decide (s = t) && decide (s.length ≤ sizeLine) && (PyData.str s).canLay0
  | .Constant (.bool b) _ _, .bl c => b == c
  | .Constant .none _ _, .non => true
  | .UnaryOp .USub (.Constant (.int i) _ _) _, .int j => decide (j = -i)
  | _, _ => false
def noStar : Expr → Bool
  | .Starred _ _ => false
  | _ => true
def noSet : Expr → Bool
  | .Set _ _ _ => false
  | _ => true
def noSlice : Expr → Bool
  | .Slice _ _ _ _ => false
  | _ => true
/-- a test like its value -/
def asIs : Expr → Bool
  | .UnaryOp .Not _ _ => false
  | .BoolOp _ _ _ => false
  | .IfExp _ _ _ _ => false
  | _ => true
def noComp : Expr → Bool
  | .ListComp _ _ _ _ => false
  | .SetComp _ _ _ _ => false
  | .DictComp _ _ _ _ _ => false
  | _ => true
def noTup : Expr → Bool
  | .Tuple _ _ _ => false
  | _ => true
def ownP (N : List Str) (own : List Nat) : List (Str × Nat) := own.map fun i => ((N[i]?).getD "", i)
mutual
def eqS : D → D → Bool
  | .non, .non => true
  | .bl a, .bl b => a == b
  | .int a, .int b => decide (a = b)
  | .str a, .str b => decide (a = b)
  | .tup a, .tup b => eqSL a b
  | _, _ => false
def eqSL : List D → List D → Bool
  | [], [] => true
  | a :: l, b :: m => eqS a b && eqSL l m
  | _, _ => false
end
mutual
theorem eqS_eq : ∀ (a b : D), eqS a b = true → a = b
  | .non, .non, _ => rfl
  | .bl a, .bl b, h => by simp [eqS] at h; rw [h]
  | .int a, .int b, h => by simp [eqS] at h; rw [h]
  | .str a, .str b, h => by simp [eqS] at h; rw [h]
  | .tup a, .tup b, h => by simp only [eqS] at h; rw [eqSL_eq a b h]
  | .non, .bl _, h | .non, .int _, h | .non, .str _, h | .non, .tup _, h | .non, .lst _, h | .non, .dic _, h | .non, .ins _ _, h | .non, .scr _, h | .non, .bad, h => by simp [eqS] at h
  | .bl _, .non, h | .bl _, .int _, h | .bl _, .str _, h | .bl _, .tup _, h | .bl _, .lst _, h | .bl _, .dic _, h | .bl _, .ins _ _, h | .bl _, .scr _, h | .bl _, .bad, h => by simp [eqS] at h
  | .int _, .non, h | .int _, .bl _, h | .int _, .str _, h | .int _, .tup _, h | .int _, .lst _, h | .int _, .dic _, h | .int _, .ins _ _, h | .int _, .scr _, h | .int _, .bad, h => by simp [eqS] at h
  | .str _, .non, h | .str _, .bl _, h | .str _, .int _, h | .str _, .tup _, h | .str _, .lst _, h | .str _, .dic _, h | .str _, .ins _ _, h | .str _, .scr _, h | .str _, .bad, h => by simp [eqS] at h
  | .tup _, .non, h | .tup _, .bl _, h | .tup _, .int _, h | .tup _, .str _, h | .tup _, .lst _, h | .tup _, .dic _, h | .tup _, .ins _ _, h | .tup _, .scr _, h | .tup _, .bad, h => by simp [eqS] at h
  | .lst _, _, h | .dic _, _, h | .ins _ _, _, h | .scr _, _, h | .bad, _, h => by simp [eqS] at h
theorem eqSL_eq : ∀ (a b : List D), eqSL a b = true → a = b
  | [], [], _ => rfl
  | a :: l, b :: m, h => by
    simp only [eqSL, Bool.and_eq_true] at h
    rw [eqS_eq a b h.1, eqSL_eq l m h.2]
  | [], _ :: _, h => by simp [eqSL] at h
  | _ :: _, [], h => by simp [eqSL] at h
end
mutual
def chkTg (N : List Str) (sc : Sc) : Tg → Expr → Bool
  | .v i, .Name x _ => localC N sc i x
  | .tup ts, .Tuple es _ _ => chkTgs N sc ts es
  | _, _ => false
def chkTgs (N : List Str) (sc : Sc) : List Tg → List Expr → Bool
  | [], [] => true
  | t :: ts, e :: es => noStar e && chkTg N sc t e && chkTgs N sc ts es
  | _, _ => false
end
section
variable (G : Tb) (N : List Str)
mutual
def chk (sc : Sc) : Bool → CE → Expr → Bool
  | _, .lit d, e => litC e d
  | _, .glob g d, .Name x _ => decide (x = g) && isGl sc x && nameC x && (match G.gls.lookup x with | some d' => eqS d d' | none => false)
  | _, .var i, .Name x _ => slotC N sc i x
  | _, .io i, .Name x _ => slotC N sc i x
  | _, .mv i, .Name x _ => slotC N sc i x
  | _, .fz i, .Name x _ => slotC N sc i x
  | _, .tup cs, .Tuple es _ _ => chkEs sc cs es
  | _, .lst cs, .List es _ => chkEs sc cs es
  | _, .bin op a b, .BinOp l o r _ => decide (op = o) && chk sc false a l && chk sc false b r
  | _, .cmp op a b, .Compare l [o] [r] _ => decide (op = o) && !behindInMarks o r && chk sc false a l && chk sc false b r
  | _, .cmp2 o1 o2 a b c, .Compare l [p1, p2] [m, r] _ => decide (o1 = p1) && decide (o2 = p2) && !lastMarks [p1, p2] [m, r] && chk sc false a l && chk sc false b m && chk sc false c r
  | false, .and cs, .BoolOp .And xs _ => !cs.isEmpty && chkEs sc cs xs
  | false, .or cs, .BoolOp .Or xs _ => !cs.isEmpty && chkEs sc cs xs
  | true, .and cs, .BoolOp .And xs _ => !cs.isEmpty && chkTs sc cs xs
  | true, .or cs, .BoolOp .Or xs _ => !cs.isEmpty && chkTs sc cs xs
  | t, .not a, .UnaryOp .Not x _ => chk sc t a x
  | false, .ife k a b, .IfExp c x y _ => chk sc true k c && chk sc false a x && chk sc false b y
  | _, .sub a i, .Subscript l r _ => noSlice r && chk sc false a l && chk sc false i r
  | _, .slice a lo hi, .Subscript l (.Slice lo' hi' none _) _ => chk sc false a l && chkO sc lo lo' && chkO sc hi hi'
  | _, .call f io cs, .Call (.Name x _) es [] _ => (match G.fns.lookup x with | some (f', np, io') => decide (f = f') && decide (io = io') && decide (cs.length = np) | none => false) && !es.isEmpty && isGl sc x && nameC x && chkEs sc cs es
  | _, .bi b cs, .Call (.Name x _) es [] _ => decide (x = b.name) && !es.isEmpty && isGl sc x && chkEs sc cs es
  | _, .lc own t src cs x, .ListComp elt [⟨tg, iter, ifs, k⟩] scope _ => decide (k = 0) && blkC N sc.s scope (ownP N own) && chkSr sc src tg iter && chkTg N (sc.blk scope) t tg && chkCs (sc.blk scope) cs ifs && chk (sc.blk scope) false x elt && decide (∀ i ∈ t.slots, i ∈ own) && noSet iter
  | _, .listR (.rng cs), .Call (.Name x _) [.Call (.Name y _) es [] _] [] _ => decide (x = "list") && decide (y = "range") && isGl sc x && isGl sc y && !es.isEmpty && chkEs sc cs es
  | _, _, _ => false
def chkEs (sc : Sc) : List CE → List Expr → Bool
  | [], [] => true
  | c :: cs, e :: es => noStar e && chk sc false c e && chkEs sc cs es
  | _, _ => false
def chkTs (sc : Sc) : List CE → List Expr → Bool
  | [], [] => true
  | c :: cs, e :: es => chk sc true c e && chkTs sc cs es
  | _, _ => false
def chkO (sc : Sc) : Option CE → Option Expr → Bool
  | none, none => true
  | some c, some e => chk sc false c e
  | _, _ => false
def chkCs (sc : Sc) : List CE → List Expr → Bool
  | [], [] => true
  | c :: cs, e :: es => cs.isEmpty && es.isEmpty && chk sc true c e
  | _, _ => false
def chkSr (sc : Sc) : Sr → Expr → Expr → Bool
  | .seq c, _, e => chk sc false c e
  | .rng cs, _, .Call (.Name x _) es [] _ => decide (x = "range") && isGl sc x && decide (0 < cs.length) && decide (cs.length ≤ 3) && chkEs sc cs es
  | .enum c, .Tuple _ _ _, .Call (.Name x _) [e] [] _ => decide (x = "enumerate") && isGl sc x && noStar e && chk sc false c e
  | _, _, _ => false
end
end
/-- what a context must know -/
structure Ctx (G : Tb) (C : Nat → Addr) (cal : Nat → List O → CRes) (N : List Str) (sc : Sc) (X : Cx) : Prop where
  calm : X.calm = true
  hN : X.N = N
  nd : N.Nodup
  fn : X.fn = sc.f
  sc : X.env.scope = sc.s
  un : X.A.units + 64 < cLine
  blt : ∀ x : Str, x ∈ (["len", "list", "sum", "max", "min", "tuple", "range", "enumerate"] : List Str) → X.mg x = none
  fns : ∀ x f np io, G.fns.lookup x = some (f, np, io) → ∃ k a fd ps, FnOk X.prog X.w X.K X.mg X.base (L2.CX X.prog X.w) k a fd ps (spF C X.K (fun _ => X0) cal f np io) ∧ Room k X.A ∧ X.mg x = some (.ref a) ∧ PySem.W.keepIn X.K (.ref a) = true ∧ Binds X.K fd ps []
  gls : ∀ x d, G.gls.lookup x = some d → ∃ v u, X.mg x = some u ∧ RelV v u ∧ ∀ F, RepS C X.K F d v
end Cr
end

section
/-! The checker is right: expressions. -/
namespace Cr
open PySem L2

section
variable {G : Tb} {C : Nat → Addr} {cal : Nat → List O → CRes} {N : List Str} {sc : Sc} {X : Cx}
theorem Ctx.blk (c : Ctx G C cal N sc X) (s : Shared) (H : Hp) (scope : Scope) (A : Addr) (cl : List (Str × Addr)) (fp : List Addr) : Ctx G C cal N (sc.blk scope) (X.blk s H scope (compEnvC scope cl A X.env) fp) := by
  refine ⟨c.calm, c.hN, c.nd, rfl, ?_, c.un, c.blt, c.fns, c.gls⟩
  show _ = relS scope sc.s
  rw [← c.sc]
  rfl
theorem star_cons {e : Expr} {es : List Expr} (h : noStar e = true) (env : PySem.Env) : starEach (e :: es) env = (false, eval e env) :: starEach es env := by
  cases e <;> first | rfl | cases h
theorem star_any {pos : Pos} {env : PySem.Env} {es : List Expr} (hs : ∀ e ∈ es, noStar e = true) : (backTo pos (starEach es env)).any (·.1) = false := by
  unfold backTo
  rw [List.any_map]
  induction es with
  | nil => rfl
  | cons e es ih =>
    rw [star_cons (hs e (by simp))]
    simp only [List.any_cons, Function.comp, Bool.or_eq_false_iff]
    exact ⟨trivial, ih fun e he => hs e (by simp [he])⟩
theorem vis_of (c : Ctx G C cal N sc X) {x : Str} (h : visC sc x = true) : Vis X.env.scope x := by
  rw [c.sc]
  unfold visC at h
  split at h
  · rename_i e; exact .inl e
  · rename_i e; exact .inr (.inl e)
  · rename_i e; exact .inr (.inr e)
  · cases h
theorem gl_of (c : Ctx G C cal N sc X) {x : Str} (h : isGl sc x = true) : Gl X x := by
  have h := of_decide_eq_true h
  show X.env.scope.names.lookup x = _
  rw [c.sc]; exact h
theorem et_of {e : Expr} {ce : CE} (h : EV X C cal X0 e ce) (he : asIs e = true) (hc : ∀ l o r p, e ≠ .Compare l o r p) : ET X C cal X0 e ce := by
  refine pt_val h ?_
  intro w
  cases e <;> first | rfl | (exact absurd rfl (hc _ _ _ _)) | (cases he) | skip
  rename_i op x p
  cases op <;> first | rfl | cases he
theorem slot_of (c : Ctx G C cal N sc X) {i : Nat} {x : Str} (h : slotC N sc i x = true) : X.N[i]? = some x ∧ Vis X.env.scope x ∧ (x == ("__debug__" : Str)) = false ∧ (x == ("__classdict__" : Str)) = false := by
  unfold slotC nameC at h
  simp only [Bool.and_eq_true, decide_eq_true_eq, Bool.not_eq_true'] at h
  exact ⟨by rw [c.hN]; exact h.1.1, vis_of c h.1.2, h.2.1, h.2.2⟩
theorem lit_ok {d : D} {e : Expr} (h : litC e d = true) : EV X C cal X0 e (.lit d) := by
  unfold litC at h
  split at h
  · rename_i i _ _ j
    have := of_decide_eq_true h
    subst this
    exact s_pd (d := .int i) pe_int (fun _ => by simp only [ev]) (fun _ => by simp only [RepS])
  · rename_i x _ _ j
    simp only [Bool.and_eq_true, decide_eq_true_eq] at h
    obtain ⟨⟨rfl, h1⟩, h2⟩ := h
    exact s_pd (d := .str x) pe_str (fun _ => by simp only [ev]) (fun _ => by simp only [RepS]; exact ⟨trivial, h1, h2⟩)
  · rename_i b _ _ j
    have := eq_of_beq h
    subst this
    exact s_pd (d := .bl b) pe_bl (fun _ => by simp only [ev]) (fun _ => by simp only [RepS])
  · exact s_pd (d := .non) pe_non (fun _ => by simp only [ev]) (fun _ => by simp only [RepS])
  · rename_i i _ _ _ j
    have := of_decide_eq_true h
    subst this
    exact s_pd (d := .int (-i)) s_neg (fun _ => by simp only [ev]) (fun _ => by simp only [RepS])
  · cases h
theorem lit_as {d : D} {e : Expr} (h : litC e d = true) : asIs e = true ∧ ∀ l o r p, e ≠ .Compare l o r p := by
  unfold litC at h
  split at h <;> first | exact ⟨rfl, fun _ _ _ _ z => by cases z⟩ | cases h
theorem both {e : Expr} {ce : CE} {t : Bool} (h : EV X C cal X0 e ce) (he : asIs e = true) (hc : ∀ l o r p, e ≠ .Compare l o r p) : (t = false → EV X C cal X0 e ce) ∧ (t = true → ET X C cal X0 e ce) := ⟨fun _ => h, fun _ => et_of h he hc⟩
theorem pa_of : ∀ {cs : List CE} {es : List Expr}, EVL (EV X C cal X0) cs es → (∀ e ∈ es, noStar e = true) → PA X es (tVs C X.K cal X0 cs)
  | [], [], _, _ => a_nil
  | c :: cs, e :: es, h, hs => a_cons (star_cons (hs e (by simp)) _) h.1 (pa_of h.2 fun e he => hs e (by simp [he]))
  | [], _ :: _, h, _ => h.elim
  | _ :: _, [], h, _ => h.elim
theorem local_of (c : Ctx G C cal N sc X) {i : Nat} {x : Str} (h : localC N sc i x = true) : X.N.Nodup ∧ X.N[i]? = some x ∧ Loc X.env.scope x ∧ (X.fn x = true ∨ X.env.scope.names.lookup x = some .local) := by
  unfold localC at h
  simp only [Bool.and_eq_true, Bool.or_eq_true, decide_eq_true_eq] at h
  refine ⟨by rw [c.hN]; exact c.nd, by rw [c.hN]; exact h.1, ?_⟩
  rw [c.sc]
  rcases h.2 with z | ⟨z, z2⟩
  · exact ⟨.inl z, .inr z⟩
  · exact ⟨.inr z, .inl (by rw [c.fn]; exact z2)⟩
theorem tg_ok : ∀ (t : Tg) {e : Expr}, Ctx G C cal N sc X → chkTg N sc t e = true → PG X e (tTg C X.K t) ∧ PG X e (tTgO C X.K t) := fun t => by
  suffices h : ∀ n : Nat, (∀ (t : Tg) (e : Expr), sizeOf t < n → Ctx G C cal N sc X → chkTg N sc t e = true → PG X e (tTg C X.K t) ∧ PG X e (tTgO C X.K t)) ∧
      (∀ (ts : List Tg) (es : List Expr), sizeOf ts < n → Ctx G C cal N sc X → chkTgs N sc ts es = true → PGs X es (tTgs C X.K ts) ∧ PGs X es (tTgOs C X.K ts) ∧ (assignEach es X.env).length = ts.length ∧ (assignEach es X.env).findIdx? (·.1) = none) from
    fun {e} => (h (sizeOf t + 1)).1 t e (Nat.lt_succ_self _)
  intro n
  induction n with
  | zero => exact ⟨fun _ _ h => absurd h (Nat.not_lt_zero _), fun _ _ h => absurd h (Nat.not_lt_zero _)⟩
  | succ n ih =>
    refine ⟨fun t e hs c h => ?_, fun ts es hs c h => ?_⟩
    · unfold chkTg at h
      split at h
      · obtain ⟨hN, hi, hx, hf⟩ := local_of c h
        exact ⟨g_name hN hi hx hf, go_name hN hi hx hf⟩
      · obtain ⟨a, b, l, f⟩ := ih.2 _ _ (by simp at hs; omega) c h
        exact ⟨g_tup c.calm a l f, go_tup c.calm b l f⟩
      · cases h
    · unfold chkTgs at h
      split at h
      · exact ⟨g_nil, go_nil, rfl, rfl⟩
      · rename_i t ts e es
        simp only [Bool.and_eq_true] at h
        obtain ⟨a1, b1⟩ := ih.1 t e (by simp at hs; omega) c h.1.2
        obtain ⟨a2, b2, l2, f2⟩ := ih.2 ts es (by simp at hs; omega) c h.2
        have hst : assignEach (e :: es) X.env = (false, assign e X.env) :: assignEach es X.env := by
          have := h.1.1
          cases e <;> first | rfl | cases this
        refine ⟨g_cons a1 a2 (by rw [hst]; rfl), go_cons b1 b2 (by rw [hst]; rfl), by rw [hst]; simp [l2], ?_⟩
        rw [hst, List.findIdx?_cons]
        simp [f2]
      · cases h
theorem fold_of {e : Expr} (h : noSet e = true) (env : PySem.Env) : ∀ x, foldedSetIterable e env x = pure x := by
  intro x
  cases e <;> first | rfl | cases h
theorem plain_of {e : Expr} (h : noSlice e = true) : PlainIx e := by
  intro o i
  cases e <;> first | rfl | cases h
theorem call_ok (c : Ctx G C cal N sc X) {f np : Nat} {io : List Nat} {cs : List CE} {x : Str} {p pos : Pos} {e : Expr} {es : List Expr} (hx : G.fns.lookup x = some (f, np, io)) (hnp : cs.length = np) (hg : isGl sc x = true) (hd : (x == ("__debug__" : Str)) = false)
    (ha : PA X (e :: es) (tVs C X.K cal X0 cs)) (hs : ∀ y ∈ e :: es, noStar y = true) : EV X C cal X0 (.Call (.Name x p) (e :: es) [] pos) (.call f io cs) := by
  obtain ⟨k, a, fd, ps, F, hr, hm, hk, hb⟩ := c.fns x f np io hx
  refine PE.imp (pe_call F hr (gl_of c hg) hm hk hb .nil passL ha hd (star_cons (hs e (by simp)) _) (star_any fun y hy => hs y (by simp [hy]))) fun σ H Q hq => ?_
  exact call_core (E := E0) (xe := fun _ => X0) hnp hq
theorem glob_ok (c : Ctx G C cal N sc X) {x : Str} {d d' : D} {p : Pos} (hg : isGl sc x = true) (hd : nameC x = true) (hl : G.gls.lookup x = some d') (he : eqS d d' = true) : EV X C cal X0 (.Name x p) (.glob x d) := by
  obtain ⟨v, u, hm, r, rs⟩ := c.gls x d' hl
  rw [eqS_eq d d' he]
  unfold nameC at hd
  simp only [Bool.and_eq_true, Bool.not_eq_true'] at hd
  exact s_pd (pe_glob (gl_of c hg) hm r hd.1) (fun _ => by simp only [ev]) rs
theorem bi_ok (c : Ctx G C cal N sc X) {b : Bi} {cs : List CE} {x : Str} {p pos : Pos} {es : List Expr} (hx : x = b.name) (hn : es.isEmpty = false) (hg : isGl sc x = true) (ha : PA X es (tVs C X.K cal X0 cs)) (hs : ∀ y ∈ es, noStar y = true) (hc : cs.length = es.length) :
    EV X C cal X0 (.Call (.Name x p) es [] pos) (.bi b cs) := by
  cases es with
  | nil => cases hn
  | cons e es =>
    cases cs with
    | nil => cases hc
    | cons k cs =>
      subst hx
      exact s_bi c.calm (gl_of c hg) (c.blt _ (by cases b <;> simp [Bi.name])) ha (star_cons (hs e (by simp)) _) (star_any fun y hy => hs y (by simp [hy]))
mutual
theorem chk_ok (G : Tb) (C : Nat → Addr) (cal : Nat → List O → CRes) (N : List Str) : ∀ (ce : CE) (t : Bool) (sc : Sc) (X : Cx) (e : Expr), Ctx G C cal N sc X → chk G N sc t ce e = true → (t = false → EV X C cal X0 e ce) ∧ (t = true → ET X C cal X0 e ce)
  | .lit d, t, sc, X, e, c, h => by
    have h : litC e d = true := by unfold chk at h; exact h
    exact both (lit_ok h) (lit_as h).1 (lit_as h).2
  | .glob g d, t, sc, X, e, c, h => by
    unfold chk at h
    split at h <;> rename_i e1 <;> first | cases e1 | cases h
    rename_i t x p
    simp only [Bool.and_eq_true, decide_eq_true_eq] at h
    obtain ⟨⟨⟨rfl, h1⟩, h2⟩, h3⟩ := h
    split at h3
    · rename_i d' hl
      exact both (glob_ok c h1 h2 hl h3) rfl (fun _ _ _ _ z => by cases z)
    · cases h3
  | .var i, t, sc, X, e, c, h => by
    unfold chk at h
    split at h <;> rename_i e1 <;> first | cases e1 | cases h
    obtain ⟨a1, a2, a3, a4⟩ := slot_of c h
    exact both (s_var a1 a2 a3 a4) rfl (fun _ _ _ _ z => by cases z)
  | .io i, t, sc, X, e, c, h => by
    unfold chk at h
    split at h <;> rename_i e1 <;> first | cases e1 | cases h
    obtain ⟨a1, a2, a3, a4⟩ := slot_of c h
    exact both (s_io a1 a2 a3 a4) rfl (fun _ _ _ _ z => by cases z)
  | .mv i, t, sc, X, e, c, h => by
    unfold chk at h
    split at h <;> rename_i e1 <;> first | cases e1 | cases h
    obtain ⟨a1, a2, a3, a4⟩ := slot_of c h
    exact both (s_mv a1 a2 a3 a4) rfl (fun _ _ _ _ z => by cases z)
  | .fz i, t, sc, X, e, c, h => by
    unfold chk at h
    split at h <;> rename_i e1 <;> first | cases e1 | cases h
    obtain ⟨a1, a2, a3, a4⟩ := slot_of c h
    exact both (s_fz a1 a2 a3 a4) rfl (fun _ _ _ _ z => by cases z)
  | .tup cs, t, sc, X, e, c, h => by
    unfold chk at h
    split at h <;> rename_i e1 <;> first | cases e1 | cases h
    have r := chkEs_ok G C cal N cs sc X _ c h
    exact both (s_tup (pa_of r.1 r.2.1)) rfl (fun _ _ _ _ z => by cases z)
  | .lst cs, t, sc, X, e, c, h => by
    unfold chk at h
    split at h <;> rename_i e1 <;> first | cases e1 | cases h
    have r := chkEs_ok G C cal N cs sc X _ c h
    exact both (s_lst (pa_of r.1 r.2.1)) rfl (fun _ _ _ _ z => by cases z)
  | .bin op a b, t, sc, X, e, c, h => by
    unfold chk at h
    split at h <;> rename_i e1 <;> first | cases e1 | cases h
    simp only [Bool.and_eq_true, decide_eq_true_eq] at h
    obtain ⟨⟨rfl, h1⟩, h2⟩ := h
    exact both (s_bin ((chk_ok G C cal N a false sc X _ c h1).1 rfl) ((chk_ok G C cal N b false sc X _ c h2).1 rfl)) rfl (fun _ _ _ _ z => by cases z)
  | .cmp op a b, t, sc, X, e, c, h => by
    unfold chk at h
    split at h <;> rename_i e1 <;> first | cases e1 | cases h
    simp only [Bool.and_eq_true, decide_eq_true_eq, Bool.not_eq_true'] at h
    obtain ⟨⟨⟨rfl, h0⟩, h1⟩, h2⟩ := h
    have r := s_cmp (pos := default) c.un h0 ((chk_ok G C cal N a false sc X _ c h1).1 rfl) ((chk_ok G C cal N b false sc X _ c h2).1 rfl)
    exact ⟨fun _ => (s_cmp c.un h0 ((chk_ok G C cal N a false sc X _ c h1).1 rfl) ((chk_ok G C cal N b false sc X _ c h2).1 rfl)).1, fun _ => (s_cmp c.un h0 ((chk_ok G C cal N a false sc X _ c h1).1 rfl) ((chk_ok G C cal N b false sc X _ c h2).1 rfl)).2⟩
  | .cmp2 o1 o2 a b k, t, sc, X, e, c, h => by
    unfold chk at h
    split at h <;> rename_i e1 <;> first | cases e1 | cases h
    simp only [Bool.and_eq_true, decide_eq_true_eq, Bool.not_eq_true'] at h
    obtain ⟨⟨⟨⟨⟨rfl, rfl⟩, h0⟩, h1⟩, h2⟩, h3⟩ := h
    have ra := (chk_ok G C cal N a false sc X _ c h1).1 rfl
    have rb := (chk_ok G C cal N b false sc X _ c h2).1 rfl
    have rc := (chk_ok G C cal N k false sc X _ c h3).1 rfl
    exact ⟨fun _ => (s_cmp2 c.un h0 ra rb rc).1, fun _ => (s_cmp2 c.un h0 ra rb rc).2⟩
  | .and cs, t, sc, X, e, c, h => by
    unfold chk at h
    split at h <;> rename_i e1 <;> first | cases e1 | cases h
    · simp only [Bool.and_eq_true, Bool.not_eq_true', List.isEmpty_eq_false_iff] at h
      exact ⟨fun _ => s_and h.1 (chkEs_ok G C cal N cs sc X _ c h.2).1, fun z => by cases z⟩
    · simp only [Bool.and_eq_true, Bool.not_eq_true', List.isEmpty_eq_false_iff] at h
      exact ⟨(fun z => by cases z), fun _ => s_andt h.1 (chkTs_ok G C cal N cs sc X _ c h.2)⟩
  | .or cs, t, sc, X, e, c, h => by
    unfold chk at h
    split at h <;> rename_i e1 <;> first | cases e1 | cases h
    · simp only [Bool.and_eq_true, Bool.not_eq_true', List.isEmpty_eq_false_iff] at h
      exact ⟨fun _ => s_or h.1 (chkEs_ok G C cal N cs sc X _ c h.2).1, fun z => by cases z⟩
    · simp only [Bool.and_eq_true, Bool.not_eq_true', List.isEmpty_eq_false_iff] at h
      exact ⟨(fun z => by cases z), fun _ => s_ort h.1 (chkTs_ok G C cal N cs sc X _ c h.2)⟩
  | .not a, t, sc, X, e, c, h => by
    unfold chk at h
    split at h <;> rename_i e1 <;> first | cases e1 | cases h
    have r := chk_ok G C cal N a _ sc X _ c h
    exact ⟨fun z => s_not (r.1 z), fun z => s_nott (r.2 z)⟩
  | .ife k a b, t, sc, X, e, c, h => by
    unfold chk at h
    split at h <;> rename_i e1 <;> first | cases e1 | cases h
    simp only [Bool.and_eq_true] at h
    obtain ⟨⟨h1, h2⟩, h3⟩ := h
    exact ⟨fun _ => s_ife ((chk_ok G C cal N k true sc X _ c h1).2 rfl) ((chk_ok G C cal N a false sc X _ c h2).1 rfl) ((chk_ok G C cal N b false sc X _ c h3).1 rfl), fun z => by cases z⟩
  | .sub a i, t, sc, X, e, c, h => by
    unfold chk at h
    split at h <;> rename_i e1 <;> first | cases e1 | cases h
    simp only [Bool.and_eq_true] at h
    obtain ⟨⟨h0, h1⟩, h2⟩ := h
    exact both (s_sub (plain_of h0) ((chk_ok G C cal N a false sc X _ c h1).1 rfl) ((chk_ok G C cal N i false sc X _ c h2).1 rfl)) rfl (fun _ _ _ _ z => by cases z)
  | .slice a lo hi, t, sc, X, e, c, h => by
    unfold chk at h
    split at h <;> rename_i e1 <;> first | cases e1 | cases h
    simp only [Bool.and_eq_true] at h
    obtain ⟨⟨h1, h2⟩, h3⟩ := h
    exact both (s_slice ((chk_ok G C cal N a false sc X _ c h1).1 rfl) (chkO_ok G C cal N lo sc X _ c h2) (chkO_ok G C cal N hi sc X _ c h3)) rfl (fun _ _ _ _ z => by cases z)
  | .call f io cs, t, sc, X, e, c, h => by
    unfold chk at h
    split at h <;> rename_i e1 <;> first | cases e1 | cases h
    rename_i x p es pos
    simp only [Bool.and_eq_true, Bool.not_eq_true', List.isEmpty_eq_false_iff] at h
    obtain ⟨⟨⟨⟨h1, h2⟩, h3⟩, h4⟩, h5⟩ := h
    split at h1
    · rename_i f' np io' hl
      simp only [Bool.and_eq_true, decide_eq_true_eq] at h1
      obtain ⟨⟨rfl, rfl⟩, hnp⟩ := h1
      have r := chkEs_ok G C cal N cs sc X es c h5
      unfold nameC at h4
      simp only [Bool.and_eq_true, Bool.not_eq_true'] at h4
      cases es with
      | nil => exact absurd rfl h2
      | cons e0 es => exact both (call_ok c hl hnp h3 h4.1 (pa_of r.1 r.2.1) r.2.1) rfl (fun _ _ _ _ z => by cases z)
    · cases h1
  | .bi b cs, t, sc, X, e, c, h => by
    unfold chk at h
    split at h <;> rename_i e1 <;> first | cases e1 | cases h
    simp only [Bool.and_eq_true, Bool.not_eq_true', decide_eq_true_eq] at h
    obtain ⟨⟨⟨h1, h2⟩, h3⟩, h4⟩ := h
    have r := chkEs_ok G C cal N cs sc X _ c h4
    exact both (bi_ok c h1 h2 h3 (pa_of r.1 r.2.1) r.2.1 r.2.2) rfl (fun _ _ _ _ z => by cases z)
  | .lc own t' src cs x, t, sc, X, e, c, h => by
    unfold chk at h
    split at h <;> rename_i e1 <;> first | cases e1 | cases h
    rename_i elt tg iter ifs k scope pos
    simp only [Bool.and_eq_true, decide_eq_true_eq] at h
    obtain ⟨⟨⟨⟨⟨⟨⟨rfl, h1⟩, h2⟩, h3⟩, h4⟩, h5⟩, h6⟩, h7⟩ := h
    have ok : BlkOk X.N X.env.scope scope (ownP N own) := by
      rw [c.hN, c.sc]
      exact blkOk_by h1
    have own2 : (ownP N own).map (·.2) = own := by
      unfold ownP
      rw [List.map_map]
      exact List.map_id own
    have cc := chkCs_ok G C cal N cs (sc.blk scope) ifs h4
    have main := s_lc (pos := pos) (t := t') c.calm (by rw [c.hN]; exact c.nd) (chkSr_ok G C cal N src sc X tg iter c h2) ok (fun s H A cl fp => (tg_ok t' (c.blk s H scope A cl fp) h3).1)
      (fun s H A cl fp => cc.2 _ (c.blk s H scope A cl fp)) (fun s H A cl fp => (chk_ok G C cal N x false (sc.blk scope) _ elt (c.blk s H scope A cl fp) h5).1 rfl) cc.1 (by rw [own2]; exact h6) (fold_of h7 _)
    rw [own2] at main
    exact both main rfl (fun _ _ _ _ z => by cases z)
  | .listR (.rng cs), t, sc, X, e, c, h => by
    unfold chk at h
    split at h <;> rename_i e1 <;> first | cases e1 | cases h
    simp only [Bool.and_eq_true, Bool.not_eq_true', decide_eq_true_eq] at h
    obtain ⟨⟨⟨⟨⟨rfl, rfl⟩, h1⟩, h2⟩, h3⟩, h4⟩ := h
    rename_i p p2 es pos2 pos
    have r := chkEs_ok G C cal N cs sc X es c h4
    cases es with
    | nil => cases h3
    | cons e0 es =>
      exact both (s_listR c.calm (gl_of c h2) (c.blt _ (by simp)) (gl_of c h1) (c.blt _ (by simp)) (pa_of r.1 r.2.1) (star_cons (r.2.1 e0 (by simp)) _) (star_any fun y hy => r.2.1 y (by simp [hy])) rfl) rfl (fun _ _ _ _ z => by cases z)
  | .listR (.seq _), t, sc, X, e, c, h => by
    unfold chk at h
    cases h
  | .listR (.enum _), t, sc, X, e, c, h => by
    unfold chk at h
    cases h
theorem chkEs_ok (G : Tb) (C : Nat → Addr) (cal : Nat → List O → CRes) (N : List Str) : ∀ (cs : List CE) (sc : Sc) (X : Cx) (es : List Expr), Ctx G C cal N sc X → chkEs G N sc cs es = true → EVL (EV X C cal X0) cs es ∧ (∀ e ∈ es, noStar e = true) ∧ cs.length = es.length
  | [], sc, X, [], c, h => ⟨trivial, (fun e he => by cases he), rfl⟩
  | [], sc, X, _ :: _, c, h => by simp [chkEs] at h
  | _ :: _, sc, X, [], c, h => by simp [chkEs] at h
  | k :: cs, sc, X, e :: es, c, h => by
    simp only [chkEs, Bool.and_eq_true] at h
    have r := chkEs_ok G C cal N cs sc X es c h.2
    refine ⟨⟨(chk_ok G C cal N k false sc X e c h.1.2).1 rfl, r.1⟩, fun y hy => ?_, by simp [r.2.2]⟩
    rcases List.mem_cons.mp hy with z | z
    · rw [z]; exact h.1.1
    · exact r.2.1 y z
theorem chkTs_ok (G : Tb) (C : Nat → Addr) (cal : Nat → List O → CRes) (N : List Str) : ∀ (cs : List CE) (sc : Sc) (X : Cx) (es : List Expr), Ctx G C cal N sc X → chkTs G N sc cs es = true → EVL (ET X C cal X0) cs es
  | [], sc, X, [], c, h => trivial
  | [], sc, X, _ :: _, c, h => by simp [chkTs] at h
  | _ :: _, sc, X, [], c, h => by simp [chkTs] at h
  | k :: cs, sc, X, e :: es, c, h => by
    simp only [chkTs, Bool.and_eq_true] at h
    exact ⟨(chk_ok G C cal N k true sc X e c h.1).2 rfl, chkTs_ok G C cal N cs sc X es c h.2⟩
theorem chkO_ok (G : Tb) (C : Nat → Addr) (cal : Nat → List O → CRes) (N : List Str) : ∀ (k : Option CE) (sc : Sc) (X : Cx) (e : Option Expr), Ctx G C cal N sc X → chkO G N sc k e = true → PVO X C cal X0 e k
  | none, sc, X, none, c, h => trivial
  | none, sc, X, some _, c, h => by simp [chkO] at h
  | some _, sc, X, none, c, h => by simp [chkO] at h
  | some k, sc, X, some e, c, h => by
    simp only [chkO] at h
    exact (chk_ok G C cal N k false sc X e c h).1 rfl
theorem chkCs_ok (G : Tb) (C : Nat → Addr) (cal : Nat → List O → CRes) (N : List Str) : ∀ (cs : List CE) (sc : Sc) (es : List Expr), chkCs G N sc cs es = true → cs.length ≤ 1 ∧ ∀ X, Ctx G C cal N sc X → PTs X es (tCs C X.K cal X0 cs)
  | [], sc, [], h => ⟨Nat.zero_le _, fun X c => pts_nil⟩
  | [], sc, _ :: _, h => by simp [chkCs] at h
  | _ :: _, sc, [], h => by simp [chkCs] at h
  | [k], sc, e :: es, h => by
    simp only [chkCs, Bool.and_eq_true, List.isEmpty_iff] at h
    obtain ⟨⟨_, rfl⟩, h⟩ := h
    exact ⟨Nat.le_refl _, fun X c => pts_one ((chk_ok G C cal N k true sc X e c h).2 rfl)⟩
  | k :: _ :: _, sc, e :: es, h => by simp [chkCs] at h
theorem chkSr_ok (G : Tb) (C : Nat → Addr) (cal : Nat → List O → CRes) (N : List Str) : ∀ (s : Sr) (sc : Sc) (X : Cx) (tg e : Expr), Ctx G C cal N sc X → chkSr G N sc s tg e = true → PI X tg e (tSr C X.K cal X0 s)
  | .seq k, sc, X, tg, e, c, h => by
    have h : chk G N sc false k e = true := by unfold chkSr at h; exact h
    exact sr_seq ((chk_ok G C cal N k false sc X e c h).1 rfl)
  | .rng cs, sc, X, tg, e, c, h => by
    unfold chkSr at h
    split at h <;> rename_i e1 <;> first | cases e1 | cases h
    rename_i x p es pos
    simp only [Bool.and_eq_true, decide_eq_true_eq] at h
    obtain ⟨⟨⟨⟨rfl, h1⟩, h2⟩, h3⟩, h4⟩ := h
    have r := chkEs_ok G C cal N cs sc X es c h4
    have pa := pa_of r.1 r.2.1
    have hm := c.blt "range" (by simp)
    have hg := gl_of c h1
    match es, r.2.2, r.2.1, pa with
    | [], hl, hs, pa => exact absurd hl (by simp only [List.length_nil]; omega)
    | [a], hl, hs, pa => exact sr_rng1 (by simpa using hl) hg hm pa (star_cons (hs a (by simp)) _)
    | [a, b], hl, hs, pa =>
      refine sr_rng2 (by simpa using hl) hg hm pa ?_ (star_cons (hs b (by simp)) _)
      rw [star_cons (hs a (by simp)), star_cons (hs b (by simp))]
      rfl
    | [a, b, k], hl, hs, pa => exact sr_rng3 (by simpa using hl) hg hm pa (star_cons (hs a (by simp)) _) (star_any fun y hy => hs y (List.mem_cons_of_mem _ hy))
    | _ :: _ :: _ :: _ :: _, hl, hs, pa => exact absurd hl (by simp; omega)
  | .enum k, sc, X, tg, e, c, h => by
    unfold chkSr at h
    split at h <;> rename_i e1 <;> first | cases e1 | cases h
    simp only [Bool.and_eq_true, decide_eq_true_eq] at h
    obtain ⟨⟨⟨rfl, h1⟩, h2⟩, h3⟩ := h
    exact sr_enum (gl_of c h1) (c.blt _ (by simp)) ((chk_ok G C cal N k false sc X _ c h3).1 rfl) (star_cons h2 _)
end
end
end Cr
end

section
/-! The checker: statements. -/
namespace Cr
open PySem L2

def nmL (sc : Scope) : Expr → Bool
  | .Name x _ => decide (sc.names.lookup x = some .local)
  | _ => false
def noSwap (sc : Scope) (ts : List Expr) : Expr → Bool
  | .Tuple _ _ _ => ts.any fun t => !nmL sc t
  | _ => true
section
variable (G : Tb) (N : List Str) (pin : List Nat)
def lcC (sc : Sc) (y : Str) (py : Pos) : Expr → Bool
  | .ListComp _ _ scope pos => py.line == pos.line && !(scope.names.any fun (n, k) => n == y && (k == .local || k == .cell))
  | _ => false
mutual
def chS (sc : Sc) : CS → Stmt → Bool
  | .pass, .Expr (.Constant (.str _) _ _) _ => true
  | .pass, .Pass _ => true
  | .expr c, .Expr e _ => noComp e && chk G N sc false c e
  | .set i (.lc own t src cs x), .Assign [.Name y py] (.ListComp elt gs scope pos) _ => localC N sc i y && decide (i ∉ pin) && (!decide (sc.s.names.lookup y = some .local) || lcC sc y py (.ListComp elt gs scope pos)) && chk G N sc false (.lc own t src cs x) (.ListComp elt gs scope pos)
  | .set i c, .Assign [.Name x _] e _ => localC N sc i x && decide (i ∉ pin) && noComp e && chk G N sc false c e
  | .par i j a b, .Assign [.Tuple [.Name x px, .Name y py] _ _] (.Tuple [ea, eb] _ _) _ => localC N sc i x && localC N sc j y && decide (sc.s.names.lookup x = some .local) && decide (sc.s.names.lookup y = some .local) && decide (i ≠ j) && decide (x ≠ y) && decide (i ∉ pin) && decide (j ∉ pin) && px.line == py.line && noStar ea && noStar eb &&
      !([ea, eb].all (foldedForSure 8)) && !([ea, eb].all (constantsAlone 8)) && chk G N sc false a ea && chk G N sc false b eb
  | .unp t c, .Assign [.Tuple es k p] e _ => noSwap sc.s es e && noComp e && chkTg N sc t (.Tuple es k p) && decide (∀ i ∈ t.slots, i ∉ pin) && chk G N sc false c e
  | .seti i none ci c, .Assign [.Subscript (.Name x _) ix _] e _ => slotC N sc i x && noSlice ix && noComp e && chk G N sc false ci ix && chk G N sc false c e
  | .seti i (some cp) ci c, .Assign [.Subscript (.Subscript (.Name x _) ip _) ix _] e _ => slotC N sc i x && noSlice ip && noSlice ix && noComp e && chk G N sc false cp ip && chk G N sc false ci ix && chk G N sc false c e
  | .augi i op ci c, .AugAssign (.Subscript (.Name x _) ix _) op' e _ => slotC N sc i x && noSlice ix && decide (op = op') && (decide (op = .Add) || decide (op = .Sub)) && chk G N sc false ci ix && chk G N sc false c e
  | .aug i op c, .AugAssign (.Name x _) op' e _ => localC N sc i x && decide (i ∉ pin) && decide (op = op') && (decide (op = .Add) || decide (op = .Sub)) && chk G N sc false c e
  | .if_ c a b, .If e as bs _ => chk G N sc true c e && chSs sc a as && chSs sc b bs
  | .while_ c b, .While e bs [] _ => chk G N sc true c e && chSs sc b bs
  | .for_ t s b, .For tg it bs [] _ => chkSr G N sc s tg it && chkTg N sc t tg && decide (∀ i ∈ t.slots, i ∉ pin) && noSet it && chSs sc b bs
  | .ret c, .Return (some e) _ => chk G N sc false c e
  | .brk, .Break _ => true
  | .cont, .Continue _ => true
  | .never, _ => true
  | _, _ => false
def chSs (sc : Sc) : List CS → List Stmt → Bool
  | [], [] => true
  | c :: cs, s :: ss => chS sc c s && chSs sc cs ss
  | _, _ => false
end
end
section
variable {G : Tb} {C : Nat → Addr} {cal : Nat → List O → CRes} {N : List Str} {sc : Sc} {X : Cx}
theorem swaps_of {e : Expr} (h : noComp e = true) (t : Option Expr) (l : Nat) (env : PySem.Env) : swapsWith e t l env = pure false := by
  cases e <;> first | rfl | cases h
theorem loc_of (c : Ctx G C cal N sc X) {x : Str} (h : decide (sc.s.names.lookup x = some .local) = true) : X.env.scope.names.lookup x = some .local := by
  rw [c.sc]; exact of_decide_eq_true h
theorem sw_false {elt : Expr} {gs : List Comprehension} {scope : Scope} {pos py : Pos} {y : Str} {l : Nat} {env : PySem.Env} (hy : env.scope.names.lookup y ≠ some .local) : swapsWith (.ListComp elt gs scope pos) (some (.Name y py)) l env = pure false := by
  have ky : (env.kindOf y == some .local) = false := by
    rw [beq_eq_false_iff_ne]
    exact hy
  unfold swapsWith
  simp only [ky, Bool.and_false, Bool.false_and]
theorem few {α β : Type} (f : α → Option β) : ∀ {l : List α}, (∃ a ∈ l, f a = none) → (l.filterMap f).length ≠ l.length
  | [], h => by obtain ⟨a, ha, _⟩ := h; cases ha
  | a :: l, h => by
    have hle : (l.filterMap f).length ≤ l.length := List.length_filterMap_le f l
    rw [List.filterMap_cons]
    cases e : f a with
    | none => simp only [List.length_cons]; omega
    | some b =>
      obtain ⟨a', ha, e'⟩ := h
      rcases List.mem_cons.mp ha with rfl | ha
      · rw [e] at e'; cases e'
      · have := few f ⟨a', ha, e'⟩
        simp only [List.length_cons]
        omega
theorem swapped_of {env : PySem.Env} {x y : Str} {px py pt pt2 : Pos} {kt k2 : Nat} {a b : Expr} (hk : env.scope.kind = .function) (hx : env.scope.names.lookup x = some .local) (hy : env.scope.names.lookup y = some .local) (hxy : x ≠ y) (hl : (px.line == py.line) = true)
    (ha : noStar a = true) (hb : noStar b = true) (h1 : ([a, b].all (foldedForSure 8)) = false) (h2 : ([a, b].all (constantsAlone 8)) = false) :
    swappedStores [.Tuple [.Name x px, .Name y py] kt pt] (.Tuple [a, b] k2 pt2) env = pure (some [x, y]) := by
  have kx : env.kindOf x = some .local := hx
  have ky : env.kindOf y = some .local := hy
  have kb : env.blockKind = .function := by unfold Env.blockKind; rw [hk]; rfl
  have one : ∀ e : Expr, noStar e = true → ¬ ((match e with | .Starred .. => true | _ => false : Bool) = true) := by
    intro e he z
    cases e <;> first | (cases he; done) | (cases z; done)
  have hne : (y == x) = false := by
    rw [beq_eq_false_iff_ne]
    exact Ne.symm hxy
  have hll : (py.line == px.line) = true := by
    rw [beq_iff_eq] at hl ⊢
    exact hl.symm
  unfold swappedStores
  simp only [kb, h1, h2, kx, ky, Expr.pos, hl, hll, List.filterMap, List.head?, Option.map, Option.getD]
  simp [List.eraseDups, List.eraseDupsBy, List.eraseDupsBy.loop, hne]
  intro z
  rcases z with z | z
  · exact absurd z (one a ha)
  · exact absurd z (one b hb)
theorem sole_of {e t : Expr} (h : noComp e = true) (l : Nat) (env : PySem.Env) : swapsWithSole [t] e l env = pure false := swaps_of h (some t) l env
theorem stores_tup {e : Expr} {es : List Expr} {k : Nat} {p : Pos} {env : PySem.Env} (h : noSwap env.scope es e = true) : swappedStores [.Tuple es k p] e env = pure none := by
  cases e with
  | Tuple vs k2 p2 =>
    simp only [noSwap, List.any_eq_true, Bool.not_eq_true'] at h
    obtain ⟨t, ht, hn⟩ := h
    unfold swappedStores
    dsimp only
    split
    · rfl
    · split
      · rfl
      · split
        · rfl
        · rename_i h3
          refine absurd ?_ h3
          simp only [Bool.or_eq_true, bne_iff_ne]
          refine .inl (few _ ⟨t, ht, ?_⟩)
          cases t with
          | Name x px =>
            simp only [nmL, decide_eq_false_iff_not] at hn
            have : (env.kindOf x == some .local) = false := by
              rw [beq_eq_false_iff_ne]; exact hn
            simp [this]
          | _ => rfl
  | _ => rfl
theorem stores_sub {e o i : Expr} {p : Pos} {env : PySem.Env} : swappedStores [.Subscript o i p] e env = pure none := by
  cases e <;> rfl
theorem asg_sub {o i : Expr} {p : Pos} {env : PySem.Env} (h : noSlice i = true) : ∀ v, assign (.Subscript o i p) env v = (do
      let ov ← holding [v] (eval o env)
      let iv ← holding [v, ov] (eval i env)
      standAt p
      holding [v, ov, iv] (setItem ov iv v)
      release [v, ov, iv] []) := by
  intro v
  cases i <;> first | rfl | cases h
theorem aug_sub {i : Expr} (h : noSlice i = true) : ∀ ov iv new, augStore i ov iv new = (do holding [new, ov, iv] (setItem ov iv new); release [new, ov, iv] []; pure .next) := by
  intro ov iv new
  cases i <;> first | rfl | cases h
mutual
theorem chS_ok (G : Tb) (C : Nat → Addr) (cal : Nat → List O → CRes) (N : List Str) (pin : List Nat) (W : Nat) (sc : Sc) (X : Cx) (c : Ctx G C cal N sc X) (hf : sc.s.kind = .function) (hp : PassesOwn (model X.prog X.w) X.A X.env X.xe) : ∀ (k : CS) (s : Stmt), chS G N pin sc k s = true → PS X s (tS C X.K cal X0 pin W k)
  | .pass, s, h => by
    unfold chS at h
    split at h <;> rename_i e1 <;> first | cases e1 | cases h
    · exact b_doc
    · exact b_pass
  | .expr k, s, h => by
    unfold chS at h
    split at h <;> rename_i e1 <;> first | cases e1 | cases h
    simp only [Bool.and_eq_true] at h
    exact b_expr ((chk_ok G C cal N k false sc X _ c h.2).1 rfl) (swaps_of h.1 _ _ _)
  | .set i k, s, h => by
    unfold chS at h
    split at h <;> rename_i e1 <;> first | cases e1 | cases h
    · rename_i own t src cs x y py elt gs scope pos spos
      simp only [Bool.and_eq_true, decide_eq_true_eq] at h
      obtain ⟨⟨⟨h1, h2⟩, h3⟩, h4⟩ := h
      obtain ⟨hN, hi, hL, hfn⟩ := local_of c h1
      by_cases hloc : sc.s.names.lookup y = some .local
      rotate_left
      · exact b_set hN hi hL hfn h2 ((chk_ok G C cal N _ false sc X _ c h4).1 rfl) (sw_false (by rw [c.sc]; exact hloc))
      have hx : X.env.scope.names.lookup y = some .local := by rw [c.sc]; exact hloc
      simp only [hloc, decide_true, Bool.not_true, Bool.false_or, lcC, Bool.and_eq_true, Bool.not_eq_true'] at h3
      unfold chk at h4
      split at h4 <;> rename_i e1 <;> first | cases e1 | cases h4
      rename_i tg iter ifs _ e2
      cases e2
      simp only [Bool.and_eq_true, decide_eq_true_eq] at h4
      obtain ⟨⟨⟨⟨⟨⟨⟨rfl, g1⟩, g2⟩, g3⟩, g4⟩, g5⟩, g6⟩, g7⟩ := h4
      have ok : BlkOk X.N X.env.scope scope (ownP N own) := by
        rw [c.hN, c.sc]
        exact blkOk_by g1
      have own2 : (ownP N own).map (·.2) = own := by
        unfold ownP
        rw [List.map_map]
        exact List.map_id own
      have cc := chkCs_ok G C cal N cs (sc.blk scope) ifs g4
      have main := b_setLc (pin := pin) (W := W) (py := py) (pos := pos) (spos := spos) (t := t) c.calm hN hi hx h2 (sw_true (by rw [c.sc]; exact hf) hx h3.1 h3.2) (chkSr_ok G C cal N src sc X tg iter c g2) ok
        (fun s H A cl fp => (tg_ok t (c.blk s H scope A cl fp) g3).1) (fun s H A cl fp => cc.2 _ (c.blk s H scope A cl fp)) (fun s H A cl fp => (chk_ok G C cal N x false (sc.blk scope) _ elt (c.blk s H scope A cl fp) g5).1 rfl) cc.1 (by rw [own2]; exact g6) (fold_of g7 _)
      rw [own2] at main
      exact main
    · simp only [Bool.and_eq_true, decide_eq_true_eq] at h
      obtain ⟨⟨⟨h1, h2⟩, h3⟩, h4⟩ := h
      obtain ⟨hN, hi, hx, hfn⟩ := local_of c h1
      exact b_set hN hi hx hfn h2 ((chk_ok G C cal N _ false sc X _ c h4).1 rfl) (swaps_of h3 _ _ _)
  | .par i j a b, s, h => by
    unfold chS at h
    split at h <;> rename_i e1 <;> first | cases e1 | cases h
    rename_i x px y py kt pt ea eb k2 pt2 pos
    simp only [Bool.and_eq_true, decide_eq_true_eq, Bool.not_eq_true'] at h
    obtain ⟨⟨⟨⟨⟨⟨⟨⟨⟨⟨⟨⟨⟨⟨h1, h2⟩, g1⟩, g2⟩, h3⟩, h4⟩, h5⟩, h6⟩, h7⟩, h8⟩, h9⟩, h10⟩, h11⟩, h12⟩, h13⟩ := h
    obtain ⟨hN, hi, _, _⟩ := local_of c h1
    obtain ⟨_, hj, _, _⟩ := local_of c h2
    have hx := loc_of c (decide_eq_true g1)
    have hy := loc_of c (decide_eq_true g2)
    have ra := (chk_ok G C cal N a false sc X _ c h12).1 rfl
    have rb := (chk_ok G C cal N b false sc X _ c h13).1 rfl
    exact b_par c.calm hN hi hj h3 h5 h6 hx hy (a_cons (star_cons h8 _) ra (a_cons (star_cons h9 _) rb a_nil)) (swapped_of (by rw [c.sc]; exact hf) hx hy h4 h7 h8 h9 h10 h11) rfl
  | .unp t k, s, h => by
    unfold chS at h
    split at h <;> rename_i e1 <;> first | cases e1 | cases h
    simp only [Bool.and_eq_true, decide_eq_true_eq] at h
    obtain ⟨⟨⟨⟨h1, h2⟩, h3⟩, h4⟩, h5⟩ := h
    exact b_unp ((chk_ok G C cal N k false sc X _ c h5).1 rfl) (tg_ok t c h3).2 (sole_of h2 _ _) (stores_tup (by rw [c.sc]; exact h1)) rfl h4
  | .seti i none ci k, s, h => by
    unfold chS at h
    split at h <;> rename_i e1 <;> first | cases e1 | cases h
    simp only [Bool.and_eq_true] at h
    obtain ⟨⟨⟨⟨h1, h2⟩, h3⟩, h4⟩, h5⟩ := h
    obtain ⟨a1, a2, a3, a4⟩ := slot_of c h1
    exact b_seti a1 a2 a3 a4 ((chk_ok G C cal N ci false sc X _ c h4).1 rfl) ((chk_ok G C cal N k false sc X _ c h5).1 rfl) (asg_sub h2) (sole_of h3 _ _) stores_sub rfl
  | .seti i (some cp) ci k, s, h => by
    unfold chS at h
    split at h <;> rename_i e1 <;> first | cases e1 | cases h
    simp only [Bool.and_eq_true] at h
    obtain ⟨⟨⟨⟨⟨⟨h1, h2⟩, h3⟩, h4⟩, h5⟩, h6⟩, h7⟩ := h
    obtain ⟨a1, a2, a3, a4⟩ := slot_of c h1
    exact b_seti2 a1 a2 a3 a4 ((chk_ok G C cal N cp false sc X _ c h5).1 rfl) (plain_of h2) ((chk_ok G C cal N ci false sc X _ c h6).1 rfl) ((chk_ok G C cal N k false sc X _ c h7).1 rfl) (asg_sub h3) (sole_of h4 _ _) stores_sub rfl
  | .augi i op ci k, s, h => by
    unfold chS at h
    split at h <;> rename_i e1 <;> first | cases e1 | cases h
    simp only [Bool.and_eq_true, Bool.or_eq_true, decide_eq_true_eq] at h
    obtain ⟨⟨⟨⟨⟨h1, h2⟩, rfl⟩, h4⟩, h5⟩, h6⟩ := h
    obtain ⟨a1, a2, a3, a4⟩ := slot_of c h1
    exact b_augi a1 a2 a3 a4 ((chk_ok G C cal N ci false sc X _ c h5).1 rfl) ((chk_ok G C cal N k false sc X _ c h6).1 rfl) (aug_sub h2) h4
  | .aug i op k, s, h => by
    unfold chS at h
    split at h <;> rename_i e1 <;> first | cases e1 | cases h
    simp only [Bool.and_eq_true, Bool.or_eq_true, decide_eq_true_eq] at h
    obtain ⟨⟨⟨⟨h1, h2⟩, rfl⟩, h4⟩, h5⟩ := h
    obtain ⟨hN, hi, hx, hfn⟩ := local_of c h1
    exact b_aug hN hi hx hfn h2 ((chk_ok G C cal N k false sc X _ c h5).1 rfl) h4
  | .if_ k a b, s, h => by
    unfold chS at h
    split at h <;> rename_i e1 <;> first | cases e1 | cases h
    simp only [Bool.and_eq_true] at h
    obtain ⟨⟨h1, h2⟩, h3⟩ := h
    exact b_if ((chk_ok G C cal N k true sc X _ c h1).2 rfl) (chSs_ok G C cal N pin W sc X c hf hp a _ h2) (chSs_ok G C cal N pin W sc X c hf hp b _ h3)
  | .while_ k b, s, h => by
    unfold chS at h
    split at h <;> rename_i e1 <;> first | cases e1 | cases h
    simp only [Bool.and_eq_true] at h
    exact b_while hp ((chk_ok G C cal N k true sc X _ c h.1).2 rfl) (chSs_ok G C cal N pin W sc X c hf hp b _ h.2)
  | .for_ t sr b, s, h => by
    unfold chS at h
    split at h <;> rename_i e1 <;> first | cases e1 | cases h
    simp only [Bool.and_eq_true, decide_eq_true_eq] at h
    obtain ⟨⟨⟨⟨h1, h2⟩, h3⟩, h4⟩, h5⟩ := h
    exact b_for hp c.calm (chkSr_ok G C cal N sr sc X _ _ c h1) (tg_ok t c h2).1 (chSs_ok G C cal N pin W sc X c hf hp b _ h5) (fold_of h4 _) h3
  | .ret k, s, h => by
    unfold chS at h
    split at h <;> rename_i e1 <;> first | cases e1 | cases h
    exact b_ret ((chk_ok G C cal N k false sc X _ c h).1 rfl)
  | .brk, s, h => by
    unfold chS at h
    split at h <;> rename_i e1 <;> first | cases e1 | cases h
    exact b_brk
  | .cont, s, h => by
    unfold chS at h
    split at h <;> rename_i e1 <;> first | cases e1 | cases h
    exact b_cont
  | .never, s, h => b_never
theorem chSs_ok (G : Tb) (C : Nat → Addr) (cal : Nat → List O → CRes) (N : List Str) (pin : List Nat) (W : Nat) (sc : Sc) (X : Cx) (c : Ctx G C cal N sc X) (hf : sc.s.kind = .function) (hp : PassesOwn (model X.prog X.w) X.A X.env X.xe) : ∀ (ks : List CS) (ss : List Stmt), chSs G N pin sc ks ss = true → PSs X ss (tSs C X.K cal X0 pin W ks)
  | [], [], h => b_nil
  | [], _ :: _, h => by simp [chSs] at h
  | _ :: _, [], h => by simp [chSs] at h
  | k :: ks, s :: ss, h => by
    simp only [chSs, Bool.and_eq_true] at h
    exact b_cons (chS_ok G C cal N pin W sc X c hf hp k s h.1) (chSs_ok G C cal N pin W sc X c hf hp ks ss h.2)
end
end
end Cr
end

section
/-! Functions. -/
namespace Cr
open PySem L2

section
variable {C : Nat → Addr} {K : PySem.W.Frag} {F F' H H' : Hp} {σ σ' : St} {env env' : Env} {L L' R T : List Addr}
theorem RepE.pad : ∀ {env : Env} {σ : St} {L : List Addr} (n : Nat), RepE C K F H env σ L → RepE C K F H (env ++ List.replicate n none) (σ ++ List.replicate n none) L
  | [], σ, L, n, r => by
    simp only [RepE] at r
    obtain ⟨rfl, rfl⟩ := r
    simp only [List.nil_append]
    induction n with
    | zero => simp [RepE]
    | succ n ih =>
      simp only [List.replicate_succ, RepE]
      exact ⟨none, _, rfl, ih⟩
  | none :: e, σ, L, n, r => by
    simp only [RepE] at r
    obtain ⟨x, s, rfl, t⟩ := r
    simp only [List.cons_append, RepE]
    exact ⟨x, _, rfl, RepE.pad n t⟩
  | some o :: e, σ, L, n, r => by
    simp only [RepE] at r
    obtain ⟨v, s, l1, l2, rfl, q, t, rfl⟩ := r
    simp only [List.cons_append, RepE]
    exact ⟨v, _, l1, l2, rfl, q, RepE.pad n t, rfl⟩
theorem outs_ok {io : List Nat} {σ0 : St} {env0 : Env} {L0 : List Addr} {F0 H0 : Hp} {vs : List V} {outs : List O} {n : Nat} (hio : io.length ≤ 1) (hv : ∀ i ∈ io, i < vs.length) (hσ : σ0 = vs.map some ++ List.replicate n none)
    (s : Sst C K io F0 H0 σ0 env0 L0 R F' H' σ' env' L' T) (ho : outsOf env' io = some outs) : ∃ L2, SR C K F' H' ((io.filterMap fun i => vs[i]?).map some) (outs.map some) L2 (T ++ R) := by
  match io, hio with
  | [], _ =>
    simp only [outsOf, List.map_nil, allSome, Option.some.injEq] at ho
    subst ho
    refine ⟨[], s.sr.le, by simp [RepE], ?_, fun a ha => s.sr.fn a (List.mem_append_right _ (by simpa using ha))⟩
    simpa using (List.nodup_append.mp s.sr.nd).2.1
  | [i], _ =>
    simp only [outsOf, List.map_cons, List.map_nil] at ho
    cases e : (env'[i]?).join with
    | none => rw [e] at ho; cases ho
    | some o =>
      rw [e] at ho
      simp only [allSome, Option.map_some, Option.some.injEq] at ho
      subst ho
      obtain ⟨v, La, l, Lb, c, hs, r⟩ := s.sr.slot e
      have hi := hv i (by simp)
      have h1 := s.pn i (by simp)
      rw [hs, hσ, List.getElem?_append_left (by simpa using hi)] at h1
      have h2 : vs[i]? = some v := by
        simp only [List.getElem?_map] at h1
        cases e2 : vs[i]? with
        | none => rw [e2] at h1; cases h1
        | some w => rw [e2] at h1; simp at h1; rw [h1]
      have hsub : List.Sublist (l ++ (T ++ R)) (L' ++ (T ++ R)) := by
        rw [c.eq]
        exact List.Sublist.append_right ((List.sublist_append_left l Lb).trans (List.sublist_append_right La _)) _
      refine ⟨l, s.sr.le, ?_, s.sr.nd.sublist hsub, fun a ha => s.sr.fn a (hsub.subset ha)⟩
      simp only [List.filterMap_cons, h2, List.filterMap_nil, List.map_cons, List.map_nil, RepE]
      exact ⟨v, [], l, [], rfl, r, ⟨rfl, rfl⟩, by simp⟩
end

/-- a def of the program -/
structure FnD where
  x : Str
  qual : Str
  st : Stmt
  N : List Str
  fn : Fn
def fnOkC (G : Tb) (d : FnD) : Bool :=
  decide (d.fn.ns = d.N.length) && decide (d.fn.np ≤ d.N.length) && decide (d.fn.io.length ≤ 1) && d.fn.io.all (fun i => decide (i < d.fn.np)) && (match (defScope d.st).kind with | .function => true | _ => false) && chSs G d.N d.fn.io ⟨defScope d.st, fun _ => true⟩ d.fn.body (defBody d.st)
section
variable {P : Program} {w : World} {K : PySem.W.Frag} {mg : Str → Option Value} {base : Heap} {G : Tb} {C : Nat → Addr}
theorem body_ok {d : FnD} {f i k W : Nat} {a : Addr} {fd : FuncData} {core : List Fn} (F : FunD K d.x d.qual (defArgs d.st) (defBody d.st) (defScope d.st) [] [] a fd) (S : FnScope d.N (d.N.take d.fn.np) (defScope d.st)) (hc : core[f]? = some d.fn) (hk : fnOkC G d = true)
    (blt : ∀ x : Str, x ∈ (["len", "list", "sum", "max", "min", "tuple", "range", "enumerate"] : List Str) → mg x = none)
    (fns : ∀ x f np io, G.fns.lookup x = some (f, np, io) → ∃ a fd ps, FnOk P w K mg base (L2.CX P w) k a fd ps (spF C K (fun _ => X0) (run core W k) f np io) ∧ mg x = some (.ref a) ∧ PySem.W.keepIn K (.ref a) = true ∧ Binds K fd ps [])
    (gls : ∀ x d, G.gls.lookup x = some d → ∃ v u, mg x = some u ∧ RelV v u ∧ ∀ F, RepS C K F d v) :
    FnOk P w K mg base (L2.CX P w) (k + 1) a fd (d.N.take d.fn.np) (spF C K (fun _ => X0) (run core W (k + 1)) f d.fn.np d.fn.io) := by
  unfold fnOkC at hk
  simp only [Bool.and_eq_true, decide_eq_true_eq] at hk
  obtain ⟨⟨⟨⟨⟨h1, h2⟩, h3⟩, h4⟩, h5⟩, h6⟩ := hk
  have hkind : (defScope d.st).kind = .function := by
    split at h5
    · assumption
    · cases h5
  refine FunD.ok F S (fun vs H Q E h => ?_) fun cdv A outer s H vs Q E hr h => ?_
  · obtain ⟨_, _, _, _, hl, _⟩ := h
    rw [List.length_take, hl]
    omega
  · obtain ⟨F0, R, os, L, hl, sr, ho⟩ := h
    refine ⟨_, chSs_ok G C (run core W k) d.N d.fn.io W ⟨defScope d.st, fun _ => true⟩ _ ⟨rfl, rfl, S.nd, rfl, rfl, ?_, blt, fun x f np io hx => ?_, gls⟩ hkind (passes_of rfl) d.fn.body _ h6, ?_⟩
    · have := hr.un
      show (A.deeper _).units + 64 < cLine
      omega
    · obtain ⟨a, fd, ps, h1, h2, h3, h4⟩ := fns x f np io hx
      exact ⟨k, a, fd, ps, h1, hr, h2, h3, h4⟩
    · have hos : os.length = d.fn.np := by
        have := sr.len
        simpa [hl] using this.symm
      simp only [run, hc, runB, hos, beq_self_eq_true, if_true] at ho
      have sr0 : SR C K F0 H (L2.start d.N vs) (os.map some ++ List.replicate (d.fn.ns - d.fn.np) none) L R := by
        refine ⟨sr.le, ?_, sr.nd, sr.fn⟩
        unfold L2.start
        rw [h1, hl]
        exact sr.rep.pad _
      have hv : ∀ i ∈ d.fn.io, i < vs.length := fun i hi => by
        rw [hl]
        simpa using List.all_eq_true.mp h4 i hi
      refine ⟨F0, _, L, R, sr0, ?_⟩
      generalize hres : evSs (run core W k) W d.fn.body (os.map some ++ List.replicate (d.fn.ns - d.fn.np) none) = res at ho ⊢
      match res, ho with
      | .ok (.next, e'), ho =>
        simp only at ho
        cases eo : outsOf e' d.fn.io with
        | none => rw [eo] at ho; exact ho.elim
        | some outs =>
          rw [eo] at ho
          intro F' H' σ' L' s'
          obtain ⟨L2, sr2⟩ := outs_ok h3 hv rfl s' eo
          exact ho .non F' H' [] L2 sr2 (by simp [RepO, RepS]) s'.fe s'.kp
      | .ok (.ret o, e'), ho =>
        simp only at ho
        cases eo : outsOf e' d.fn.io with
        | none => rw [eo] at ho; exact ho.elim
        | some outs =>
          rw [eo] at ho
          intro v F' H' σ' L' T s' r
          obtain ⟨L2, sr2⟩ := outs_ok h3 hv rfl s' eo
          exact ho v F' H' T L2 sr2 r s'.fe s'.kp
      | .ok (.brk, e'), ho => exact ho.elim
      | .ok (.cont, e'), ho => exact ho.elim
      | .ex c dd e', ho =>
        simp only at ho
        cases eo : outsOf e' d.fn.io with
        | none => rw [eo] at ho; exact ho.elim
        | some outs =>
          rw [eo] at ho
          intro F' H' σ' L' s'
          obtain ⟨L2, sr2⟩ := outs_ok h3 hv rfl s' eo
          exact ho F' H' L2 sr2 s'.fe s'.kp
      | .er, ho => exact ho.elim
/-- all the defs, by the depth of the calls -/
structure Prg (K : PySem.W.Frag) (mg : Str → Option Value) (G : Tb) (C : Nat → Addr) (ds : List FnD) (ad : Nat → Addr) (fd : Nat → FuncData) : Prop where
  fun_ : ∀ (i : Nat) (d : FnD), ds[i]? = some d → FunD K d.x d.qual (defArgs d.st) (defBody d.st) (defScope d.st) [] [] (ad i) (fd i)
  scp : ∀ (i : Nat) (d : FnD), ds[i]? = some d → FnScope d.N (d.N.take d.fn.np) (defScope d.st)
  bnd : ∀ (i : Nat) (d : FnD), ds[i]? = some d → Binds K (fd i) (d.N.take d.fn.np) []
  mgf : ∀ (i : Nat) (d : FnD), ds[i]? = some d → mg d.x = some (.ref (ad i))
  chk : ∀ (i : Nat) (d : FnD), ds[i]? = some d → fnOkC G d = true
  tab : ∀ x f np io, G.fns.lookup x = some (f, np, io) → ∃ d, ds[f]? = some d ∧ d.x = x ∧ d.fn.np = np ∧ d.fn.io = io
  blt : ∀ x : Str, x ∈ (["len", "list", "sum", "max", "min", "tuple", "range", "enumerate"] : List Str) → mg x = none
  gls : ∀ x d, G.gls.lookup x = some d → ∃ v u, mg x = some u ∧ RelV v u ∧ ∀ F, RepS C K F d v
theorem Prg.ok {ds : List FnD} {ad : Nat → Addr} {fd : Nat → FuncData} (p : Prg K mg G C ds ad fd) (W : Nat) : ∀ (k i : Nat) (d : FnD), ds[i]? = some d →
    FnOk P w K mg base (L2.CX P w) k (ad i) (fd i) (d.N.take d.fn.np) (spF C K (fun _ => X0) (run (ds.map (·.fn)) W k) i d.fn.np d.fn.io)
  | 0, i, d, hd => by
    refine ⟨fun vs H Q E h => ?_, fun A outer s H args us vs Q E _ _ _ _ h => ?_⟩
    · obtain ⟨_, _, _, _, _, _, ho⟩ := h
      simp only [run] at ho
    · obtain ⟨_, _, _, _, _, _, ho⟩ := h
      simp only [run] at ho
  | k + 1, i, d, hd => by
    refine body_ok (i := i) (p.fun_ i d hd) (p.scp i d hd) (by simp [hd]) (p.chk i d hd) p.blt (fun x f np io hx => ?_) p.gls
    obtain ⟨d2, hd2, rfl, rfl, rfl⟩ := p.tab x f np io hx
    exact ⟨ad f, fd f, _, Prg.ok p W k f d2 hd2, p.mgf f d2 hd2, (p.fun_ f d2 hd2).kp, p.bnd f d2 hd2⟩
end
end Cr
end

section
/-! From what the top leaves to the law. -/
namespace Cr
open PySem L2

def bltNames : List Str := ["len", "list", "sum", "max", "min", "tuple", "range", "enumerate"]
def FnD.toD (d : FnD) : He.DefD := ⟨(d.x, none), d.x, d.qual, defArgs d.st, defBody d.st, defScope d.st, [], []⟩
def glFa : Str × D → He.Fa
  | (x, .int i) => .int x i
  | (x, .str s) => .str x s
  | (x, _) => .glo x
def glC : Str × D → Bool
  | (_, .int _) => true
  | (_, .str s) => decide (s.length ≤ sizeLine) && (PyData.str s).canLay0
  | _ => false
def tabOf : Nat → List FnD → List (Str × (Nat × Nat × List Nat))
  | _, [] => []
  | i, d :: ds => (d.x, (i, d.fn.np, d.fn.io)) :: tabOf (i + 1) ds
def tbOf (gls : List (Str × D)) (ds : List FnD) : Tb := ⟨tabOf 0 ds, gls⟩
def faOf (gls : List (Str × D)) (ds : List FnD) : List He.Fa := ds.map (fun d => He.Fa.glo d.x) ++ (bltNames.map He.Fa.free ++ gls.map glFa)
def fnOf (ds : List FnD) : List He.DefD := ds.map FnD.toD
theorem tab_ok : ∀ (ds : List FnD) (i : Nat) (x : Str) (f np : Nat) (io : List Nat), (tabOf i ds).lookup x = some (f, np, io) → ∃ d, i ≤ f ∧ ds[f - i]? = some d ∧ d.x = x ∧ d.fn.np = np ∧ d.fn.io = io
  | [], i, x, f, np, io, h => by simp [tabOf] at h
  | d :: ds, i, x, f, np, io, h => by
    simp only [tabOf, List.lookup_cons] at h
    by_cases e : x = d.x
    · subst e
      simp at h
      obtain ⟨rfl, rfl, rfl⟩ := h
      exact ⟨d, Nat.le_refl _, by simp, rfl, rfl, rfl⟩
    · have e' : (x == d.x) = false := by simpa using e
      rw [e'] at h
      obtain ⟨d2, h1, h2, h3⟩ := tab_ok ds (i + 1) x f np io h
      refine ⟨d2, by omega, ?_, h3⟩
      have : f - i = (f - (i + 1)) + 1 := by omega
      rw [this]
      simpa using h2
theorem lookup_mem {α : Type} {x : Str} {a : α} : ∀ {l : List (Str × α)}, l.lookup x = some a → (x, a) ∈ l
  | [], h => by simp at h
  | (y, b) :: l, h => by
    simp only [List.lookup_cons] at h
    by_cases e : x = y
    · subst e
      simp at h
      subst h
      simp
    · have e' : (x == y) = false := by simpa using e
      rw [e'] at h
      exact List.mem_cons_of_mem _ (lookup_mem h)
def BindsOk (d : FnD) : Prop := ∀ (kV doc pm : Value) (an : Option Addr) (cdv ct : Value) (us : List Value), us.length = (d.N.take d.fn.np).length → bindArgs (PySem.W.fnOf d.x d.qual (defArgs d.st) (defBody d.st) (defScope d.st) .none kV doc pm an cdv ct) ⟨us, []⟩ = pure ((d.N.take d.fn.np).zip us)
def scpC (d : FnD) : Bool := (match (defScope d.st).kind with | .function => true | _ => false) && !(defScope d.st).isCoroutine && !(defScope d.st).isGenerator && decide d.N.Nodup &&
  (d.N.take d.fn.np).all (fun x => decide ((defScope d.st).names.lookup x = some .local) || decide ((defScope d.st).names.lookup x = some .cell)) && (defScope d.st).names.all (fun y => decide (y.2 ≠ .free))
theorem scp_of {d : FnD} (h : scpC d = true) : FnScope d.N (d.N.take d.fn.np) (defScope d.st) := by
  unfold scpC at h
  simp only [Bool.and_eq_true, Bool.not_eq_true', decide_eq_true_eq, List.all_eq_true, Bool.or_eq_true] at h
  obtain ⟨⟨⟨⟨⟨h1, h2⟩, h3⟩, h4⟩, h5⟩, h6⟩ := h
  refine ⟨?_, h2, h3, h4, ?_, h5, h6⟩
  · split at h1
    · assumption
    · cases h1
  · rw [List.length_take]
    rcases Nat.le_total d.fn.np d.N.length with z | z
    · rw [Nat.min_eq_left z]
    · rw [Nat.min_eq_right z, List.take_length, List.take_of_length_le z]
structure Texts (gls : List (Str × D)) (ds : List FnD) : Prop where
  scp : ds.all scpC = true
  bnd : ∀ d ∈ ds, BindsOk d
  chk : ds.all (fnOkC (tbOf gls ds)) = true
  gl : gls.all glC = true
section
variable {P : Program} {w : World} {K : PySem.W.Frag} {mg : Str → Option Value} {h : Heap}
theorem prg_of {gls : List (Str × D)} {ds : List FnD} (t : Texts gls ds) (X : K.In h) (G : h.Ns mainGlobals mg) (c : He.SaysD (faOf gls ds) (fnOf ds) K) (C : Nat → Addr) :
    ∃ fd : Nat → FuncData, Prg K mg (tbOf gls ds) C ds (fun i => (ds[i]?.map fun d => He.ga K d.x).getD 0) fd ∧ ∀ (i : Nat) (d : FnD), ds[i]? = some d → FunD K d.x d.qual (defArgs d.st) (defBody d.st) (defScope d.st) [] [] (He.ga K d.x) (fd i) := by
  have hf : ∀ i : Nat, ∃ fd : FuncData, ∀ d, ds[i]? = some d → FunD K d.x d.qual (defArgs d.st) (defBody d.st) (defScope d.st) [] [] (He.ga K d.x) fd := fun i => by
    cases e : ds[i]? with
    | none => exact ⟨default, fun d z => by cases z⟩
    | some d =>
      have hm : d.toD ∈ fnOf ds := List.mem_map.mpr ⟨d, List.mem_of_getElem? e, rfl⟩
      obtain ⟨fd, F⟩ := c.defs hm
      exact ⟨fd, fun d' z => by cases z; exact F⟩
  let fd : Nat → FuncData := fun i => Classical.choose (hf i)
  have hfd : ∀ (i : Nat) (d : FnD), ds[i]? = some d → FunD K d.x d.qual (defArgs d.st) (defBody d.st) (defScope d.st) [] [] (He.ga K d.x) (fd i) := fun i d e => Classical.choose_spec (hf i) d e
  have adr : ∀ (i : Nat) (d : FnD), ds[i]? = some d → (ds[i]?.map fun d => He.ga K d.x).getD 0 = He.ga K d.x := fun i d e => by rw [e]; rfl
  have fact : ∀ f ∈ faOf gls ds, f.ok K = true := fun f hf => c.facts hf
  have hglo : ∀ (i : Nat) (d : FnD), ds[i]? = some d → He.Fa.glo d.x ∈ faOf gls ds := fun i d e => List.mem_append_left _ (List.mem_map.mpr ⟨d, List.mem_of_getElem? e, rfl⟩)
  refine ⟨fd, ⟨fun i d e => by rw [adr i d e]; exact hfd i d e, fun i d e => scp_of (List.all_eq_true.mp t.scp d (List.mem_of_getElem? e)), fun i d e => (hfd i d e).bindsN (t.bnd d (List.mem_of_getElem? e)), fun i d e => by rw [adr i d e]; exact He.glo_ok X G (fact _ (hglo i d e)), fun i d e => List.all_eq_true.mp t.chk d (List.mem_of_getElem? e), fun x f np io hx => ?_, fun x hx => He.free_ok X G (fact _ ?_), fun x d hx => ?_⟩, hfd⟩
  · obtain ⟨d, _, h2, h3⟩ := tab_ok ds 0 x f np io hx
    exact ⟨d, by simpa using h2, h3⟩
  · exact List.mem_append_right _ (List.mem_append_left _ (List.mem_map.mpr ⟨x, hx, rfl⟩))
  · have hm := lookup_mem hx
    have hc := List.all_eq_true.mp t.gl _ hm
    have hfa : (glFa (x, d)).ok K = true := fact _ (List.mem_append_right _ (List.mem_append_right _ (List.mem_map.mpr ⟨_, hm, rfl⟩)))
    cases d with
    | int i =>
      obtain ⟨tk, e⟩ := He.int_ok X G hfa
      exact ⟨.int i, _, e, ⟨tk, rfl⟩, fun F => by simp only [RepS]⟩
    | str s =>
      obtain ⟨tk, e⟩ := He.str_ok X G hfa
      simp only [glC, Bool.and_eq_true, decide_eq_true_eq] at hc
      exact ⟨.str s, _, e, ⟨tk, rfl⟩, fun F => by simp only [RepS]; exact ⟨trivial, hc⟩⟩
    | _ => cases hc
/-- the law's def -/
theorem law_of {gls : List (Str × D)} {ds : List FnD} (t : Texts gls ds) (X : K.In h) (G : h.Ns mainGlobals mg) (c : He.SaysD (faOf gls ds) (fnOf ds) K) {i : Nat} {d : FnD} {x : Str} {fa : Addr} {n k W : Nat} (hd : ds[i]? = some d) (hx : d.N.take d.fn.np = [x]) (hio : d.fn.io = []) (hfa : mg d.x = some (.ref fa))
    (law : ∀ ns : List Int, ns.length ≤ n → run (ds.map (·.fn)) W k i [.fr (.scr ns)] = .ok (.fr (.bl true)) []) :
    ∃ (fd : FuncData) (sp : Sp), (∀ (s : Shared) (u : Value), BindsTo s fd ⟨[u], []⟩ [(x, u)]) ∧
      (∀ (H : Hp) (a : Addr) (ns : List Int), ns.length ≤ n → Only H → SqL K H a (ns.map V.int) → sp [.ref a] H (fun v _ => v = .bl true) fun _ _ _ => False) ∧
        ∀ base : Heap, K.In base → base.Ns mainGlobals mg → FnOk P w K mg base (L2.CX P w) k fa fd [x] sp := by
  obtain ⟨fd, p, hfd⟩ := prg_of t X G c (fun _ => 0)
  have hg := p.mgf i d hd
  have e := hfa.symm.trans hg
  cases e
  refine ⟨fd i, spF (fun _ => 0) K (fun _ => X0) (run (ds.map (·.fn)) W k) i d.fn.np d.fn.io, fun s u => ?_, fun H a ns hl hO hS => ?_, fun base _ _ => ?_⟩
  · have b := (hfd i d hd).bindsA (ps := [x]) (by
      have := t.bnd d (List.mem_of_getElem? hd)
      unfold BindsOk at this
      rw [hx] at this
      exact this) s [u] rfl
    exact b
  · have hnp : d.fn.np = 1 := by
      have h1 := congrArg List.length hx
      have h2 := t.chk
      have h3 := List.all_eq_true.mp h2 d (List.mem_of_getElem? hd)
      unfold fnOkC at h3
      simp only [Bool.and_eq_true, decide_eq_true_eq] at h3
      rw [List.length_take, Nat.min_eq_left h3.1.1.1.1.2] at h1
      exact h1
    refine ⟨H, [], [.fr (.scr ns)], [], by rw [hnp]; rfl, ⟨Le.refl H, ?_, by simp, fun a ha => by simp at ha⟩, ?_⟩
    · simp only [List.map_cons, List.map_nil, RepE, RepO, RepS]
      exact ⟨_, _, [], [], rfl, ⟨rfl, a, rfl, hS⟩, ⟨rfl, rfl⟩, rfl⟩
    · rw [law ns hl, hio]
      intro v F' H' T L' _ r _ _
      have := r.2
      simpa only [RepS] using this
  · rw [← hx]
    exact p.ok W k i d hd
end
/-- the law's walk: what it may let out hangs on the world -/
theorem walk_law {l : PySem.W.OpenLaw} {n k : Nat} {q : Program} {loose : List Str} {XP : (Str → Option Value) → Heap → Prop} {YP : World → Heap → Prop} {d : DefRec} {x : Str} (most : l.most = some n) (line : n ≤ sizeLine) (plain : d.params.defaults = []) (room : Room k callerA)
    (hF : ∀ (w : World) (mg : Str → Option Value) (fa : Addr) (h : Heap), YP w h → h.Ns mainGlobals mg → mg d.name = some (.ref fa) → ∃ (K : PySem.W.Frag) (fd : FuncData) (sp : Sp), K.In h ∧ (∀ (s : Shared) (u : Value), BindsTo s fd ⟨[u], []⟩ [(x, u)]) ∧
      (∀ (H : Hp) (a : Addr) (ns : List Int), ns.length ≤ n → Only H → SqL K H a (ns.map V.int) → sp [.ref a] H (fun v _ => v = .bl true) fun _ _ _ => False) ∧ ∀ base : Heap, K.In base → base.Ns mainGlobals mg → FnOk l.prog w K mg base (L2.CX l.prog w) k fa fd [x] sp) :
    PySem.W.WalkO q loose XP YP l.row.toRowW d [] (fun f vs => PySem.call f vs) := by
  have none_out : ∀ (w : World) (H : Hp) (s : Shared) (e : Value) (s' : Shared), L2.CX l.prog w [] H s (fun _ _ _ => False) e s' → False := by
    rintro w H s e s' ⟨_, _, _, _, _, _, _, _, _, _, _, _, z⟩
    exact z.elim
  apply Att.attach_call most plain
  intro w sA sB mg mb fa o pm cd doc a vs ns G Y _ _ _ isFa hob hin hlen hgl
  obtain ⟨K, fd, sp, inK, binds, prom, ok⟩ := hF w mg fa _ Y G.T.g isFa
  exact law_call inK G.T.g G.T.b G.T.builtins G.T.nolimit hgl hob hin (Nat.le_trans hlen line) room ok binds (fun H hO hS => prom H a ns hlen hO hS) (fun H e s' => none_out w H sB e s')
end Cr
end

section
/-! Reading a core program: what `simp` needs, and what the laws share. -/
namespace Cr
open PySem L2
/-! ### the evaluator step by step -/
section
variable {α β : Type} {a : α} {f : α → Res β} {d d' : D} {o : O} {e : Env} {i j : Int} {n : Nat}
@[simp] theorem bok : (Res.ok a).bind f = f a := rfl
@[simp] theorem ber : (Res.er : Res α).bind f = .er := rfl
@[simp] theorem get_p : (Hd.p d).get e = some (.fr d) := rfl
@[simp] theorem get_t : (Hd.t o).get e = some o := rfl
@[simp] theorem get_q : (Hd.q o).get e = some o := rfl
@[simp] theorem get_n : (Hd.n n).get e = (e[n]?).join := rfl
@[simp] theorem get_io : (Hd.io n).get e = (e[n]?).join := rfl
@[simp] theorem isq_p : (Hd.p d).isQ = false := rfl
@[simp] theorem isq_t : (Hd.t o).isQ = false := rfl
@[simp] theorem isq_n : (Hd.n n).isQ = false := rfl
@[simp] theorem isq_q : (Hd.q o).isQ = true := rfl
@[simp] theorem isq_io : (Hd.io n).isQ = false := rfl
@[simp] theorem istr_p : (Hd.p d).isTr = false := rfl
@[simp] theorem istr_t : (Hd.t o).isTr = false := rfl
@[simp] theorem istr_n : (Hd.n n).isTr = true := rfl
@[simp] theorem istr_q : (Hd.q o).isTr = true := rfl
@[simp] theorem val_p : (Hd.p d).val = some (.fr d) := rfl
@[simp] theorem val_t : (Hd.t o).val = some o := rfl
@[simp] theorem view_p : (Hd.p d).view e = some d := rfl
@[simp] theorem view_t : (Hd.t o).view e = some o.frz := rfl
@[simp] theorem view_q : (Hd.q o).view e = some o.frz := rfl
theorem view_n : (Hd.n n).view e = ((e[n]?).join).map O.frz := rfl
theorem view_io : (Hd.io n).view e = ((e[n]?).join).map O.frz := rfl
@[simp] theorem mkh_fr : mkH (.fr d) = .p d := rfl
@[simp] theorem mkh_ol {l : List O} : mkH (.ol l) = .t (.ol l) := rfl
@[simp] theorem mkh_ot {l : List O} : mkH (.ot l) = .t (.ot l) := rfl
@[simp] theorem part_fr {h : Hd} : h.part (.fr d) = .p d := rfl
@[simp] theorem part_n {l : List O} : (Hd.n n).part (.ol l) = .q (.ol l) := rfl
@[simp] theorem part_t {l : List O} : (Hd.t o).part (.ol l) = .t (.ol l) := rfl
@[simp] theorem part_q {l : List O} : (Hd.q o).part (.ol l) = .q (.ol l) := rfl
@[simp] theorem join_some {γ : Type} {x : Option γ} : (some x).join = x := rfl
@[simp] theorem add_int : binO .Add (.fr (.int i)) (.fr (.int j)) = some (.fr (.int (i + j))) := rfl
@[simp] theorem sub_int : binO .Sub (.fr (.int i)) (.fr (.int j)) = some (.fr (.int (i - j))) := rfl
theorem mul_int (h : bigOk i j = true) : binO .Mult (.fr (.int i)) (.fr (.int j)) = some (.fr (.int (i * j))) := by simp [binO, h]
theorem bigL (h : i.natAbs < 18446744073709551616) : bigOk i j = true := by simp [bigOk, h]
theorem bigR (h : j.natAbs < 18446744073709551616) : bigOk i j = true := by simp [bigOk, h]
theorem mod_int (h : 0 < j) : binO .Mod (.fr (.int i)) (.fr (.int j)) = some (.fr (.int (i % j))) := by simp [binO, h]
theorem div_int (h : 0 < j) (h2 : j.natAbs.log2 < 9000) : binO .FloorDiv (.fr (.int i)) (.fr (.int j)) = some (.fr (.int (i / j))) := by simp [binO, h, h2]
@[simp] theorem frz_fr : (O.fr d).frz = d := rfl
@[simp] theorem frz_ol {l : List O} : (O.ol l).frz = .lst (frzL l) := by simp [O.frz]
@[simp] theorem frz_ot {l : List O} : (O.ot l).frz = .tup (frzL l) := by simp [O.frz]
@[simp] theorem boolh {b : Bool} : boolH (.p (.bl b)) = some b := rfl
@[simp] theorem lt_int : cmpD .Lt (.int i) (.int j) = some (decide (i < j)) := rfl
@[simp] theorem le_int : cmpD .LtE (.int i) (.int j) = some (decide (i ≤ j)) := rfl
@[simp] theorem gt_int : cmpD .Gt (.int i) (.int j) = some (decide (j < i)) := rfl
@[simp] theorem ge_int : cmpD .GtE (.int i) (.int j) = some (decide (j ≤ i)) := rfl
theorem line_ok (h : n ≤ 16777216) : lineOk n = true := decide_eq_true h
end
/-! ### rules forward -/
section
variable {cal : Nat → List O → CRes} {W : Nat} {e e1 e2 e3 : Env} {a b c x p ix : CE} {h ha hb hc : Hd} {o o0 xo yo : O} {i : Nat} {d k : D} {fl : Fl} {s : CS} {ss t u : List CS}
theorem x_lit : ev cal (.lit d) e = .ok (.p d, e) := by rw [ev]
theorem x_glob {g : Str} : ev cal (.glob g d) e = .ok (.p d, e) := by rw [ev]
theorem x_var (hs : (e[i]?).join = some (.fr d)) : ev cal (.var i) e = .ok (.p d, e) := by rw [ev, hs]
theorem x_varl {l : List O} (hs : (e[i]?).join = some (.ol l)) : ev cal (.var i) e = .ok (.n i, e) := by rw [ev, hs]
theorem x_io {l : List O} (hs : (e[i]?).join = some (.ol l)) : ev cal (.io i) e = .ok (.io i, e) := by rw [ev, hs]
theorem x_fz (hs : (e[i]?).join = some o) : ev cal (.fz i) e = .ok (.p o.frz, e.set i (some (.fr o.frz))) := by rw [ev, hs]
theorem x_mv (hs : (e[i]?).join = some o) : ev cal (.mv i) e = .ok (mkH o, e.set i none) := by rw [ev, hs]
theorem x_bin {op : Operator} (h1 : ev cal a e = .ok (ha, e1)) (h2 : ev cal b e1 = .ok (hb, e2)) (hq : (!ha.isQ || b.quiet) = true) (g1 : ha.get e2 = some xo) (g2 : hb.get e2 = some yo) (h3 : binO op xo yo = some o) : ev cal (.bin op a b) e = .ok (mkH o, e2) := by
  rw [ev, h1]
  simp only [bok]
  rw [h2]
  simp only [bok, hq, if_true, g1, g2, h3]
theorem x_cmp {op : CmpOp} {dx dy : D} {r : Bool} (h1 : ev cal a e = .ok (ha, e1)) (h2 : ev cal b e1 = .ok (hb, e2)) (hq : (!ha.isQ || b.quiet) = true) (g1 : ha.view e2 = some dx) (g2 : hb.view e2 = some dy) (h3 : cmpD op dx dy = some r) : ev cal (.cmp op a b) e = .ok (.p (.bl r), e2) := by
  rw [ev, h1]
  simp only [bok]
  rw [h2]
  simp only [bok, hq, if_true, g1, g2, h3]
theorem x_not {r : Bool} (h1 : ev cal a e = .ok (.p (.bl r), e1)) : ev cal (.not a) e = .ok (.p (.bl (!r)), e1) := by
  rw [ev, h1]
  simp only [bok, boolh]
theorem x_sub {dy : D} (h1 : ev cal a e = .ok (ha, e1)) (h2 : ev cal b e1 = .ok (.p dy, e2)) (hq : (!ha.isQ || b.quiet) = true) (g1 : ha.get e2 = some xo) (h3 : atO xo dy = some o) : ev cal (.sub a b) e = .ok (ha.part o, e2) := by
  rw [ev, h1]
  simp only [bok]
  rw [h2]
  simp only [bok, hq, if_true, g1, h3]
theorem x_ss {fl : Fl} (h1 : evS cal W s e = .ok (.next, e1)) (h2 : evSs cal W ss e1 = .ok (fl, e2)) : evSs cal W (s :: ss) e = .ok (fl, e2) := by
  rw [evSs, h1]
  simp only [bok, h2]
theorem x_ssr (h1 : evS cal W s e = .ok (.ret o, e1)) : evSs cal W (s :: ss) e = .ok (.ret o, e1) := by
  rw [evSs, h1]
  simp only [bok]
theorem x_ss0 : evSs cal W [] e = .ok (.next, e) := by rw [evSs]
theorem x_set (h1 : ev cal a e = .ok (h, e1)) (hv : h.val = some o) (hi : i < e1.length) : evS cal W (.set i a) e = .ok (.next, e1.set i (some o)) := by
  rw [evS, h1]
  simp only [bok, hv, setS, hi, if_true]
theorem x_ret (h1 : ev cal a e = .ok (h, e1)) (hv : h.val = some o) : evS cal W (.ret a) e = .ok (.ret o, e1) := by
  rw [evS, h1]
  simp only [bok, hv]
theorem x_if {r : Bool} {res : Res (Fl × Env)} (h1 : ev cal a e = .ok (.p (.bl r), e1)) (h2 : (if r = true then evSs cal W t e1 else evSs cal W u e1) = res) : evS cal W (.if_ a t u) e = res := by
  rw [evS, h1]
  cases r <;> simpa [-Res.bind] using h2
theorem x_ift {r : Bool} {res : Res (Fl × Env)} (h1 : ev cal a e = .ok (.p (.bl r), e1)) (hr : r = true) (h2 : evSs cal W t e1 = res) : evS cal W (.if_ a t u) e = res := x_if h1 (by rw [if_pos hr]; exact h2)
theorem x_iff {r : Bool} {res : Res (Fl × Env)} (h1 : ev cal a e = .ok (.p (.bl r), e1)) (hr : r = false) (h2 : evSs cal W u e1 = res) : evS cal W (.if_ a t u) e = res := x_if h1 (by rw [hr]; exact h2)
theorem x_expr (h1 : ev cal a e = .ok (h, e1)) : evS cal W (.expr a) e = .ok (.next, e1) := by
  rw [evS, h1]
  simp only [bok]
theorem x_seti {a0 a1 : O} (h1 : ev cal x e = .ok (h, e1)) (hv : h.val = some o) (hs : (e1[i]?).join = some o0) (h2 : ev cal ix e1 = .ok (.p k, e2)) (hs2 : (e2[i]?).join = some a0) (ha : setAt a0 k o = some a1) (hi : i < e2.length) : evS cal W (.seti i none ix x) e = .ok (.next, e2.set i (some a1)) := by
  rw [evS, h1]
  simp only [bok, hv, hs]
  rw [h2]
  simp only [bok, hs2, ha, Option.bind, setS, hi, if_true]
theorem x_seti2 {xs : List O} {b0 b1 a1 : O} {pk : Int} (h1 : ev cal x e = .ok (h, e1)) (hv : h.val = some o) (hs : (e1[i]?).join = some o0) (hp : ev cal p e1 = .ok (.p (.int pk), e2)) (hs2 : (e2[i]?).join = some (.ol xs)) (hat : atI xs pk = some b0) (hix : ev cal ix e2 = .ok (.p k, e3)) (hq : ix.quiet = true)
    (hb : setAt b0 k o = some b1) (ha : setAt (.ol xs) (.int pk) b1 = some a1) (hi : i < e3.length) : evS cal W (.seti i (some p) ix x) e = .ok (.next, e3.set i (some a1)) := by
  rw [evS, h1]
  simp only [bok, hv, hs]
  rw [hp]
  simp only [bok, hs2, hat]
  rw [hix]
  simp only [bok, hq, if_true, hb, ha, Option.bind, setS, hi]
end
theorem leafs_ints : ∀ l : List Int, leafs (l.map fun i => O.fr (.int i)) = some (l.map D.int)
  | [] => rfl
  | i :: l => by simp [leafs, leafs_ints l]
theorem frzL_ints : ∀ l : List Int, frzL (l.map fun i => O.fr (.int i)) = l.map D.int
  | [] => rfl
  | i :: l => by simp [frzL, O.frz, frzL_ints l]
theorem cleanL_ints : ∀ l : List Int, cleanL (l.map fun i => O.fr (.int i)) = true
  | [] => rfl
  | i :: l => by simp [cleanL, O.clean, D.imm, cleanL_ints l]
def mixFn : Fn := ⟨2, 4, [], [.set 2 (.var 1),
  .for_ (.v 3) (.seq (.var 0)) [.set 2 (.bin .Mod (.bin .Add (.bin .Add (.bin .Mult (.var 2) (.lit (.int 48271))) (.bin .Mod (.var 3) (.lit (.int 2147483629)))) (.lit (.int 1))) (.lit (.int 2147483647)))],
  .ret (.lst [.var 2, .bi .list [.var 0], .lit (.int 0)])]⟩
def nextFn : Fn := ⟨2, 3, [0], [.set 2 (.sub (.bin .Add (.sub (.var 0) (.lit (.int 1))) (.lst [.lit (.int 0)])) (.bin .Mod (.sub (.var 0) (.lit (.int 2))) (.bi .max2 [.lit (.int 1), .bi .len [.sub (.var 0) (.lit (.int 1))]]))),
  .if_ (.cmp .GtE (.var 2) (.bin .Pow (.lit (.int 10)) (.lit (.int 18)))) [.seti 0 (some (.lit (.int 1))) (.bin .Mod (.sub (.var 0) (.lit (.int 2))) (.bi .len [.sub (.var 0) (.lit (.int 1))])) (.bin .FloorDiv (.var 2) (.var 1)),
    .ret (.bin .Mod (.var 2) (.var 1))] [],
  .seti 0 none (.lit (.int 0)) (.bin .Mod (.bin .Add (.bin .Add (.bin .Mult (.sub (.var 0) (.lit (.int 0))) (.lit (.int 48271))) (.bin .Mult (.var 2) (.lit (.int 69621)))) (.lit (.int 11))) (.lit (.int 2147483647))),
  .seti 0 none (.lit (.int 2)) (.bin .Add (.sub (.var 0) (.lit (.int 2))) (.lit (.int 1))),
  .ret (.bin .Mod (.bin .FloorDiv (.sub (.var 0) (.lit (.int 0))) (.lit (.int 7))) (.var 1))]⟩
/-- the script's state: a mixed number, what is left of the script, a count -/
def hst (m : Int) (l : List Int) (c : Int) : O := .ol [.fr (.int m), .ol (l.map fun i => .fr (.int i)), .fr (.int c)]
theorem at3_0 {a b c : O} : atO (.ol [a, b, c]) (.int 0) = some a := rfl
theorem at3_1 {a b c : O} : atO (.ol [a, b, c]) (.int 1) = some b := rfl
theorem at3_2 {a b c : O} : atO (.ol [a, b, c]) (.int 2) = some c := rfl
section
variable {cal : Nat → List O → CRes} {a b x : O} {n : Option O}
/-- the three readings of the state -/
theorem rd0 {m : Int} {l : List Int} {c : Int} {r : List (Option O)} : ev cal (.sub (.var 0) (.lit (.int 0))) (some (hst m l c) :: r) = .ok (.p (.int m), some (hst m l c) :: r) := by
  simp [-Res.bind, ev, hst, at3_0]
theorem rd1 {m : Int} {l : List Int} {c : Int} {r : List (Option O)} : ev cal (.sub (.var 0) (.lit (.int 1))) (some (hst m l c) :: r) = .ok (.q (.ol (l.map fun i => .fr (.int i))), some (hst m l c) :: r) := by
  simp [-Res.bind, ev, hst, at3_1]
theorem rd2 {m : Int} {l : List Int} {c : Int} {r : List (Option O)} : ev cal (.sub (.var 0) (.lit (.int 2))) (some (hst m l c) :: r) = .ok (.p (.int c), some (hst m l c) :: r) := by
  simp [-Res.bind, ev, hst, at3_2]
theorem rdlen {m : Int} {l : List Int} {c : Int} {r : List (Option O)} : ev cal (.bi .len [.sub (.var 0) (.lit (.int 1))]) (some (hst m l c) :: r) = .ok (.p (.int l.length), some (hst m l c) :: r) := by
  rw [ev]
  simp only [evs, rd1, bok]
  simp [-Res.bind, stayOk, quietL, allSome, biO, frzL_ints]
/-- where the script is read -/
def posI (l : List Int) (c : Int) : Int := c % max 1 (l.length : Int)
def cellI (l : List Int) (c : Int) : Int := (l ++ [0]).getD (posI l c).toNat 0
theorem posI_lt (l : List Int) (c : Int) : 0 ≤ posI l c ∧ posI l c < max 1 (l.length : Int) := by
  unfold posI
  exact ⟨Int.emod_nonneg _ (by omega), Int.emod_lt_of_pos _ (by omega)⟩
theorem max2_int {i j : Int} : biO .max2 [.fr (.int i), .fr (.int j)] = some (.fr (.int (max i j))) := by
  have h : (if j > i then j else i) = max i j := by split <;> omega
  simp only [biO, h]
theorem min2_int {i j : Int} : biO .min2 [.fr (.int i), .fr (.int j)] = some (.fr (.int (min i j))) := by
  have h : (if j < i then j else i) = min i j := by split <;> omega
  simp only [biO, h]
theorem rdpos {m : Int} {l : List Int} {c : Int} {r : List (Option O)} : ev cal (.bin .Mod (.sub (.var 0) (.lit (.int 2))) (.bi .max2 [.lit (.int 1), .bi .len [.sub (.var 0) (.lit (.int 1))]])) (some (hst m l c) :: r) = .ok (.p (.int (posI l c)), some (hst m l c) :: r) := by
  have e1 : ev cal (.bi .max2 [.lit (.int 1), .bi .len [.sub (.var 0) (.lit (.int 1))]]) (some (hst m l c) :: r) = .ok (.p (.int (max 1 (l.length : Int))), some (hst m l c) :: r) := by
    rw [ev]
    simp only [evs, ev.eq_1, rdlen, bok]
    simp [-Res.bind, stayOk, quietL, allSome, max2_int]
  rw [ev]
  simp only [rd2, e1, bok, isq_p, get_p, Bool.not_false, Bool.true_or, if_true]
  rw [mod_int (by omega)]
  rfl
theorem atI_nn {α : Type} {l : List α} {k : Int} (h0 : 0 ≤ k) (h1 : k < l.length) : atI l k = l[k.toNat]? := by
  unfold atI ixN
  rw [if_pos h0, if_pos h1]
  rfl
theorem ixN_nn {n : Nat} {k : Int} (h0 : 0 ≤ k) (h1 : k < n) : ixN n k = some k.toNat := by
  unfold ixN
  rw [if_pos h0, if_pos h1]
theorem cell_at (l : List Int) (c : Int) : atI ((l ++ [0]).map D.int) (posI l c) = some (.int (cellI l c)) := by
  have h := posI_lt l c
  rw [atI_nn h.1 (by simp; omega)]
  unfold cellI
  have hlt : (posI l c).toNat < (l ++ [0]).length := by simp; omega
  rw [List.getElem?_map, List.getElem?_eq_getElem hlt, List.getD_eq_getElem?_getD, List.getElem?_eq_getElem hlt]
  rfl
theorem rdcell {m : Int} {l : List Int} {c : Int} {r : List (Option O)} (hl : l.length ≤ 1000) : ev cal (.sub (.bin .Add (.sub (.var 0) (.lit (.int 1))) (.lst [.lit (.int 0)])) (.bin .Mod (.sub (.var 0) (.lit (.int 2))) (.bi .max2 [.lit (.int 1), .bi .len [.sub (.var 0) (.lit (.int 1))]]))) (some (hst m l c) :: r) = .ok (.p (.int (cellI l c)), some (hst m l c) :: r) := by
  have e1 : ev cal (.lst [.lit (.int 0)]) (some (hst m l c) :: r) = .ok (.t (.ol [.fr (.int 0)]), some (hst m l c) :: r) := by
    rw [ev]
    simp only [evs, ev.eq_1, bok]
    simp [-Res.bind, allSome, lineOk]
  have e2 : ev cal (.bin .Add (.sub (.var 0) (.lit (.int 1))) (.lst [.lit (.int 0)])) (some (hst m l c) :: r) = .ok (.t (.ol ((l ++ [0]).map fun i => .fr (.int i))), some (hst m l c) :: r) := by
    rw [ev]
    simp only [rd1, e1, bok, isq_q, get_q, get_t, Bool.not_true, Bool.false_or]
    have e3 : binO .Add (.ol (l.map fun i => O.fr (.int i))) (.ol [.fr (.int 0)]) = some (.ol ((l ++ [0]).map fun i => .fr (.int i))) := by
      have h1 : (O.ol (l.map fun i => O.fr (.int i))).items = some (false, l.map D.int) := by simp [O.items, leafs_ints]
      have h2 : (O.ol [O.fr (.int 0)]).items = some (false, [D.int 0]) := rfl
      unfold binO
      simp only [h1, h2]
      simp [line_ok (n := l.length + 1) (by omega)]
    rw [e3]
    simp [CE.quiet, quietL]
  rw [ev]
  simp only [e2, rdpos, bok, isq_t, get_t, Bool.not_false, Bool.true_or, if_true]
  have e4 : atO (.ol ((l ++ [0]).map fun i => O.fr (.int i))) (.int (posI l c)) = some (.fr (.int (cellI l c))) := by
    have := cell_at l c
    unfold atO
    simp only
    have h := posI_lt l c
    rw [atI_nn h.1 (by simp; omega)] at this ⊢
    simp only [List.getElem?_map] at this ⊢
    cases e : (l ++ [0])[(posI l c).toNat]? with
    | none => rw [e] at this; simp at this
    | some x => rw [e] at this; simp at this; simp [this]
  rw [e4]
  rfl
end
theorem pow1018 {cal : Nat → List O → CRes} {e : Env} : ev cal (.bin .Pow (.lit (.int 10)) (.lit (.int 18))) e = .ok (.p (.int 1000000000000000000), e) := by
  rw [ev]
  simp only [ev.eq_1, bok, isq_p, get_p, Bool.not_false, Bool.true_or, if_true]
  have : binO .Pow (.fr (.int 10)) (.fr (.int 18)) = some (.fr (.int 1000000000000000000)) := by simp [binO]
  rw [this]
  rfl
theorem hst_set0 (m v : Int) (l : List Int) (c : Int) : setAt (hst m l c) (.int 0) (.fr (.int v)) = some (hst v l c) := rfl
theorem hst_set2 (m v : Int) (l : List Int) (c : Int) : setAt (hst m l c) (.int 2) (.fr (.int v)) = some (hst m l v) := rfl
theorem map_set_int (l : List Int) (j : Nat) (v : Int) : (l.map fun i => O.fr (.int i)).set j (.fr (.int v)) = (l.set j v).map fun i => O.fr (.int i) := by
  rw [List.map_set]
theorem next_ok {P : List Fn} {W k i : Nat} (h : P[i]? = some nextFn) (m : Int) (l : List Int) (c many : Int) (h0 : 0 < many) (h1 : many < 1000000000) (hl : l.length ≤ 1000) :
    ∃ v m' l' c', run P W (k + 1) i [hst m l c, .fr (.int many)] = .ok (.fr (.int v)) [hst m' l' c'] ∧ 0 ≤ v ∧ v < many ∧ l'.length = l.length := by
  have hlog : many.natAbs.log2 < 9000 := by
    have : many.natAbs < 2 ^ 30 := by omega
    have := (Nat.log2_lt (n := many.natAbs) (k := 30) (by omega)).mpr this
    omega
  have v0 : ∀ r : List (Option O), ev (run P W k) (.var 1) (some (hst m l c) :: some (.fr (.int many)) :: r) = .ok (.p (.int many), some (hst m l c) :: some (.fr (.int many)) :: r) := fun r => x_var rfl
  have v2 : ∀ (m c : Int) (l : List Int) (cell : Int), ev (run P W k) (.var 2) [some (hst m l c), some (.fr (.int many)), some (.fr (.int cell))] = .ok (.p (.int cell), [some (hst m l c), some (.fr (.int many)), some (.fr (.int cell))]) := fun m c l cell => x_var rfl
  have first : evS (run P W k) W (nextFn.body.getD 0 .never) [some (hst m l c), some (.fr (.int many)), none] = .ok (.next, [some (hst m l c), some (.fr (.int many)), some (.fr (.int (cellI l c)))]) := x_set (rdcell hl) rfl (by simp)
  have ec : ev (run P W k) (.cmp .GtE (.var 2) (.bin .Pow (.lit (.int 10)) (.lit (.int 18)))) [some (hst m l c), some (.fr (.int many)), some (.fr (.int (cellI l c)))] = .ok (.p (.bl (decide (1000000000000000000 ≤ cellI l c))), [some (hst m l c), some (.fr (.int many)), some (.fr (.int (cellI l c)))]) :=
    x_cmp (v2 m c l _) pow1018 rfl rfl rfl rfl
  have close : ∀ (v : Int) (m' c' : Int) (l' : List Int) (e : Env), evSs (run P W k) W nextFn.body [some (hst m l c), some (.fr (.int many)), none] = .ok (.ret (.fr (.int v)), e) → e[0]? = some (some (hst m' l' c')) → 0 ≤ v ∧ v < many ∧ l'.length = l.length →
      ∃ v m' l' c', run P W (k + 1) i [hst m l c, .fr (.int many)] = .ok (.fr (.int v)) [hst m' l' c'] ∧ 0 ≤ v ∧ v < many ∧ l'.length = l.length := fun v m' c' l' e h1 h2 h3 => by
    refine ⟨v, m', l', c', ?_, h3⟩
    simp only [run, h]
    unfold runB
    rw [if_pos (show ([hst m l c, O.fr (.int many)].length == nextFn.np) = true from rfl)]
    have e0 : ([hst m l c, O.fr (.int many)].map some ++ List.replicate (nextFn.ns - nextFn.np) none) = [some (hst m l c), some (.fr (.int many)), none] := rfl
    rw [e0, h1]
    simp only [outsOf, nextFn, List.map_cons, List.map_nil, h2, join_some, allSome, Option.map_some]
  by_cases hc : (1000000000000000000 : Int) ≤ cellI l c
  · have hne : 0 < l.length := by
      cases l with
      | nil =>
        have : cellI [] c = 0 := by
          unfold cellI
          have := posI_lt [] c
          have e : posI [] c = 0 := by simp at this; omega
          rw [e]; rfl
        rw [this] at hc
        omega
      | cons => simp
    have hp : posI l c = c % (l.length : Int) := by
      unfold posI
      rw [show max 1 (l.length : Int) = l.length by omega]
    have hb := posI_lt l c
    have ep : ev (run P W k) (.bin .Mod (.sub (.var 0) (.lit (.int 2))) (.bi .len [.sub (.var 0) (.lit (.int 1))])) [some (hst m l c), some (.fr (.int many)), some (.fr (.int (cellI l c)))] = .ok (.p (.int (posI l c)), [some (hst m l c), some (.fr (.int many)), some (.fr (.int (cellI l c)))]) := by
      rw [hp]
      exact x_bin rd2 rdlen rfl rfl rfl (mod_int (by omega))
    have hset : setAt (.ol (l.map fun i => O.fr (.int i))) (.int (posI l c)) (.fr (.int (cellI l c / many))) = some (.ol ((l.set (posI l c).toNat (cellI l c / many)).map fun i => .fr (.int i))) := by
      unfold Cr.setAt
      simp only
      rw [ixN_nn hb.1 (by simp; omega)]
      simp only [Option.map_some, map_set_int]
    exact close (cellI l c % many) m c (l.set (posI l c).toNat (cellI l c / many)) _ (x_ss first (x_ssr (x_ift ec (by simpa using hc) (x_ss (x_seti2 (x_bin (v2 m c l _) (v0 _) rfl rfl rfl (div_int h0 hlog)) rfl rfl x_lit rfl rfl ep rfl hset rfl (by simp)) (x_ssr (x_ret (x_bin (x_var rfl) (x_var rfl) rfl rfl rfl (mod_int h0)) rfl)))))) rfl ⟨Int.emod_nonneg _ (by omega), Int.emod_lt_of_pos _ h0, by simp⟩
  · refine close _ _ _ l _ (x_ss first (x_ss (x_iff ec (by simpa using hc) x_ss0) (x_ss (x_seti (x_bin (x_bin (x_bin (x_bin rd0 x_lit rfl rfl rfl (mul_int (bigR (by decide)))) (x_bin (v2 m c l _) x_lit rfl rfl rfl (mul_int (bigR (by decide)))) rfl rfl rfl rfl) x_lit rfl rfl rfl rfl) x_lit rfl rfl rfl (mod_int (by decide))) rfl rfl x_lit rfl (hst_set0 _ _ _ _) (by simp))
      (x_ss (x_seti (x_bin (rd2 (m := _) (l := l) (c := c)) x_lit rfl rfl rfl rfl) rfl rfl x_lit rfl (hst_set2 _ _ _ _) (by simp)) (x_ssr (x_ret (x_bin (x_bin (rd0 (l := l) (c := c + 1)) x_lit rfl rfl rfl (div_int (by decide) (by decide))) (x_var rfl) rfl rfl rfl (mod_int h0)) rfl)))))) rfl ⟨Int.emod_nonneg _ (by omega), Int.emod_lt_of_pos _ h0, rfl⟩
/-! ### loops -/
theorem forL_ok {f : D → Env → Res (Fl × Env)} {Inv : Nat → Env → Prop} : ∀ (ds : List D) (k : Nat) (e : Env), Inv k e → (∀ i d e, ds[i]? = some d → Inv (k + i) e → ∃ e', f d e = .ok (.next, e') ∧ Inv (k + i + 1) e') → ∃ e', forL f ds e = .ok (.next, e') ∧ Inv (k + ds.length) e'
  | [], k, e, h0, st => ⟨e, rfl, h0⟩
  | d :: ds, k, e, h0, st => by
    obtain ⟨e1, h1, h2⟩ := st 0 d e rfl h0
    obtain ⟨e2, h3, h4⟩ := forL_ok ds (k + 1) e1 h2 fun i d e hd hi => by
      have := st (i + 1) d e (by simpa using hd) (by rw [show k + (i + 1) = k + 1 + i by omega]; exact hi)
      rw [show k + (i + 1) + 1 = k + 1 + i + 1 by omega] at this
      exact this
    refine ⟨e2, ?_, ?_⟩
    · simp only [forL, h1, bok, h3]
    · rw [List.length_cons, show k + (ds.length + 1) = k + 1 + ds.length by omega]
      exact h4
section
variable {cal : Nat → List O → CRes} {W : Nat} {e e1 e2 : Env} {t : Tg} {s : Sr} {b : List CS} {ds : List D} {fl : Fl} {a : CE} {h : Hd} {o : O} {i : Nat} {as : List CE} {hs : List Hd} {os : List O} {l : List D} {d : D}
def bodyF (cal : Nat → List O → CRes) (W : Nat) (t : Tg) (b : List CS) (d : D) (e : Env) : Res (Fl × Env) := match t.bind d e with
  | some e => evSs cal W b e
  | none => .er
theorem x_for (h1 : evSr cal s e = .ok (ds, false, e1)) (h2 : forL (bodyF cal W t b) ds e1 = .ok (fl, e2)) : evS cal W (.for_ t s b) e = .ok (fl, e2) := by
  rw [evS, h1]
  exact h2
theorem x_body {eb : Env} (h1 : t.bind d e = some eb) (h2 : evSs cal W b eb = .ok (fl, e2)) : bodyF cal W t b d e = .ok (fl, e2) := by
  unfold bodyF
  rw [h1]
  exact h2
theorem x_seq {bb : Bool} (h1 : ev cal a e = .ok (.p d, e1)) (h2 : (O.fr d).walk = some (bb, ds)) : evSr cal (.seq a) e = .ok (ds, false, e1) := by
  rw [evSr, h1]
  simp only [bok, get_p, h2, istr_p]
theorem x_as0 : evs cal [] e = .ok ([], e) := by rw [evs]
theorem x_as (h1 : ev cal a e = .ok (h, e1)) (h2 : evs cal as e1 = .ok (hs, e2)) : evs cal (a :: as) e = .ok (h :: hs, e2) := by
  rw [evs, h1]
  simp only [bok, h2]
theorem x_lst (h1 : evs cal as e = .ok (hs, e1)) (h2 : allSome (hs.map Hd.val) = some os) (h3 : os.length ≤ 16777216) : ev cal (.lst as) e = .ok (.t (.ol os), e1) := by
  rw [ev, h1]
  simp only [bok, h2, line_ok h3, if_true]
theorem x_tup (h1 : evs cal as e = .ok (hs, e1)) (h2 : allSome (hs.map Hd.val) = some os) (h3 : os.length ≤ 16777216) : ev cal (.tup as) e = .ok (mkH (mkT os), e1) := by
  rw [ev, h1]
  simp only [bok, h2, line_ok h3, if_true]
theorem x_bi {bi : Bi} (h1 : evs cal as e = .ok (hs, e1)) (hk : stayOk hs as = true) (h2 : allSome (hs.map fun h => h.get e1) = some os) (h3 : biO bi os = some o) : ev cal (.bi bi as) e = .ok (mkH o, e1) := by
  rw [ev, h1]
  simp only [bok, hk, if_true, h2, h3]
end
theorem mix_ok {P : List Fn} {W k i : Nat} (h : P[i]? = some mixFn) (ns : List Int) (seed : Int) : ∃ m, run P W (k + 1) i [.fr (.scr ns), .fr (.int seed)] = .ok (hst m ns 0) [] := by
  obtain ⟨e', h1, m, x, rfl⟩ := forL_ok (f := bodyF (run P W k) W (.v 3) [.set 2 (.bin .Mod (.bin .Add (.bin .Add (.bin .Mult (.var 2) (.lit (.int 48271))) (.bin .Mod (.var 3) (.lit (.int 2147483629)))) (.lit (.int 1))) (.lit (.int 2147483647)))])
    (Inv := fun _ e => ∃ (m : Int) (x : Option O), e = [some (.fr (.scr ns)), some (.fr (.int seed)), some (.fr (.int m)), x]) (ns.map D.int) 0 [some (.fr (.scr ns)), some (.fr (.int seed)), some (.fr (.int seed)), none] ⟨seed, none, rfl⟩ (by
      rintro j d e hd ⟨m, x, rfl⟩
      obtain ⟨n, _, rfl⟩ := List.mem_map.mp (List.mem_of_getElem? hd)
      exact ⟨_, x_body (eb := [some (.fr (.scr ns)), some (.fr (.int seed)), some (.fr (.int m)), some (.fr (.int n))]) rfl (x_ss (x_set (x_bin (x_bin (x_bin (x_bin (x_var rfl) x_lit rfl rfl rfl (mul_int (bigR (by decide)))) (x_bin (x_var rfl) x_lit rfl rfl rfl (mod_int (by decide))) rfl rfl rfl rfl) x_lit rfl rfl rfl rfl) x_lit rfl rfl rfl (mod_int (by decide))) rfl (by simp)) x_ss0), _, _, rfl⟩)
  refine ⟨m, ?_⟩
  simp only [run, h]
  unfold runB
  rw [if_pos (show ([O.fr (.scr ns), O.fr (.int seed)].length == mixFn.np) = true from rfl)]
  have e0 : ([O.fr (.scr ns), O.fr (.int seed)].map some ++ List.replicate (mixFn.ns - mixFn.np) none) = [some (.fr (.scr ns)), some (.fr (.int seed)), none, none] := rfl
  have main : evSs (run P W k) W mixFn.body [some (.fr (.scr ns)), some (.fr (.int seed)), none, none] = .ok (.ret (hst m ns 0), [some (.fr (.scr ns)), some (.fr (.int seed)), some (.fr (.int m)), x]) :=
    x_ss (x_set (x_var rfl) rfl (by simp)) (x_ss (x_for (x_seq (x_var rfl) rfl) h1) (x_ssr (x_ret (x_lst (x_as (x_var rfl) (x_as (x_bi (x_as (x_var rfl) x_as0) rfl rfl rfl) (x_as x_lit x_as0))) rfl (by simp)) (by simp [hst, Function.comp_def]))))
  rw [e0, main]
  rfl
/-! ### calls, while, chains, slices -/
section
variable {cal : Nat → List O → CRes} {W : Nat} {e e1 e2 e3 : Env} {a b c : CE} {as : List CE} {hs : List Hd} {os outs : List O} {o r : O} {f : Nat} {io : List Nat} {ha : Hd} {x y z : D} {o1 o2 : CmpOp} {k : Bool} {cs : List CS}
theorem x_call (h1 : evs cal as e = .ok (hs, e1)) (h2 : (stayOk hs as && ioOk hs && ioPos hs 0 == io) = true) (h3 : allSome (hs.map fun h => h.arg e1) = some os) (h4 : cal f os = .ok r outs) (h5 : putOuts (ioSlots hs) outs e1 = some e2) (h6 : (r.clean && cleanL outs) = true) : ev cal (.call f io as) e = .ok (mkH r, e2) := by
  rw [ev, h1]
  simp only [bok, h2, if_true, h3, h4, h5, h6]
theorem x_cmp2 (h1 : ev cal a e = .ok (.p x, e1)) (h2 : ev cal b e1 = .ok (.p y, e2)) (h3 : cmpD o1 x y = some true) (h4 : ev cal c e2 = .ok (.p z, e3)) (h5 : cmpD o2 y z = some k) : ev cal (.cmp2 o1 o2 a b c) e = .ok (.p (.bl k), e3) := by
  rw [ev, h1]
  simp only [bok]
  rw [h2]
  simp only [bok, h3]
  rw [h4]
  simp only [bok, h5]
def condF (cal : Nat → List O → CRes) (c : CE) (e : Env) : Res (Bool × Env) := (ev cal c e).bind fun (h, e) => match boolH h with
  | some k => .ok (k, e)
  | none => .er
theorem x_cond (h1 : ev cal c e = .ok (.p (.bl k), e1)) : condF cal c e = .ok (k, e1) := by
  unfold condF
  rw [h1]
  simp only [bok, boolh]
theorem x_while {fl : Fl} (h : whL (condF cal c) (fun e => evSs cal W cs e) W e = .ok (fl, e1)) : evS cal W (.while_ c cs) e = .ok (fl, e1) := by
  rw [evS]
  exact h
theorem whL_ok {cf : Env → Res (Bool × Env)} {bf : Env → Res (Fl × Env)} {Inv : Nat → Env → Prop} {Post : Env → Prop} (st : ∀ n e, Inv n e → (∃ e1, cf e = .ok (false, e1) ∧ Post e1) ∨ ∃ e1 e2 n', cf e = .ok (true, e1) ∧ bf e1 = .ok (.next, e2) ∧ n' < n ∧ Inv n' e2) :
    ∀ (W n : Nat) (e : Env), n < W → Inv n e → ∃ e1, whL cf bf W e = .ok (.next, e1) ∧ Post e1
  | 0, n, e, h, _ => absurd h (Nat.not_lt_zero _)
  | W + 1, n, e, h, hi => by
    rcases st n e hi with ⟨e1, h1, h2⟩ | ⟨e1, e2, n', h1, h2, h3, h4⟩
    · exact ⟨e1, by simp only [whL, h1, bok, Bool.false_eq_true, if_false], h2⟩
    · obtain ⟨e3, h5, h6⟩ := whL_ok st W n' e2 (by omega) h4
      exact ⟨e3, by simp only [whL, h1, bok, if_true, h2, h5], h6⟩
theorem x_par {i j : Nat} {hb : Hd} {xo yo : O} (h1 : ev cal a e = .ok (ha, e1)) (h2 : ev cal b e1 = .ok (hb, e2)) (v1 : ha.val = some xo) (v2 : hb.val = some yo) (hi : i < e2.length) (hj : j < e2.length) : evS cal W (.par i j a b) e = .ok (.next, (e2.set i (some xo)).set j (some yo)) := by
  rw [evS, h1]
  simp only [bok]
  rw [h2]
  simp only [bok, v1, v2, setS, hi, if_true, Option.bind, List.length_set, hj]
theorem x_slice1 {i : Int} {xo : O} (h1 : ev cal a e = .ok (ha, e1)) (h2 : ev cal b e1 = .ok (.p (.int i), e2)) (hq : (!ha.isQ || b.quiet) = true) (g : ha.get e2 = some xo) (h3 : cutO xo (some i) none = some o) : ev cal (.slice a (some b) none) e = .ok (mkH o, e2) := by
  rw [ev, h1]
  simp only [bok, evO]
  rw [h2]
  have hq' : (!ha.isQ || (quietO (some b) && quietO none)) = true := by simpa [quietO] using hq
  simp only [bok, hq', if_true, g, h3]
theorem x_augi {i : Nat} {kx old dd : Int} {xs ys : List O} {o0 : O} {ix xx : CE} {a1 : O} (hs : (e[i]?).join = some o0) (h1 : ev cal ix e = .ok (.p (.int kx), e1)) (hs1 : (e1[i]?).join = some (.ol xs)) (hat : atI xs kx = some (.fr (.int old))) (h2 : ev cal xx e1 = .ok (.p (.int dd), e2)) (hs2 : (e2[i]?).join = some (.ol ys))
    (h3 : setAt (.ol ys) (.int kx) (.fr (.int (old + dd))) = some a1) (hi : i < e2.length) : evS cal W (.augi i .Add ix xx) e = .ok (.next, e2.set i (some a1)) := by
  rw [evS, hs]
  simp only
  rw [h1]
  simp only [bok, hs1, hat]
  rw [h2]
  simp only [bok, hs2, h3, Option.bind, setS, hi, if_true]
theorem x_rng {ds : List D} (h1 : evs cal as e = .ok (hs, e1)) (h2 : allSome (hs.map Hd.val) = some os) (h3 : (leafs os).bind rngOf = some ds) : evSr cal (.rng as) e = .ok (ds, false, e1) := by
  rw [evSr, h1]
  simp only [bok, h2, h3]
theorem x_enum {ds : List D} (h1 : ev cal a e = .ok (.p x, e1)) (h2 : (O.fr x).items = some (false, ds)) : evSr cal (.enum a) e = .ok (numd 0 ds, false, e1) := by
  rw [evSr, h1]
  simp only [bok, get_p, h2, istr_p]
end
/-- a def that changes no argument -/
theorem run_of {P : List Fn} {W k i : Nat} {fn : Fn} {os : List O} {r : O} {e : Env} (h : P[i]? = some fn) (hn : os.length = fn.np) (hio : fn.io = []) (hb : evSs (run P W k) W fn.body (os.map some ++ List.replicate (fn.ns - fn.np) none) = .ok (.ret r, e)) : run P W (k + 1) i os = .ok r [] := by
  simp only [run, h]
  unfold runB
  rw [if_pos (by simp [hn]), hb, hio]
  rfl
theorem run_of0 {P : List Fn} {W k i : Nat} {fn : Fn} {os : List O} {e : Env} (h : P[i]? = some fn) (hn : os.length = fn.np) (hio : fn.io = []) (hb : evSs (run P W k) W fn.body (os.map some ++ List.replicate (fn.ns - fn.np) none) = .ok (.next, e)) : run P W (k + 1) i os = .ok (.fr .non) [] := by
  simp only [run, h]
  unfold runB
  rw [if_pos (by simp [hn]), hb, hio]
  rfl
/-! ### list comprehensions that change nothing else -/
theorem lcL_map {f : D → Env → Res (Option O × Env)} {e : Env} {g : D → Option O} : ∀ (ds : List D), (∀ d ∈ ds, f d e = .ok (g d, e)) → lcL f ds e = .ok (ds.filterMap g, e)
  | [], _ => rfl
  | d :: ds, h => by
    have h1 := h d (by simp)
    have h2 := lcL_map ds fun d hd => h d (by simp [hd])
    simp only [lcL, h1, bok, h2]
    cases e1 : g d with
    | none => simp [e1]
    | some o => simp [e1]
theorem back_same {e : Env} {own : List Nat} (h : wipeOk own e = true) : backE e (wipeE e own) own = e := by
  refine List.ext_getElem? fun j => backE_wipe (fun j hj => ?_) j
  have := List.all_eq_true.mp h j hj
  simp only [Bool.and_eq_true, decide_eq_true_eq] at this
  exact this.1
section
variable {cal : Nat → List O → CRes} {e : Env} {own : List Nat} {tg : Tg} {s : Sr} {cs : List CE} {x : CE} {ds : List D} {g : D → Option O}
theorem x_lc (h1 : evSr cal s e = .ok (ds, false, e)) (hw : wipeOk own e = true) (hl : ds.length ≤ 16777216) (h : ∀ d ∈ ds, lcF (fun e => evC cal cs e) (fun e => ev cal x e) tg own d (wipeE e own) = .ok (g d, wipeE e own)) : ev cal (.lc own tg s cs x) e = .ok (.t (.ol (ds.filterMap g)), e) := by
  rw [ev, h1]
  simp only [bok, hw, Bool.not_false, Bool.true_or, Bool.and_self, if_true]
  rw [lcL_map ds h]
  simp only [Res.noEx, bok, line_ok hl, if_true, back_same hw]
theorem x_turn {d : D} {e1 : Env} {h : Hd} {o : O} (hb : tg.bind d (wipeE e own) = some e1) (hx : ev cal x e1 = .ok (h, e1)) (hv : h.val = some o) (hw : wipeOk own e1 = true) (hs : wipeE e1 own = wipeE e own) : lcF (fun e => evC cal [] e) (fun e => ev cal x e) tg own d (wipeE e own) = .ok (some o, wipeE e own) := by
  unfold lcF
  rw [hb]
  simp only [evC, bok, if_true, hx, hv, hw, hs]
theorem x_turnC {d : D} {e1 : Env} {h : Hd} {o : O} {c : CE} {k : Bool} (hb : tg.bind d (wipeE e own) = some e1) (hc : ev cal c e1 = .ok (.p (.bl k), e1)) (hx : k = true → ev cal x e1 = .ok (h, e1)) (hv : h.val = some o) (hw : wipeOk own e1 = true) (hs : wipeE e1 own = wipeE e own) :
    lcF (fun e => evC cal [c] e) (fun e => ev cal x e) tg own d (wipeE e own) = .ok (if k = true then some o else none, wipeE e own) := by
  unfold lcF
  rw [hb]
  simp only [evC, hc, bok, boolh]
  cases k with
  | true => simp only [evC, bok, if_true, hx rfl, hv, hw, hs]
  | false => simp only [bok, Bool.false_eq_true, if_false, hw, if_true, hs]
end
end Cr
end

section
namespace K31
open PySem L2 Cr
def f_need_count : Fn := ⟨3, 3, [], [.if_ (.not (.cmp2 .LtE .LtE (.var 1) (.var 0) (.var 2))) [.never] []]⟩
def f_lowest : Fn := ⟨2, 4, [], [.par 2 3 (.var 0) (.var 1),
  .while_ (.cmp .NotEq (.var 3) (.lit (.int 0))) [.par 2 3 (.var 3) (.bin .Mod (.var 2) (.var 3))],
  .ret (.tup [.bin .FloorDiv (.var 0) (.var 2), .bin .FloorDiv (.var 1) (.var 2)])]⟩
def f_tail : Fn := ⟨3, 8, [], [.expr (.call 0 [] [.var 0, .lit (.int 0), .glob "WHOLE" (.int 1000)]),
  .expr (.call 0 [] [.var 1, .lit (.int 1), .glob "MOST_TRIALS" (.int 40)]),
  .expr (.call 0 [] [.var 2, .lit (.int 0), .var 1]),
  .set 3 (.lst [.lit (.int 1)]),
  .for_ (.v 4) (.rng [.var 1]) [.set 5 (.bin .Mult (.lst [.lit (.int 0)]) (.bin .Add (.bi .len [.var 3]) (.lit (.int 1)))),
    .for_ (.tup [.v 6, .v 7]) (.enum (.fz 3)) [.augi 5 .Add (.var 6) (.bin .Mult (.var 7) (.bin .Sub (.glob "WHOLE" (.int 1000)) (.var 0))),
      .augi 5 .Add (.bin .Add (.var 6) (.lit (.int 1))) (.bin .Mult (.var 7) (.var 0))],
    .set 3 (.fz 5)],
  .ret (.call 1 [] [.bi .sum [.slice (.var 3) (some (.var 2)) none], .bi .sum [.var 3]])]⟩
def f_is_doubted : Fn := ⟨4, 6, [], [.expr (.call 0 [] [.var 3, .lit (.int 0), .glob "WHOLE" (.int 1000)]),
  .unp (.tup [.v 4, .v 5]) (.call 2 [] [.var 0, .var 1, .var 2]),
  .ret (.cmp .LtE (.bin .Mult (.var 4) (.glob "WHOLE" (.int 1000))) (.bin .Mult (.var 3) (.var 5)))]⟩
def f__law_mix : Fn := ⟨2, 4, [], [.set 2 (.var 1),
  .for_ (.v 3) (.seq (.var 0)) [.set 2 (.bin .Mod (.bin .Add (.bin .Add (.bin .Mult (.var 2) (.lit (.int 48271))) (.bin .Mod (.var 3) (.lit (.int 2147483629)))) (.lit (.int 1))) (.lit (.int 2147483647)))],
  .ret (.lst [.var 2, .bi .list [.var 0], .lit (.int 0)])]⟩
def f__law_next : Fn := ⟨2, 3, [0], [.set 2 (.sub (.bin .Add (.sub (.var 0) (.lit (.int 1))) (.lst [.lit (.int 0)])) (.bin .Mod (.sub (.var 0) (.lit (.int 2))) (.bi .max2 [.lit (.int 1), .bi .len [.sub (.var 0) (.lit (.int 1))]]))),
  .if_ (.cmp .GtE (.var 2) (.bin .Pow (.lit (.int 10)) (.lit (.int 18)))) [.seti 0 (some (.lit (.int 1))) (.bin .Mod (.sub (.var 0) (.lit (.int 2))) (.bi .len [.sub (.var 0) (.lit (.int 1))])) (.bin .FloorDiv (.var 2) (.var 1)),
    .ret (.bin .Mod (.var 2) (.var 1))] [],
  .seti 0 none (.lit (.int 0)) (.bin .Mod (.bin .Add (.bin .Add (.bin .Mult (.sub (.var 0) (.lit (.int 0))) (.lit (.int 48271))) (.bin .Mult (.var 2) (.lit (.int 69621)))) (.lit (.int 11))) (.lit (.int 2147483647))),
  .seti 0 none (.lit (.int 2)) (.bin .Add (.sub (.var 0) (.lit (.int 2))) (.lit (.int 1))),
  .ret (.bin .Mod (.bin .FloorDiv (.sub (.var 0) (.lit (.int 0))) (.lit (.int 7))) (.var 1))]⟩
def f_law : Fn := ⟨1, 15, [], [.set 1 (.call 4 [] [.var 0, .lit (.int 139)]),
  .for_ (.v 2) (.rng [.lit (.int 5)]) [.unp (.tup [.v 3, .v 4]) (.tup [.call 5 [0] [.io 1, .lit (.int 1001)], .bin .Add (.lit (.int 1)) (.call 5 [0] [.io 1, .lit (.int 39)])]),
    .set 6 (.lc [5] (.v 5) (.rng [.bin .Add (.var 4) (.lit (.int 1))]) [] (.call 2 [] [.var 3, .var 4, .var 5])),
    .if_ (.cmp .NotEq (.sub (.var 6) (.lit (.int 0))) (.tup [.lit (.int 1), .lit (.int 1)])) [.ret (.lit (.bl false))] [],
    .for_ (.v 7) (.rng [.var 4]) [.if_ (.cmp .Lt (.bin .Mult (.sub (.sub (.var 6) (.var 7)) (.lit (.int 0))) (.sub (.sub (.var 6) (.bin .Add (.var 7) (.lit (.int 1)))) (.lit (.int 1)))) (.bin .Mult (.sub (.sub (.var 6) (.bin .Add (.var 7) (.lit (.int 1)))) (.lit (.int 0))) (.sub (.sub (.var 6) (.var 7)) (.lit (.int 1))))) [.ret (.lit (.bl false))] [],
      .par 8 9 (.sub (.var 6) (.bin .Add (.var 7) (.lit (.int 1)))) (.call 2 [] [.bin .Sub (.lit (.int 1000)) (.var 3), .var 4, .bin .Sub (.var 4) (.var 7)]),
      .if_ (.cmp .NotEq (.bin .Add (.bin .Mult (.sub (.var 8) (.lit (.int 0))) (.sub (.var 9) (.lit (.int 1)))) (.bin .Mult (.sub (.var 9) (.lit (.int 0))) (.sub (.var 8) (.lit (.int 1))))) (.bin .Mult (.sub (.var 8) (.lit (.int 1))) (.sub (.var 9) (.lit (.int 1))))) [.ret (.lit (.bl false))] []],
    .set 5 (.call 5 [0] [.io 1, .bin .Add (.var 4) (.lit (.int 1))]),
    .par 10 11 (.sub (.var 6) (.var 5)) (.call 2 [] [.var 3, .bin .Add (.var 4) (.lit (.int 1)), .var 5]),
    .set 12 (.call 2 [] [.bi .min2 [.lit (.int 1000), .bin .Add (.bin .Add (.var 3) (.lit (.int 1))) (.call 5 [0] [.io 1, .lit (.int 50)])], .var 4, .var 5]),
    .if_ (.or [.cmp .Gt (.bin .Mult (.sub (.var 10) (.lit (.int 0))) (.sub (.var 11) (.lit (.int 1)))) (.bin .Mult (.sub (.var 11) (.lit (.int 0))) (.sub (.var 10) (.lit (.int 1)))), .cmp .Gt (.bin .Mult (.sub (.var 10) (.lit (.int 0))) (.sub (.var 12) (.lit (.int 1)))) (.bin .Mult (.sub (.var 12) (.lit (.int 0))) (.sub (.var 10) (.lit (.int 1))))]) [.ret (.lit (.bl false))] [],
    .set 14 (.lc [13] (.v 13) (.rng [.lit (.int 0), .lit (.int 1001), .lit (.int 50)]) [.call 3 [] [.var 3, .var 4, .var 5, .var 13]] (.var 13)),
    .if_ (.cmp .NotEq (.var 14) (.slice (.listR (.rng [.lit (.int 0), .lit (.int 1001), .lit (.int 50)])) (some (.bin .Sub (.lit (.int 21)) (.bi .len [.var 14]))) none)) [.ret (.lit (.bl false))] []],
  .ret (.lit (.bl true))]⟩
def core : List Fn := [f_need_count, f_lowest, f_tail, f_is_doubted, f__law_mix, f__law_next, f_law]
abbrev Wf : Nat := 10 ^ 200
theorem need_ok {P : List Fn} {W k i : Nat} (h : P[i]? = some f_need_count) {n lo hi : Int} (h1 : lo ≤ n) (h2 : n ≤ hi) : run P W (k + 1) i [.fr (.int n), .fr (.int lo), .fr (.int hi)] = .ok (.fr .non) [] := by
  refine run_of0 (e := [some (.fr (.int n)), some (.fr (.int lo)), some (.fr (.int hi))]) h rfl rfl (x_ss (x_iff (x_not (r := true) (x_cmp2 (x_var rfl) (x_var rfl) ?_ (x_var rfl) ?_)) rfl x_ss0) x_ss0)
  · rw [le_int, decide_eq_true h1]
  · rw [le_int, decide_eq_true h2]
theorem gcd_step {x y : Int} (hx : 0 ≤ x) (hy : 0 ≤ y) : Int.gcd y (x % y) = Int.gcd x y := by
  obtain ⟨n, rfl⟩ := Int.eq_ofNat_of_zero_le hx
  obtain ⟨m, rfl⟩ := Int.eq_ofNat_of_zero_le hy
  rw [← Int.natCast_emod, Int.gcd_natCast_natCast, Int.gcd_natCast_natCast, Nat.gcd_comm m, ← Nat.gcd_rec, Nat.gcd_comm]
theorem low_ok {P : List Fn} {W k i : Nat} (h : P[i]? = some f_lowest) {a b : Int} (h1 : 0 ≤ a) (h2 : 0 < b) (hW : b.toNat < W) (hb : b.natAbs.log2 < 9000) : run P W (k + 1) i [.fr (.int a), .fr (.int b)] = .ok (.fr (.tup [.int (a / (Int.gcd a b : Int)), .int (b / (Int.gcd a b : Int))])) [] := by
  obtain ⟨e1, hw, g, o, rfl, hg⟩ := whL_ok (cf := condF (run P W k) (.cmp .NotEq (.var 3) (.lit (.int 0)))) (bf := fun e => evSs (run P W k) W [.par 2 3 (.var 3) (.bin .Mod (.var 2) (.var 3))] e)
    (Inv := fun n e => ∃ x y : Int, e = [some (.fr (.int a)), some (.fr (.int b)), some (.fr (.int x)), some (.fr (.int y))] ∧ 0 ≤ x ∧ 0 ≤ y ∧ Int.gcd x y = Int.gcd a b ∧ y.toNat = n)
    (Post := fun e => ∃ (g : Int) (o : Option O), e = [some (.fr (.int a)), some (.fr (.int b)), some (.fr (.int g)), o] ∧ g = (Int.gcd a b : Int)) (by
      rintro n e ⟨x, y, rfl, hx, hy, hgcd, rfl⟩
      by_cases h0 : y = 0
      · subst h0
        refine .inl ⟨_, x_cond (x_cmp (x_var rfl) x_lit rfl rfl rfl (r := false) rfl), _, _, rfl, ?_⟩
        rw [← hgcd, Int.gcd_zero_right]
        omega
      · have hpos : 0 < y := by omega
        refine .inr ⟨_, [some (.fr (.int a)), some (.fr (.int b)), some (.fr (.int y)), some (.fr (.int (x % y)))], (x % y).toNat, x_cond (x_cmp (x_var rfl) x_lit rfl rfl rfl (r := true) ?_), x_ss (x_par (x_var rfl) (x_bin (x_var rfl) (x_var rfl) rfl rfl rfl (mod_int hpos)) rfl rfl (by simp) (by simp)) x_ss0, ?_, _, _, rfl, by omega, Int.emod_nonneg _ (by omega), ?_, rfl⟩
        · simp [cmpD, eqD, shp, h0]
        · have := Int.emod_lt_of_pos x hpos
          have := Int.emod_nonneg x (show y ≠ 0 by omega)
          omega
        · rw [← hgcd]; exact gcd_step hx hy) W b.toNat _ hW ⟨a, b, rfl, h1, by omega, rfl, rfl⟩
  subst hg
  have gpos : 0 < (Int.gcd a b : Int) := by
    have := Int.gcd_pos_of_ne_zero_right a (show b ≠ 0 by omega)
    omega
  have gle : (Int.gcd a b : Int) ≤ b := Int.le_of_dvd h2 (Int.gcd_dvd_right ..)
  have glog : ((Int.gcd a b : Int)).natAbs.log2 < 9000 := by
    have e1 : ((Int.gcd a b : Int)).natAbs ≤ b.natAbs := by omega
    exact (Nat.log2_lt (by omega)).mpr (Nat.lt_of_le_of_lt e1 ((Nat.log2_lt (by omega)).mp hb))
  exact run_of (e := [some (.fr (.int a)), some (.fr (.int b)), some (.fr (.int (Int.gcd a b))), o]) h rfl rfl (x_ss (x_par (x_var rfl) (x_var rfl) rfl rfl (by simp [f_lowest]) (by simp [f_lowest])) (x_ss (x_while hw) (x_ssr (x_ret (x_tup (x_as (x_bin (x_var rfl) (x_var rfl) rfl rfl rfl (div_int gpos glog)) (x_as (x_bin (x_var rfl) (x_var rfl) rfl rfl rfl (div_int gpos glog)) x_as0)) rfl (by simp)) rfl))))
/-! ### the tail of chances -/
def T (p : Int) : Nat → Nat → Int
  | 0, 0 => 1
  | 0, _ + 1 => 0
  | n + 1, 0 => 1000 * T p n 0
  | n + 1, f + 1 => (1000 - p) * T p n (f + 1) + p * T p n f
def B (p : Int) (n k : Nat) : Int := T p n k - T p n (k + 1)
def row (p : Int) (n : Nat) : List Int := (List.range (n + 1)).map (B p n)
theorem T0 (p : Int) : ∀ n : Nat, T p n 0 = 1000 ^ n
  | 0 => rfl
  | n + 1 => by rw [T, T0 p n, Int.pow_succ, Int.mul_comm]
theorem Tout (p : Int) : ∀ n f : Nat, n < f → T p n f = 0
  | 0, f + 1, _ => rfl
  | n + 1, f + 1, h => by rw [T, Tout p n (f + 1) (by omega), Tout p n f (by omega)]; simp
theorem B0 (p : Int) (n : Nat) : B p (n + 1) 0 = (1000 - p) * B p n 0 := by
  unfold B
  simp only [T, Int.mul_sub, Int.sub_mul]
  omega
theorem BS (p : Int) (n k : Nat) : B p (n + 1) (k + 1) = (1000 - p) * B p n (k + 1) + p * B p n k := by
  unfold B
  simp only [T, Int.mul_sub, Int.sub_mul]
  omega
theorem Bout (p : Int) (n k : Nat) (h : n < k) : B p n k = 0 := by
  unfold B
  rw [Tout p n k h, Tout p n (k + 1) (by omega)]
  rfl
/-- the longer row after j turns of the inner loop, by places -/
def prev (p : Int) (n : Nat) : Nat → Int
  | 0 => 0
  | j + 1 => p * B p n j
def part (p : Int) (n j q : Nat) : Int := if q < j then B p (n + 1) q else if q = j then prev p n j else 0
def lon (p : Int) (n j : Nat) : List Int := (List.range (n + 2)).map (part p n j)
theorem lon0 (p : Int) (n : Nat) : lon p n 0 = List.replicate (n + 2) 0 := by
  refine List.ext_getElem (by simp [lon]) fun q h1 h2 => ?_
  simp only [lon, List.getElem_map, List.getElem_range, List.getElem_replicate, part]
  split
  · omega
  · split
    · rename_i e; subst e; rfl
    · rfl
theorem lon_all (p : Int) (n : Nat) : lon p n (n + 1) = row p (n + 1) := by
  refine List.ext_getElem (by simp [lon, row]) fun q h1 h2 => ?_
  simp only [lon, row, List.length_map, List.length_range] at h1
  simp only [lon, row, List.getElem_map, List.getElem_range, part]
  split
  · rfl
  · have : q = n + 1 := by omega
    subst this
    rw [if_pos rfl, BS, Bout p n (n + 1) (by omega)]
    simp [prev]
theorem lon_at (p : Int) (n j : Nat) (h : j < n + 2) : (lon p n j)[j]? = some (prev p n j) := by
  simp [lon, part, h]
theorem lon_at1 (p : Int) (n j : Nat) (h : j + 1 < n + 2) : (lon p n j)[j + 1]? = some 0 := by
  simp [lon, part, h]
  intro; omega
theorem lon_step (p : Int) (n j : Nat) (h : j + 1 < n + 2) : ((lon p n j).set j (prev p n j + B p n j * (1000 - p))).set (j + 1) (0 + B p n j * p) = lon p n (j + 1) := by
  refine List.ext_getElem (by simp [lon]) fun q h1 h2 => ?_
  simp only [List.getElem_set]
  simp only [lon, List.length_map, List.length_range] at h2
  by_cases e1 : j + 1 = q
  · subst e1
    simp [lon, part, prev, Int.mul_comm]
  · rw [if_neg e1]
    by_cases e2 : j = q
    · subst e2
      rw [if_pos rfl]
      simp only [lon, List.getElem_map, List.getElem_range, part]
      rw [if_pos (by omega)]
      cases j with
      | zero => rw [B0]; simp [prev, Int.mul_comm]
      | succ j => rw [BS]; simp only [prev, Int.mul_comm (B p n (j + 1))]; omega
    · rw [if_neg e2]
      simp only [lon, List.getElem_map, List.getElem_range, part]
      by_cases e3 : q < j
      · rw [if_pos e3, if_pos (by omega)]
      · rw [if_neg e3, if_neg (by omega), if_neg (by omega), if_neg (by omega)]
theorem numd_at : ∀ (l : List Int) (k i : Nat), (numd k (l.map D.int))[i]? = (l[i]?).map fun x => D.tup [.int ((k + i : Nat) : Int), .int x]
  | [], k, i => by simp [numd]
  | x :: l, k, 0 => by simp [numd]
  | x :: l, k, i + 1 => by
    simp only [List.map_cons, numd, List.getElem?_cons_succ]
    rw [numd_at l (k + 1) i]
    congr 2
    funext x
    rw [show k + 1 + i = k + (i + 1) by omega]
theorem numdLen : ∀ (l : List D) (k : Nat), (numd k l).length = l.length
  | [], _ => rfl
  | _ :: l, k => by simp [numd, numdLen l]
theorem sumI_ints : ∀ l : List Int, sumI (l.map D.int) = some l.sum
  | [] => rfl
  | x :: l => by simp [sumI, sumI_ints l]
theorem ints_at (l : List Int) (j : Nat) (x : Int) (h : l[j]? = some x) : atI (l.map fun i => O.fr (.int i)) (j : Int) = some (.fr (.int x)) := by
  have hlt := (List.getElem?_eq_some_iff.mp h).1
  rw [atI_nn (by omega) (by simpa using hlt)]
  simp [h]
theorem ints_set (l : List Int) (j : Nat) (v : Int) (h : j < l.length) : setAt (.ol (l.map fun i => O.fr (.int i))) (.int (j : Int)) (.fr (.int v)) = some (.ol ((l.set j v).map fun i => O.fr (.int i))) := by
  unfold Cr.setAt
  simp only
  rw [ixN_nn (by omega) (by simpa using h)]
  simp [List.map_set]
/-- the row as it stands in its slot -/
def rowIs (o : O) (l : List Int) : Prop := o = .ol (l.map fun i => .fr (.int i)) ∨ o = .fr (.lst (l.map D.int))
theorem rowIs.frz {o : O} {l : List Int} (h : rowIs o l) : o.frz = .lst (l.map D.int) := by
  rcases h with rfl | rfl
  · simp [frzL_ints]
  · rfl
theorem rowIs.len {o : O} {l : List Int} (h : rowIs o l) : biO .len [o] = some (.fr (.int l.length)) := by
  simp [biO, h.frz]
theorem x_lenv {cal : Nat → List O → CRes} {e : Cr.Env} {i : Nat} {o : O} {l : List Int} (hs : (e[i]?).join = some o) (h : rowIs o l) : ev cal (.bi .len [.var i]) e = .ok (.p (.int l.length), e) := by
  have := h.len
  rcases h with rfl | rfl
  · exact x_bi (x_as (x_varl hs) x_as0) rfl (by simp [allSome, hs]) this
  · exact x_bi (x_as (x_var hs) x_as0) rfl (by simp [allSome]) this
theorem inner_ok {P : List Fn} {W k : Nat} {p n f tn : Int} {i : Nat} {c0 m0 : Option O} (hi : i ≤ 40) (hp : -1000 ≤ p) (hp2 : p ≤ 2000) :
    ∃ c1 m1, forL (bodyF (run P W k) W (.tup [.v 6, .v 7]) [.augi 5 .Add (.var 6) (.bin .Mult (.var 7) (.bin .Sub (.glob "WHOLE" (.int 1000)) (.var 0))), .augi 5 .Add (.bin .Add (.var 6) (.lit (.int 1))) (.bin .Mult (.var 7) (.var 0))]) (numd 0 ((row p i).map D.int))
      [some (.fr (.int p)), some (.fr (.int n)), some (.fr (.int f)), some (.fr (.lst ((row p i).map D.int))), some (.fr (.int tn)), some (.ol ((lon p i 0).map fun i => .fr (.int i))), c0, m0] =
      .ok (.next, [some (.fr (.int p)), some (.fr (.int n)), some (.fr (.int f)), some (.fr (.lst ((row p i).map D.int))), some (.fr (.int tn)), some (.ol ((row p (i + 1)).map fun i => .fr (.int i))), c1, m1]) := by
  obtain ⟨e1, h1, c1, m1, rfl⟩ := forL_ok (f := bodyF (run P W k) W (.tup [.v 6, .v 7]) [.augi 5 .Add (.var 6) (.bin .Mult (.var 7) (.bin .Sub (.glob "WHOLE" (.int 1000)) (.var 0))), .augi 5 .Add (.bin .Add (.var 6) (.lit (.int 1))) (.bin .Mult (.var 7) (.var 0))])
    (Inv := fun j e => ∃ c m, e = [some (.fr (.int p)), some (.fr (.int n)), some (.fr (.int f)), some (.fr (.lst ((row p i).map D.int))), some (.fr (.int tn)), some (.ol ((lon p i j).map fun i => .fr (.int i))), c, m]) (numd 0 ((row p i).map D.int)) 0 _ ⟨c0, m0, rfl⟩ (by
      rintro j d e hd ⟨c, m, rfl⟩
      rw [Nat.zero_add] at *
      rw [numd_at] at hd
      obtain ⟨x, hx, rfl⟩ := Option.map_eq_some_iff.mp hd
      rw [Nat.zero_add]
      have hj : j < i + 1 := by
        have := (List.getElem?_eq_some_iff.mp hx).1
        simpa [row] using this
      have hxB : x = B p i j := by
        simp [row, hj] at hx
        exact hx.symm
      subst hxB
      have a1 := lon_at p i j (by omega)
      have a2 : ((lon p i j).set j (prev p i j + B p i j * (1000 - p)))[j + 1]? = some 0 := by
        rw [List.getElem?_set_ne (by omega)]
        exact lon_at1 p i j (by omega)
      have hl1 : j < (lon p i j).length := by simp [lon]; omega
      have hl2 : j + 1 < ((lon p i j).set j (prev p i j + B p i j * (1000 - p))).length := by simp [lon]; omega
      have s1 : evS (run P W k) W (.augi 5 .Add (.var 6) (.bin .Mult (.var 7) (.bin .Sub (.glob "WHOLE" (.int 1000)) (.var 0)))) [some (.fr (.int p)), some (.fr (.int n)), some (.fr (.int f)), some (.fr (.lst ((row p i).map D.int))), some (.fr (.int tn)), some (.ol ((lon p i j).map fun i => .fr (.int i))), some (.fr (.int j)), some (.fr (.int (B p i j)))] =
          .ok (.next, [some (.fr (.int p)), some (.fr (.int n)), some (.fr (.int f)), some (.fr (.lst ((row p i).map D.int))), some (.fr (.int tn)), some (.ol (((lon p i j).set j (prev p i j + B p i j * (1000 - p))).map fun i => .fr (.int i))), some (.fr (.int j)), some (.fr (.int (B p i j)))]) :=
        x_augi rfl (x_var rfl) rfl (ints_at _ _ _ a1) (x_bin (x_var rfl) (x_bin x_glob (x_var rfl) rfl rfl rfl rfl) rfl rfl rfl (mul_int (bigR (by omega)))) rfl (ints_set _ _ _ hl1) (by simp)
      have s2 : evS (run P W k) W (.augi 5 .Add (.bin .Add (.var 6) (.lit (.int 1))) (.bin .Mult (.var 7) (.var 0))) [some (.fr (.int p)), some (.fr (.int n)), some (.fr (.int f)), some (.fr (.lst ((row p i).map D.int))), some (.fr (.int tn)), some (.ol (((lon p i j).set j (prev p i j + B p i j * (1000 - p))).map fun i => .fr (.int i))), some (.fr (.int j)), some (.fr (.int (B p i j)))] =
          .ok (.next, [some (.fr (.int p)), some (.fr (.int n)), some (.fr (.int f)), some (.fr (.lst ((row p i).map D.int))), some (.fr (.int tn)), some (.ol ((((lon p i j).set j (prev p i j + B p i j * (1000 - p))).set (j + 1) (0 + B p i j * p)).map fun i => .fr (.int i))), some (.fr (.int j)), some (.fr (.int (B p i j)))]) :=
        x_augi (e1 := [some (.fr (.int p)), some (.fr (.int n)), some (.fr (.int f)), some (.fr (.lst ((row p i).map D.int))), some (.fr (.int tn)), some (.ol (((lon p i j).set j (prev p i j + B p i j * (1000 - p))).map fun i => .fr (.int i))), some (.fr (.int j)), some (.fr (.int (B p i j)))])
          (e2 := [some (.fr (.int p)), some (.fr (.int n)), some (.fr (.int f)), some (.fr (.lst ((row p i).map D.int))), some (.fr (.int tn)), some (.ol (((lon p i j).set j (prev p i j + B p i j * (1000 - p))).map fun i => .fr (.int i))), some (.fr (.int j)), some (.fr (.int (B p i j)))])
          (kx := ((j + 1 : Nat) : Int)) rfl (by rw [show ((j + 1 : Nat) : Int) = (j : Int) + 1 by omega]; exact x_bin (x_var (d := .int (j : Int)) rfl) x_lit rfl rfl rfl add_int) rfl (ints_at _ (j + 1) _ a2) (x_bin (x_var (d := .int (B p i j)) rfl) (x_var (d := .int p) rfl) rfl rfl rfl (mul_int (bigR (by omega)))) rfl (ints_set _ (j + 1) _ hl2) (by simp)
      rw [lon_step p i j (by omega)] at s2
      exact ⟨_, x_body rfl (x_ss s1 (x_ss s2 x_ss0)), _, _, rfl⟩)
  refine ⟨c1, m1, ?_⟩
  rw [h1]
  have : 0 + (numd 0 ((row p i).map D.int)).length = i + 1 := by rw [numdLen]; simp [row]
  rw [this, lon_all]
theorem rowIs.items {o : O} {l : List Int} (h : rowIs o l) : o.items = some (false, l.map D.int) := by
  rcases h with rfl | rfl
  · simp [O.items, leafs_ints]
  · rfl
theorem frs_ints : ∀ l : List Int, (l.map D.int).map O.fr = l.map fun i => O.fr (.int i)
  | [] => rfl
  | x :: l => by simp
theorem cut_ints {o : O} {l : List Int} (h : rowIs o l) (f : Nat) (hf : f ≤ l.length) : cutO o (some (f : Int)) none = some (.ol ((l.drop f).map fun i => .fr (.int i))) := by
  unfold cutO
  rw [h.items]
  simp only [cutD, HT.sIx_nat, HT.sIx_none, List.length_map, Nat.min_eq_left hf]
  rw [← List.map_drop, List.take_of_length_le (by simp), frs_ints]
theorem sum_ints (l : List Int) : biO .sum [.ol (l.map fun i => .fr (.int i))] = some (.fr (.int l.sum)) := by
  simp [biO, O.items, leafs_ints, sumI_ints]
theorem x_sumdrop {cal : Nat → List O → CRes} {e : Cr.Env} {i j f : Nat} {o : O} {l : List Int} (hs : (e[i]?).join = some o) (h : rowIs o l) (hf : (e[j]?).join = some (.fr (.int (f : Int)))) (hl : f ≤ l.length) : ev cal (.bi .sum [.slice (.var i) (some (.var j)) none]) e = .ok (.p (.int (l.drop f).sum), e) := by
  have hc := cut_ints h f hl
  have h1 : ev cal (.slice (.var i) (some (.var j)) none) e = .ok (.t (.ol ((l.drop f).map fun i => .fr (.int i))), e) := by
    rcases h with rfl | rfl
    · exact x_slice1 (x_varl hs) (x_var hf) rfl hs hc
    · exact x_slice1 (x_var hs) (x_var hf) rfl rfl hc
  exact x_bi (x_as h1 x_as0) rfl rfl (sum_ints _)
theorem x_sumall {cal : Nat → List O → CRes} {e : Cr.Env} {i : Nat} {o : O} {l : List Int} (hs : (e[i]?).join = some o) (h : rowIs o l) : ev cal (.bi .sum [.var i]) e = .ok (.p (.int l.sum), e) := by
  have hb : biO .sum [o] = some (.fr (.int l.sum)) := by simp [biO, h.items, sumI_ints]
  rcases h with rfl | rfl
  · exact x_bi (x_as (x_varl hs) x_as0) rfl (by simp [allSome, hs]) hb
  · exact x_bi (x_as (x_var hs) x_as0) rfl (by simp [allSome]) hb
/-- sums of the row's end -/
theorem sum_drop (p : Int) (n : Nat) : ∀ (m f : Nat), m + f = n + 1 → ((row p n).drop f).sum = T p n f
  | 0, f, h => by
    rw [List.drop_eq_nil_of_le (by simp [row]; omega), Tout p n f (by omega)]
    rfl
  | m + 1, f, h => by
    have hf : f < (row p n).length := by simp [row]; omega
    rw [List.drop_eq_getElem_cons hf, List.sum_cons, sum_drop p n m (f + 1) (by omega)]
    simp [row, B]
theorem k40 : 1000 ^ 40 < 2 ^ 400 := by decide +kernel
theorem pow_facts {n W : Nat} (h : n ≤ 40) (hW : 1000 ^ 40 < W) : 0 < (1000 : Int) ^ n ∧ ((1000 : Int) ^ n).toNat < W ∧ ((1000 : Int) ^ n).natAbs.log2 < 9000 := by
  have e : (1000 : Int) ^ n = ((1000 ^ n : Nat) : Int) := by rw [Int.natCast_pow]; rfl
  have h1 : (1000 : Nat) ^ n ≤ 1000 ^ 40 := Nat.pow_le_pow_right (by decide) h
  have h0 : 0 < (1000 : Nat) ^ n := Nat.pow_pos (by decide)
  rw [e]
  refine ⟨Int.ofNat_lt.mpr h0, ?_, ?_⟩
  · rw [Int.toNat_natCast]
    exact Nat.lt_of_le_of_lt h1 hW
  · rw [Int.natAbs_natCast]
    have : (1000 ^ n : Nat).log2 < 400 := (Nat.log2_lt (Nat.ne_of_gt h0)).mpr (Nat.lt_of_le_of_lt h1 k40)
    exact Nat.lt_trans this (by decide)
theorem rng_small {n : Nat} (h : n ≤ 1000000) : rngOk 0 (n : Int) 1 = true := by
  unfold rngOk
  simp only [Bool.and_eq_true, Bool.or_eq_true, decide_eq_true_eq]
  have e : (2 : Int) ^ 60 = 1152921504606846976 := by decide +kernel
  rw [e]
  refine ⟨⟨⟨⟨.inr ⟨by decide, by decide⟩, by decide⟩, by decide⟩, by omega⟩, by omega⟩
theorem rngOf_small {n : Nat} (h : n ≤ 1000000) : rngOf [.int (n : Int)] = some (rngL 0 n 1) := by
  show (if rngOk 0 (n : Int) 1 = true then some (rngL 0 (n : Int) 1) else none) = _
  rw [rng_small h]
  rfl
theorem tail_ok {P : List Fn} {W k i : Nat} (h : P[i]? = some f_tail) (hn : P[0]? = some f_need_count) (hlow : P[1]? = some f_lowest) {p : Int} {n f : Nat} (hp : 0 ≤ p) (hp2 : p ≤ 1000) (h1 : 1 ≤ n) (h2 : n ≤ 40) (hf : f ≤ n) (h0 : 0 ≤ T p n f) (hW : 1000 ^ 40 < W) :
    run P W (k + 1 + 1) i [.fr (.int p), .fr (.int n), .fr (.int f)] = .ok (.fr (.tup [.int (T p n f / (Int.gcd (T p n f) (1000 ^ n) : Int)), .int (1000 ^ n / (Int.gcd (T p n f) (1000 ^ n) : Int))])) [] := by
  obtain ⟨hpos, hWn, hlg⟩ := pow_facts h2 hW
  have call0 : ∀ (cal : Nat → List O → CRes) (e : Cr.Env) (a b c : CE) (x y z : Int), cal 0 [.fr (.int x), .fr (.int y), .fr (.int z)] = .ok (.fr .non) [] → ev cal a e = .ok (.p (.int x), e) → ev cal b e = .ok (.p (.int y), e) → ev cal c e = .ok (.p (.int z), e) → evS cal W (.expr (.call 0 [] [a, b, c])) e = .ok (.next, e) :=
    fun cal e a b c x y z hc ha hb hcc => x_expr (x_call (x_as ha (x_as hb (x_as hcc x_as0))) rfl rfl hc rfl rfl)
  -- the outer loop
  obtain ⟨e1, hfor, o, tn, lg, cc, mm, rfl, hrow⟩ := forL_ok (f := bodyF (run P W (k + 1)) W (.v 4) [.set 5 (.bin .Mult (.lst [.lit (.int 0)]) (.bin .Add (.bi .len [.var 3]) (.lit (.int 1)))),
    .for_ (.tup [.v 6, .v 7]) (.enum (.fz 3)) [.augi 5 .Add (.var 6) (.bin .Mult (.var 7) (.bin .Sub (.glob "WHOLE" (.int 1000)) (.var 0))),
      .augi 5 .Add (.bin .Add (.var 6) (.lit (.int 1))) (.bin .Mult (.var 7) (.var 0))],
    .set 3 (.fz 5)])
    (Inv := fun j e => ∃ o tn lg c m, e = [some (.fr (.int p)), some (.fr (.int n)), some (.fr (.int f)), some o, tn, lg, c, m] ∧ rowIs o (row p j)) (rngL 0 n 1) 0 [some (.fr (.int p)), some (.fr (.int n)), some (.fr (.int f)), some (.ol [.fr (.int 1)]), none, none, none, none] ⟨_, _, _, _, _, rfl, .inl rfl⟩ (by
      rintro j d e hd ⟨o, tn, lg, c, m, rfl, hr⟩
      rw [Nat.zero_add] at *
      have hj : j < n := by
        have := (List.getElem?_eq_some_iff.mp hd).1
        simpa [rngL, rngN] using this
      have hdj : d = .int j := by
        simp [rngL, rngN, hj] at hd
        exact hd.symm
      subst hdj
      have hlen : (row p j).length = j + 1 := by simp [row]
      have hmul : binO .Mult (.ol [.fr (.int 0)]) (.fr (.int (((row p j).length : Int) + 1))) = some (.ol ((lon p j 0).map fun i => .fr (.int i))) := by
        rw [lon0, hlen]
        have e1 : (O.ol [O.fr (.int 0)]).items = some (false, [D.int 0]) := rfl
        unfold binO
        simp only [e1]
        have e2 : (((j + 1 : Nat) : Int) + 1).toNat = j + 2 := by omega
        rw [if_pos (by simp [lineOk, e2]; omega), e2]
        simp
      have s1 : evS (run P W (k + 1)) W (.set 5 (.bin .Mult (.lst [.lit (.int 0)]) (.bin .Add (.bi .len [.var 3]) (.lit (.int 1))))) [some (.fr (.int p)), some (.fr (.int n)), some (.fr (.int f)), some o, some (.fr (.int j)), lg, c, m] =
          .ok (.next, [some (.fr (.int p)), some (.fr (.int n)), some (.fr (.int f)), some o, some (.fr (.int j)), some (.ol ((lon p j 0).map fun i => .fr (.int i))), c, m]) :=
        x_set (x_bin (x_lst (x_as x_lit x_as0) rfl (by simp)) (x_bin (x_lenv rfl hr) x_lit rfl rfl rfl add_int) rfl rfl rfl hmul) rfl (by simp)
      obtain ⟨c1, m1, hin⟩ := inner_ok (P := P) (W := W) (k := k + 1) (p := p) (n := n) (f := f) (tn := j) (i := j) (c0 := c) (m0 := m) (by omega) (by omega) (by omega)
      have s2 := x_for (cal := run P W (k + 1)) (W := W) (t := .tup [.v 6, .v 7]) (s := .enum (.fz 3)) (e := [some (.fr (.int p)), some (.fr (.int n)), some (.fr (.int f)), some o, some (.fr (.int j)), some (.ol ((lon p j 0).map fun i => .fr (.int i))), c, m])
        (x_enum (x := .lst ((row p j).map D.int)) (e1 := [some (.fr (.int p)), some (.fr (.int n)), some (.fr (.int f)), some (.fr (.lst ((row p j).map D.int))), some (.fr (.int j)), some (.ol ((lon p j 0).map fun i => .fr (.int i))), c, m]) (by
          have := x_fz (cal := run P W (k + 1)) (i := 3) (o := o) (e := [some (.fr (.int p)), some (.fr (.int n)), some (.fr (.int f)), some o, some (.fr (.int j)), some (.ol ((lon p j 0).map fun i => .fr (.int i))), c, m]) rfl
          rw [hr.frz] at this
          exact this) rfl) hin
      have s3 : evS (run P W (k + 1)) W (.set 3 (.fz 5)) [some (.fr (.int p)), some (.fr (.int n)), some (.fr (.int f)), some (.fr (.lst ((row p j).map D.int))), some (.fr (.int j)), some (.ol ((row p (j + 1)).map fun i => .fr (.int i))), c1, m1] =
          .ok (.next, [some (.fr (.int p)), some (.fr (.int n)), some (.fr (.int f)), some (.fr (.lst ((row p (j + 1)).map D.int))), some (.fr (.int j)), some (.fr (.lst ((row p (j + 1)).map D.int))), c1, m1]) := by
        have := x_set (W := W) (i := 3) (x_fz (cal := run P W (k + 1)) (i := 5) (e := [some (.fr (.int p)), some (.fr (.int n)), some (.fr (.int f)), some (.fr (.lst ((row p j).map D.int))), some (.fr (.int j)), some (.ol ((row p (j + 1)).map fun i => .fr (.int i))), c1, m1]) rfl) rfl (by simp)
        rw [frz_ol, frzL_ints] at this
        exact this
      exact ⟨_, x_body rfl (x_ss s1 (x_ss s2 (x_ss s3 x_ss0))), _, _, _, _, _, rfl, .inr rfl⟩)
  have hN : 0 + (rngL 0 (n : Int) 1).length = n := by simp [rngL, rngN]
  rw [hN] at hrow
  have hd : ((row p n).drop f).sum = T p n f := sum_drop p n (n + 1 - f) f (by omega)
  have ha : (row p n).sum = 1000 ^ n := by
    have := sum_drop p n (n + 1) 0 (by omega)
    rw [List.drop_zero, T0] at this
    exact this
  have hl := low_ok (W := W) (k := k) hlow h0 hpos hWn hlg
  have e1 := x_sumdrop (cal := run P W (k + 1)) (e := [some (.fr (.int p)), some (.fr (.int n)), some (.fr (.int f)), some o, tn, lg, cc, mm]) (i := 3) (j := 2) (f := f) rfl hrow rfl (by simp [row]; omega)
  have e2 := x_sumall (cal := run P W (k + 1)) (e := [some (.fr (.int p)), some (.fr (.int n)), some (.fr (.int f)), some o, tn, lg, cc, mm]) (i := 3) rfl hrow
  rw [hd] at e1
  rw [ha] at e2
  have n1 := need_ok (W := W) (k := k) hn (n := p) (lo := 0) (hi := 1000) (by omega) (by omega)
  have n2 := need_ok (W := W) (k := k) hn (n := (n : Int)) (lo := 1) (hi := 40) (by omega) (by omega)
  have n3 := need_ok (W := W) (k := k) hn (n := (f : Int)) (lo := 0) (hi := (n : Int)) (by omega) (by omega)
  clear hd ha hpos hWn hlg
  generalize (1000 : Int) ^ n = dd at *
  generalize T p n f = tt at *
  have c1 := call0 (run P W (k + 1)) [some (.fr (.int p)), some (.fr (.int n)), some (.fr (.int f)), none, none, none, none, none] (.var 0) (.lit (.int 0)) (.glob "WHOLE" (.int 1000)) _ _ _ n1 (x_var rfl) x_lit x_glob
  have c2 := call0 (run P W (k + 1)) [some (.fr (.int p)), some (.fr (.int n)), some (.fr (.int f)), none, none, none, none, none] (.var 1) (.lit (.int 1)) (.glob "MOST_TRIALS" (.int 40)) _ _ _ n2 (x_var rfl) x_lit x_glob
  have c3 := call0 (run P W (k + 1)) [some (.fr (.int p)), some (.fr (.int n)), some (.fr (.int f)), none, none, none, none, none] (.var 2) (.lit (.int 0)) (.var 1) _ _ _ n3 (x_var rfl) x_lit (x_var rfl)
  have c4 : evS (run P W (k + 1)) W (.set 3 (.lst [.lit (.int 1)])) [some (.fr (.int p)), some (.fr (.int n)), some (.fr (.int f)), none, none, none, none, none] = .ok (.next, [some (.fr (.int p)), some (.fr (.int n)), some (.fr (.int f)), some (.ol [.fr (.int 1)]), none, none, none, none]) := x_set (x_lst (x_as x_lit x_as0) rfl (by simp)) rfl (by simp)
  have c5 : evSr (run P W (k + 1)) (.rng [.var 1]) [some (.fr (.int p)), some (.fr (.int n)), some (.fr (.int f)), some (.ol [.fr (.int 1)]), none, none, none, none] = .ok (rngL 0 n 1, false, [some (.fr (.int p)), some (.fr (.int n)), some (.fr (.int f)), some (.ol [.fr (.int 1)]), none, none, none, none]) := by
    exact x_rng (hs := [.p (.int n)]) (os := [.fr (.int n)]) (x_as (x_var rfl) x_as0) rfl (by rw [show leafs [O.fr (.int (n : Int))] = some [D.int n] from rfl, Option.bind_some]; exact rngOf_small (by omega))
  have c6 := x_for c5 hfor
  have c7 := x_ret (W := W) (x_call (io := []) (cal := run P W (k + 1)) (x_as e1 (x_as e2 x_as0)) rfl rfl hl rfl (by simp [O.clean, D.imm, immL, cleanL])) rfl
  exact run_of h rfl rfl (x_ss c1 (x_ss c2 (x_ss c3 (x_ss c4 (x_ss c6 (x_ssr c7))))))
/-! ### what the tails are to each other -/
section
variable {p : Int}
theorem T_nn (h0 : 0 ≤ p) (h1 : p ≤ 1000) : ∀ n f : Nat, 0 ≤ T p n f
  | 0, 0 => by simp [T]
  | 0, f + 1 => by simp [T]
  | n + 1, 0 => by
    have := T_nn h0 h1 n 0
    rw [T]; omega
  | n + 1, f + 1 => by
    have a := Int.mul_nonneg (show 0 ≤ 1000 - p by omega) (T_nn h0 h1 n (f + 1))
    have b := Int.mul_nonneg h0 (T_nn h0 h1 n f)
    rw [T]; omega
theorem T_anti (h0 : 0 ≤ p) (h1 : p ≤ 1000) : ∀ n f : Nat, T p n (f + 1) ≤ T p n f
  | 0, 0 => by simp [T]
  | 0, f + 1 => by simp [T]
  | n + 1, 0 => by
    have a := Int.mul_nonneg (show 0 ≤ 1000 - p by omega) (show 0 ≤ T p n 0 - T p n (0 + 1) by have := T_anti h0 h1 n 0; omega)
    simp only [T]
    simp only [Int.mul_sub, Int.sub_mul] at *
    omega
  | n + 1, f + 1 => by
    have a := Int.mul_nonneg (show 0 ≤ 1000 - p by omega) (show 0 ≤ T p n (f + 1) - T p n (f + 1 + 1) by have := T_anti h0 h1 n (f + 1); omega)
    have b := Int.mul_nonneg h0 (show 0 ≤ T p n f - T p n (f + 1) by have := T_anti h0 h1 n f; omega)
    simp only [T]
    simp only [Int.mul_sub, Int.sub_mul] at *
    omega
theorem T_sum : ∀ n k : Nat, k ≤ n → T p n (k + 1) + T (1000 - p) n (n - k) = 1000 ^ n
  | 0, 0, _ => by simp [T]
  | n + 1, k, h => by
    have h9 : (1000 : Int) ^ (n + 1) = 1000 * 1000 ^ n := by rw [Int.pow_succ, Int.mul_comm]
    by_cases e : k = n + 1
    · subst e
      rw [Tout p (n + 1) (n + 1 + 1) (by omega), Nat.sub_self, T0]
      omega
    · have hk : k ≤ n := by omega
      have e1 : n + 1 - k = (n - k) + 1 := by omega
      rw [e1, h9]
      simp only [T]
      have a := T_sum n k hk
      have b : T p n k + T (1000 - p) n (n - k + 1) = 1000 ^ n := by
        cases k with
        | zero =>
          rw [T0, Tout (1000 - p) n (n - 0 + 1) (by omega)]
          omega
        | succ j =>
          have := T_sum n j (by omega)
          rw [show n - (j + 1) + 1 = n - j by omega]
          exact this
      have a2 := congrArg (fun z => (1000 - p) * z) a
      have b2 := congrArg (fun z => p * z) b
      simp only [Int.mul_add, Int.sub_mul] at *
      omega
theorem T_more (h0 : 0 ≤ p) (h1 : p ≤ 1000) (n : Nat) : ∀ f : Nat, 1000 * T p n f ≤ T p (n + 1) f
  | 0 => by rw [T]; omega
  | f + 1 => by
    have b := Int.mul_nonneg h0 (show 0 ≤ T p n f - T p n (f + 1) by have := T_anti h0 h1 n f; omega)
    simp only [T]
    simp only [Int.mul_sub, Int.sub_mul] at *
    omega
theorem T_mono {r : Int} (h0 : 0 ≤ p) (hr : p ≤ r) (h1 : r ≤ 1000) : ∀ n f : Nat, T p n f ≤ T r n f
  | 0, 0 => by simp [T]
  | 0, f + 1 => by simp [T]
  | n + 1, 0 => by
    have := T_mono h0 hr h1 n 0
    simp only [T]; omega
  | n + 1, f + 1 => by
    have a := Int.mul_nonneg (show 0 ≤ 1000 - r by omega) (show 0 ≤ T r n (f + 1) - T p n (f + 1) by have := T_mono h0 hr h1 n (f + 1); omega)
    have b := Int.mul_nonneg (show 0 ≤ r by omega) (show 0 ≤ T r n f - T p n f by have := T_mono h0 hr h1 n f; omega)
    have c := Int.mul_nonneg (show 0 ≤ r - p by omega) (show 0 ≤ T p n f - T p n (f + 1) by have := T_anti h0 (by omega) n f; omega)
    simp only [T]
    simp only [Int.mul_sub, Int.sub_mul] at *
    omega
end
/-! ### fractions in lowest terms -/
/-- x / y is a / b in other words, by g -/
structure Fr (a b x y : Int) : Prop where
  ex : ∃ g : Int, 0 < g ∧ x * g = a ∧ y * g = b
theorem fr_gcd {a b : Int} (hb : 0 < b) : Fr a b (a / (Int.gcd a b : Int)) (b / (Int.gcd a b : Int)) := by
  have hg : 0 < (Int.gcd a b : Int) := by
    have := Int.gcd_pos_of_ne_zero_right a (show b ≠ 0 by omega)
    omega
  exact ⟨_, hg, Int.ediv_mul_cancel (Int.gcd_dvd_left ..), Int.ediv_mul_cancel (Int.gcd_dvd_right ..)⟩
theorem fr_le {a b x y c d z w : Int} (h : Fr a b x y) (k : Fr c d z w) : x * w ≤ z * y ↔ a * d ≤ c * b := by
  obtain ⟨g, hg, rfl, rfl⟩ := h.ex
  obtain ⟨l, hl, rfl, rfl⟩ := k.ex
  have hp : 0 < g * l := Int.mul_pos hg hl
  have e1 : x * g * (w * l) = (x * w) * (g * l) := by ac_rfl
  have e2 : z * l * (y * g) = (z * y) * (g * l) := by ac_rfl
  rw [e1, e2]
  exact ⟨fun h => Int.mul_le_mul_of_nonneg_right h (by omega), fun h => Int.le_of_mul_le_mul_right h hp⟩
theorem fr_sum {a b x y c d z w : Int} (h : Fr a b x y) (k : Fr c d z w) (e : a * d + c * b = b * d) : x * w + z * y = y * w := by
  obtain ⟨g, hg, rfl, rfl⟩ := h.ex
  obtain ⟨l, hl, rfl, rfl⟩ := k.ex
  have hp : 0 < g * l := Int.mul_pos hg hl
  refine Int.eq_of_mul_eq_mul_right (show g * l ≠ 0 by omega) ?_
  have e1 : x * g * (w * l) = (x * w) * (g * l) := by ac_rfl
  have e2 : z * l * (y * g) = (z * y) * (g * l) := by ac_rfl
  have e3 : y * g * (w * l) = (y * w) * (g * l) := by ac_rfl
  rw [e1, e2, e3] at e
  rw [Int.add_mul]
  exact e
/-- the tail's two numbers -/
def num (p : Int) (n f : Nat) : Int := T p n f / (Int.gcd (T p n f) (1000 ^ n) : Int)
def den (p : Int) (n f : Nat) : Int := 1000 ^ n / (Int.gcd (T p n f) (1000 ^ n) : Int)
theorem fr_tail (p : Int) (n f : Nat) : Fr (T p n f) (1000 ^ n) (num p n f) (den p n f) := fr_gcd (Int.pow_pos (by decide))
theorem tail_lt {P : List Fn} {W k i : Nat} (h : P[i]? = some f_tail) (hn : P[0]? = some f_need_count) (hlow : P[1]? = some f_lowest) {p : Int} {n f : Nat} (hp : 0 ≤ p) (hp2 : p ≤ 1000) (h1 : 1 ≤ n) (h2 : n ≤ 40) (hf : f ≤ n) (hW : 1000 ^ 40 < W) :
    run P W (k + 1 + 1) i [.fr (.int p), .fr (.int n), .fr (.int f)] = .ok (.fr (.tup [.int (num p n f), .int (den p n f)])) [] := tail_ok h hn hlow hp hp2 h1 h2 hf (T_nn hp hp2 n f) hW
theorem doubt_ok {P : List Fn} {W k i : Nat} (h : P[i]? = some f_is_doubted) (h2' : P[2]? = some f_tail) (hn : P[0]? = some f_need_count) (hlow : P[1]? = some f_lowest) {p : Int} {n f : Nat} {lv : Int} (hp : 0 ≤ p) (hp2 : p ≤ 1000) (h1 : 1 ≤ n) (h2 : n ≤ 40) (hf : f ≤ n) (hW : 1000 ^ 40 < W) (l0 : 0 ≤ lv) (l1 : lv ≤ 1000) :
    run P W (k + 1 + 1 + 1) i [.fr (.int p), .fr (.int n), .fr (.int f), .fr (.int lv)] = .ok (.fr (.bl (decide (num p n f * 1000 ≤ lv * den p n f)))) [] := by
  have n1 := need_ok (W := W) (k := k + 1) hn (n := lv) (lo := 0) (hi := 1000) l0 l1
  have t1 := tail_lt (W := W) (k := k) h2' hn hlow hp hp2 h1 h2 hf hW
  generalize num p n f = a at *
  generalize den p n f = b at *
  have c1 : evS (run P W (k + 1 + 1)) W (.expr (.call 0 [] [.var 3, .lit (.int 0), .glob "WHOLE" (.int 1000)])) [some (.fr (.int p)), some (.fr (.int n)), some (.fr (.int f)), some (.fr (.int lv)), none, none] = .ok (.next, [some (.fr (.int p)), some (.fr (.int n)), some (.fr (.int f)), some (.fr (.int lv)), none, none]) :=
    x_expr (x_call (x_as (x_var rfl) (x_as x_lit (x_as x_glob x_as0))) rfl rfl n1 rfl rfl)
  have c2 : ev (run P W (k + 1 + 1)) (.call 2 [] [.var 0, .var 1, .var 2]) [some (.fr (.int p)), some (.fr (.int n)), some (.fr (.int f)), some (.fr (.int lv)), none, none] = .ok (.p (.tup [.int a, .int b]), [some (.fr (.int p)), some (.fr (.int n)), some (.fr (.int f)), some (.fr (.int lv)), none, none]) :=
    x_call (x_as (x_var rfl) (x_as (x_var rfl) (x_as (x_var rfl) x_as0))) rfl rfl t1 rfl rfl
  have c3 : evS (run P W (k + 1 + 1)) W (.unp (.tup [.v 4, .v 5]) (.call 2 [] [.var 0, .var 1, .var 2])) [some (.fr (.int p)), some (.fr (.int n)), some (.fr (.int f)), some (.fr (.int lv)), none, none] = .ok (.next, [some (.fr (.int p)), some (.fr (.int n)), some (.fr (.int f)), some (.fr (.int lv)), some (.fr (.int a)), some (.fr (.int b))]) := by
    rw [evS, c2]
    rfl
  refine run_of h rfl rfl (x_ss c1 (x_ss c3 (x_ssr (x_ret (x_cmp (x_bin (x_var rfl) x_glob rfl rfl rfl (mul_int (bigR (by decide)))) (x_bin (x_var (d := .int lv) rfl) (x_var rfl) rfl rfl rfl (mul_int (bigL (by omega)))) rfl rfl rfl le_int) rfl))))
/-! ### the law -/
def En (ns : List Int) (h t parts trials fail rows k one other here more greater level levels : Option O) : Cr.Env := [some (.fr (.scr ns)), h, t, parts, trials, fail, rows, k, one, other, here, more, greater, level, levels]
def rowsL (p : Int) (n : Nat) : List O := (List.range (n + 1)).map fun f => .fr (.tup [.int (num p n f), .int (den p n f)])
section
variable {cal : Nat → List O → CRes} {W : Nat} {ns : List Int} {h t fail rows k one other here more greater level levels : Option O}
theorem rows_ok {p : Int} {n : Nat} (hn : n ≤ 40) (hf : leafOrNone fail = true) (hc : ∀ f : Nat, f ≤ n → cal 2 [.fr (.int p), .fr (.int n), .fr (.int f)] = .ok (.fr (.tup [.int (num p n f), .int (den p n f)])) []) :
    evS cal W (.set 6 (.lc [5] (.v 5) (.rng [.bin .Add (.var 4) (.lit (.int 1))]) [] (.call 2 [] [.var 3, .var 4, .var 5]))) (En ns h t (some (.fr (.int p))) (some (.fr (.int n))) fail rows k one other here more greater level levels) =
      .ok (.next, En ns h t (some (.fr (.int p))) (some (.fr (.int n))) fail (some (.ol (rowsL p n))) k one other here more greater level levels) := by
  have hsrc : evSr cal (.rng [.bin .Add (.var 4) (.lit (.int 1))]) (En ns h t (some (.fr (.int p))) (some (.fr (.int n))) fail rows k one other here more greater level levels) = .ok (rngL 0 ((n + 1 : Nat) : Int) 1, false, En ns h t (some (.fr (.int p))) (some (.fr (.int n))) fail rows k one other here more greater level levels) := by
    refine x_rng (hs := [.p (.int ((n + 1 : Nat) : Int))]) (os := [.fr (.int ((n + 1 : Nat) : Int))]) (x_as (by rw [show ((n + 1 : Nat) : Int) = (n : Int) + 1 by omega]; exact x_bin (x_var (d := .int (n : Int)) rfl) x_lit rfl rfl rfl add_int) x_as0) rfl ?_
    rw [show leafs [O.fr (.int ((n + 1 : Nat) : Int))] = some [D.int ((n + 1 : Nat) : Int)] from rfl, Option.bind_some]
    exact rngOf_small (by omega)
  have hw : wipeOk [5] (En ns h t (some (.fr (.int p))) (some (.fr (.int n))) fail rows k one other here more greater level levels) = true := by
    simp [wipeOk, En, hf]
  have hds : rngL 0 ((n + 1 : Nat) : Int) 1 = (List.range (n + 1)).map fun f : Nat => D.int f := by
    simp [rngL, rngN]
  have hlc := x_lc (cal := cal) (own := [5]) (tg := .v 5) (cs := []) (x := .call 2 [] [.var 3, .var 4, .var 5]) (g := fun d => match d with | .int f => some (.fr (.tup [.int (num p n f.toNat), .int (den p n f.toNat)])) | _ => none) hsrc hw (by rw [hds]; simp; omega) (by
    intro d hd
    rw [hds] at hd
    obtain ⟨f, hf2, rfl⟩ := List.mem_map.mp hd
    have hfn : f ≤ n := by have := List.mem_range.mp hf2; omega
    refine x_turn (e1 := En ns h t (some (.fr (.int p))) (some (.fr (.int n))) (some (.fr (.int f))) rows k one other here more greater level levels) rfl (x_call (x_as (x_var rfl) (x_as (x_var rfl) (x_as (x_var rfl) x_as0))) rfl rfl (hc f hfn) rfl rfl) rfl rfl rfl)
  have e1 : (rngL 0 ((n + 1 : Nat) : Int) 1).filterMap (fun d => match d with | .int f => some (O.fr (.tup [.int (num p n f.toNat), .int (den p n f.toNat)])) | _ => none) = rowsL p n := by
    rw [hds, List.filterMap_map]
    unfold rowsL
    rw [← List.filterMap_eq_map]
    rfl
  rw [e1] at hlc
  exact x_set hlc rfl (show 6 < 15 by decide)
end
theorem T_le {p : Int} (h0 : 0 ≤ p) (h1 : p ≤ 1000) (n : Nat) : ∀ f : Nat, T p n f ≤ 1000 ^ n
  | 0 => by rw [T0]; exact Int.le_refl _
  | f + 1 => Int.le_trans (T_anti h0 h1 n f) (T_le h0 h1 n f)
theorem less_of {a b x y : Int} (h : Fr a b x y) (ha : 0 ≤ a) (hb : 0 < b) : 0 ≤ x ∧ 0 < y ∧ x ≤ a ∧ y ≤ b := by
  obtain ⟨g, hg, rfl, rfl⟩ := h.ex
  have hx : 0 ≤ x := by
    rcases Int.lt_or_le x 0 with z | z
    · have := Int.mul_neg_of_neg_of_pos z hg
      omega
    · exact z
  have hy : 0 < y := by
    rcases Int.lt_or_le 0 y with z | z
    · exact z
    · have := Int.mul_nonpos_of_nonpos_of_nonneg z (show 0 ≤ g by omega)
      omega
  refine ⟨hx, hy, ?_, ?_⟩
  · have := Int.mul_le_mul_of_nonneg_left (show (1 : Int) ≤ g by omega) hx
    omega
  · have := Int.mul_le_mul_of_nonneg_left (show (1 : Int) ≤ g by omega) (show 0 ≤ y by omega)
    omega
theorem nd_bound {p : Int} {n f : Nat} (h0 : 0 ≤ p) (h1 : p ≤ 1000) (hn : n ≤ 40) : 0 ≤ num p n f ∧ 0 < den p n f ∧ (num p n f).natAbs < 2 ^ 400 ∧ (den p n f).natAbs < 2 ^ 400 := by
  have hpos : 0 < (1000 : Int) ^ n := Int.pow_pos (by decide)
  obtain ⟨a, b, c, d⟩ := less_of (fr_tail p n f) (T_nn h0 h1 n f) hpos
  have t := T_le h0 h1 n f
  have hN : ((1000 : Int) ^ n).natAbs < 2 ^ 400 := by
    have e : (1000 : Int) ^ n = ((1000 ^ n : Nat) : Int) := by rw [Int.natCast_pow]; rfl
    rw [e, Int.natAbs_natCast]
    exact Nat.lt_of_le_of_lt (Nat.pow_le_pow_right (by decide) hn) k40
  generalize (1000 : Int) ^ n = dd at *
  refine ⟨a, b, Nat.lt_of_le_of_lt ?_ hN, Nat.lt_of_le_of_lt ?_ hN⟩ <;> omega
theorem big_of {a b : Int} (ha : a.natAbs < 2 ^ 400) (hb : b.natAbs < 2 ^ 400) : bigOk a b = true := by
  by_cases h1 : a.natAbs = 0
  · exact bigL (by omega)
  · by_cases h2 : b.natAbs = 0
    · exact bigR (by omega)
    · have l1 := (Nat.log2_lt h1).mpr ha
      have l2 := (Nat.log2_lt h2).mpr hb
      unfold bigOk
      simp only [Bool.or_eq_true, decide_eq_true_eq]
      right
      omega
theorem rows_at {p : Int} {n f : Nat} (h : f ≤ n) : atI (rowsL p n) (f : Int) = some (.fr (.tup [.int (num p n f), .int (den p n f)])) := by
  rw [atI_nn (by omega) (by simp [rowsL]; omega)]
  have : f < n + 1 := by omega
  simp [rowsL, this]
section
variable {cal : Nat → List O → CRes} {W : Nat} {e : Cr.Env} {p : Int} {n f i : Nat} {ix : CE}
/-- rows[f] and its two numbers -/
theorem rd_row (hs : (e[6]?).join = some (.ol (rowsL p n))) (hi : ev cal ix e = .ok (.p (.int (f : Int)), e)) (h : f ≤ n) : ev cal (.sub (.var 6) ix) e = .ok (.p (.tup [.int (num p n f), .int (den p n f)]), e) :=
  x_sub (o := .fr (.tup [.int (num p n f), .int (den p n f)])) (x_varl hs) hi rfl hs (by unfold atO; exact rows_at h)
theorem rd_num (hs : (e[6]?).join = some (.ol (rowsL p n))) (hi : ev cal ix e = .ok (.p (.int (f : Int)), e)) (h : f ≤ n) : ev cal (.sub (.sub (.var 6) ix) (.lit (.int 0))) e = .ok (.p (.int (num p n f)), e) := x_sub (o := .fr (.int (num p n f))) (rd_row hs hi h) x_lit rfl rfl rfl
theorem rd_den (hs : (e[6]?).join = some (.ol (rowsL p n))) (hi : ev cal ix e = .ok (.p (.int (f : Int)), e)) (h : f ≤ n) : ev cal (.sub (.sub (.var 6) ix) (.lit (.int 1))) e = .ok (.p (.int (den p n f)), e) := x_sub (o := .fr (.int (den p n f))) (rd_row hs hi h) x_lit rfl rfl rfl
theorem rd_0 {a b : Int} (hs : (e[i]?).join = some (.fr (.tup [.int a, .int b]))) : ev cal (.sub (.var i) (.lit (.int 0))) e = .ok (.p (.int a), e) := x_sub (o := .fr (.int a)) (x_var hs) x_lit rfl rfl rfl
theorem rd_1 {a b : Int} (hs : (e[i]?).join = some (.fr (.tup [.int a, .int b]))) : ev cal (.sub (.var i) (.lit (.int 1))) e = .ok (.p (.int b), e) := x_sub (o := .fr (.int b)) (x_var hs) x_lit rfl rfl rfl
theorem x_mul {a b : CE} {x y : Int} (h1 : ev cal a e = .ok (.p (.int x), e)) (h2 : ev cal b e = .ok (.p (.int y), e)) (hx : x.natAbs < 2 ^ 400) (hy : y.natAbs < 2 ^ 400) : ev cal (.bin .Mult a b) e = .ok (.p (.int (x * y)), e) := x_bin h1 h2 rfl rfl rfl (mul_int (big_of hx hy))
end
section
variable {cal : Nat → List O → CRes} {W : Nat} {ns : List Int} {h t fail rows k one other here more greater level levels : Option O}
theorem bin_add {e : Cr.Env} {a b : CE} {x y : Int} (h1 : ev cal a e = .ok (.p (.int x), e)) (h2 : ev cal b e = .ok (.p (.int y), e)) : ev cal (.bin .Add a b) e = .ok (.p (.int (x + y)), e) := x_bin h1 h2 rfl rfl rfl add_int
theorem bin_sub {e : Cr.Env} {a b : CE} {x y : Int} (h1 : ev cal a e = .ok (.p (.int x), e)) (h2 : ev cal b e = .ok (.p (.int y), e)) : ev cal (.bin .Sub a b) e = .ok (.p (.int (x - y)), e) := x_bin h1 h2 rfl rfl rfl sub_int
theorem pairs_ok {p : Int} {n : Nat} (h0 : 0 ≤ p) (h1 : p ≤ 1000) (hn : n ≤ 40) (hc : ∀ f : Nat, f ≤ n → cal 2 [.fr (.int (1000 - p)), .fr (.int n), .fr (.int f)] = .ok (.fr (.tup [.int (num (1000 - p) n f), .int (den (1000 - p) n f)])) []) :
    ∃ k' one' other', evS cal W (.for_ (.v 7) (.rng [.var 4]) [.if_ (.cmp .Lt (.bin .Mult (.sub (.sub (.var 6) (.var 7)) (.lit (.int 0))) (.sub (.sub (.var 6) (.bin .Add (.var 7) (.lit (.int 1)))) (.lit (.int 1)))) (.bin .Mult (.sub (.sub (.var 6) (.bin .Add (.var 7) (.lit (.int 1)))) (.lit (.int 0))) (.sub (.sub (.var 6) (.var 7)) (.lit (.int 1))))) [.ret (.lit (.bl false))] [],
      .par 8 9 (.sub (.var 6) (.bin .Add (.var 7) (.lit (.int 1)))) (.call 2 [] [.bin .Sub (.lit (.int 1000)) (.var 3), .var 4, .bin .Sub (.var 4) (.var 7)]),
      .if_ (.cmp .NotEq (.bin .Add (.bin .Mult (.sub (.var 8) (.lit (.int 0))) (.sub (.var 9) (.lit (.int 1)))) (.bin .Mult (.sub (.var 9) (.lit (.int 0))) (.sub (.var 8) (.lit (.int 1))))) (.bin .Mult (.sub (.var 8) (.lit (.int 1))) (.sub (.var 9) (.lit (.int 1))))) [.ret (.lit (.bl false))] []])
      (En ns h t (some (.fr (.int p))) (some (.fr (.int n))) fail (some (.ol (rowsL p n))) k one other here more greater level levels) =
      .ok (.next, En ns h t (some (.fr (.int p))) (some (.fr (.int n))) fail (some (.ol (rowsL p n))) k' one' other' here more greater level levels) := by
  have hsrc : evSr cal (.rng [.var 4]) (En ns h t (some (.fr (.int p))) (some (.fr (.int n))) fail (some (.ol (rowsL p n))) k one other here more greater level levels) = .ok (rngL 0 (n : Int) 1, false, En ns h t (some (.fr (.int p))) (some (.fr (.int n))) fail (some (.ol (rowsL p n))) k one other here more greater level levels) := by
    refine x_rng (hs := [.p (.int (n : Int))]) (os := [.fr (.int (n : Int))]) (x_as (x_var rfl) x_as0) rfl ?_
    rw [show leafs [O.fr (.int (n : Int))] = some [D.int (n : Int)] from rfl, Option.bind_some]
    exact rngOf_small (by omega)
  obtain ⟨e1, hl, k', one', other', rfl⟩ := forL_ok (f := bodyF cal W (.v 7) [.if_ (.cmp .Lt (.bin .Mult (.sub (.sub (.var 6) (.var 7)) (.lit (.int 0))) (.sub (.sub (.var 6) (.bin .Add (.var 7) (.lit (.int 1)))) (.lit (.int 1)))) (.bin .Mult (.sub (.sub (.var 6) (.bin .Add (.var 7) (.lit (.int 1)))) (.lit (.int 0))) (.sub (.sub (.var 6) (.var 7)) (.lit (.int 1))))) [.ret (.lit (.bl false))] [],
      .par 8 9 (.sub (.var 6) (.bin .Add (.var 7) (.lit (.int 1)))) (.call 2 [] [.bin .Sub (.lit (.int 1000)) (.var 3), .var 4, .bin .Sub (.var 4) (.var 7)]),
      .if_ (.cmp .NotEq (.bin .Add (.bin .Mult (.sub (.var 8) (.lit (.int 0))) (.sub (.var 9) (.lit (.int 1)))) (.bin .Mult (.sub (.var 9) (.lit (.int 0))) (.sub (.var 8) (.lit (.int 1))))) (.bin .Mult (.sub (.var 8) (.lit (.int 1))) (.sub (.var 9) (.lit (.int 1))))) [.ret (.lit (.bl false))] []])
    (Inv := fun _ e => ∃ k one other, e = En ns h t (some (.fr (.int p))) (some (.fr (.int n))) fail (some (.ol (rowsL p n))) k one other here more greater level levels) (rngL 0 (n : Int) 1) 0 _ ⟨k, one, other, rfl⟩ (by
    rintro j d e hd ⟨k, one, other, rfl⟩
    have hj : j < n := by
      have := (List.getElem?_eq_some_iff.mp hd).1
      simpa [rngL, rngN] using this
    have hdj : d = .int j := by
      simp [rngL, rngN, hj] at hd
      exact hd.symm
    subst hdj
    generalize hE : En ns h t (some (.fr (.int p))) (some (.fr (.int n))) fail (some (.ol (rowsL p n))) (some (.fr (.int j))) one other here more greater level levels = E
    have ix0 : ev cal (.var 7) E = .ok (.p (.int (j : Int)), E) := by subst hE; exact x_var rfl
    have ix1 : ev cal (.bin .Add (.var 7) (.lit (.int 1))) E = .ok (.p (.int ((j + 1 : Nat) : Int)), E) := by
      rw [show ((j + 1 : Nat) : Int) = (j : Int) + 1 by omega]
      exact bin_add ix0 x_lit
    have hs6 : (E[6]?).join = some (.ol (rowsL p n)) := by subst hE; rfl
    obtain ⟨a1, a2, a3, a4⟩ := nd_bound (f := j) h0 h1 hn
    obtain ⟨b1, b2, b3, b4⟩ := nd_bound (f := j + 1) h0 h1 hn
    obtain ⟨c1, c2, c3, c4⟩ := nd_bound (p := 1000 - p) (f := n - j) (by omega) (by omega) hn
    have hcmp := x_cmp (cal := cal) (op := .Lt) (x_mul (rd_num hs6 ix0 (by omega)) (rd_den hs6 ix1 (by omega)) a3 b4) (x_mul (rd_num hs6 ix1 (by omega)) (rd_den hs6 ix0 (by omega)) b3 a4) rfl rfl rfl lt_int
    have hno : decide (num p n j * den p n (j + 1) < num p n (j + 1) * den p n j) = false := by
      rw [decide_eq_false_iff_not, Int.not_lt]
      exact (fr_le (fr_tail p n (j + 1)) (fr_tail p n j)).mpr (Int.mul_le_mul_of_nonneg_right (T_anti h0 h1 n j) (Int.le_of_lt (Int.pow_pos (by decide))))
    have s1 := x_iff (W := W) (t := [.ret (.lit (.bl false))]) hcmp hno x_ss0
    generalize hE2 : En ns h t (some (.fr (.int p))) (some (.fr (.int n))) fail (some (.ol (rowsL p n))) (some (.fr (.int j))) (some (.fr (.tup [.int (num p n (j + 1)), .int (den p n (j + 1))]))) (some (.fr (.tup [.int (num (1000 - p) n (n - j)), .int (den (1000 - p) n (n - j))]))) here more greater level levels = E2
    have s2 : evS cal W (.par 8 9 (.sub (.var 6) (.bin .Add (.var 7) (.lit (.int 1)))) (.call 2 [] [.bin .Sub (.lit (.int 1000)) (.var 3), .var 4, .bin .Sub (.var 4) (.var 7)])) E = .ok (.next, E2) := by
      have v3 : ev cal (.var 3) E = .ok (.p (.int p), E) := by subst hE; exact x_var rfl
      have v4 : ev cal (.var 4) E = .ok (.p (.int (n : Int)), E) := by subst hE; exact x_var rfl
      have w : ev cal (.bin .Sub (.var 4) (.var 7)) E = .ok (.p (.int ((n - j : Nat) : Int)), E) := by
        rw [show ((n - j : Nat) : Int) = (n : Int) - j by omega]
        exact bin_sub v4 ix0
      have cl := x_call (io := []) (x_as (bin_sub (x_lit (d := .int 1000)) v3) (x_as v4 (x_as w x_as0))) rfl rfl (hc (n - j) (by omega)) rfl rfl
      have r := x_par (W := W) (i := 8) (j := 9) (rd_row hs6 ix1 (by omega)) cl rfl rfl (by subst hE; exact (show 8 < 15 by decide)) (by subst hE; exact (show 9 < 15 by decide))
      rw [r]
      subst hE hE2
      rfl
    have g8 : (E2[8]?).join = some (.fr (.tup [.int (num p n (j + 1)), .int (den p n (j + 1))])) := by subst hE2; rfl
    have g9 : (E2[9]?).join = some (.fr (.tup [.int (num (1000 - p) n (n - j)), .int (den (1000 - p) n (n - j))])) := by subst hE2; rfl
    have hsum : num p n (j + 1) * den (1000 - p) n (n - j) + num (1000 - p) n (n - j) * den p n (j + 1) = den p n (j + 1) * den (1000 - p) n (n - j) := by
      refine fr_sum (fr_tail p n (j + 1)) (fr_tail (1000 - p) n (n - j)) ?_
      rw [← Int.add_mul, T_sum n j (by omega)]
    have hc3 := x_cmp (cal := cal) (op := .NotEq) (r := false) (bin_add (x_mul (rd_0 g8) (rd_1 g9) b3 c4) (x_mul (rd_0 g9) (rd_1 g8) c3 b4)) (x_mul (rd_1 g8) (rd_1 g9) b4 c4) rfl rfl rfl (by
      rw [hsum]
      simp [cmpD, eqD, shp])
    have s3 := x_iff (W := W) (t := [.ret (.lit (.bl false))]) hc3 rfl x_ss0
    refine ⟨E2, x_body (by subst hE; rfl) (x_ss s1 (x_ss s2 (x_ss s3 x_ss0))), _, _, _, hE2.symm⟩)
  exact ⟨k', one', other', x_for hsrc hl⟩
end
theorem filter_end {α : Type} (q : α → Bool) : ∀ l : List α, l.Pairwise (fun x y => q x = true → q y = true) → l.filter q = l.drop (l.length - (l.filter q).length)
  | [], _ => rfl
  | a :: l, h => by
    obtain ⟨h1, h2⟩ := List.pairwise_cons.mp h
    by_cases e : q a = true
    · have all : (a :: l).filter q = a :: l := List.filter_eq_self.mpr fun x hx => by
        rcases List.mem_cons.mp hx with rfl | hx
        · exact e
        · exact h1 x hx e
      rw [all]
      simp
    · have ih := filter_end q l h2
      have hle := List.length_filter_le q l
      rw [List.filter_cons_of_neg e]
      have : (a :: l).length - (l.filter q).length = (l.length - (l.filter q).length) + 1 := by simp only [List.length_cons]; omega
      rw [this, List.drop_succ_cons]
      exact ih
section
variable {cal : Nat → List O → CRes} {W : Nat} {ns : List Int} {h t fail rows k one other here more greater level levels : Option O}
def lvs : List Int := (List.range 21).map fun i : Nat => 50 * (i : Int)
theorem rng_lvs : rngOf [.int 0, .int 1001, .int 50] = some (lvs.map D.int) := by
  have e : (2 : Int) ^ 60 = 1152921504606846976 := by decide +kernel
  have ok : rngOk 0 1001 50 = true := by
    unfold rngOk
    rw [e]
    rfl
  show (if rngOk 0 1001 50 = true then some (rngL 0 1001 50) else none) = _
  rw [ok]
  rfl
theorem levels_ok {p n f : Option O} (q : Int → Bool) (hq : ∀ l : Int, l ∈ lvs → ∀ e : Cr.Env, e = En ns h t p n f rows k one other here more greater (some (.fr (.int l))) levels → ev cal (.call 3 [] [.var 3, .var 4, .var 5, .var 13]) e = .ok (.p (.bl (q l)), e)) (hl : leafOrNone level = true) :
    evS cal W (.set 14 (.lc [13] (.v 13) (.rng [.lit (.int 0), .lit (.int 1001), .lit (.int 50)]) [.call 3 [] [.var 3, .var 4, .var 5, .var 13]] (.var 13))) (En ns h t p n f rows k one other here more greater level levels) =
      .ok (.next, En ns h t p n f rows k one other here more greater level (some (.ol ((lvs.filter q).map fun i => .fr (.int i))))) := by
  have hsrc : evSr cal (.rng [.lit (.int 0), .lit (.int 1001), .lit (.int 50)]) (En ns h t p n f rows k one other here more greater level levels) = .ok (lvs.map D.int, false, En ns h t p n f rows k one other here more greater level levels) :=
    x_rng (hs := [.p (.int 0), .p (.int 1001), .p (.int 50)]) (os := [.fr (.int 0), .fr (.int 1001), .fr (.int 50)]) (x_as x_lit (x_as x_lit (x_as x_lit x_as0))) rfl (by rw [show leafs [O.fr (.int 0), O.fr (.int 1001), O.fr (.int 50)] = some [D.int 0, D.int 1001, D.int 50] from rfl, Option.bind_some]; exact rng_lvs)
  have hlc := x_lc (cal := cal) (own := [13]) (tg := .v 13) (cs := [.call 3 [] [.var 3, .var 4, .var 5, .var 13]]) (x := .var 13) (g := fun d => match d with | .int l => if q l = true then some (.fr (.int l)) else none | _ => none) hsrc (by simp [wipeOk, En, hl]) (by simp [lvs]) (by
    intro d hd
    obtain ⟨l, hl2, rfl⟩ := List.mem_map.mp hd
    exact x_turnC (e1 := En ns h t p n f rows k one other here more greater (some (.fr (.int l))) levels) (o := .fr (.int l)) rfl (hq l hl2 _ rfl) (fun _ => x_var rfl) rfl rfl rfl)
  have e1 : (lvs.map D.int).filterMap (fun d => match d with | .int l => if q l = true then some (O.fr (.int l)) else none | _ => none) = (lvs.filter q).map fun i => O.fr (.int i) := by
    rw [List.filterMap_map]
    generalize lvs = ls
    induction ls with
    | nil => rfl
    | cons a ls ih =>
      by_cases ha : q a = true
      · simp [ha, List.filterMap_cons]
        exact ih
      · simp [ha, List.filterMap_cons]
        exact ih
  rw [e1] at hlc
  exact x_set hlc rfl (show 14 < 15 by decide)
end
theorem shp_ints (k : Nat) : ∀ l : List Int, shpL k (l.map D.int) = true
  | [] => by simp [shpL]
  | a :: l => by simp [shpL, shp, shp_ints k l]
theorem eq_ints : ∀ l : List Int, eqDL (l.map D.int) (l.map D.int) = true
  | [] => by simp [eqDL]
  | a :: l => by simp [eqDL, eqD, eq_ints l]
theorem ne_ints (l : List Int) : cmpD .NotEq (.lst (l.map D.int)) (.lst (l.map D.int)) = some false := by
  simp [cmpD, shp, shp_ints, eqD, eq_ints]
section
variable {cal : Nat → List O → CRes} {W : Nat} {e : Cr.Env}
theorem ends_ok (q : Int → Bool) (hs : (e[14]?).join = some (.ol ((lvs.filter q).map fun i => .fr (.int i)))) (hm : lvs.Pairwise fun x y => q x = true → q y = true) :
    evS cal W (.if_ (.cmp .NotEq (.var 14) (.slice (.listR (.rng [.lit (.int 0), .lit (.int 1001), .lit (.int 50)])) (some (.bin .Sub (.lit (.int 21)) (.bi .len [.var 14]))) none)) [.ret (.lit (.bl false))] []) e = .ok (.next, e) := by
  have hlen : (lvs.filter q).length ≤ 21 := by
    have := List.length_filter_le q lvs
    simpa [lvs] using this
  have h1 : ev cal (.listR (.rng [.lit (.int 0), .lit (.int 1001), .lit (.int 50)])) e = .ok (.t (.ol (lvs.map fun i => .fr (.int i))), e) := by
    have hsrc : evSr cal (.rng [.lit (.int 0), .lit (.int 1001), .lit (.int 50)]) e = .ok (lvs.map D.int, false, e) :=
      x_rng (hs := [.p (.int 0), .p (.int 1001), .p (.int 50)]) (os := [.fr (.int 0), .fr (.int 1001), .fr (.int 50)]) (x_as x_lit (x_as x_lit (x_as x_lit x_as0))) rfl (by rw [show leafs [O.fr (.int 0), O.fr (.int 1001), O.fr (.int 50)] = some [D.int 0, D.int 1001, D.int 50] from rfl, Option.bind_some]; exact rng_lvs)
    rw [ev, hsrc]
    simp only [bok, line_ok (show (lvs.map D.int).length ≤ 16777216 by simp [lvs]), if_true, frs_ints]
  have h2 : ev cal (.bin .Sub (.lit (.int 21)) (.bi .len [.var 14])) e = .ok (.p (.int ((21 - (lvs.filter q).length : Nat) : Int)), e) := by
    rw [show ((21 - (lvs.filter q).length : Nat) : Int) = 21 - ((lvs.filter q).length : Int) by omega]
    exact bin_sub x_lit (x_lenv hs (.inl rfl))
  have h3 : ev cal (.slice (.listR (.rng [.lit (.int 0), .lit (.int 1001), .lit (.int 50)])) (some (.bin .Sub (.lit (.int 21)) (.bi .len [.var 14]))) none) e = .ok (.t (.ol ((lvs.drop (21 - (lvs.filter q).length)).map fun i => .fr (.int i))), e) :=
    x_slice1 h1 h2 rfl rfl (cut_ints (.inl rfl) _ (by simp [lvs]))
  have hd : lvs.drop (21 - (lvs.filter q).length) = lvs.filter q := by
    have := filter_end q lvs hm
    have e21 : lvs.length = 21 := by simp [lvs]
    rw [e21] at this
    exact this.symm
  rw [hd] at h3
  have h4 : ev cal (.var 14) e = .ok (.n 14, e) := x_varl hs
  have v1 : (Hd.n 14).view e = some (.lst ((lvs.filter q).map D.int)) := by
    rw [view_n, hs]
    simp [frzL_ints]
  exact x_iff (x_cmp (r := false) h4 h3 rfl v1 (by rw [view_t, frz_ol, frzL_ints]) (ne_ints _)) rfl x_ss0
end
theorem nd_first (p : Int) (n : Nat) : num p n 0 = 1 ∧ den p n 0 = 1 := by
  have hpos : 0 < (1000 : Int) ^ n := Int.pow_pos (by decide)
  unfold num den
  rw [T0]
  generalize (1000 : Int) ^ n = d at *
  have : (Int.gcd d d : Int) = d := by
    rw [Int.gcd_self]
    omega
  rw [this]
  exact ⟨Int.ediv_self (by omega), Int.ediv_self (by omega)⟩
theorem first_ok {cal : Nat → List O → CRes} {W : Nat} {e : Cr.Env} {p : Int} {n : Nat} (hs : (e[6]?).join = some (.ol (rowsL p n))) :
    evS cal W (.if_ (.cmp .NotEq (.sub (.var 6) (.lit (.int 0))) (.tup [.lit (.int 1), .lit (.int 1)])) [.ret (.lit (.bl false))] []) e = .ok (.next, e) := by
  have h1 := rd_row (cal := cal) (ix := .lit (.int 0)) (f := 0) hs x_lit (Nat.zero_le _)
  rw [(nd_first p n).1, (nd_first p n).2] at h1
  exact x_iff (x_cmp (r := false) h1 (x_tup (x_as x_lit (x_as x_lit x_as0)) rfl (by simp)) rfl rfl rfl (by simp [cmpD, shp, shpL, eqD, eqDL])) rfl x_ss0
/-- a draw: the script's state moves on -/
theorem draw {P : List Fn} {W k : Nat} (h5 : P[5]? = some nextFn) {ns : List Int} {m c many : Int} {l : List Int} {t parts trials fail rows kk one other here more greater level levels : Option O} {a : CE} (ha : ∀ h, ev (run P W (k + 1)) a (En ns h t parts trials fail rows kk one other here more greater level levels) = .ok (.p (.int many), En ns h t parts trials fail rows kk one other here more greater level levels))
    (h0 : 0 < many) (h1 : many < 1000000000) (hl : l.length ≤ 1000) : ∃ v m' l' c', ev (run P W (k + 1)) (.call 5 [0] [.io 1, a]) (En ns (some (hst m l c)) t parts trials fail rows kk one other here more greater level levels) = .ok (.p (.int v), En ns (some (hst m' l' c')) t parts trials fail rows kk one other here more greater level levels) ∧ 0 ≤ v ∧ v < many ∧ l'.length ≤ 1000 := by
  obtain ⟨v, m', l', c', hr, v0, v1, hl'⟩ := next_ok (W := W) (k := k) h5 m l c many h0 h1 hl
  refine ⟨v, m', l', c', ?_, v0, v1, by omega⟩
  have io : ev (run P W (k + 1)) (.io 1) (En ns (some (hst m l c)) t parts trials fail rows kk one other here more greater level levels) = .ok (.io 1, En ns (some (hst m l c)) t parts trials fail rows kk one other here more greater level levels) := x_io rfl
  exact x_call (x_as io (x_as (ha _) x_as0)) rfl rfl hr rfl (by simp [O.clean, D.imm, cleanL, hst, cleanL_ints])
/-- `here` is not above `more` nor above `greater` -/
theorem or_ok {cal : Nat → List O → CRes} {W : Nat} {e : Cr.Env} {p r : Int} {n f : Nat} (h0 : 0 ≤ p) (hr : p ≤ r) (h1 : r ≤ 1000) (hn : n + 1 ≤ 40) (g10 : (e[10]?).join = some (.fr (.tup [.int (num p n f), .int (den p n f)]))) (g11 : (e[11]?).join = some (.fr (.tup [.int (num p (n + 1) f), .int (den p (n + 1) f)]))) (g12 : (e[12]?).join = some (.fr (.tup [.int (num r n f), .int (den r n f)]))) :
    evS cal W (.if_ (.or [.cmp .Gt (.bin .Mult (.sub (.var 10) (.lit (.int 0))) (.sub (.var 11) (.lit (.int 1)))) (.bin .Mult (.sub (.var 11) (.lit (.int 0))) (.sub (.var 10) (.lit (.int 1)))), .cmp .Gt (.bin .Mult (.sub (.var 10) (.lit (.int 0))) (.sub (.var 12) (.lit (.int 1)))) (.bin .Mult (.sub (.var 12) (.lit (.int 0))) (.sub (.var 10) (.lit (.int 1))))]) [.ret (.lit (.bl false))] []) e = .ok (.next, e) := by
  obtain ⟨a1, a2, a3, a4⟩ := nd_bound (f := f) h0 (by omega) (show n ≤ 40 by omega)
  obtain ⟨b1, b2, b3, b4⟩ := nd_bound (f := f) h0 (by omega) hn
  obtain ⟨c1, c2, c3, c4⟩ := nd_bound (p := r) (f := f) (by omega) h1 (show n ≤ 40 by omega)
  have hpos : 0 < (1000 : Int) ^ n := Int.pow_pos (by decide)
  have l1 : num p n f * den p (n + 1) f ≤ num p (n + 1) f * den p n f := (fr_le (fr_tail p n f) (fr_tail p (n + 1) f)).mpr (by
    have := Int.mul_le_mul_of_nonneg_right (T_more h0 (by omega) n f) (Int.le_of_lt hpos)
    rw [Int.pow_succ]
    have e1 : T p n f * (1000 ^ n * 1000) = 1000 * T p n f * 1000 ^ n := by ac_rfl
    rw [e1]
    exact this)
  have l2 : num p n f * den r n f ≤ num r n f * den p n f := (fr_le (fr_tail p n f) (fr_tail r n f)).mpr (Int.mul_le_mul_of_nonneg_right (T_mono h0 hr h1 n f) (Int.le_of_lt hpos))
  have t1 := x_cmp (cal := cal) (op := .Gt) (x_mul (rd_0 g10) (rd_1 g11) a3 b4) (x_mul (rd_0 g11) (rd_1 g10) b3 a4) rfl rfl rfl gt_int
  have t2 := x_cmp (cal := cal) (op := .Gt) (x_mul (rd_0 g10) (rd_1 g12) a3 c4) (x_mul (rd_0 g12) (rd_1 g10) c3 a4) rfl rfl rfl gt_int
  rw [decide_eq_false (show ¬ num p (n + 1) f * den p n f < num p n f * den p (n + 1) f by omega)] at t1
  rw [decide_eq_false (show ¬ num r n f * den p n f < num p n f * den r n f by omega)] at t2
  refine x_iff (r := false) ?_ rfl x_ss0
  rw [ev, evOr, t1]
  simp only [bok, boolh]
  rw [evOr, t2]
theorem lvs_mem {l : Int} (h : l ∈ lvs) : 0 ≤ l ∧ l ≤ 1000 := by
  obtain ⟨i, hi, rfl⟩ := List.mem_map.mp h
  have := List.mem_range.mp hi
  omega
theorem lvs_up {a b : Int} (hb : 0 ≤ b) : lvs.Pairwise fun x y => decide (a ≤ x * b) = true → decide (a ≤ y * b) = true := by
  unfold lvs
  rw [List.pairwise_map]
  refine List.Pairwise.imp ?_ List.pairwise_lt_range
  intro i j hij h
  simp only [decide_eq_true_eq] at h ⊢
  exact Int.le_trans h (Int.mul_le_mul_of_nonneg_right (by omega) hb)
section
variable {P : List Fn} {W k : Nat} {ns : List Int} {m c : Int} {l : List Int} {t parts trials fail rows kk one other here more greater level levels : Option O}
theorem two_draws (h5 : P[5]? = some nextFn) (hl : l.length ≤ 1000) : ∃ (v1 : Int) (n : Nat) (m' c' : Int) (l' : List Int), evS (run P W (k + 1)) W (.unp (.tup [.v 3, .v 4]) (.tup [.call 5 [0] [.io 1, .lit (.int 1001)], .bin .Add (.lit (.int 1)) (.call 5 [0] [.io 1, .lit (.int 39)])])) (En ns (some (hst m l c)) t parts trials fail rows kk one other here more greater level levels) =
    .ok (.next, En ns (some (hst m' l' c')) t (some (.fr (.int v1))) (some (.fr (.int n))) fail rows kk one other here more greater level levels) ∧ 0 ≤ v1 ∧ v1 ≤ 1000 ∧ 1 ≤ n ∧ n ≤ 39 ∧ l'.length ≤ 1000 := by
  obtain ⟨v1, m1, l1, c1, e1, a0, a1, al⟩ := draw (P := P) (W := W) (k := k) h5 (ns := ns) (m := m) (c := c) (l := l) (t := t) (parts := parts) (trials := trials) (fail := fail) (rows := rows) (kk := kk) (one := one) (other := other) (here := here) (more := more) (greater := greater) (level := level) (levels := levels) (many := 1001) (a := .lit (.int 1001)) (fun _ => x_lit) (by decide) (by decide) hl
  obtain ⟨v2, m2, l2, c2, e2, b0, b1, bl⟩ := draw (P := P) (W := W) (k := k) h5 (ns := ns) (m := m1) (c := c1) (l := l1) (t := t) (parts := parts) (trials := trials) (fail := fail) (rows := rows) (kk := kk) (one := one) (other := other) (here := here) (more := more) (greater := greater) (level := level) (levels := levels) (many := 39) (a := .lit (.int 39)) (fun _ => x_lit) (by decide) (by decide) al
  refine ⟨v1, (1 + v2).toNat, m2, c2, l2, ?_, a0, by omega, by omega, by omega, bl⟩
  have hn : ((1 + v2).toNat : Int) = 1 + v2 := by omega
  rw [hn, evS, x_tup (x_as e1 (x_as (x_bin x_lit e2 rfl rfl rfl add_int) x_as0)) rfl (by simp)]
  rfl
end
section
variable {P : List Fn} {W k : Nat} {ns : List Int} {m c p : Int} {n : Nat} {l : List Int} {t fail kk one other here more greater level levels : Option O}
theorem third_draw (h5 : P[5]? = some nextFn) (hl : l.length ≤ 1000) (hn : n ≤ 39) : ∃ (f : Nat) (m' c' : Int) (l' : List Int), evS (run P W (k + 1)) W (.set 5 (.call 5 [0] [.io 1, .bin .Add (.var 4) (.lit (.int 1))])) (En ns (some (hst m l c)) t (some (.fr (.int p))) (some (.fr (.int n))) fail (some (.ol (rowsL p n))) kk one other here more greater level levels) =
    .ok (.next, En ns (some (hst m' l' c')) t (some (.fr (.int p))) (some (.fr (.int n))) (some (.fr (.int f))) (some (.ol (rowsL p n))) kk one other here more greater level levels) ∧ f ≤ n ∧ l'.length ≤ 1000 := by
  obtain ⟨v, m1, l1, c1, e1, a0, a1, al⟩ := draw (P := P) (W := W) (k := k) h5 (ns := ns) (m := m) (c := c) (l := l) (t := t) (parts := some (.fr (.int p))) (trials := some (.fr (.int n))) (fail := fail) (rows := some (.ol (rowsL p n))) (kk := kk) (one := one) (other := other) (here := here) (more := more) (greater := greater) (level := level) (levels := levels) (many := (n : Int) + 1) (a := .bin .Add (.var 4) (.lit (.int 1))) (fun _ => x_bin (x_var rfl) x_lit rfl rfl rfl add_int) (by omega) (by omega) hl
  refine ⟨v.toNat, m1, c1, l1, ?_, by omega, al⟩
  have hv : ((v.toNat : Nat) : Int) = v := by omega
  rw [hv]
  exact x_set e1 rfl (show 5 < 15 by decide)
end
section
variable {cal : Nat → List O → CRes} {W : Nat} {ns : List Int} {p : Int} {n f : Nat} {h t kk one other here more greater level levels : Option O}
theorem here_ok (hf : f ≤ n) (hc : cal 2 [.fr (.int p), .fr (.int ((n + 1 : Nat) : Int)), .fr (.int f)] = .ok (.fr (.tup [.int (num p (n + 1) f), .int (den p (n + 1) f)])) []) :
    evS cal W (.par 10 11 (.sub (.var 6) (.var 5)) (.call 2 [] [.var 3, .bin .Add (.var 4) (.lit (.int 1)), .var 5])) (En ns h t (some (.fr (.int p))) (some (.fr (.int n))) (some (.fr (.int f))) (some (.ol (rowsL p n))) kk one other here more greater level levels) =
      .ok (.next, En ns h t (some (.fr (.int p))) (some (.fr (.int n))) (some (.fr (.int f))) (some (.ol (rowsL p n))) kk one other (some (.fr (.tup [.int (num p n f), .int (den p n f)]))) (some (.fr (.tup [.int (num p (n + 1) f), .int (den p (n + 1) f)]))) greater level levels) := by
  generalize hE : En ns h t (some (.fr (.int p))) (some (.fr (.int n))) (some (.fr (.int f))) (some (.ol (rowsL p n))) kk one other here more greater level levels = E
  have v3 : ev cal (.var 3) E = .ok (.p (.int p), E) := by subst hE; exact x_var rfl
  have v4 : ev cal (.var 4) E = .ok (.p (.int (n : Int)), E) := by subst hE; exact x_var rfl
  have v5 : ev cal (.var 5) E = .ok (.p (.int (f : Int)), E) := by subst hE; exact x_var rfl
  have hs6 : (E[6]?).join = some (.ol (rowsL p n)) := by subst hE; rfl
  have w : ev cal (.bin .Add (.var 4) (.lit (.int 1))) E = .ok (.p (.int ((n + 1 : Nat) : Int)), E) := by
    rw [show ((n + 1 : Nat) : Int) = (n : Int) + 1 by omega]
    exact bin_add v4 x_lit
  have r := x_par (W := W) (i := 10) (j := 11) (rd_row hs6 v5 hf) (x_call (io := []) (x_as v3 (x_as w (x_as v5 x_as0))) rfl rfl hc rfl rfl) rfl rfl (by subst hE; exact (show 10 < 15 by decide)) (by subst hE; exact (show 11 < 15 by decide))
  rw [r]
  subst hE
  rfl
end
section
variable {P : List Fn} {W k : Nat} {ns : List Int} {m c p : Int} {n f : Nat} {l : List Int} {t rows kk one other here more greater level levels : Option O}
theorem greater_ok (h5 : P[5]? = some nextFn) (hl : l.length ≤ 1000) (h0 : 0 ≤ p) (h1 : p ≤ 1000) (hc : ∀ r : Int, 0 ≤ r → r ≤ 1000 → run P W (k + 1) 2 [.fr (.int r), .fr (.int n), .fr (.int f)] = .ok (.fr (.tup [.int (num r n f), .int (den r n f)])) []) :
    ∃ (r m' c' : Int) (l' : List Int), evS (run P W (k + 1)) W (.set 12 (.call 2 [] [.bi .min2 [.lit (.int 1000), .bin .Add (.bin .Add (.var 3) (.lit (.int 1))) (.call 5 [0] [.io 1, .lit (.int 50)])], .var 4, .var 5])) (En ns (some (hst m l c)) t (some (.fr (.int p))) (some (.fr (.int n))) (some (.fr (.int f))) rows kk one other here more greater level levels) =
      .ok (.next, En ns (some (hst m' l' c')) t (some (.fr (.int p))) (some (.fr (.int n))) (some (.fr (.int f))) rows kk one other here more (some (.fr (.tup [.int (num r n f), .int (den r n f)]))) level levels) ∧ p ≤ r ∧ r ≤ 1000 ∧ l'.length ≤ 1000 := by
  obtain ⟨v, m1, l1, c1, e1, a0, a1, al⟩ := draw (P := P) (W := W) (k := k) h5 (ns := ns) (m := m) (c := c) (l := l) (t := t) (parts := some (.fr (.int p))) (trials := some (.fr (.int n))) (fail := some (.fr (.int f))) (rows := rows) (kk := kk) (one := one) (other := other) (here := here) (more := more) (greater := greater) (level := level) (levels := levels) (many := 50) (a := .lit (.int 50)) (fun _ => x_lit) (by decide) (by decide) hl
  refine ⟨min 1000 (p + 1 + v), m1, c1, l1, ?_, by omega, by omega, al⟩
  have hr := hc (min 1000 (p + 1 + v)) (by omega) (by omega)
  have v3 := x_var (cal := run P W (k + 1)) (e := En ns (some (hst m l c)) t (some (.fr (.int p))) (some (.fr (.int n))) (some (.fr (.int f))) rows kk one other here more greater level levels) (i := 3) (d := .int p) rfl
  have v4 := x_var (cal := run P W (k + 1)) (e := En ns (some (hst m1 l1 c1)) t (some (.fr (.int p))) (some (.fr (.int n))) (some (.fr (.int f))) rows kk one other here more greater level levels) (i := 4) (d := .int n) rfl
  have v5 := x_var (cal := run P W (k + 1)) (e := En ns (some (hst m1 l1 c1)) t (some (.fr (.int p))) (some (.fr (.int n))) (some (.fr (.int f))) rows kk one other here more greater level levels) (i := 5) (d := .int f) rfl
  have a3 : ev (run P W (k + 1)) (.bi .min2 [.lit (.int 1000), .bin .Add (.bin .Add (.var 3) (.lit (.int 1))) (.call 5 [0] [.io 1, .lit (.int 50)])]) (En ns (some (hst m l c)) t (some (.fr (.int p))) (some (.fr (.int n))) (some (.fr (.int f))) rows kk one other here more greater level levels) = .ok (.p (.int (min 1000 (p + 1 + v))), En ns (some (hst m1 l1 c1)) t (some (.fr (.int p))) (some (.fr (.int n))) (some (.fr (.int f))) rows kk one other here more greater level levels) :=
    x_bi (hs := [.p (.int 1000), .p (.int (p + 1 + v))]) (os := [.fr (.int 1000), .fr (.int (p + 1 + v))]) (o := .fr (.int (min 1000 (p + 1 + v)))) (x_as x_lit (x_as (x_bin (x_bin v3 x_lit rfl rfl rfl add_int) e1 rfl rfl rfl add_int) x_as0)) rfl rfl min2_int
  exact x_set (x_call (io := []) (x_as a3 (x_as v4 (x_as v5 x_as0))) rfl rfl hr rfl rfl) rfl (show 12 < 15 by decide)
end
/-! ### a turn -/
theorem c0 : core[0]? = some f_need_count := rfl
theorem c1' : core[1]? = some f_lowest := rfl
theorem c2' : core[2]? = some f_tail := rfl
theorem c3' : core[3]? = some f_is_doubted := rfl
theorem c4' : core[4]? = some mixFn := rfl
theorem c5' : core[5]? = some nextFn := rfl
theorem wf_big : 1000 ^ 40 < Wf := by decide +kernel
abbrev cal3 : Nat → List O → CRes := run core Wf 3
theorem tail3 {p : Int} {n f : Nat} (hp : 0 ≤ p) (hp2 : p ≤ 1000) (h1 : 1 ≤ n) (h2 : n ≤ 40) (hf : f ≤ n) : cal3 2 [.fr (.int p), .fr (.int n), .fr (.int f)] = .ok (.fr (.tup [.int (num p n f), .int (den p n f)])) [] :=
  tail_lt (k := 1) c2' c0 c1' hp hp2 h1 h2 hf wf_big
theorem doubt3 {p : Int} {n f : Nat} {lv : Int} (hp : 0 ≤ p) (hp2 : p ≤ 1000) (h1 : 1 ≤ n) (h2 : n ≤ 40) (hf : f ≤ n) (l0 : 0 ≤ lv) (l1 : lv ≤ 1000) : cal3 3 [.fr (.int p), .fr (.int n), .fr (.int f), .fr (.int lv)] = .ok (.fr (.bl (decide (num p n f * 1000 ≤ lv * den p n f)))) [] :=
  doubt_ok (k := 0) c3' c2' c0 c1' hp hp2 h1 h2 hf wf_big l0 l1
def turnB : List CS := match f_law.body.getD 1 .never with | .for_ _ _ b => b | _ => []
theorem turn_ok {ns : List Int} {m c : Int} {l : List Int} {t parts trials fail rows kk one other here more greater levels : Option O} (hl : l.length ≤ 1000) (hfl : leafOrNone fail = true) :
    ∃ (m' c' : Int) (l' : List Int) (t' parts' trials' fail' rows' kk' one' other' here' more' greater' levels' : Option O), evSs cal3 Wf turnB (En ns (some (hst m l c)) t parts trials fail rows kk one other here more greater none levels) = .ok (.next, En ns (some (hst m' l' c')) t' parts' trials' fail' rows' kk' one' other' here' more' greater' none levels') ∧ l'.length ≤ 1000 ∧ leafOrNone fail' = true := by
  obtain ⟨p, n, m1, c1, l1, s1, p0, p1, n1, n2, hl1⟩ := two_draws (W := Wf) (k := 2) c5' (ns := ns) (m := m) (c := c) (t := t) (parts := parts) (trials := trials) (fail := fail) (rows := rows) (kk := kk) (one := one) (other := other) (here := here) (more := more) (greater := greater) (level := none) (levels := levels) hl
  have s2 := rows_ok (cal := cal3) (W := Wf) (ns := ns) (h := some (hst m1 l1 c1)) (t := t) (fail := fail) (rows := rows) (k := kk) (one := one) (other := other) (here := here) (more := more) (greater := greater) (level := none) (levels := levels) (p := p) (n := n) (by omega) hfl fun f hf => tail3 p0 p1 n1 (by omega) hf
  have s3 := first_ok (cal := cal3) (W := Wf) (e := En ns (some (hst m1 l1 c1)) t (some (.fr (.int p))) (some (.fr (.int n))) fail (some (.ol (rowsL p n))) kk one other here more greater none levels) (p := p) (n := n) rfl
  obtain ⟨k', one', other', s4⟩ := pairs_ok (cal := cal3) (W := Wf) (ns := ns) (h := some (hst m1 l1 c1)) (t := t) (fail := fail) (k := kk) (one := one) (other := other) (here := here) (more := more) (greater := greater) (level := none) (levels := levels) (p := p) (n := n) p0 p1 (by omega) fun f hf => tail3 (by omega) (by omega) n1 (by omega) hf
  obtain ⟨f, m2, c2, l2, s5, hfn, hl2⟩ := third_draw (W := Wf) (k := 2) c5' (ns := ns) (m := m1) (c := c1) (l := l1) (p := p) (n := n) (t := t) (fail := fail) (kk := k') (one := one') (other := other') (here := here) (more := more) (greater := greater) (level := none) (levels := levels) hl1 (by omega)
  have s6 := here_ok (cal := cal3) (W := Wf) (ns := ns) (h := some (hst m2 l2 c2)) (t := t) (kk := k') (one := one') (other := other') (here := here) (more := more) (greater := greater) (level := none) (levels := levels) (p := p) hfn (tail3 p0 p1 (by omega) (by omega) (by omega))
  obtain ⟨r, m3, c3, l3, s7, hpr, hr1, hl3⟩ := greater_ok (W := Wf) (k := 2) c5' (ns := ns) (m := m2) (c := c2) (l := l2) (p := p) (n := n) (f := f) (t := t) (rows := some (.ol (rowsL p n))) (kk := k') (one := one') (other := other') (here := some (.fr (.tup [.int (num p n f), .int (den p n f)]))) (more := some (.fr (.tup [.int (num p (n + 1) f), .int (den p (n + 1) f)]))) (greater := greater) (level := none) (levels := levels) hl2 p0 p1 fun r r0 r1 => tail3 r0 r1 n1 (by omega) hfn
  have s8 := or_ok (cal := cal3) (W := Wf) (e := En ns (some (hst m3 l3 c3)) t (some (.fr (.int p))) (some (.fr (.int n))) (some (.fr (.int f))) (some (.ol (rowsL p n))) k' one' other' (some (.fr (.tup [.int (num p n f), .int (den p n f)]))) (some (.fr (.tup [.int (num p (n + 1) f), .int (den p (n + 1) f)]))) (some (.fr (.tup [.int (num r n f), .int (den r n f)]))) none levels) (p := p) (r := r) (n := n) (f := f) p0 hpr hr1 (by omega) rfl rfl rfl
  have s9 := levels_ok (cal := cal3) (W := Wf) (ns := ns) (h := some (hst m3 l3 c3)) (t := t) (p := some (.fr (.int p))) (n := some (.fr (.int n))) (f := some (.fr (.int f))) (rows := some (.ol (rowsL p n))) (k := k') (one := one') (other := other') (here := some (.fr (.tup [.int (num p n f), .int (den p n f)]))) (more := some (.fr (.tup [.int (num p (n + 1) f), .int (den p (n + 1) f)]))) (greater := some (.fr (.tup [.int (num r n f), .int (den r n f)]))) (level := none) (levels := levels)
    (fun lv => decide (num p n f * 1000 ≤ lv * den p n f)) (fun lv hlv e he => by
      have hb := lvs_mem hlv
      subst he
      exact x_call (io := []) (x_as (x_var rfl) (x_as (x_var rfl) (x_as (x_var rfl) (x_as (x_var rfl) x_as0)))) rfl rfl (doubt3 p0 p1 n1 (by omega) hfn hb.1 hb.2) rfl rfl) rfl
  have s10 := ends_ok (cal := cal3) (W := Wf) (e := En ns (some (hst m3 l3 c3)) t (some (.fr (.int p))) (some (.fr (.int n))) (some (.fr (.int f))) (some (.ol (rowsL p n))) k' one' other' (some (.fr (.tup [.int (num p n f), .int (den p n f)]))) (some (.fr (.tup [.int (num p (n + 1) f), .int (den p (n + 1) f)]))) (some (.fr (.tup [.int (num r n f), .int (den r n f)]))) none (some (.ol ((lvs.filter fun lv => decide (num p n f * 1000 ≤ lv * den p n f)).map fun i => .fr (.int i)))))
    (fun lv => decide (num p n f * 1000 ≤ lv * den p n f)) rfl (lvs_up (Int.le_of_lt (nd_bound (f := f) p0 p1 (show n ≤ 40 by omega)).2.1))
  exact ⟨m3, c3, l3, _, _, _, _, _, _, _, _, _, _, _, _, x_ss s1 (x_ss s2 (x_ss s3 (x_ss s4 (x_ss s5 (x_ss s6 (x_ss s7 (x_ss s8 (x_ss s9 (x_ss s10 x_ss0))))))))), hl3, rfl⟩
theorem law_body : f_law.body = [.set 1 (.call 4 [] [.var 0, .lit (.int 139)]), .for_ (.v 2) (.rng [.lit (.int 5)]) turnB, .ret (.lit (.bl true))] := rfl
theorem plainC (ns : List Int) (h : ns.length ≤ 63) : run core Wf 4 6 [.fr (.scr ns)] = .ok (.fr (.bl true)) [] := by
  obtain ⟨m, hm⟩ := mix_ok (P := core) (W := Wf) (k := 2) c4' ns 139
  have s1 : evS cal3 Wf (.set 1 (.call 4 [] [.var 0, .lit (.int 139)])) (En ns none none none none none none none none none none none none none none) = .ok (.next, En ns (some (hst m ns 0)) none none none none none none none none none none none none none) :=
    x_set (x_call (io := []) (x_as (x_var rfl) (x_as x_lit x_as0)) rfl rfl hm rfl (by simp [O.clean, D.imm, cleanL, hst, cleanL_ints])) rfl (show 1 < 15 by decide)
  obtain ⟨e1, hf, m', c', l', t', a1, a2, a3, a4, a5, a6, a7, a8, a9, a10, a11, rfl, _, _⟩ := forL_ok (f := bodyF cal3 Wf (.v 2) turnB)
    (Inv := fun _ e => ∃ (m c : Int) (l : List Int) (t parts trials fail rows kk one other here more greater levels : Option O), e = En ns (some (hst m l c)) t parts trials fail rows kk one other here more greater none levels ∧ l.length ≤ 1000 ∧ leafOrNone fail = true)
    (rngL 0 5 1) 0 _ ⟨m, 0, ns, none, none, none, none, none, none, none, none, none, none, none, none, rfl, by omega, rfl⟩ (by
      rintro j d e hd ⟨m, c, l, t, parts, trials, fail, rows, kk, one, other, here, more, greater, levels, rfl, hl, hfl⟩
      obtain ⟨m', c', l', t', b1, b2, b3, b4, b5, b6, b7, b8, b9, b10, b11, hb, hl', hf'⟩ := turn_ok (ns := ns) (m := m) (c := c) (t := some (.fr d)) (parts := parts) (trials := trials) (fail := fail) (rows := rows) (kk := kk) (one := one) (other := other) (here := here) (more := more) (greater := greater) (levels := levels) hl hfl
      exact ⟨_, x_body rfl hb, m', c', l', t', b1, b2, b3, b4, b5, b6, b7, b8, b9, b10, b11, rfl, hl', hf'⟩)
  have hr : evSr cal3 (.rng [.lit (.int 5)]) (En ns (some (hst m ns 0)) none none none none none none none none none none none none none) = .ok (rngL 0 5 1, false, En ns (some (hst m ns 0)) none none none none none none none none none none none none none) := by
    refine x_rng (hs := [.p (.int 5)]) (os := [.fr (.int 5)]) (x_as x_lit x_as0) rfl ?_
    rw [show leafs [O.fr (.int 5)] = some [D.int ((5 : Nat) : Int)] from rfl, Option.bind_some]
    exact rngOf_small (n := 5) (by decide)
  have s2 := x_for (cal := cal3) (W := Wf) (t := .v 2) (b := turnB) hr hf
  refine run_of (fn := f_law) (e := En ns (some (hst m' l' c')) t' a1 a2 a3 a4 a5 a6 a7 a8 a9 a10 none a11) rfl rfl rfl ?_
  rw [law_body]
  exact x_ss s1 (x_ss s2 (x_ssr (x_ret x_lit rfl)))
end K31
end

section
namespace K31
open PySem L2 Cr
def top (i : Nat) : Stmt := PySem.Challenge.pw_safecase_k31_whole_tails_of_chances.main.body.getD i (.Pass ⟨0, 0, 0, 0⟩)
def d_need_count : FnD := ⟨"need_count", "need_count", top 5, ["number", "low", "high"], f_need_count⟩
def d_lowest : FnD := ⟨"lowest", "lowest", top 8, ["number", "whole", "one", "other"], f_lowest⟩
def d_tail : FnD := ⟨"tail", "tail", top 9, ["parts", "trials", "failures", "rows", "turn", "longer", "count", "number"], f_tail⟩
def d_is_doubted : FnD := ⟨"is_doubted", "is_doubted", top 10, ["parts", "trials", "failures", "level", "number", "whole"], f_is_doubted⟩
def d__law_mix : FnD := ⟨"_law_mix", "_law_mix", top 12, ["_law_script", "_law_seed", "_law_mixed", "_law_cell"], f__law_mix⟩
def d__law_next : FnD := ⟨"_law_next", "_law_next", top 13, ["_law_h", "_law_many", "_law_cell"], f__law_next⟩
def d_law : FnD := ⟨"law", "law", top 14, ["_law_script", "_law_h", "_law_turn", "_law_parts", "_law_trials", "_law_failures", "_law_rows", "_law_k", "_law_one", "_law_other", "_law_here", "_law_more", "_law_greater", "_law_level", "_law_levels"], f_law⟩
def ds : List FnD := [d_need_count, d_lowest, d_tail, d_is_doubted, d__law_mix, d__law_next, d_law]
def gls : List (Str × D) := [("WHOLE", .int 1000), ("MOST_TRIALS", .int 40)]
theorem b_need_count : BindsOk d_need_count := fun _ _ _ _ _ _ us hl => match us, hl with | [_, _, _], _ => rfl
theorem b_lowest : BindsOk d_lowest := fun _ _ _ _ _ _ us hl => match us, hl with | [_, _], _ => rfl
theorem b_tail : BindsOk d_tail := fun _ _ _ _ _ _ us hl => match us, hl with | [_, _, _], _ => rfl
theorem b_is_doubted : BindsOk d_is_doubted := fun _ _ _ _ _ _ us hl => match us, hl with | [_, _, _, _], _ => rfl
theorem b__law_mix : BindsOk d__law_mix := fun _ _ _ _ _ _ us hl => match us, hl with | [_, _], _ => rfl
theorem b__law_next : BindsOk d__law_next := fun _ _ _ _ _ _ us hl => match us, hl with | [_, _], _ => rfl
theorem b_law : BindsOk d_law := fun _ _ _ _ _ _ us hl => match us, hl with | [_], _ => rfl
theorem texts : Texts gls ds := by
  refine ⟨by decide +kernel, ?_, by decide +kernel, by decide +kernel⟩
  intro d hd
  simp only [ds, List.mem_cons, List.not_mem_nil, or_false] at hd
  rcases hd with rfl | rfl | rfl | rfl | rfl | rfl | rfl
  · exact b_need_count
  · exact b_lowest
  · exact b_tail
  · exact b_is_doubted
  · exact b__law_mix
  · exact b__law_next
  · exact b_law
theorem plain : ∀ ns : List Int, ns.length ≤ 63 → run (ds.map (·.fn)) (10 ^ 200) 4 6 [.fr (.scr ns)] = .ok (.fr (.bl true)) [] := fun ns h => plainC ns h
abbrev R : PySem.W.OpenRow := PySem.W.OpenLaw.row PySem.Challenge.rw_safecase_k31_whole_tails_of_chances
abbrev hk : PySem.W.Hook := He.hookD 4 (faOf gls ds) (fnOf ds)
def ob (s : PySem.W.SharedT) : He.AlD := He.obsDG 4 (faOf gls ds) (fnOf ds) (HandSHeadRun.getT s)
theorem ob_eq (s : PySem.W.SharedT) : ob s = hk.obs s.abs := He.obsDG_eq (HandSHeadRun.getT_eq s)
theorem headRun (w : World) : HandSHeadRun.RunEq R (PySem.W.view R.prog [14]) hk ob 3000 ["CaseError", "BadCount", "WHOLE", "need_count", "MOST_TRIALS", "lowest", "tail", "is_doubted", "_law_mix", "_law_next"] w := by
  intro os
  kernel_rfl
open PySem PySem.W PySem.Calls PyProof.Rows in
set_option maxHeartbeats 0 in
theorem holdsC : PySem.Challenge.rw_safecase_k31_whole_tails_of_chances.Holds := by
  w_on; o_law
  refine HandSHeadRun.head_any (r := OpenLaw.row PySem.Challenge.rw_safecase_k31_whole_tails_of_chances) (q := view (OpenLaw.row PySem.Challenge.rw_safecase_k31_whole_tails_of_chances).prog [14]) (H := hk) (ob := ob) (M := 3000) (loose := ["CaseError", "BadCount", "WHOLE", "need_count", "MOST_TRIALS", "lowest", "tail", "is_doubted", "_law_mix", "_law_next"]) (d := HandSHeadRun.topDef (OpenLaw.row PySem.Challenge.rw_safecase_k31_whole_tails_of_chances).prog 14) (kwd := []) ob_eq
    (by kernel_rfl) (fun s => by kernel_rfl) headRun (by kernel_rfl) (by kernel_rfl) (by kernel_rfl) (by rfl) (by first | assumption | decide +kernel) (by decide +kernel) ⟨rfl, rfl, rfl, rfl, rfl, by decide +kernel⟩ ?hw ?hc
  case hw => w_witness2
  case hc =>
    refine walk_law (l := PySem.Challenge.rw_safecase_k31_whole_tails_of_chances) (n := 63) (k := 4) (x := "_law_script") rfl (by decide) (by kernel_rfl) ⟨rfl, by decide, by decide⟩ ?F
    intro w mg fa h Y G hmg0
    obtain ⟨K, KX, c⟩ := Y
    have hmg : mg ("law" : PySem.Str) = some (.ref fa) := by
      have e : (HandSHeadRun.topDef (OpenLaw.row PySem.Challenge.rw_safecase_k31_whole_tails_of_chances).prog 14).name = ("law" : PySem.Str) := by kernel_rfl
      rw [← e]
      exact hmg0
    obtain ⟨fd, sp, h1, h2, h3⟩ := law_of (P := PySem.Challenge.pw_safecase_k31_whole_tails_of_chances) (w := w) texts KX G c (i := 6) (d := d_law) (x := "_law_script") (n := 63) (k := 4) (W := (10 ^ 200)) rfl rfl rfl hmg plain
    exact ⟨K, fd, sp, KX, h1, h2, h3⟩

end K31
theorem PySem.Challenge.cw_safecase_k31_whole_tails_of_chances_holds : PySem.Challenge.rw_safecase_k31_whole_tails_of_chances.Holds :=
  K31.holdsC

end
