import PyProof.Rows.All
import Wide.All
import OpenK.AllK
import Wide.FinOn
import HandS.ForMost
import HandS.ForExc
import HandS.Lambda
import HandS.TupAny
import HandS.Wide
import HandS.Deep
import HandS.Style
import HandS.IsInst
import HandS.Codes
import HandS.Comp
import KE.SortKeyHeap
import HandS.SortKw
import HandS.ExcField
import HandS.Dict
import HandS.TryOnly
import HandS.ExcOwn
import HandS.More
import HandS.WordsExc
import KE.KExcSuper
import HandS.HeadWalk
import PySem.Challenge.RW_ledgerwright_k53_whole_bills
set_option Elab.async false
set_option linter.all false
set_option maxRecDepth 100000
/-! V1: a small total evaluator for defs over plain data. -/
namespace Vi
open PySem

inductive D where
  | non | bl (b : Bool) | int (i : Int) | str (x : Str) | tup (xs : List D) | lst (xs : List D) | scr (xs : List Int) | tok | cel | fn (k : Nat)
deriving Inhabited

mutual
def D.py : D → Option PyData
  | .non => some .none
  | .bl b => some (.bool b)
  | .int i => some (.int i)
  | .str x => some (.str x)
  | .tup xs => match D.pys xs with | some ys => some (.tuple ys) | none => none
  | .lst xs => match D.pys xs with | some ys => some (.list ys) | none => none
  | _ => none
def D.pys : List D → Option (List PyData)
  | [] => some []
  | x :: r => match D.py x with
    | some y => match D.pys r with | some ys => some (y :: ys) | none => none
    | none => none
end

abbrev lim : Nat := 1000000
structure Ex where
  cls : Nat
  fs : List D
deriving Inhabited
inductive Slot where
  | uns | val (d : D) | own (xs : List D) | lck (xs : List D) | exv (e : Ex)
deriving Inhabited
abbrev Rng := Option (Int × List Int)
structure S where
  sl : List Slot
  rg : Rng
deriving Inhabited
inductive RE (α : Type) where
  | ok (a : α) (s : S) | exc (e : Ex) (s : S) | stuck
inductive RC where
  | ok (d : D) (r : Rng) | exc (e : Ex) (r : Rng) | stuck
deriving Inhabited
inductive RS where
  | next (s : S) | ret (d : D) (s : S) | brk (s : S) | cnt (s : S) | exc (e : Ex) (s : S) | stuck
deriving Inhabited
abbrev Cl := Nat → List D → Rng → RC
def RE.bind {α β : Type} (x : RE α) (f : α → S → RE β) : RE β := match x with
  | .ok a s => f a s
  | .exc e s => .exc e s
  | .stuck => .stuck
def RE.opt {α : Type} (o : Option α) (s : S) : RE α := match o with
  | some a => .ok a s
  | none => .stuck
def RE.stm {α : Type} (x : RE α) (f : α → S → RS) : RS := match x with
  | .ok a s => f a s
  | .exc e s => .exc e s
  | .stuck => .stuck

/-! ### the errors: Wrong, Great, Misstep, Unfit -/
def exFlds : Nat → List Str
  | 1 => [Str.ofString "limit"]
  | 2 => [Str.ofString "word"]
  | 3 => [Str.ofString "line", Str.ofString "place", Str.ofString "word"]
  | _ => []
def exSub (a b : Nat) : Bool := a == b || b == 0
def exOk : Nat → List D → Bool
  | 1, [.str w] => decide (w.length ≤ 1000)
  | 2, [.str w] => decide (w.length ≤ 1000)
  | 3, [.int a, .int b, .str w] => decide (w.length ≤ 1000) && decide (a.natAbs.log2 < 1920) && decide (b.natAbs.log2 < 1920)
  | _, _ => false
/-! ### operations -/
inductive BOp where | add | sub | mul | fdiv | mod
deriving DecidableEq, Inhabited
inductive COp where | eq | ne | lt | le | gt | ge | is | isn | isin | nin
deriving DecidableEq, Inhabited
inductive Blt where | len | abs | int | str | list | tuple | all | any | sum | min | max | isi (t : String)
deriving DecidableEq, Inhabited

def mulOk (i j : Int) : Bool := decide (i.natAbs < 2 ^ 64) || decide (j.natAbs < 2 ^ 64) || decide (i.natAbs.log2 + j.natAbs.log2 < 1000000)
def divOk (j : Int) : Bool := decide (0 < j) && decide (j.natAbs.log2 < 9000)
def binD : BOp → D → D → Option D
  | .add, .int i, .int j => some (.int (i + j))
  | .add, .str x, .str y => if x.length + y.length ≤ lim then some (.str (x ++ y)) else none
  | .add, .lst x, .lst y => if x.length + y.length ≤ lim then some (.lst (x ++ y)) else none
  | .add, .tup x, .tup y => if x.length + y.length ≤ lim then some (.tup (x ++ y)) else none
  | .sub, .int i, .int j => some (.int (i - j))
  | .mul, .int i, .int j => if mulOk i j then some (.int (i * j)) else none
  | .mul, .lst x, .int k => if -1000000 ≤ k ∧ k ≤ 1000000 ∧ x.length * k.toNat ≤ lim then some (.lst (List.replicate k.toNat x).flatten) else none
  | .fdiv, .int i, .int j => if divOk j then some (.int (i / j)) else none
  | .mod, .int i, .int j => if 0 < j then some (.int (i % j)) else none
  | _, _, _ => none
def eqD (x y : D) : Option Bool := match x.py, y.py with
  | some a, some b => if SeqAt.shaped a && SeqAt.shaped b then some (PyData.eqv a b) else none
  | _, _ => none
def inD (x : D) : D → Option Bool
  | .lst ys => match x.py, D.pys ys with
    | some a, some bs => if SeqAt.shaped a && SeqAt.shaped (.list bs) then some (bs.any fun z => PyData.eqv z a) else none
    | _, _ => none
  | .str z => match x with
    | .str y => match y.cps.toList with
      | [c] => some (decide (c ∈ z.cps.toList))
      | _ => none
    | _ => none
  | _ => none
def D.isNon : D → Bool
  | .non => true
  | _ => false
def isD : D → D → Option Bool
  | x, .non => some x.isNon
  | .bl a, .bl b => some (a == b)
  | _, _ => none
def cmpD : COp → D → D → Option Bool
  | .eq, x, y => eqD x y
  | .ne, x, y => match eqD x y with | some b => some (!b) | none => none
  | .lt, .int i, .int j => some (decide (i < j))
  | .le, .int i, .int j => some (decide (i ≤ j))
  | .gt, .int i, .int j => some (decide (j < i))
  | .ge, .int i, .int j => some (decide (j ≤ i))
  | .is, x, y => isD x y
  | .isn, x, y => match isD x y with | some b => some (!b) | none => none
  | .isin, x, y => inD x y
  | .nin, x, y => match inD x y with | some b => some (!b) | none => none
  | _, _, _ => none
/-- an index of either sign -/
def ixL {α : Type} (xs : List α) (i : Int) : Option α :=
  if 0 ≤ i then (if i < xs.length then xs[i.toNat]? else none) else if -(xs.length : Int) ≤ i then xs[(i + xs.length).toNat]? else none
def ixD (x i : D) (r : Rng) : Option D := match x, i with
  | .lst xs, .int i => ixL xs i
  | .tup xs, .int i => ixL xs i
  | .str z, .int i => if z.length ≤ lim then match ixL z.cps.toList i with | some c => some (.str ⟨#[c]⟩) | none => none else none
  | .tok, .int i => match r with
    | some (p, _) => if i = 0 then some (.int p) else if i = 1 then some .cel else none
    | none => none
  | .cel, .int i => match r with
    | some (_, cs) => match ixL cs i with | some c => some (.int c) | none => none
    | none => none
  | _, _ => none
def cutIx (n d : Nat) : Option Int → Nat
  | none => d
  | some i => if i < 0 then (i + n).toNat else min i.toNat n
def cutL {α : Type} (xs : List α) (lo hi : Option Int) : List α := (xs.drop (cutIx xs.length 0 lo)).take (cutIx xs.length xs.length hi - cutIx xs.length 0 lo)
def cutD (x : D) (lo hi : Option Int) : Option D := match x with
  | .lst xs => some (.lst (cutL xs lo hi))
  | .tup xs => some (.tup (cutL xs lo hi))
  | .scr xs => some (.lst ((cutL xs lo hi).map .int))
  | .str z => if z.length ≤ lim then some (.str ⟨(cutL z.cps.toList lo hi).toArray⟩) else none
  | _ => none
def revD : D → Option D
  | .lst xs => some (.lst xs.reverse)
  | _ => none
def negD : D → Option D
  | .int i => some (.int (-i))
  | _ => none
def bools : List D → Option (List Bool)
  | [] => some []
  | .bl b :: r => match bools r with | some bs => some (b :: bs) | none => none
  | _ => none
def intsD : List D → Option (List Int)
  | [] => some []
  | .int i :: r => match intsD r with | some bs => some (i :: bs) | none => none
  | _ => none
def isiD (t : String) : D → Option Bool
  | .int _ => some (t == "int")
  | .bl _ => some (t == "int" || t == "bool")
  | .str _ => some (t == "str")
  | .non => some false
  | .tup _ => some (t == "tuple")
  | .lst _ => some (t == "list")
  | _ => none
def bltD : Blt → List D → Rng → Option D
  | .len, [.lst xs], _ => some (.int xs.length)
  | .len, [.tup xs], _ => some (.int xs.length)
  | .len, [.str z], _ => if z.length ≤ lim then some (.int z.length) else none
  | .len, [.cel], some (_, cs) => some (.int cs.length)
  | .abs, [.int i], _ => some (.int (if i < 0 then -i else i))
  | .int, [.int i], _ => some (.int i)
  | .int, [.bl b], _ => some (.int (if b then 1 else 0))
  | .str, [.int i], _ => if i.natAbs.log2 < 1920 then some (.str (toString i)) else none
  | .list, [.lst xs], _ => some (.lst xs)
  | .list, [.tup xs], _ => some (.lst xs)
  | .tuple, [.lst xs], _ => some (.tup xs)
  | .tuple, [.tup xs], _ => some (.tup xs)
  | .all, [.lst xs], _ => match bools xs with | some bs => some (.bl (bs.all id)) | none => none
  | .any, [.lst xs], _ => match bools xs with | some bs => some (.bl (bs.any id)) | none => none
  | .sum, [.lst xs], _ => match intsD xs with | some ns => some (.int ns.sum) | none => none
  | .max, [.int i, .int j], _ => some (.int (if j > i then j else i))
  | .min, [.int i, .int j], _ => some (.int (if j < i then j else i))
  | .isi t, [x], _ => match isiD t x with | some b => some (.bl b) | none => none
  | _, _, _ => none

/-- the first equal one goes -/
def remD (xs : List D) (d : D) : Option (List D) := match d.py, D.pys xs with
  | some a, some bs => if SeqAt.shaped a && SeqAt.shaped (.list bs) then (match bs.findIdx? fun z => PyData.eqv z a with | some j => some (xs.eraseIdx j) | none => none) else none
  | _, _ => none
/-! ### calls of special shapes -/
inductive Spc where | lset | skey (n : Nat)
deriving DecidableEq, Inhabited
def keyD : D → Option (Int ⊕ Str)
  | .int i => some (.inl i)
  | .str z => some (.inr z)
  | _ => none
def keysD : List D → Option (List (Int ⊕ Str))
  | [] => some []
  | d :: r => match keyD d with
    | some k => match keysD r with | some ks => some (k :: ks) | none => none
    | none => none
def memK (k : Int ⊕ Str) (r : List (Int ⊕ Str)) : Bool := r.any fun z => decide (z = k)
/-- how many different ones -/
def metN : List (Int ⊕ Str) → Nat
  | [] => 0
  | k :: r => if memK k r = true then metN r else metN r + 1
/-- the whole number at n of a row -/
def skeyD (n : Nat) : D → Option Int
  | .tup ds => match ds[n]? with
    | some (.int i) => some i
    | _ => none
  | _ => none
def skeysD (n : Nat) : List D → Option (List (D × Int))
  | [] => some []
  | d :: r => match skeyD n d with
    | some k => match skeysD n r with | some ks => some ((d, k) :: ks) | none => none
    | none => none
def skeyLe {α : Type} (x y : α × Int) : Bool := decide (x.2 ≤ y.2)
def spD : Spc → List D → Rng → Option D
  | .lset, [.lst xs], _ => match keysD xs with
    | some ks => if ks.length < 4000 then some (.int (metN ks.reverse)) else none
    | none => none
  | .skey n, [.lst xs], _ => match skeysD n xs with
    | some ks => some (.lst ((ks.mergeSort skeyLe).map (·.1)))
    | none => none
  | .skey n, [.tup xs], _ => match skeysD n xs with
    | some ks => some (.lst ((ks.mergeSort skeyLe).map (·.1)))
    | none => none
  | _, _, _ => none

mutual
def flat : D → Bool
  | .non => true
  | .bl _ => true
  | .int _ => true
  | .str _ => true
  | .tup ds => flats ds
  | .fn _ => true
  | _ => false
def flats : List D → Bool
  | [] => true
  | d :: ds => flat d && flats ds
end

/-! ### the terms -/
inductive Tg where | nm (i : Nat) | tp (is : List Nat)
deriving Inhabited
mutual
inductive IE where
  | var (i : Nat) | pk (i : Nat) | cst (d : D) | glb (x : Str) (d : D) | fnr (x : Str) (k : Nat)
  | bin (o : BOp) (a b : IE) | neg (a : IE) | cmp (o : COp) (a b : IE) | chn (o o' : COp) (a b c : IE)
  | and (a b : IE) | or (a b : IE) | not (a : IE) | ife (t a b : IE)
  | tup (es : IEs) | lst (es : IEs) | ix (a i : IE) | sl (a : IE) (lo hi : IO) | rev (a : IE)
  | blt (b : Blt) (es : IEs) | call (x : Str) (k : Nat) (es : IEs) | cv (i : Nat) (es : IEs)
  | lc (e : IE) (tg : Tg) (it : II) (c : IO) (own fz : List Nat)
  | fld (i : Nat) (x : Str) | sp (o : Spc) (es : IEs) | lend (x : Str) (k : Nat) (es : IEs)
inductive IEs where | nil | cons (e : IE) (r : IEs)
inductive IO where | none | some (e : IE)
inductive II where | rng1 (a : IE) | rng2 (a b : IE) | rng3 (a b : IE) (c : Int) | seq (e : IE)
end
mutual
inductive IS where
  | set (i : Nat) (fr : Bool) (e : IE) | par (ts : List (Nat × Bool)) (es : IEs) | unp (is : List Nat) (e : IE)
  | aug (i : Nat) (o : BOp) (e : IE) | sto (i : Nat) (x e : IE) | augs (i : Nat) (x : IE) (o : BOp) (e : IE)
  | app (i : Nat) (e : IE) | rem (i : Nat) (e : IE) | ins (i : Nat) (a b : IE) | pop (i : Nat) | sw2 (i : Nat) (x : IE) (j : Nat) (y : IE) (es : IEs) | ret (e : IE) | retst (i : Nat)
  | ife (t : IE) (a b : ISs) | whl (t : IE) (b : ISs) | for (tg : Tg) (it : II) (b : ISs)
  | brk | cnt | pas | rai (x : Str) (c : Nat) (es : IEs) | try (b : ISs) (x : Str) (c : Nat) (n : Option Nat) (s : ISs) | drp (e : IE)
inductive ISs where | nil | cons (s : IS) (r : ISs)
end
instance : Inhabited IE := ⟨.cst .non⟩
instance : Inhabited ISs := ⟨.nil⟩

/-! ### the evaluator -/
def Slot.frz : Slot → Slot
  | .own xs => .val (.lst xs)
  | s => s
def Slot.lock : Slot → Slot
  | .own xs => .lck xs
  | s => s
/-- a strong read -/
def rdS (i : Nat) (s : S) : RE D := match s.sl[i]? with
  | some (.val d) => .ok d s
  | some (.own xs) => .ok (.lst xs) { s with sl := s.sl.set i (.val (.lst xs)) }
  | _ => .stuck
/-- a passing read -/
def pkS (i : Nat) (s : S) : RE D := match s.sl[i]? with
  | some (.val d) => .ok d s
  | some (.own xs) => .ok (.lst xs) s
  | some (.lck xs) => .ok (.lst xs) s
  | _ => .stuck
def frzS : List Nat → S → S
  | [], s => s
  | i :: r, s => frzS r (match s.sl[i]? with | some (.own xs) => { s with sl := s.sl.set i (.val (.lst xs)) } | _ => s)
def wipeS : List Nat → List Slot → Option (List Slot)
  | [], sl => some sl
  | i :: r, sl => match sl[i]? with
    | some (.own _) => none
    | some (.lck _) => none
    | _ => match wipeS r sl with | some sl' => some (sl'.set i .uns) | none => none
def nlck (sl : List Slot) (i : Nat) : Bool := match sl[i]? with
  | some (.lck _) => false
  | _ => true
def bindTg : Tg → D → List Slot → Option (List Slot)
  | .nm i, d, sl => if nlck sl i then some (sl.set i (.val d)) else none
  | .tp is, .tup ds, sl => if is.length = ds.length ∧ is.all (nlck sl) = true then some ((is.zip ds).foldl (fun l p => l.set p.1 (.val p.2)) sl) else none
  | _, _, _ => none
def rngL (lo hi : Int) : List D := (List.range (hi - lo).toNat).map fun (k : Nat) => .int (lo + (k : Int))
def rngC (lo hi c : Int) : List D := if c = -1 then (List.range (lo - hi).toNat).map fun (k : Nat) => .int (lo - (k : Int)) else []
def small62 (i : Int) : Bool := decide (-1000000000000000000 < i) && decide (i < 1000000000000000000)
def itemsD (d : D) (r : Rng) : Option (List D) := match d with
  | .lst xs => some xs
  | .tup xs => some xs
  | .str z => some (z.cps.toList.map fun c => .str ⟨#[c]⟩)
  | _ => none
/-- the turns of a comprehension: only the draws are carried -/
def compL (f : D → Rng → RE (Option D)) : List D → Rng → List D → RE (List D)
  | [], r, acc => .ok acc ⟨[], r⟩
  | x :: xs, r, acc => match f x r with
    | .ok (some d) s => if acc.length < lim then compL f xs s.rg (acc ++ [d]) else .stuck
    | .ok none s => compL f xs s.rg acc
    | _ => .stuck

/-- one turn: target, test, item -/
def compF (t : Option (S → RE D)) (e : S → RE D) (tg : Tg) (sl : List Slot) (x : D) (r : Rng) : RE (Option D) := match bindTg tg x sl with
  | some sl' => match t with
    | none => (e ⟨sl', r⟩).bind fun d s => .ok (some d) s
    | some t => (t ⟨sl', r⟩).bind fun b s => match b with
      | .bl true => (e s).bind fun d s => .ok (some d) s
      | .bl false => .ok none s
      | _ => .stuck
  | none => .stuck
def compR (own : List Nat) (f : List Slot → D → Rng → RE (Option D)) (xs : List D) (s : S) : RE D := match wipeS own (s.sl.map Slot.lock) with
  | some sl => match compL (f sl) xs s.rg [] with
    | .ok ds s' => .ok (.lst ds) { s with rg := s'.rg }
    | _ => .stuck
  | none => .stuck
variable (cl : Cl)
mutual
def ev : IE → S → RE D
  | .var i, s => rdS i s
  | .pk i, s => pkS i s
  | .cst d, s => .ok d s
  | .glb _ d, s => .ok d s
  | .fnr _ k, s => .ok (.fn k) s
  | .bin o a b, s => (ev a s).bind fun x s => (ev b s).bind fun y s => .opt (binD o x y) s
  | .neg a, s => (ev a s).bind fun x s => .opt (negD x) s
  | .cmp o a b, s => (ev a s).bind fun x s => (ev b s).bind fun y s => .opt ((cmpD o x y).map .bl) s
  | .chn o o' a b c, s => (ev a s).bind fun x s => (ev b s).bind fun y s => match cmpD o x y with
    | some true => (ev c s).bind fun z s => .opt ((cmpD o' y z).map .bl) s
    | some false => .ok (.bl false) s
    | none => .stuck
  | .and a b, s => (ev a s).bind fun x s => match x with
    | .bl true => ev b s
    | .bl false => .ok (.bl false) s
    | _ => .stuck
  | .or a b, s => (ev a s).bind fun x s => match x with
    | .bl true => .ok (.bl true) s
    | .bl false => ev b s
    | _ => .stuck
  | .not a, s => (ev a s).bind fun x s => match x with
    | .bl b => .ok (.bl (!b)) s
    | _ => .stuck
  | .ife t a b, s => (ev t s).bind fun x s => match x with
    | .bl true => ev a s
    | .bl false => ev b s
    | _ => .stuck
  | .tup es, s => (evs es s).bind fun xs s => if xs.length ≤ lim then .ok (.tup xs) s else .stuck
  | .lst es, s => (evs es s).bind fun xs s => if xs.length ≤ lim then .ok (.lst xs) s else .stuck
  | .ix a i, s => (ev a s).bind fun x s => (ev i s).bind fun y s => .opt (ixD x y s.rg) s
  | .sl a lo hi, s => (ev a s).bind fun x s => (evo lo s).bind fun l s => (evo hi s).bind fun h s => .opt (cutD x l h) s
  | .rev a, s => (ev a s).bind fun x s => .opt (revD x) s
  | .blt b es, s => (evs es s).bind fun xs s => .opt (bltD b xs s.rg) s
  | .call _ k es, s => (evs es s).bind fun xs s => match cl k xs s.rg with
    | .ok d r => .ok d { s with rg := r }
    | .exc e r => .exc e { s with rg := r }
    | .stuck => .stuck
  | .cv i es, s => match s.sl[i]? with
    | some (.val (.fn k)) => match evs es s with
      | .ok xs s => match cl k xs s.rg with
        | .ok d r => .ok d { s with rg := r }
        | .exc e r => .exc e { s with rg := r }
        | .stuck => .stuck
      | _ => .stuck
    | _ => .stuck
  | .lc e tg it c own fz, s => (evi it (frzS fz s)).bind fun xs s => compR own (compF (evc c) (fun s => ev e s) tg) xs s
  | .fld i x, s => match s.sl[i]? with
    | some (.exv e) => .opt e.fs[(exFlds e.cls).idxOf x]? s
    | _ => .stuck
  | .sp o es, s => (evs es s).bind fun xs s => .opt (spD o xs s.rg) s
  | .lend _ k es, s => (evs es s).bind fun xs s => match cl k xs s.rg with
    | .ok d r => if flat d then .ok d { s with rg := r } else .stuck
    | .exc e r => if flats e.fs then .exc e { s with rg := r } else .stuck
    | .stuck => .stuck
def evs : IEs → S → RE (List D)
  | .nil, s => .ok [] s
  | .cons e r, s => (ev e s).bind fun x s => (evs r s).bind fun xs s => .ok (x :: xs) s
def evo : IO → S → RE (Option Int)
  | .none, s => .ok none s
  | .some e, s => (ev e s).bind fun x s => match x with
    | .int i => .ok (some i) s
    | _ => .stuck
def evc : IO → Option (S → RE D)
  | .none => none
  | .some e => some fun s => ev e s
def evi : II → S → RE (List D)
  | .rng1 a, s => (ev a s).bind fun x s => match x with
    | .int n => if small62 n then .ok (rngL 0 n) s else .stuck
    | _ => .stuck
  | .rng2 a b, s => (ev a s).bind fun x s => (ev b s).bind fun y s => match x, y with
    | .int m, .int n => if small62 m && small62 n then .ok (rngL m n) s else .stuck
    | _, _ => .stuck
  | .rng3 a b c, s => (ev a s).bind fun x s => (ev b s).bind fun y s => match x, y with
    | .int m, .int n => if small62 m && small62 n && decide (c = -1) then .ok (rngC m n c) s else .stuck
    | _, _ => .stuck
  | .seq e, s => (ev e s).bind fun x s => .opt (itemsD x s.rg) s
end

/-- the turns of a for -/
def forL (f : D → S → RS) : List D → S → RS
  | [], s => .next s
  | x :: xs, s => match f x s with
    | .next s => forL f xs s
    | .cnt s => forL f xs s
    | .brk s => .next s
    | r => r
def whlL (t : S → RE D) (f : S → RS) : Nat → S → RS
  | 0, _ => .stuck
  | n + 1, s => (t s).stm fun b s => match b with
    | .bl true => match f s with
      | .next s => whlL t f n s
      | .cnt s => whlL t f n s
      | .brk s => .next s
      | r => r
    | .bl false => .next s
    | _ => .stuck
/-- an owned list that a for walks is locked meanwhile -/
def lockOf (it : II) (s : S) : Option (Nat × List D) := match it with
  | .seq (.pk i) => match s.sl[i]? with | some (.own xs) => some (i, xs) | _ => none
  | _ => none
def isLck (it : II) (s : S) : Bool := match it with
  | .seq (.pk i) => !nlck s.sl i
  | _ => false
def augD : BOp → D → D → Option D
  | .add, .int i, .int j => some (.int (i + j))
  | .add, .str x, .str y => if x.length + y.length ≤ lim then some (.str (x ++ y)) else none
  | .sub, .int i, .int j => some (.int (i - j))
  | _, _, _ => none
def unlock (o : Option (Nat × List D)) (s : S) : S := match o with
  | some (i, xs) => match s.sl[i]? with | some (.lck _) => { s with sl := s.sl.set i (.own xs) } | _ => s
  | none => s
def RS.unlk (o : Option (Nat × List D)) : RS → RS
  | .next s => .next (unlock o s)
  | .brk s => .brk (unlock o s)
  | .cnt s => .cnt (unlock o s)
  | r => r
def lockS (o : Option (Nat × List D)) (s : S) : S := match o with
  | some (i, xs) => { s with sl := s.sl.set i (.lck xs) }
  | none => s
def slotOf (fr : Bool) (d : D) : Slot := match fr, d with
  | true, .lst xs => .own xs
  | _, d => .val d
def setAt (xs : List D) (i : Int) (d : D) : Option (List D) :=
  if 0 ≤ i then (if i < xs.length then some (xs.set i.toNat d) else none) else if -(xs.length : Int) ≤ i then some (xs.set (i + xs.length).toNat d) else none
/-- xs.insert(k, d) -/
def insD (xs : List D) (k d : D) : Option (List D) := match k with
  | .int k => if 0 ≤ k ∧ k < 1000000 ∧ xs.length < 1000000 then some (xs.take k.toNat ++ [d] ++ xs.drop k.toNat) else none
  | _ => none
def storeIx (i : Nat) (y d : D) (s : S) : RS := match s.sl[i]?, y with
  | some (.own xs), .int k => match setAt xs k d with | some xs' => .next { s with sl := s.sl.set i (.own xs') } | none => .stuck
  | some (.val .tok), .int k => match s.rg, d with
    | some (_, cs), .int n => if k = 0 then .next { s with rg := some (n, cs) } else .stuck
    | _, _ => .stuck
  | some (.val .cel), .int k => match s.rg, d with
    | some (p, cs), .int n => if 0 ≤ k ∧ k < cs.length then .next { s with rg := some (p, cs.set k.toNat n) } else .stuck
    | _, _ => .stuck
  | _, _ => .stuck
def stoOk (sl : List Slot) (i : Nat) : Bool := match sl[i]? with
  | some (.own _) => true
  | some (.val .tok) => true
  | some (.val .cel) => true
  | _ => false
def noExv (sl : List Slot) : Bool := sl.all fun x => match x with
  | .exv _ => false
  | _ => true
/-- the name of an except clause goes -/
def goneS (n : Option Nat) (s : S) : Option S := match n with
  | some i => if nlck s.sl i && noExv (s.sl.set i .uns) then some { s with sl := s.sl.set i .uns } else none
  | none => if noExv s.sl then some s else none
def afterS (n : Option Nat) : RS → RS
  | .next s => match goneS n s with | some s => .next s | none => .stuck
  | .ret d s => match goneS n s with | some s => .ret d s | none => .stuck
  | _ => .stuck
variable (fu : Nat)
mutual
def exs : IS → S → RS
  | .set i fr e, s => (ev cl e s).stm fun d s => if nlck s.sl i then .next { s with sl := s.sl.set i (slotOf fr d) } else .stuck
  | .par ts es, s => (evs cl es s).stm fun ds s => if ts.length = ds.length ∧ ts.all (fun p => nlck s.sl p.1) = true then .next { s with sl := (ts.zip ds).foldl (fun l p => l.set p.1.1 (slotOf p.1.2 p.2)) s.sl } else .stuck
  | .unp is e, s => (ev cl e s).stm fun d s => match bindTg (.tp is) d s.sl with | some sl => .next { s with sl := sl } | none => .stuck
  | .aug i o e, s => match s.sl[i]? with
    | some (.val x) => (ev cl e s).stm fun y s => match augD o x y with
      | some z => if nlck s.sl i then .next { s with sl := s.sl.set i (.val z) } else .stuck
      | none => .stuck
    | _ => .stuck
  | .sto i x e, s => (ev cl e s).stm fun d s => if stoOk s.sl i then (ev cl x s).stm fun y s => storeIx i y d s else .stuck
  | .augs i x o e, s => if stoOk s.sl i then (ev cl x s).stm fun y s => match s.sl[i]?, y with
      | some (.own xs), .int k => match ixL xs k with
        | some old => (ev cl e s).stm fun z s => match augD o old z with
          | some w => storeIx i (.int k) w s
          | none => .stuck
        | none => .stuck
      | _, _ => .stuck
    else .stuck
  | .app i e, s => match s.sl[i]? with
    | some (.own _) => (ev cl e s).stm fun d s => match s.sl[i]? with
      | some (.own xs) => if xs.length < lim then .next { s with sl := s.sl.set i (.own (xs ++ [d])) } else .stuck
      | _ => .stuck
    | _ => .stuck
  | .rem i e, s => match s.sl[i]? with
    | some (.own _) => (ev cl e s).stm fun d s => match s.sl[i]? with
      | some (.own xs) => match remD xs d with
        | some ys => .next { s with sl := s.sl.set i (.own ys) }
        | none => .stuck
      | _ => .stuck
    | _ => .stuck
  | .ins i a b, s => match s.sl[i]? with
    | some (.own _) => (ev cl a s).stm fun k s => (ev cl b s).stm fun d s => match s.sl[i]? with
      | some (.own xs) => match insD xs k d with
        | some ys => .next { s with sl := s.sl.set i (.own ys) }
        | none => .stuck
      | _ => .stuck
    | _ => .stuck
  | .sw2 i x j y es, s => (evs cl es s).stm fun ds s => match ds with
    | [d, e] => if stoOk s.sl i then (ev cl x s).stm fun k s => match storeIx i k d s with
      | .next s => if stoOk s.sl j then (ev cl y s).stm fun l s => storeIx j l e s else .stuck
      | _ => .stuck
      else .stuck
    | _ => .stuck
  | .pop i, s => match s.sl[i]? with
    | some (.own xs) => if xs = [] then .stuck else .next { s with sl := s.sl.set i (.own xs.dropLast) }
    | _ => .stuck
  | .ret e, s => (ev cl e s).stm fun d s => .ret d s
  | .retst i, s => match s.rg, s.sl[i]? with
    | none, some (.own xs) => match intsD xs with
      | some ns => .ret .tok { sl := s.sl.set i .uns, rg := some (0, ns) }
      | none => .stuck
    | _, _ => .stuck
  | .ife t a b, s => (ev cl t s).stm fun x s => match x with
    | .bl true => exss a s
    | .bl false => exss b s
    | _ => .stuck
  | .whl t b, s => whlL (ev cl t) (exss b) fu s
  | .for tg it b, s => (evi cl it s).stm fun xs s' => if isLck it s' then .stuck else let o := lockOf it s'
    (forL (fun x s => match bindTg tg x s.sl with | some sl => exss b { s with sl := sl } | none => .stuck) xs (lockS o s')).unlk o
  | .brk, s => .brk s
  | .cnt, s => .cnt s
  | .pas, s => .next s
  | .rai _ c es, s => (evs cl es s).stm fun xs s => if exOk c xs then .exc ⟨c, xs⟩ s else .stuck
  | .try b _ c n u, s => match exss b s with
    | .exc e s => if exSub e.cls c then
        match n with
        | some i => if nlck s.sl i && noExv s.sl then afterS (some i) (exss u { s with sl := s.sl.set i (.exv e) }) else .stuck
        | none => if noExv s.sl then afterS none (exss u s) else .stuck
      else .exc e s
    | r => r
  | .drp e, s => (ev cl e s).stm fun _ s => .next s
def exss : ISs → S → RS
  | .nil, s => .next s
  | .cons st r, s => match exs st s with
    | .next s => exss r s
    | r => r
end
structure Fn where
  np : Nat
  nl : Nat
  body : ISs
deriving Inhabited
def startS (np nl : Nat) (args : List D) (r : Rng) : S := ⟨args.map .val ++ List.replicate (nl - np) .uns, r⟩
def outC : RS → RC
  | .next s => .ok .non s.rg
  | .ret d s => .ok d s.rg
  | .exc e s => .exc e s.rg
  | _ => .stuck
/-- calls up to a depth -/
def callI (fns : List Fn) : Nat → Cl
  | 0, _, _, _ => .stuck
  | n + 1, k, args, r => match fns[k]? with
    | some f => if args.length = f.np then outC (exss (callI fns n) fu f.body (startS f.np f.nl args r)) else .stuck
    | none => .stuck
end Vi

/-! V2: what stands for data in the abstract heap; the relation between the evaluator's state and the frame. -/
namespace Vi
open PySem PySem.Spec PyProof.Rows L2

structure Wd where
  G : Hp
  st : Option (Addr × Addr)
  T : List (Addr × Str) := []
/-- the text's facts that data lean on -/
structure Ct where
  K : PySem.W.Frag
  fA : Nat → Addr
  clA : Nat → Addr
  ok : List Nat
  T : List (Addr × Str) := []

mutual
inductive Rep (C : Ct) (W : Wd) : V → D → Prop
  | non : Rep C W .non .non
  | bl (b : Bool) : Rep C W (.bl b) (.bl b)
  | int (i : Int) : Rep C W (.int i) (.int i)
  | str (x : Str) : Rep C W (.str x) (.str x)
  | tup {a : Addr} {vs : List V} {ds : List D} : SqT C.K W.G a vs → Reps C W vs ds → Rep C W (.ref a) (.tup ds)
  | lst {a : Addr} {vs : List V} {ds : List D} : W.G a = some (.lst vs) → Reps C W vs ds → Rep C W (.ref a) (.lst ds)
  | scr {a : Addr} {ns : List Int} : SqL C.K W.G a (ns.map V.int) → Rep C W (.ref a) (.scr ns)
  | tok {s c : Addr} : W.st = some (s, c) → Rep C W (.ref s) .tok
  | cel {s c : Addr} : W.st = some (s, c) → Rep C W (.ref c) .cel
  | fn (k : Nat) : Rep C W (.ref (C.fA k)) (.fn k)
inductive Reps (C : Ct) (W : Wd) : List V → List D → Prop
  | nil : Reps C W [] []
  | cons {v : V} {vs : List V} {d : D} {ds : List D} : Rep C W v d → Reps C W vs ds → Reps C W (v :: vs) (d :: ds)
end

structure Le (W W' : Wd) : Prop where
  g : Same W.G W'.G
  s : ∀ p, W.st = some p → W'.st = some p
  t : W'.T = W.T
theorem Le.refl (W : Wd) : Le W W := ⟨Same.refl _, fun _ h => h, rfl⟩
theorem Le.trans {W W1 W2 : Wd} (a : Le W W1) (b : Le W1 W2) : Le W W2 := ⟨a.g.trans b.g, fun p h => b.s p (a.s p h), b.t.trans a.t⟩

theorem Rd.same {H H' : Hp} {a : Addr} {u : HO} (e : Same H H') (h : Rd H a u) : Rd H' a u := by
  rcases h with h | ⟨o, h⟩
  · exact .inl (e _ _ h)
  · exact .inr ⟨o, e _ _ h⟩
theorem sqT_same {K : PySem.W.Frag} {H H' : Hp} {a : Addr} {xs : List V} (e : Same H H') (h : SqT K H a xs) : SqT K H' a xs := by
  rcases h with h | h
  · exact .inl (Rd.same e h)
  · exact .inr h

section
variable {C : Ct} {W W' : Wd}
mutual
theorem Rep.mono (l : Le W W') : ∀ {v : V} {d : D}, Rep C W v d → Rep C W' v d
  | _, _, .non => .non
  | _, _, .bl b => .bl b
  | _, _, .int i => .int i
  | _, _, .str x => .str x
  | _, _, .tup h r => .tup (sqT_same l.g h) (Reps.mono l r)
  | _, _, .lst h r => .lst (l.g _ _ h) (Reps.mono l r)
  | _, _, .scr h => .scr (l.g.seq h)
  | _, _, .tok h => .tok (l.s _ h)
  | _, _, .cel h => .cel (l.s _ h)
  | _, _, .fn k => .fn k
theorem Reps.mono (l : Le W W') : ∀ {vs : List V} {ds : List D}, Reps C W vs ds → Reps C W' vs ds
  | _, _, .nil => .nil
  | _, _, .cons h r => .cons (Rep.mono l h) (Reps.mono l r)
end
theorem Reps.length : ∀ {vs : List V} {ds : List D}, Reps C W vs ds → vs.length = ds.length
  | _, _, .nil => rfl
  | _, _, .cons _ r => congrArg (· + 1) (Reps.length r)
theorem Reps.get : ∀ {vs : List V} {ds : List D} {i : Nat} {d : D}, Reps C W vs ds → ds[i]? = some d → ∃ v, vs[i]? = some v ∧ Rep C W v d
  | _, _, _, _, .nil, e => by simp at e
  | _, _, 0, _, .cons h _, e => by simp at e; subst e; exact ⟨_, rfl, h⟩
  | _, _, i + 1, d, .cons _ r, e => by
    obtain ⟨v, h1, h2⟩ := Reps.get (i := i) (d := d) r (by simpa using e)
    exact ⟨v, by simpa using h1, h2⟩
theorem Reps.getV : ∀ {vs : List V} {ds : List D} {i : Nat} {v : V}, Reps C W vs ds → vs[i]? = some v → ∃ d, ds[i]? = some d ∧ Rep C W v d
  | _, _, _, _, .nil, e => by simp at e
  | _, _, 0, _, .cons h _, e => by simp at e; subst e; exact ⟨_, rfl, h⟩
  | _, _, i + 1, d, .cons _ r, e => by
    obtain ⟨v, h1, h2⟩ := Reps.getV (i := i) (v := d) r (by simpa using e)
    exact ⟨v, by simpa using h1, h2⟩
theorem Reps.append : ∀ {vs us : List V} {ds es : List D}, Reps C W vs ds → Reps C W us es → Reps C W (vs ++ us) (ds ++ es)
  | _, _, _, _, .nil, s => s
  | _, _, _, _, .cons r t, s => .cons r (Reps.append t s)
theorem Reps.take : ∀ {vs : List V} {ds : List D} (n : Nat), Reps C W vs ds → Reps C W (vs.take n) (ds.take n)
  | _, _, 0, _ => .nil
  | _, _, _ + 1, .nil => .nil
  | _, _, n + 1, .cons r t => .cons r (Reps.take n t)
theorem Reps.drop : ∀ {vs : List V} {ds : List D} (n : Nat), Reps C W vs ds → Reps C W (vs.drop n) (ds.drop n)
  | _, _, 0, r => r
  | _, _, _ + 1, .nil => .nil
  | _, _, n + 1, .cons _ t => Reps.drop n t
theorem Reps.set {x : V} {d : D} (r : Rep C W x d) : ∀ {vs : List V} {ds : List D} (i : Nat), Reps C W vs ds → Reps C W (vs.set i x) (ds.set i d)
  | _, _, _, .nil => .nil
  | _, _, 0, .cons _ t => .cons r t
  | _, _, i + 1, .cons q t => .cons q (Reps.set r i t)
theorem Reps.one {v : V} {d : D} (r : Rep C W v d) : Reps C W [v] [d] := .cons r .nil
theorem Reps.reverse {vs : List V} {ds : List D} (h : Reps C W vs ds) : Reps C W vs.reverse ds.reverse := by
  induction vs generalizing ds with
  | nil => cases h; exact .nil
  | cons v vs ih =>
    cases h with
    | cons r t =>
      rw [List.reverse_cons, List.reverse_cons]
      exact (ih t).append (.one r)
theorem Reps.rep {vs : List V} {ds : List D} (h : Reps C W vs ds) : ∀ k : Nat, Reps C W (List.replicate k vs).flatten (List.replicate k ds).flatten
  | 0 => .nil
  | k + 1 => by
    rw [List.replicate_succ, List.replicate_succ, List.flatten_cons, List.flatten_cons]
    exact h.append (Reps.rep h k)
theorem Reps.dropLast {vs : List V} {ds : List D} (h : Reps C W vs ds) : Reps C W vs.dropLast ds.dropLast := by
  rw [List.dropLast_eq_take, List.dropLast_eq_take, h.length]
  exact h.take _
theorem Reps.ofInts : ∀ ns : List Int, Reps C W (ns.map V.int) (ns.map D.int)
  | [] => .nil
  | n :: r => .cons (.int n) (Reps.ofInts r)
theorem Reps.toInts : ∀ {vs : List V} {ds : List D} {ns : List Int}, Reps C W vs ds → intsD ds = some ns → vs = ns.map V.int
  | _, _, _, .nil, h => by simp [intsD] at h; subst h; rfl
  | v :: vs, d :: ds, ns, .cons r t, h => by
    cases d with
    | int i =>
      cases r
      simp only [intsD] at h
      cases e : intsD ds with
      | none => rw [e] at h; cases h
      | some ms =>
        rw [e] at h
        injection h with h
        subst h
        rw [List.map_cons, Reps.toInts t e]
    | _ => simp [intsD] at h
theorem Reps.toBools : ∀ {vs : List V} {ds : List D} {ns : List Bool}, Reps C W vs ds → bools ds = some ns → vs = ns.map V.bl
  | _, _, _, .nil, h => by simp [bools] at h; subst h; rfl
  | v :: vs, d :: ds, ns, .cons r t, h => by
    cases d with
    | bl i =>
      cases r
      simp only [bools] at h
      cases e : bools ds with
      | none => rw [e] at h; cases h
      | some ms =>
        rw [e] at h
        injection h with h
        subst h
        rw [List.map_cons, Reps.toBools t e]
    | _ => simp [bools] at h
mutual
theorem Rep.dp : ∀ {v : V} {d : D} {p : PyData}, Rep C W v d → d.py = some p → Dp C.K W.G v p
  | _, _, p, .non, h => by simp [D.py] at h; subst h; exact .non
  | _, _, p, .bl b, h => by simp [D.py] at h; subst h; exact .bl b
  | _, _, p, .int b, h => by simp [D.py] at h; subst h; exact .int b
  | _, _, p, .str b, h => by simp [D.py] at h; subst h; exact .str b
  | _, .tup ds, p, .tup h r, e => by
    simp only [D.py] at e
    cases q : D.pys ds with
    | none => rw [q] at e; cases e
    | some ys => rw [q] at e; injection e with e; subst e; exact .tup h (Reps.dp r q)
  | _, .lst ds, p, .lst h r, e => by
    simp only [D.py] at e
    cases q : D.pys ds with
    | none => rw [q] at e; cases e
    | some ys => rw [q] at e; injection e with e; subst e; exact .lst (.inl (.inl h)) (Reps.dp r q)
  | _, _, p, .scr _, h => by simp [D.py] at h
  | _, _, p, .tok _, h => by simp [D.py] at h
  | _, _, p, .cel _, h => by simp [D.py] at h
  | _, _, p, .fn _, h => by simp [D.py] at h
theorem Reps.dp : ∀ {vs : List V} {ds : List D} {ps : List PyData}, Reps C W vs ds → D.pys ds = some ps → DpAll C.K W.G vs ps
  | _, _, _, .nil, h => by simp [D.pys] at h; subst h; exact .nil
  | _, d :: ds, _, .cons h r, e => by
    simp only [D.pys] at e
    cases q : d.py with
    | none => rw [q] at e; cases e
    | some y =>
      rw [q] at e
      cases q2 : D.pys ds with
      | none => rw [q2] at e; cases e
      | some ys => rw [q2] at e; injection e with e; subst e; exact .cons (Rep.dp h q) (Reps.dp r q2)
end
end
mutual
theorem dp_same {K : PySem.W.Frag} {H H' : Hp} (e : Same H H') : ∀ {v : V} {p : PyData}, Dp K H v p → Dp K H' v p
  | _, _, .non => .non
  | _, _, .bl b => .bl b
  | _, _, .int b => .int b
  | _, _, .str b => .str b
  | _, _, .lst h r => .lst (e.seq h) (dps_same e r)
  | _, _, .tup h r => .tup (sqT_same e h) (dps_same e r)
theorem dps_same {K : PySem.W.Frag} {H H' : Hp} (e : Same H H') : ∀ {vs : List V} {ps : List PyData}, DpAll K H vs ps → DpAll K H' vs ps
  | _, _, .nil => .nil
  | _, _, .cons h r => .cons (dp_same e h) (dps_same e r)
end

/-! ### worlds and heaps -/
def InSt (W : Wd) (b : Addr) : Prop := ∃ s c, W.st = some (s, c) ∧ (b = s ∨ b = c)
theorem InSt.le {W W' : Wd} {b : Addr} (l : Le W W') : InSt W b → InSt W' b := fun ⟨s, c, e, h⟩ => ⟨s, c, l.s _ e, h⟩
/-- no table of code objects -/
def Nt (o : HO) : Prop := ∀ ps, o ≠ .tbl ps
theorem nt_lst (vs : List V) : Nt (.lst vs) := fun _ z => by cases z
/-- tables stay tables, good ones stay good -/
structure Tt (T : List (Addr × Str)) (H H' : Hp) : Prop where
  kt : ∀ b ps, H b = some (.tbl ps) → ∃ ps', H' b = some (.tbl ps')
  tb : LamX.Tabs T H → LamX.Tabs T H'
theorem Tt.refl {T : List (Addr × Str)} (H : Hp) : Tt T H H := ⟨fun _ ps h => ⟨ps, h⟩, fun h => h⟩
theorem Tt.trans {T : List (Addr × Str)} {H H1 H2 : Hp} (a : Tt T H H1) (b : Tt T H1 H2) : Tt T H H2 := ⟨fun x ps h => let ⟨ps1, h1⟩ := a.kt x ps h; b.kt x ps1 h1, fun h => b.tb (a.tb h)⟩
theorem tt_upd {T : List (Addr × Str)} {H : Hp} {a : Addr} {o : HO} (h : ∀ u, H a = some u → Nt u ∧ ∀ c q, u ≠ LamX.CodeO c q) : Tt T H (upd H a o) := by
  have ne : ∀ b u, H b = some u → (¬ Nt u ∨ ∃ c q, u = LamX.CodeO c q) → b ≠ a := fun b u e hu z => by
    subst z
    obtain ⟨n1, n2⟩ := h u e
    rcases hu with hu | ⟨c, q, rfl⟩
    · exact hu n1
    · exact n2 c q rfl
  have nt : ∀ ps : Array Value, ¬ Nt (HO.tbl ps) := fun ps z => z ps rfl
  refine ⟨fun b ps e => ⟨ps, by rw [upd_ne (ne b _ e (.inl (nt ps)))]; exact e⟩, fun t p hp => ?_⟩
  obtain ⟨ps, h1, h2, h3⟩ := t p hp
  refine ⟨ps, by rw [upd_ne (ne _ _ h1 (.inl (nt ps)))]; exact h1, h2, fun pos cv hc => ?_⟩
  obtain ⟨c, e1, e2⟩ := h3 pos cv hc
  exact ⟨c, e1, by rw [upd_ne (ne _ _ e2 (.inr ⟨_, _, rfl⟩))]; exact e2⟩
theorem tt_fresh {T : List (Addr × Str)} {H : Hp} {a : Addr} {o : HO} (n : H a = none) : Tt T H (upd H a o) := tt_upd fun u e => by rw [n] at e; cases e
theorem tt_lst {T : List (Addr × Str)} {H : Hp} {a : Addr} {o : HO} {vs : List V} (n : H a = some (.lst vs)) : Tt T H (upd H a o) := tt_upd fun u e => by
  rw [n] at e
  cases e
  exact ⟨nt_lst vs, fun c q z => by unfold LamX.CodeO at z; cases z⟩
structure Keep (W : Wd) (H : Hp) (W' : Wd) (H' : Hp) : Prop where
  le : Le W W'
  kp0 : ∀ b o, H b = some o → ¬ InSt W' b → Nt o → H' b = some o
  sn : ∀ p, W'.st = some p → W.st = some p ∨ (H p.1 = none ∧ H p.2 = none)
  tt : Tt W.T H H'
theorem Keep.kp {W W' : Wd} {H H' : Hp} (k : Keep W H W' H') (b : Addr) (o : HO) (h : H b = some o) (n : ¬ InSt W' b) (nt : Nt o := by first | assumption | exact nt_lst _ | (intro ps z; cases z)) : H' b = some o := k.kp0 b o h n nt
/-- what was there is there -/
theorem Keep.ne {W W' : Wd} {H H' : Hp} (k : Keep W H W' H') {b : Addr} {o : HO} (h : H b = some o) (n : ¬ InSt W' b) : H' b ≠ none := by
  by_cases nt : Nt o
  · rw [k.kp0 b o h n nt]; intro z; cases z
  · have : ∃ ps, o = .tbl ps := Classical.byContradiction fun z => nt fun ps e => z ⟨ps, e⟩
    obtain ⟨ps, rfl⟩ := this
    obtain ⟨ps', e⟩ := k.tt.kt b ps h
    rw [e]; intro z; cases z
theorem Keep.refl (W : Wd) (H : Hp) : Keep W H W H := ⟨Le.refl W, fun _ _ h _ _ => h, fun _ h => .inl h, Tt.refl H⟩
theorem Keep.trans {W W1 W2 : Wd} {H H1 H2 : Hp} (a : Keep W H W1 H1) (b : Keep W1 H1 W2 H2) : Keep W H W2 H2 := by
  refine ⟨a.le.trans b.le, fun x o h n nt => b.kp0 x o (a.kp0 x o h (fun q => n (q.le b.le)) nt) n nt, fun p h => ?_, a.tt.trans (a.le.t ▸ b.tt)⟩
  rcases b.sn p h with h1 | ⟨h1, h2⟩
  · exact a.sn p h1
  · have f : ∀ x, (x = p.1 ∨ x = p.2) → H1 x = none → W.st = some p ∨ H x = none := fun x hx e => by
      cases q : H x with
      | none => exact .inr rfl
      | some o =>
        by_cases hi : InSt W1 x
        · obtain ⟨s, c, e1, _⟩ := hi
          have e2 := b.le.s _ e1
          rw [h] at e2
          injection e2 with e2
          subst e2
          rcases a.sn _ e1 with z | ⟨z1, z2⟩
          · exact .inl z
          · rcases hx with hx | hx
            · subst hx; rw [z1] at q; cases q
            · subst hx; rw [z2] at q; cases q
        · exact absurd e (a.ne q hi)
    rcases f p.1 (.inl rfl) h1 with z | z1
    · exact .inl z
    · rcases f p.2 (.inr rfl) h2 with z | z2
      · exact .inl z
      · exact .inr ⟨z1, z2⟩
/-- an address of before is no new state's -/
theorem Keep.notSt {W W' : Wd} {H H' : Hp} (k : Keep W H W' H') {b : Addr} {o : HO} (h : H b = some o) (n : ¬ InSt W b) : ¬ InSt W' b := fun ⟨s, c, e, hb⟩ => by
  rcases k.sn _ e with z | ⟨z1, z2⟩
  · exact n ⟨s, c, z, hb⟩
  · rcases hb with hb | hb
    · subst hb; rw [h] at z1; cases z1
    · subst hb; rw [h] at z2; cases z2

def RgR (W : Wd) (H : Hp) : Rng → Prop
  | none => W.st = none
  | some (p, cs) => ∃ s c, W.st = some (s, c) ∧ H s = some (.lst [.int p, .ref c]) ∧ H c = some (.lst (cs.map V.int)) ∧ W.G s = none ∧ W.G c = none

def Slot.isO : Slot → Bool
  | .own _ => true
  | .lck _ => true
  | _ => false
def OwnAt (s : S) (i : Nat) : Prop := ∃ sl, s.sl[i]? = some sl ∧ sl.isO = true
/-- owned, not locked -/
def UnAt (s : S) (i : Nat) : Prop := ∃ xs, s.sl[i]? = some (.own xs)
theorem UnAt.own {s : S} {i : Nat} (h : UnAt s i) : OwnAt s i := let ⟨_, h⟩ := h; ⟨_, h, rfl⟩

/-- the def's entry: the world, the heap; the exception that an except suite holds -/
structure En where
  W : Wd
  H : Hp
  xa : Option (Addr × Value × Option Addr) := none
  pr : List (Nat × Addr × List V) := []
  lo : Wd := W

def ExR (C : Ct) (W : Wd) (H : Hp) (cls : Value) (dx : Option Addr) (e : Ex) : Prop :=
  (cls = .ref (C.clA e.cls) ∧ e.cls ∈ C.ok) ∧ ∃ a vs, dx = some a ∧ H a = some (.xd ((exFlds e.cls).zip vs)) ∧ Reps C W vs e.fs ∧ vs.length = (exFlds e.cls).length ∧ ¬ InSt W a
def SltR (C : Ct) (E : En) (W : Wd) (H : Hp) (v : Option (Option V)) : Slot → Prop
  | .uns => True
  | .val d => ∃ x, v = some (some x) ∧ Rep C W x d
  | .own xs => ∃ a vs, v = some (some (.ref a)) ∧ H a = some (.lst vs) ∧ Reps C W vs xs
  | .lck xs => ∃ a vs, v = some (some (.ref a)) ∧ H a = some (.lst vs) ∧ Reps C W vs xs
  | .exv e => ∃ a cls dx, v = some (some (.ref a)) ∧ E.xa = some (a, cls, dx) ∧ ExR C W H cls dx e

structure StR (C : Ct) (E : En) (W : Wd) (σ : L2.St) (H : Hp) (s : S) : Prop where
  kp : Keep E.W E.H W H
  fr : ∀ b, E.W.G b = none → W.G b ≠ none → E.H b = none
  gh : Same W.G H
  rg : RgR W H s.rg
  len : σ.length = s.sl.length
  sl : ∀ (i : Nat) (x : Slot), s.sl[i]? = some x → SltR C E W H (σ[i]? : Option (Option V)) x
  nd : ∀ (i j : Nat) (a : Addr), OwnAt s i → OwnAt s j → σ[i]? = some (some (.ref a)) → σ[j]? = some (some (.ref a)) → i = j
  ow : ∀ (i : Nat) (a : Addr), OwnAt s i → σ[i]? = some (some (.ref a)) → W.G a = none ∧ E.H a = none ∧ ¬ InSt W a
  pr : ∀ p ∈ E.pr, ∃ xs, s.sl[p.1]? = some (.lck xs) ∧ σ[p.1]? = some (some (.ref p.2.1)) ∧ H p.2.1 = some (.lst p.2.2)
  lo : Le E.lo W
theorem own_ref {C : Ct} {E : En} {W : Wd} {σ : L2.St} {H : Hp} {s : S} (r : StR C E W σ H s) {i : Nat} (h : OwnAt s i) : ∃ a vs xs, σ[i]? = some (some (.ref a)) ∧ H a = some (.lst vs) ∧ Reps C W vs xs ∧ (s.sl[i]? = some (.own xs) ∨ s.sl[i]? = some (.lck xs)) := by
  obtain ⟨sl, e, ho⟩ := h
  have q := r.sl i sl e
  cases sl with
  | own xs => obtain ⟨a, vs, h1, h2, h3⟩ := q; exact ⟨a, vs, xs, h1, h2, h3, .inl e⟩
  | lck xs => obtain ⟨a, vs, h1, h2, h3⟩ := q; exact ⟨a, vs, xs, h1, h2, h3, .inr e⟩
  | uns => cases ho
  | val d => cases ho
  | exv d => cases ho

/-- what an expression leaves -/
structure ExK (σ : L2.St) (W : Wd) (H : Hp) (s : S) (W' : Wd) (H' : Hp) (s' : S) : Prop where
  k : Keep W H W' H'
  gn : ∀ b, W.G b = none → W'.G b ≠ none → H b = none ∨ ∃ i : Nat, UnAt s i ∧ σ[i]? = some (some (.ref b))
  on : ∀ i, OwnAt s' i → OwnAt s i
  ou : ∀ i, UnAt s' i → UnAt s i
theorem ExK.refl (σ : L2.St) (W : Wd) (H : Hp) (s : S) : ExK σ W H s W H s := ⟨Keep.refl W H, fun _ h n => absurd h n, fun _ h => h, fun _ h => h⟩
theorem ExK.trans {σ : L2.St} {W W1 W2 : Wd} {H H1 H2 : Hp} {s s1 s2 : S} {C : Ct} {E : En} (r1 : StR C E W1 σ H1 s1) (a : ExK σ W H s W1 H1 s1) (b : ExK σ W1 H1 s1 W2 H2 s2) : ExK σ W H s W2 H2 s2 := by
  refine ⟨a.k.trans b.k, fun x h n => ?_, fun i h => a.on i (b.on i h), fun i h => a.ou i (b.ou i h)⟩
  by_cases h1 : W1.G x = none
  · rcases b.gn x h1 n with z | ⟨i, hi, e⟩
    · cases q : H x with
      | none => exact .inl rfl
      | some o =>
        by_cases hi : InSt W1 x
        · obtain ⟨s0, c0, e1, hx⟩ := hi
          rcases a.k.sn _ e1 with y | ⟨y1, y2⟩
          · have rg := r1.rg
            cases g : s1.rg with
            | none => rw [g] at rg; rw [show W1.st = none from rg] at e1; cases e1
            | some pc =>
              obtain ⟨p, cs⟩ := pc
              rw [g] at rg
              obtain ⟨s', c', e2, z1, z2, _⟩ := rg
              rw [e1] at e2
              injection e2 with e2
              injection e2 with e3 e4
              subst e3 e4
              rcases hx with hx | hx
              · subst hx; rw [z1] at z; cases z
              · subst hx; rw [z2] at z; cases z
          · rcases hx with hx | hx
            · subst hx; rw [y1] at q; cases q
            · subst hx; rw [y2] at q; cases q
        · exact absurd z (a.k.ne q hi)
    · exact .inr ⟨i, a.ou i hi, e⟩
  · exact a.gn x h h1
end Vi

/-! V3: readings by the evaluator; expressions. -/
namespace Vi
open PySem PySem.Spec PyProof.Rows L2

inductive Md where | st | wk | fr
deriving DecidableEq
section
variable {C : Ct} {E : En} {Wx : WX} {σ : L2.St} {W W' W1 W2 : Wd} {H H' H1 H2 H0 : Hp} {s s' s1 s2 : S}

/-- a new list, nobody's yet; H0: the heap ahead -/
def FrL (C : Ct) (E : En) (H0 : Hp) (W : Wd) (σ : L2.St) (H : Hp) (s : S) (v : V) (xs : List D) : Prop :=
  ∃ a vs, v = .ref a ∧ H a = some (.lst vs) ∧ Reps C W vs xs ∧ W.G a = none ∧ E.H a = none ∧ ¬ InSt W a ∧ H0 a = none ∧ ∀ i : Nat, OwnAt s i → σ[i]? ≠ some (some (.ref a))
def WkL (C : Ct) (W : Wd) (H : Hp) (v : V) (xs : List D) : Prop := ∃ a vs, v = .ref a ∧ H a = some (.lst vs) ∧ Reps C W vs xs ∧ ¬ InSt W a
def RepM (C : Ct) (E : En) (H0 : Hp) (W : Wd) (σ : L2.St) (H : Hp) (s : S) : Md → V → D → Prop
  | .st, v, d => Rep C W v d
  | .wk, v, d => Rep C W v d ∨ ∃ xs, d = .lst xs ∧ WkL C W H v xs
  | .fr, v, d => match d with | .lst xs => FrL C E H0 W σ H s v xs | d => Rep C W v d

theorem StR.keepG (r : StR C E W σ H s) {a : Addr} {o : HO} (h : W.G a = some o) : H a = some o := r.gh a o h
theorem StR.stAt (r : StR C E W σ H s) {a : Addr} (h : InSt W a) : ∃ vs, H a = some (.lst vs) ∧ W.G a = none := by
  obtain ⟨x, c, e, hx⟩ := h
  have rg := r.rg
  cases g : s.rg with
  | none => rw [g] at rg; rw [show W.st = none from rg] at e; cases e
  | some pc =>
    obtain ⟨p, cs⟩ := pc
    rw [g] at rg
    obtain ⟨s', c', e2, z1, z2, g1, g2⟩ := rg
    rw [e] at e2
    injection e2 with e2
    injection e2 with e3 e4
    subst e3 e4
    rcases hx with hx | hx
    · subst hx; exact ⟨_, z1, g1⟩
    · subst hx; exact ⟨_, z2, g2⟩
theorem StR.notIn (r : StR C E W σ H s) {a : Addr} {o : HO} (h : W.G a = some o) : ¬ InSt W a := fun q => by
  obtain ⟨_, _, n⟩ := r.stAt q
  rw [h] at n; cases n
/-- what is free now was free at the entry -/
theorem StR.free0 (r : StR C E W σ H s) {p : Addr} (n : H p = none) : E.H p = none ∧ W.G p = none ∧ ¬ InSt W p := by
  have ns : ¬ InSt W p := fun q => by
    obtain ⟨_, h, _⟩ := r.stAt q
    rw [n] at h; cases h
  refine ⟨?_, ?_, ns⟩
  · cases q : E.H p with
    | none => rfl
    | some o => exact absurd n (r.kp.ne q ns)
  · cases q : W.G p with
    | none => rfl
    | some o => rw [r.gh p o q] at n; cases n

theorem RepM.keep (r : StR C E W σ H s) (k : ExK σ W H s W' H' s') : ∀ {m : Md} {v : V} {d : D}, RepM C E H0 W σ H s m v d → RepM C E H0 W' σ H' s' m v d
  | .st, _, _, h => Rep.mono k.k.le h
  | .wk, _, _, .inl h => .inl (Rep.mono k.k.le h)
  | .wk, _, _, .inr ⟨xs, e, a, vs, e2, ha, hr, n⟩ => .inr ⟨xs, e, a, vs, e2, k.k.kp _ _ ha (k.k.notSt ha n), hr.mono k.k.le, k.k.notSt ha n⟩
  | .fr, v, d, h => by
    cases d with
    | lst xs =>
      obtain ⟨a, vs, e2, ha, hr, g, e, n, h0, ne⟩ := h
      refine ⟨a, vs, e2, k.k.kp _ _ ha (k.k.notSt ha n), hr.mono k.k.le, ?_, e, k.k.notSt ha n, h0, fun i hi => ne i (k.on i hi)⟩
      cases q : W'.G a with
      | none => rfl
      | some o =>
        rcases k.gn a g (by rw [q]; intro z; cases z) with z | ⟨i, hi, z⟩
        · rw [ha] at z; cases z
        · exact absurd z (ne i hi.own)
    | _ => exact Rep.mono k.k.le h
theorem RepM.wk_of (r : StR C E W σ H s) : ∀ {m : Md} {v : V} {d : D}, RepM C E H0 W σ H s m v d → RepM C E H1 W σ H s .wk v d
  | .st, _, _, h => .inl h
  | .wk, _, _, h => h
  | .fr, v, d, h => by
    cases d with
    | lst xs =>
      obtain ⟨a, vs, e2, ha, hr, g, e, n, h0, ne⟩ := h
      exact .inr ⟨xs, rfl, a, vs, e2, ha, hr, n⟩
    | _ => exact .inl h
/-- from a later start to an earlier one -/
theorem RepM.start (k : Keep W H W1 H1) (l : Le W1 W') : ∀ {m : Md} {v : V} {d : D}, RepM C E H1 W' σ H' s' m v d → RepM C E H W' σ H' s' m v d
  | .st, _, _, h => h
  | .wk, _, _, h => h
  | .fr, v, d, h => by
    cases d with
    | lst xs =>
      obtain ⟨a, vs, e2, ha, hr, g, e, n, h0, ne⟩ := h
      refine ⟨a, vs, e2, ha, hr, g, e, n, ?_, ne⟩
      cases q : H a with
      | none => rfl
      | some o => exact absurd h0 (k.ne q fun z => n (z.le l))
    | _ => exact h
def isL : D → Bool
  | .lst _ => true
  | _ => false
inductive RepsM (C : Ct) (E : En) (H0 : Hp) (W : Wd) (σ : L2.St) (H : Hp) (s : S) : List Md → List V → List D → Prop
  | nil : RepsM C E H0 W σ H s [] [] []
  | cons {m : Md} {ms : List Md} {v : V} {vs : List V} {d : D} {ds : List D} : RepM C E H0 W σ H s m v d → RepsM C E H0 W σ H s ms vs ds →
    (m = .fr → isL d = true → ∀ (j : Nat) (u : V) (y : D), ms[j]? = some .fr → vs[j]? = some u → ds[j]? = some y → isL y = true → u ≠ v) → RepsM C E H0 W σ H s (m :: ms) (v :: vs) (d :: ds)
theorem RepsM.start (k : Keep W H W1 H1) (l : Le W1 W') : ∀ {m : List Md} {v : List V} {d : List D}, RepsM C E H1 W' σ H' s' m v d → RepsM C E H W' σ H' s' m v d
  | _, _, _, .nil => .nil
  | _, _, _, .cons a b c => .cons (a.start k l) (RepsM.start k l b) c
theorem RepsM.at {σ : L2.St} {W : Wd} {H H0 : Hp} {s : S} : ∀ {ms : List Md} {vs : List V} {ds : List D}, RepsM C E H0 W σ H s ms vs ds → ∀ {j : Nat} {m : Md} {v : V} {d : D}, ms[j]? = some m → vs[j]? = some v → ds[j]? = some d → RepM C E H0 W σ H s m v d
  | _, _, _, .nil, j, _, _, _, h, _, _ => by simp at h
  | _, _, _, .cons a b c, 0, m, v, d, h1, h2, h3 => by
    simp only [List.getElem?_cons_zero, Option.some.injEq] at h1 h2 h3
    subst h1 h2 h3
    exact a
  | _, _, _, .cons a b c, j + 1, m, v, d, h1, h2, h3 => RepsM.at b (by simpa using h1) (by simpa using h2) (by simpa using h3)
theorem RepsM.toSt {ms : List Md} {vs : List V} {ds : List D} (h : RepsM C E H0 W σ H s ms vs ds) : (∀ m ∈ ms, m = Md.st) → Reps C W vs ds := by
  induction h with
  | nil => intro _; exact .nil
  | @cons m ms v vs d ds a b _ ih =>
    intro h
    obtain rfl : m = Md.st := h m List.mem_cons_self
    exact .cons a (ih fun m hm => h m (List.mem_cons_of_mem _ hm))

/-! ### new objects -/
def Wd.add (W : Wd) (p : Addr) (o : HO) : Wd := { W with G := upd W.G p o }
theorem Wd.add_le {p : Addr} {o : HO} (n : W.G p = none) : Le W (W.add p o) := ⟨fun b u h => by
  show upd W.G p o b = some u
  rw [upd_ne (ne_of_none h n)]; exact h, fun _ h => h, rfl⟩
theorem InSt.add {p b : Addr} {o : HO} : InSt (W.add p o) b ↔ InSt W b := Iff.rfl
theorem RgR.same (r : RgR W H s.rg) (hs : W'.st = W.st) (h : ∀ b, InSt W b → H' b = H b) (g : ∀ b, InSt W b → W'.G b = W.G b) : RgR W' H' s.rg := by
  cases q : s.rg with
  | none => rw [q] at r; show W'.st = none; rw [hs]; exact r
  | some pc =>
    obtain ⟨p, cs⟩ := pc
    rw [q] at r
    obtain ⟨x, c, e, z1, z2, g1, g2⟩ := r
    have i1 : InSt W x := ⟨x, c, e, .inl rfl⟩
    have i2 : InSt W c := ⟨x, c, e, .inr rfl⟩
    exact ⟨x, c, hs.trans e, (h _ i1).trans z1, (h _ i2).trans z2, (g _ i1).trans g1, (g _ i2).trans g2⟩
theorem SltR.move {v : Option (Option V)} {x : Slot} (l : Le W W') (kp : ∀ b o, H b = some o → ¬ InSt W b → Nt o → H' b = some o) (hn : ∀ b, InSt W' b → InSt W b ∨ H b = none)
    (ow : ∀ a, x.isO = true → v = some (some (.ref a)) → ¬ InSt W a) (h : SltR C E W H v x) : SltR C E W' H' v x := by
  cases x with
  | uns => trivial
  | val d => obtain ⟨y, e, r⟩ := h; exact ⟨y, e, r.mono l⟩
  | own xs => obtain ⟨a, vs, e, ha, r⟩ := h; exact ⟨a, vs, e, kp _ _ ha (ow a rfl e) (nt_lst _), r.mono l⟩
  | lck xs => obtain ⟨a, vs, e, ha, r⟩ := h; exact ⟨a, vs, e, kp _ _ ha (ow a rfl e) (nt_lst _), r.mono l⟩
  | exv e =>
    obtain ⟨a, cls, dx, e1, e2, e3, b, vs, e4, hb, r, hl, n⟩ := h
    refine ⟨a, cls, dx, e1, e2, e3, b, vs, e4, kp _ _ hb n (fun _ z => by cases z), r.mono l, hl, fun q => ?_⟩
    rcases hn _ q with z | z
    · exact n z
    · rw [hb] at z; cases z
theorem StR.slotNe (r : StR C E W σ H s) {p : Addr} (n : H p = none) (i : Nat) (hi : OwnAt s i) : σ[i]? ≠ some (some (.ref p)) := fun e => by
  obtain ⟨a, vs, xs, e1, h1, _⟩ := own_ref r hi
  rw [e] at e1
  injection e1 with e1
  injection e1 with e1
  injection e1 with e1
  subst e1
  rw [n] at h1; cases h1
/-- laid, not yet anyone's -/
theorem StR.alloc (r : StR C E W σ H s) {p : Addr} {o : HO} (n : H p = none) : StR C E W σ (upd H p o) s := by
  obtain ⟨f1, f2, f3⟩ := r.free0 n
  have kp : ∀ b u, H b = some u → upd H p o b = some u := fun b u h => by rw [upd_ne (ne_of_none h n)]; exact h
  refine ⟨⟨r.kp.le, fun b u h ns nt => kp b u (r.kp.kp0 b u h ns nt), r.kp.sn, r.kp.tt.trans (tt_fresh n)⟩, r.fr, fun b u h => kp b u (r.gh b u h), r.rg.same rfl (fun b hb => ?_) (fun _ _ => rfl), r.len, fun i x h => ?_, r.nd, r.ow, fun p hp => let ⟨xs, a1, a2, a3⟩ := r.pr p hp; ⟨xs, a1, a2, kp _ _ a3⟩, r.lo⟩
  · rw [upd_ne]
    rintro rfl
    exact f3 hb
  · exact (r.sl i x h).move (Le.refl W) (fun b u h _ _ => kp b u h) (fun b h => .inl h) (fun a ho e => (r.ow i a ⟨x, h, ho⟩ e).2.2)
theorem ExK.alloc (r : StR C E W σ H s) {p : Addr} {o : HO} (n : H p = none) : ExK σ W H s W (upd H p o) s :=
  ⟨⟨Le.refl W, fun b u h _ _ => by rw [upd_ne (ne_of_none h n)]; exact h, fun _ h => .inl h, tt_fresh n⟩, fun b h q => absurd h q, fun _ h => h, fun _ h => h⟩
/-- laid and locked -/
theorem StR.frz (r : StR C E W σ H s) {p : Addr} {o : HO} (h : H p = some o) (g : W.G p = none) (e : E.H p = none) (ns : ¬ InSt W p) (ne : ∀ i : Nat, OwnAt s i → σ[i]? ≠ some (some (.ref p))) : StR C E (W.add p o) σ H s := by
  have l := Wd.add_le (o := o) g
  refine ⟨⟨r.kp.le.trans l, r.kp.kp0, r.kp.sn, r.kp.tt⟩, fun b h1 h2 => ?_, fun b u hb => ?_, r.rg.same rfl (fun _ _ => rfl) (fun b hb => ?_), r.len, fun i x hx => ?_, r.nd, fun i a hi ea => ?_, r.pr, r.lo.trans l⟩
  · by_cases hb : b = p
    · subst hb; exact e
    · refine r.fr b h1 fun z => h2 ?_
      show upd W.G p o b = none
      rw [upd_ne hb]; exact z
  · have hb : upd W.G p o b = some u := hb
    by_cases q : b = p
    · subst q; rw [upd_same] at hb; cases hb; exact h
    · rw [upd_ne q] at hb; exact r.gh b u hb
  · show upd W.G p o b = W.G b
    rw [upd_ne]
    rintro rfl
    exact ns hb
  · exact (r.sl i x hx).move l (fun b u h _ _ => h) (fun b h => .inl h) (fun a ho ea => (r.ow i a ⟨x, hx, ho⟩ ea).2.2)
  · obtain ⟨o1, o2, o3⟩ := r.ow i a hi ea
    refine ⟨?_, o2, o3⟩
    show upd W.G p o a = none
    rw [upd_ne]
    · exact o1
    · rintro rfl
      exact ne i hi ea
theorem StR.allocG (r : StR C E W σ H s) {p : Addr} {o : HO} (n : H p = none) : StR C E (W.add p o) σ (upd H p o) s := by
  obtain ⟨f1, f2, f3⟩ := r.free0 n
  exact (r.alloc n).frz upd_same f2 f1 f3 (fun i hi => r.slotNe n i hi)
theorem ExK.allocG (r : StR C E W σ H s) {p : Addr} {o : HO} (n : H p = none) : ExK σ W H s (W.add p o) (upd H p o) s := by
  obtain ⟨f1, f2, f3⟩ := r.free0 n
  refine ⟨⟨Wd.add_le f2, fun b u h _ _ => by rw [upd_ne (ne_of_none h n)]; exact h, fun _ h => .inl h, tt_fresh n⟩, fun b h q => .inl ?_, fun _ h => h, fun _ h => h⟩
  by_cases hb : b = p
  · subst hb; exact n
  · have q' : upd W.G p o b ≠ none := q
    rw [upd_ne hb] at q'
    exact absurd h q'
theorem ExK.frz {p : Addr} {o : HO} (k : ExK σ W H s W' H' s') (g : W'.G p = none) (h0 : H p = none) : ExK σ W H s (W'.add p o) H' s' := by
  refine ⟨⟨k.k.le.trans (Wd.add_le g), k.k.kp0, k.k.sn, k.k.tt⟩, fun b h q => ?_, k.on, k.ou⟩
  by_cases hb : b = p
  · subst hb; exact .inl h0
  · have q' : upd W'.G p o b ≠ none := q
    rw [upd_ne hb] at q'
    exact k.gn b h q'
theorem add_at {p : Addr} {o : HO} : (W.add p o).G p = some o := upd_same

/-! ### continuations -/
def EC (C : Ct) (E : En) (Wx : WX) (σ : L2.St) (W : Wd) (H : Hp) (s : S) {α : Type} (P : α → Wd → Hp → S → Prop) : RE α → Prop
  | .ok a s' => ∀ W' H', StR C E W' σ H' s' → ExK σ W H s W' H' s' → P a W' H' s'
  | .exc e s' => ∀ W' H' cls dx, StR C E W' σ H' s' → ExR C W' H' cls dx e → Wx cls dx σ H'
  | .stuck => False
theorem EC.rebase {α : Type} {P : α → Wd → Hp → S → Prop} {r : RE α} (r1 : StR C E W1 σ H1 s1) (k : ExK σ W H s W1 H1 s1) (h : EC C E Wx σ W H s P r) : EC C E Wx σ W1 H1 s1 P r := by
  cases r with
  | ok a s' => exact fun W' H' r' k' => h W' H' r' (k.trans r1 k')
  | exc e s' => exact h
  | stuck => exact h
theorem EC.mono {α : Type} {P P' : α → Wd → Hp → S → Prop} {r : RE α} (h : EC C E Wx σ W H s P r) (f : ∀ a W' H' s', StR C E W' σ H' s' → ExK σ W H s W' H' s' → P a W' H' s' → P' a W' H' s') : EC C E Wx σ W H s P' r := by
  cases r with
  | ok a s' => exact fun W' H' r' k' => f a W' H' s' r' k' (h W' H' r' k')
  | exc e s' => exact h
  | stuck => exact h
theorem EC.bind {α β : Type} {P : β → Wd → Hp → S → Prop} {r : RE α} {f : α → S → RE β} (h : EC C E Wx σ W H s P (r.bind f)) : EC C E Wx σ W H s (fun a W1 H1 s1 => EC C E Wx σ W1 H1 s1 P (f a s1)) r := by
  cases r with
  | ok a s' => exact fun W' H' r' k' => EC.rebase r' k' h
  | exc e s' => exact h
  | stuck => exact h
theorem EC.opt {α : Type} {P : α → Wd → Hp → S → Prop} {o : Option α} (r : StR C E W σ H s) (h : EC C E Wx σ W H s P (.opt o s)) : ∃ d, o = some d ∧ ∀ W' H', StR C E W' σ H' s → ExK σ W H s W' H' s → P d W' H' s := by
  cases o with
  | none => exact h.elim
  | some d => exact ⟨d, rfl, h⟩

def tE (C : Ct) (E : En) (Wx : WX) (m : S → RE D) (md : Md) : TE := fun σ H Q => ∃ W s, StR C E W σ H s ∧ EC C E Wx σ W H s (fun d W' H' s' => ∀ v, RepM C E H W' σ H' s' md v d → Q v H') (m s)
def tA (C : Ct) (E : En) (Wx : WX) (m : S → RE (List D)) (mds : List Md) : TA := fun σ H Q => ∃ W s, StR C E W σ H s ∧ EC C E Wx σ W H s (fun ds W' H' s' => ∀ vs, RepsM C E H W' σ H' s' mds vs ds → Q vs H') (m s)
def tT (C : Ct) (E : En) (Wx : WX) (m : S → RE D) : TT := fun σ H Q => ∃ W s, StR C E W σ H s ∧ EC C E Wx σ W H s (fun d W' H' s' => ∃ b, d = .bl b ∧ Q b H') (m s)
theorem _root_.L2.PE.imp {X : Cx} {e : Expr} {t t' : TE} (h : PE X e t) (f : ∀ σ H Q, t' σ H Q → t σ H Q) : PE X e t' := ⟨fun pins s σ H Q I q => h.run pins s σ H Q I (f σ H Q q)⟩
theorem _root_.L2.PT.imp {X : Cx} {e : Expr} {t t' : TT} (h : PT X e t) (f : ∀ σ H Q, t' σ H Q → t σ H Q) : PT X e t' := ⟨fun pins s σ H Q I q => h.run pins s σ H Q I (f σ H Q q)⟩
theorem _root_.L2.PA.imp {X : Cx} {e : List Expr} {t t' : TA} (h : PA X e t) (f : ∀ σ H Q, t' σ H Q → t σ H Q) : PA X e t' := ⟨fun pos pins s σ H Q I q => h.run pos pins s σ H Q I (f σ H Q q)⟩
theorem _root_.L2.PS.imp {X : Cx} {e : Stmt} {t t' : TS} (h : PS X e t) (f : ∀ D σ H, t' D σ H → t D σ H) : PS X e t' := ⟨fun pins s σ H D I q => h.run pins s σ H D I (f D σ H q)⟩
theorem _root_.L2.PSs.imp {X : Cx} {e : List Stmt} {t t' : TS} (h : PSs X e t) (f : ∀ D σ H, t' D σ H → t D σ H) : PSs X e t' := ⟨fun pins s σ H D I q => h.run pins s σ H D I (f D σ H q)⟩

theorem tE_wk {m : S → RE D} {md : Md} {σ : L2.St} {H : Hp} {Q : VK} (h : tE C E Wx m .wk σ H Q) : tE C E Wx m md σ H Q := by
  obtain ⟨W, s, r, h⟩ := h
  exact ⟨W, s, r, h.mono fun d W' H' s' r' k' p v q => p v (RepM.wk_of r' q)⟩
theorem tE_fr {m : S → RE D} {σ : L2.St} {H : Hp} {Q : VK} (h : tE C E Wx m .st σ H Q) : tE C E Wx m .fr σ H Q := by
  obtain ⟨W, s, r, h⟩ := h
  refine ⟨W, s, r, ?_⟩
  cases q : m s with
  | stuck => rw [q] at h; exact h
  | exc e s' => rw [q] at h; exact h
  | ok d s' =>
    rw [q] at h
    intro W' H' r' k' v f
    cases d with
    | lst xs =>
      obtain ⟨a, vs, rfl, ha, hr, g, e, n, h0, ne⟩ := f
      exact h (W'.add a (.lst vs)) H' (r'.frz ha g e n ne) (k'.frz g h0) _ (.lst add_at (hr.mono (Wd.add_le g)))
    | _ => exact h W' H' r' k' v f
end
end Vi

/-! V4: the operations, by values. -/
namespace Vi
open PySem PySem.Spec PyProof.Rows L2
section
variable {C : Ct} {E : En} {Wx : WX} {σ : L2.St} {W W' W1 W2 : Wd} {H H' H1 H2 H0 : Hp} {s s' s1 s2 : S}

theorem lim_size : lim ≤ sizeLine := by decide
theorem le_size {n : Nat} (h : n ≤ lim) : n ≤ sizeLine := Nat.le_trans h lim_size
theorem lt_size {n : Nat} (h : n < lim) : n < sizeLine := Nat.lt_of_lt_of_le h lim_size

/-! ### what a passing value is -/
theorem wkInt {v : V} {i : Int} (h : RepM C E H0 W σ H s .wk v (.int i)) : v = .int i := by
  rcases h with h | ⟨xs, e, _⟩
  · cases h; rfl
  · cases e
theorem wkBl {v : V} {i : Bool} (h : RepM C E H0 W σ H s .wk v (.bl i)) : v = .bl i := by
  rcases h with h | ⟨xs, e, _⟩
  · cases h; rfl
  · cases e
theorem wkStr {v : V} {i : Str} (h : RepM C E H0 W σ H s .wk v (.str i)) : v = .str i := by
  rcases h with h | ⟨xs, e, _⟩
  · cases h; rfl
  · cases e
theorem wkTup (r : StR C E W σ H s) {v : V} {xs : List D} (h : RepM C E H0 W σ H s .wk v (.tup xs)) : ∃ a vs, v = .ref a ∧ SqT C.K H a vs ∧ Reps C W vs xs := by
  rcases h with h | ⟨ys, e, _⟩
  · cases h with
    | tup h q => exact ⟨_, _, rfl, sqT_same r.gh h, q⟩
  · cases e
theorem wkLst (r : StR C E W σ H s) {v : V} {xs : List D} (h : RepM C E H0 W σ H s .wk v (.lst xs)) : ∃ a vs, v = .ref a ∧ H a = some (.lst vs) ∧ Reps C W vs xs := by
  rcases h with h | ⟨ys, e, a, vs, e2, ha, q, _⟩
  · cases h with
    | lst h q => exact ⟨_, _, rfl, r.gh _ _ h, q⟩
  · injection e with e; subst e; exact ⟨a, vs, e2, ha, q⟩
theorem wkScr (r : StR C E W σ H s) {v : V} {xs : List Int} (h : RepM C E H0 W σ H s .wk v (.scr xs)) : ∃ a, v = .ref a ∧ SqL C.K H a (xs.map V.int) := by
  rcases h with h | ⟨ys, e, _⟩
  · cases h with
    | scr h => exact ⟨_, rfl, r.gh.seq h⟩
  · cases e
theorem wkTok (r : StR C E W σ H s) {v : V} (h : RepM C E H0 W σ H s .wk v .tok) {p : Int} {cs : List Int} (e : s.rg = some (p, cs)) : ∃ a c, v = .ref a ∧ H a = some (.lst [.int p, .ref c]) ∧ Rep C W (.ref c) .cel ∧ H c = some (.lst (cs.map V.int)) ∧ W.st = some (a, c) := by
  rcases h with h | ⟨ys, e, _⟩
  · cases h with
    | @tok a c h =>
      have rg := r.rg
      rw [e] at rg
      obtain ⟨x, y, e2, z1, z2, _⟩ := rg
      rw [h] at e2
      injection e2 with e2
      injection e2 with e3 e4
      subst e3 e4
      exact ⟨a, c, rfl, z1, .cel h, z2, h⟩
  · cases e
theorem wkCel (r : StR C E W σ H s) {v : V} (h : RepM C E H0 W σ H s .wk v .cel) {p : Int} {cs : List Int} (e : s.rg = some (p, cs)) : ∃ a c, v = .ref c ∧ H c = some (.lst (cs.map V.int)) ∧ W.st = some (a, c) := by
  rcases h with h | ⟨ys, e, _⟩
  · cases h with
    | @cel a c h =>
      have rg := r.rg
      rw [e] at rg
      obtain ⟨x, y, e2, z1, z2, _⟩ := rg
      rw [h] at e2
      injection e2 with e2
      injection e2 with e3 e4
      subst e3 e4
      exact ⟨a, c, rfl, z2, h⟩
  · cases e
theorem wkDp (r : StR C E W σ H s) {v : V} {d : D} {p : PyData} (h : RepM C E H0 W σ H s .wk v d) (e : d.py = some p) : Dp C.K H v p := by
  rcases h with h | ⟨xs, rfl, a, vs, rfl, ha, q, _⟩
  · exact dp_same r.gh (h.dp e)
  · simp only [D.py] at e
    cases z : D.pys xs with
    | none => rw [z] at e; cases e
    | some ys => rw [z] at e; injection e with e; subst e; exact .lst (.inl (.inl ha)) (dps_same r.gh (q.dp z))

/-- what may follow: any world and heap behind -/
abbrev Nx (C : Ct) (E : En) (σ : L2.St) (W : Wd) (H : Hp) (s : S) (md : Md) (d : D) (Q : VK) : Prop :=
  ∀ W' H', StR C E W' σ H' s → ExK σ W H s W' H' s → ∀ v, RepM C E H W' σ H' s md v d → Q v H'
theorem nx_here {md : Md} {d : D} {Q : VK} (r : StR C E W σ H s) (q : Nx C E σ W H s md d Q) {v : V} (h : RepM C E H W σ H s md v d) : Q v H := q W H r (ExK.refl σ W H s) v h
theorem nx_lst {xs : List D} {Q : VK} (r : StR C E W σ H s) (q : Nx C E σ W H s .fr (.lst xs) Q) {vs : List V} (h : Reps C W vs xs) : ∀ p, H p = none → Q (.ref p) (upd H p (.lst vs)) := fun p n => by
  obtain ⟨f1, f2, f3⟩ := r.free0 n
  exact q W _ (r.alloc n) (.alloc r n) _ ⟨p, vs, rfl, upd_same, h, f2, f1, f3, n, fun i hi => r.slotNe n i hi⟩
theorem nx_tup {xs : List D} {Q : VK} {md : Md} (hm : md ≠ .wk) (r : StR C E W σ H s) (q : Nx C E σ W H s md (.tup xs) Q) {vs : List V} (h : Reps C W vs xs) : ∀ p, H p = none → Q (.ref p) (upd H p (.tup vs)) := fun p n => by
  have k := ExK.allocG (o := .tup vs) r n
  have t : Rep C (W.add p (.tup vs)) (.ref p) (.tup xs) := .tup (.inl (.inl add_at)) (h.mono k.k.le)
  refine q _ _ (r.allocG n) k _ ?_
  cases md with
  | wk => exact absurd rfl hm
  | st => exact t
  | fr => exact t

/-! ### a op b -/
def opOf : BOp → Operator
  | .add => .Add | .sub => .Sub | .mul => .Mult | .fdiv => .FloorDiv | .mod => .Mod
def rBin (K : PySem.W.Frag) : BOp → R2
  | .add => fun x y H Q => (rI0 fun i j => .int (i + j)) x y H Q ∨ (∃ i j, x = .str i ∧ y = .str j ∧ i.length + j.length ≤ sizeLine ∧ Q (.str (i ++ j)) H) ∨ rCat x y H Q ∨ rCatA K x y H Q
  | .sub => rI0 fun i j => .int (i - j)
  | .mul => fun x y H Q => (rI CMul fun i j => .int (i * j)) x y H Q ∨ (rI CMulW fun i j => .int (i * j)) x y H Q ∨ rRep x y H Q
  | .fdiv => rI CDivW fun i j => .int (i / j)
  | .mod => rI (fun _ j => 0 < j) fun i j => .int (i % j)
theorem op_bin {X : Cx} : ∀ o : BOp, OpR X (binaryOp (opOf o)) (rBin X.K o)
  | .add => op_add.or (op_add_str.or (op_cat.or op_catA))
  | .sub => op_sub
  | .mul => op_mul.or (op_mulW.or op_rep)
  | .fdiv => op_fdivW
  | .mod => op_mod
theorem st_bin {o : BOp} {x y d : D} {v u : V} {Q : VK} (r : StR C E W σ H s) (hx : RepM C E H0 W σ H s .wk v x) (hy : RepM C E H1 W σ H s .wk u y) (e : binD o x y = some d) (q : Nx C E σ W H s .fr d Q) : rBin C.K o v u H Q := by
  unfold binD at e
  split at e
  · injection e with e; subst e
    obtain rfl := wkInt hx; obtain rfl := wkInt hy
    exact .inl ⟨_, _, rfl, rfl, nx_here r q (.int _)⟩
  · split at e
    · injection e with e; subst e
      obtain rfl := wkStr hx; obtain rfl := wkStr hy
      rename_i hl
      exact .inr (.inl ⟨_, _, rfl, rfl, le_size hl, nx_here r q (.str _)⟩)
    · cases e
  · split at e
    · injection e with e; subst e
      obtain ⟨a, vs, rfl, ha, ra⟩ := wkLst r hx
      obtain ⟨b, us, rfl, hb, rb⟩ := wkLst r hy
      rename_i hl
      exact .inr (.inr (.inl ⟨a, b, vs, us, rfl, rfl, ha, hb, by rw [ra.length, rb.length]; exact le_size hl, nx_lst r q (ra.append rb)⟩))
    · cases e
  · split at e
    · injection e with e; subst e
      obtain ⟨a, vs, rfl, ha, ra⟩ := wkTup r hx
      obtain ⟨b, us, rfl, hb, rb⟩ := wkTup r hy
      rename_i hl
      refine .inr (.inr (.inr ⟨a, b, vs, us, rfl, rfl, ha, hb, by rw [ra.length, rb.length]; exact le_size hl, fun z => ?_, fun _ z => ?_, fun _ _ => nx_tup (by decide) r q (ra.append rb)⟩))
      · subst z
        cases ra
        refine nx_here r q ?_
        rcases hy with h | ⟨ys, e, _⟩
        · exact h
        · cases e
      · subst z
        cases rb
        refine nx_here r q ?_
        rw [List.append_nil]
        rcases hx with h | ⟨ys, e, _⟩
        · exact h
        · cases e
    · cases e
  · injection e with e; subst e
    obtain rfl := wkInt hx; obtain rfl := wkInt hy
    exact ⟨_, _, rfl, rfl, nx_here r q (.int _)⟩
  · split at e
    · injection e with e; subst e
      obtain rfl := wkInt hx; obtain rfl := wkInt hy
      rename_i i j hm
      unfold mulOk at hm
      simp only [Bool.or_eq_true, decide_eq_true_eq] at hm
      rcases hm with (hm | hm) | hm
      · exact .inl ⟨_, _, rfl, rfl, .inl (by omega), nx_here r q (.int _)⟩
      · exact .inl ⟨_, _, rfl, rfl, .inr (by omega), nx_here r q (.int _)⟩
      · exact .inr (.inl ⟨_, _, rfl, rfl, hm, nx_here r q (.int _)⟩)
    · cases e
  · split at e
    · injection e with e; subst e
      obtain ⟨a, vs, rfl, ha, ra⟩ := wkLst r hx
      obtain rfl := wkInt hy
      rename_i hl
      exact .inr (.inr ⟨a, _, vs, rfl, rfl, ha, by omega, by omega, by rw [ra.length]; exact le_size hl.2.2, nx_lst r q (ra.rep _)⟩)
    · cases e
  · split at e
    · injection e with e; subst e
      obtain rfl := wkInt hx; obtain rfl := wkInt hy
      rename_i hm
      unfold divOk at hm
      simp only [Bool.and_eq_true, decide_eq_true_eq] at hm
      exact ⟨_, _, rfl, rfl, hm, nx_here r q (.int _)⟩
    · cases e
  · split at e
    · injection e with e; subst e
      obtain rfl := wkInt hx; obtain rfl := wkInt hy
      rename_i hm
      exact ⟨_, _, rfl, rfl, hm, nx_here r q (.int _)⟩
    · cases e
  · cases e
end
end Vi

/-! V5: comparisons, items, slices, built-ins, by values. -/
namespace Vi
open PySem PySem.Spec PyProof.Rows L2
section
variable {C : Ct} {E : En} {Wx : WX} {σ : L2.St} {W W' W1 W2 : Wd} {H H' H1 H2 H0 : Hp} {s s' s1 s2 : S}

def cmpOf : COp → CmpOp
  | .eq => .Eq | .ne => .NotEq | .lt => .Lt | .le => .LtE | .gt => .Gt | .ge => .GtE | .is => .Is | .isn => .IsNot | .isin => .In | .nin => .NotIn
def rCmp (K : PySem.W.Frag) : COp → R2
  | .eq => rEqD K
  | .ne => rNeD K
  | .lt => rI0 fun i j => .bl (decide (i < j))
  | .le => rI0 fun i j => .bl (decide (i ≤ j))
  | .gt => rI0 fun i j => .bl (decide (j < i))
  | .ge => rI0 fun i j => .bl (decide (j ≤ i))
  | .is => fun x y H Q => (y = .non ∧ Q (.bl (decide (x = .non))) H) ∨ rIsB x y H Q
  | .isn => fun x y H Q => (y = .non ∧ Q (.bl (!decide (x = .non))) H) ∨ rNotB x y H Q
  | .isin => fun x y H Q => rInD K x y H Q ∨ (∃ (c : Nat) (z : Str), x = .str ⟨#[c]⟩ ∧ y = .str z ∧ Q (.bl (decide (c ∈ z.cps.toList))) H)
  | .nin => fun x y H Q => rNotInD K x y H Q ∨ (∃ (c : Nat) (z : Str), x = .str ⟨#[c]⟩ ∧ y = .str z ∧ Q (.bl (!decide (c ∈ z.cps.toList))) H)
theorem op_cmp {X : Cx} (hu : X.A.units + 65 < cLine) : ∀ o : COp, OpR X (compareOp (cmpOf o)) (rCmp X.K o)
  | .eq => op_eqD (by omega)
  | .ne => op_neD (by omega)
  | .lt => op_lt
  | .le => op_le
  | .gt => op_gt
  | .ge => op_ge
  | .is => op_isN.or op_isBl
  | .isn => op_notN.or op_notBl
  | .isin => (op_inD hu).or op_in_sign
  | .nin => (op_notInD hu).or op_notIn_sign
theorem eqD_some {x y : D} {b : Bool} (h : eqD x y = some b) : ∃ p q, x.py = some p ∧ y.py = some q ∧ SeqAt.shaped p = true ∧ SeqAt.shaped q = true ∧ b = PyData.eqv p q := by
  unfold eqD at h
  split at h
  · rename_i p q e1 e2
    split at h
    · rename_i hs
      rw [Bool.and_eq_true] at hs
      injection h with h
      exact ⟨p, q, e1, e2, hs.1, hs.2, h.symm⟩
    · cases h
  · cases h
theorem inD_some {x y : D} {b : Bool} (h : inD x y = some b) : (∃ ys p ps, y = .lst ys ∧ x.py = some p ∧ D.pys ys = some ps ∧ SeqAt.shaped p = true ∧ SeqAt.shaped (.list ps) = true ∧ b = ps.any fun z => PyData.eqv z p) ∨
    (∃ c z, x = .str ⟨#[c]⟩ ∧ y = .str z ∧ b = decide (c ∈ z.cps.toList)) := by
  unfold inD at h
  split at h
  · rename_i ys
    split at h
    · rename_i p ps e1 e2
      split at h
      · rename_i hs
        rw [Bool.and_eq_true] at hs
        injection h with h
        exact .inl ⟨ys, p, ps, rfl, e1, e2, hs.1, hs.2, h.symm⟩
      · cases h
    · cases h
  · rename_i z
    split at h
    · rename_i y
      split at h
      · rename_i c e
        injection h with h
        refine .inr ⟨c, z, ?_, rfl, h.symm⟩
        obtain ⟨a⟩ := y
        obtain ⟨l⟩ := a
        obtain rfl : l = [c] := e
        rfl
      · cases h
    · cases h
  · cases h
theorem isD_some {x y : D} {b : Bool} (h : isD x y = some b) : (y = .non ∧ b = x.isNon) ∨ ∃ p q, x = .bl p ∧ y = .bl q ∧ b = (p == q) := by
  unfold isD at h
  split at h
  · injection h with h
    exact .inl ⟨rfl, h.symm⟩
  · injection h with h
    exact .inr ⟨_, _, rfl, rfl, h.symm⟩
  · cases h
theorem non_iff {v : V} {x : D} (h : RepM C E H0 W σ H s .wk v x) : decide (v = .non) = x.isNon := by
  rcases h with h | ⟨ys, rfl, a, vs, rfl, _⟩
  · cases h <;> first | rfl | simp [D.isNon]
  · simp [D.isNon]
theorem wkNon {v : V} (h : RepM C E H0 W σ H s .wk v .non) : v = .non := by
  rcases h with h | ⟨xs, e, _⟩
  · cases h; rfl
  · cases e
theorem st_cmp {o : COp} {x y : D} {b : Bool} {v u : V} {Q : VK} (r : StR C E W σ H s) (hx : RepM C E H0 W σ H s .wk v x) (hy : RepM C E H1 W σ H s .wk u y) (e : cmpD o x y = some b) (q : Q (.bl b) H) : rCmp C.K o v u H Q := by
  cases o with
  | eq =>
    obtain ⟨p, p', e1, e2, s1, s2, rfl⟩ := eqD_some (show eqD x y = some b from e)
    exact ⟨p, p', wkDp r hx e1, wkDp r hy e2, s1, s2, q⟩
  | ne =>
    simp only [cmpD] at e
    split at e
    · rename_i c ec
      injection e with e; subst e
      obtain ⟨p, p', e1, e2, s1, s2, rfl⟩ := eqD_some ec
      exact ⟨p, p', wkDp r hx e1, wkDp r hy e2, s1, s2, q⟩
    · cases e
  | is =>
    rcases isD_some (show isD x y = some b from e) with ⟨rfl, rfl⟩ | ⟨p, p', rfl, rfl, rfl⟩
    · exact .inl ⟨wkNon hy, by rw [non_iff hx]; exact q⟩
    · exact .inr ⟨p, p', wkBl hx, wkBl hy, by cases p <;> cases p' <;> exact q⟩
  | isn =>
    simp only [cmpD] at e
    split at e
    · rename_i c ec
      injection e with e; subst e
      rcases isD_some ec with ⟨rfl, rfl⟩ | ⟨p, p', rfl, rfl, rfl⟩
      · exact .inl ⟨wkNon hy, by rw [non_iff hx]; exact q⟩
      · exact .inr ⟨p, p', wkBl hx, wkBl hy, by cases p <;> cases p' <;> exact q⟩
    · cases e
  | isin =>
    rcases inD_some (show inD x y = some b from e) with ⟨ys, p, ps, rfl, e1, e2, s1, s2, rfl⟩ | ⟨c, z, rfl, rfl, rfl⟩
    · exact .inl ⟨p, ps, wkDp r hx e1, wkDp r hy (by simp only [D.py, e2]), s1, s2, q⟩
    · exact .inr ⟨c, z, wkStr hx, wkStr hy, q⟩
  | nin =>
    simp only [cmpD] at e
    split at e
    · rename_i c ec
      injection e with e; subst e
      rcases inD_some ec with ⟨ys, p, ps, rfl, e1, e2, s1, s2, rfl⟩ | ⟨c, z, rfl, rfl, rfl⟩
      · exact .inl ⟨p, ps, wkDp r hx e1, wkDp r hy (by simp only [D.py, e2]), s1, s2, q⟩
      · exact .inr ⟨c, z, wkStr hx, wkStr hy, q⟩
    · cases e
  | lt =>
    unfold cmpD at e
    split at e <;> first | (rename_i ho; cases ho) | skip
    all_goals first | (injection e with e; subst e; obtain rfl := wkInt hx; obtain rfl := wkInt hy; exact ⟨_, _, rfl, rfl, q⟩) | cases e
  | le =>
    unfold cmpD at e
    split at e <;> first | (rename_i ho; cases ho) | skip
    all_goals first | (injection e with e; subst e; obtain rfl := wkInt hx; obtain rfl := wkInt hy; exact ⟨_, _, rfl, rfl, q⟩) | cases e
  | gt =>
    unfold cmpD at e
    split at e <;> first | (rename_i ho; cases ho) | skip
    all_goals first | (injection e with e; subst e; obtain rfl := wkInt hx; obtain rfl := wkInt hy; exact ⟨_, _, rfl, rfl, q⟩) | cases e
  | ge =>
    unfold cmpD at e
    split at e <;> first | (rename_i ho; cases ho) | skip
    all_goals first | (injection e with e; subst e; obtain rfl := wkInt hx; obtain rfl := wkInt hy; exact ⟨_, _, rfl, rfl, q⟩) | cases e

/-! ### items -/
theorem ixL_at {α : Type} {xs : List α} {i : Int} {x : α} (h : ixL xs i = some x) : atI xs i = some x := by
  unfold ixL at h
  unfold atI ixN
  by_cases h0 : 0 ≤ i
  · rw [if_pos h0] at h ⊢
    by_cases h1 : i < xs.length
    · rw [if_pos h1] at h ⊢; exact h
    · rw [if_neg h1] at h; cases h
  · rw [if_neg h0] at h ⊢
    by_cases h1 : -(xs.length : Int) ≤ i
    · rw [if_pos h1] at h ⊢; exact h
    · rw [if_neg h1] at h; cases h
theorem ixL_rep {vs : List V} {ds : List D} {i : Int} {d : D} (r : Reps C W vs ds) (h : ixL ds i = some d) : ∃ v, atI vs i = some v ∧ Rep C W v d := by
  have hl := r.length
  unfold ixL at h
  unfold atI ixN
  rw [hl]
  by_cases h0 : 0 ≤ i
  · rw [if_pos h0] at h ⊢
    by_cases h1 : i < ds.length
    · rw [if_pos h1] at h ⊢
      exact r.get h
    · rw [if_neg h1] at h; cases h
  · rw [if_neg h0] at h ⊢
    by_cases h1 : -(ds.length : Int) ≤ i
    · rw [if_pos h1] at h ⊢
      exact r.get h
    · rw [if_neg h1] at h; cases h
theorem ixL_map {cs : List Int} {i c : Int} (h : ixL cs i = some c) : atI (cs.map V.int) i = some (.int c) := by
  obtain ⟨v, h1, h2⟩ := ixL_rep (C := { K := default, fA := fun _ => 0, clA := fun _ => 0, ok := [] }) (W := { G := fun _ => none, st := none }) (Reps.ofInts cs) (i := i) (d := .int c) (by
    unfold ixL at h ⊢
    rw [List.length_map]
    by_cases h0 : 0 ≤ i
    · rw [if_pos h0] at h ⊢
      by_cases h1 : i < cs.length
      · rw [if_pos h1] at h ⊢; rw [List.getElem?_map, h]; rfl
      · rw [if_neg h1] at h; cases h
    · rw [if_neg h0] at h ⊢
      by_cases h1 : -(cs.length : Int) ≤ i
      · rw [if_pos h1] at h ⊢; rw [List.getElem?_map, h]; rfl
      · rw [if_neg h1] at h; cases h)
  cases h2
  exact h1
theorem st_ix {x y d : D} {v u : V} {Q : VK} (r : StR C E W σ H s) (hx : RepM C E H0 W σ H s .wk v x) (hy : RepM C E H1 W σ H s .wk u y) (e : ixD x y s.rg = some d) (q : Nx C E σ W H s .st d Q) : rIx C.K v u H Q := by
  unfold ixD at e
  split at e
  · obtain ⟨a, vs, rfl, ha, ra⟩ := wkLst r hx
    obtain rfl := wkInt hy
    obtain ⟨w, h1, h2⟩ := ixL_rep ra e
    exact .inl ⟨a, vs, _, w, rfl, rfl, SqL.of ha, h1, nx_here r q h2⟩
  · obtain ⟨a, vs, rfl, ha, ra⟩ := wkTup r hx
    obtain rfl := wkInt hy
    obtain ⟨w, h1, h2⟩ := ixL_rep ra e
    exact .inr (.inl ⟨a, vs, _, w, rfl, rfl, ha, h1, nx_here r q h2⟩)
  · obtain rfl := wkStr hx
    obtain rfl := wkInt hy
    split at e
    · rename_i hl
      split at e
      · rename_i c ec
        injection e with e; subst e
        exact .inr (.inr ⟨_, _, c, rfl, rfl, le_size hl, ixL_at ec, nx_here r q (.str _)⟩)
      · cases e
    · cases e
  · obtain rfl := wkInt hy
    split at e
    · rename_i p cs er
      obtain ⟨a, c, rfl, ha, rc, hc, _⟩ := wkTok r hx er
      split at e
      · rename_i h0
        injection e with e; subst e; subst h0
        exact .inl ⟨a, _, 0, .int p, rfl, rfl, SqL.of ha, atI_nat (j := 0) rfl, nx_here r q (.int p)⟩
      · split at e
        · rename_i h0 h1
          injection e with e; subst e; subst h1
          exact .inl ⟨a, _, 1, .ref c, rfl, rfl, SqL.of ha, atI_nat (j := 1) rfl, nx_here r q rc⟩
        · cases e
    · cases e
  · obtain rfl := wkInt hy
    split at e
    · rename_i p cs er
      obtain ⟨a, c, rfl, hc, _⟩ := wkCel r hx er
      split at e
      · rename_i n en
        injection e with e; subst e
        exact .inl ⟨c, _, _, .int n, rfl, rfl, SqL.of hc, ixL_map en, nx_here r q (.int n)⟩
      · cases e
    · cases e
  · cases e

/-! ### slices -/
theorem cutIx_eq (n d : Nat) : ∀ o : Option Int, cutIx n d o = HT.sIx n d o
  | none => rfl
  | some _ => rfl
theorem cut_rep {vs : List V} {ds : List D} (r : Reps C W vs ds) (lo hi : Option Int) : Reps C W (cutV vs lo hi) (cutL ds lo hi) := by
  unfold cutV cutL
  rw [cutIx_eq, cutIx_eq, r.length]
  exact (r.drop _).take _
def rSlD (K : PySem.W.Frag) : V → Option Int → Option Int → Hp → VK → Prop := fun x lo hi H Q => rSlL K x lo hi H Q ∨ rSlA K x lo hi H Q ∨ rSlS x lo hi H Q
theorem sl_any {X : Cx} : SlR X (rSlD X.K) := sl_list.or (sl_tupA.or sl_str)
theorem st_sl {x d : D} {lo hi : Option Int} {v : V} {Q : VK} (r : StR C E W σ H s) (hx : RepM C E H0 W σ H s .wk v x) (e : cutD x lo hi = some d) (q : Nx C E σ W H s .fr d Q) : rSlD C.K v lo hi H Q := by
  unfold cutD at e
  split at e
  · injection e with e; subst e
    obtain ⟨a, vs, rfl, ha, ra⟩ := wkLst r hx
    exact .inl ⟨a, vs, rfl, SqL.of ha, nx_lst r q (cut_rep ra lo hi)⟩
  · injection e with e; subst e
    obtain ⟨a, vs, rfl, ha, ra⟩ := wkTup r hx
    refine .inr (.inl ⟨a, vs, rfl, ha, fun hw => ?_, fun _ => nx_tup (by decide) r q (cut_rep ra lo hi)⟩)
    refine nx_here r q ?_
    rename_i xs
    have e1 : cutL xs lo hi = xs := by
      unfold cutL
      rw [cutIx_eq, cutIx_eq, ← ra.length, hw.1, hw.2, ra.length]
      simp
    rw [e1]
    rcases hx with h | ⟨ys, e, _⟩
    · exact h
    · cases e
  · injection e with e; subst e
    obtain ⟨a, rfl, ha⟩ := wkScr r hx
    refine .inl ⟨a, _, rfl, ha, ?_⟩
    rename_i xs
    have h1 : cutV (xs.map V.int) lo hi = (cutL xs lo hi).map V.int := by
      unfold cutV cutL
      rw [cutIx_eq, cutIx_eq, List.length_map, List.map_take, List.map_drop]
    rw [h1]
    exact nx_lst r q (.ofInts _)
  · split at e
    · injection e with e; subst e
      obtain rfl := wkStr hx
      rename_i hl
      refine .inr (.inr ⟨_, rfl, le_size hl, ?_⟩)
      have h1 : ∀ z : Str, cutS z lo hi = ⟨(cutL z.cps.toList lo hi).toArray⟩ := fun z => by
        unfold cutS cutL
        rw [cutIx_eq, cutIx_eq, Array.length_toList]
        rfl
      rw [h1]
      exact nx_here r q (.str _)
    · cases e
  · cases e
end
end Vi

/-! V6: built-in functions, by values. -/
namespace Vi
open PySem PySem.Spec PyProof.Rows L2
section
variable {C : Ct} {E : En} {Wx : WX} {σ : L2.St} {W W' W1 W2 : Wd} {H H' H1 H2 H0 : Hp} {s s' s1 s2 : S}

def rBlt (K : PySem.W.Frag) : Blt → List V → Hp → VK → Prop
  | .len => fun xs H Q => ∃ x n, xs = [x] ∧ LenV K x H n ∧ Q (.int n) H
  | .abs => fun xs H Q => ∃ i, xs = [.int i] ∧ Q (.int (if i < 0 then -i else i)) H
  | .int => fun xs H Q => (∃ i, xs = [.int i] ∧ Q (.int i) H) ∨ ∃ k, xs = [.bl k] ∧ Q (.int (if k then 1 else 0)) H
  | .str => fun xs H Q => ∃ i : Int, xs = [.int i] ∧ i.natAbs.log2 < 1920 ∧ Q (.str (toString i)) H
  | .list => fun xs H Q => ∃ p ys, xs = [.ref p] ∧ (SqL K H p ys ∨ SqT K H p ys) ∧ ∀ l, H l = none → Q (.ref l) (upd H l (.lst ys))
  | .tuple => fun xs H Q => ∃ p ys, xs = [.ref p] ∧ ((SqL K H p ys ∧ ∀ l, H l = none → Q (.ref l) (upd H l (.tup ys))) ∨ (SqT K H p ys ∧ Q (.ref p) H))
  | .all => rAll K
  | .any => rAny K
  | .sum => rSum K
  | .max => fun xs H Q => ∃ i j, xs = [.int i, .int j] ∧ Q (.int (if j > i then j else i)) H
  | .min => fun xs H Q => ∃ i j, xs = [.int i, .int j] ∧ Q (.int (if j < i then j else i)) H
  | .isi _ => fun _ _ _ => False
def bName : Blt → Str
  | .len => "len" | .abs => "abs" | .int => "int" | .str => "str" | .list => "list" | .tuple => "tuple" | .all => "all" | .any => "any" | .sum => "sum" | .max => "max" | .min => "min" | .isi _ => "isinstance"
theorem pe_blt {X : Cx} {e : Expr} {es : List Expr} {p pos : Pos} {t : TA} {b : Blt} (hc : X.calm = true) (hg : Gl X (bName b)) (hm : X.mg (bName b) = none) (ha : PA X (e :: es) t)
    (hb : ∀ t, b ≠ .isi t) (hx : starEach (e :: es) X.env = (false, eval e X.env) :: starEach es X.env) (hpl : (backTo pos (starEach es X.env)).any (·.1) = false) : PE X (.Call (.Name (bName b) p) (e :: es) [] pos) (tCB (rBlt X.K b) t) := by
  cases b with
  | len => exact pe_callB call_len hg hm PySem.boot_len ha (by decide) (by decide) hx hpl
  | abs => exact pe_callB call_abs hg hm (by decide +kernel) ha (by decide) (by decide) hx hpl
  | int => exact pe_callTy call_int1 hg hm (by decide +kernel) ha (by decide) (by decide) hx hpl
  | str => exact pe_callTy call_str_int hg hm (by decide +kernel) ha (by decide) (by decide) hx hpl
  | list => exact pe_callTy call_list_of hg hm (by decide +kernel) ha (by decide) (by decide) hx hpl
  | tuple => exact pe_callTy call_tuple_of hg hm (by decide +kernel) ha (by decide) (by decide) hx hpl
  | all => exact pe_callB (cr_all hc) hg hm (by decide +kernel) ha (by decide) (by decide) hx hpl
  | any => exact pe_callB (cr_any hc) hg hm (by decide +kernel) ha (by decide) (by decide) hx hpl
  | sum => exact pe_callB (cr_sum hc) hg hm (by decide +kernel) ha (by decide) (by decide) hx hpl
  | max => exact pe_callB (call_max2 hc) hg hm (by decide +kernel) ha (by decide) (by decide) hx hpl
  | min => exact pe_callB (call_min2 hc) hg hm (by decide +kernel) ha (by decide) (by decide) hx hpl
  | isi t => exact absurd rfl (hb t)
/-- the arguments, passing -/
inductive Wks (C : Ct) (E : En) (H0 : Hp) (W : Wd) (σ : L2.St) (H : Hp) (s : S) : List V → List D → Prop
  | nil : Wks C E H0 W σ H s [] []
  | cons {v : V} {vs : List V} {d : D} {ds : List D} : RepM C E H0 W σ H s .wk v d → Wks C E H0 W σ H s vs ds → Wks C E H0 W σ H s (v :: vs) (d :: ds)
theorem Wks.one {vs : List V} {d : D} (h : Wks C E H0 W σ H s vs [d]) : ∃ v, vs = [v] ∧ RepM C E H0 W σ H s .wk v d := by
  cases h with
  | cons a b => cases b; exact ⟨_, rfl, a⟩
theorem Wks.two {vs : List V} {d e : D} (h : Wks C E H0 W σ H s vs [d, e]) : ∃ v u, vs = [v, u] ∧ RepM C E H0 W σ H s .wk v d ∧ RepM C E H0 W σ H s .wk u e := by
  cases h with
  | cons a b =>
    obtain ⟨u, rfl, h⟩ := b.one
    exact ⟨_, u, rfl, a, h⟩
theorem st_blt {b : Blt} {ds : List D} {d : D} {vs : List V} {Q : VK} (r : StR C E W σ H s) (hx : Wks C E H0 W σ H s vs ds) (e : bltD b ds s.rg = some d) (hb : ∀ t, b ≠ .isi t) (q : Nx C E σ W H s .fr d Q) : rBlt C.K b vs H Q := by
  unfold bltD at e
  split at e
  · injection e with e; subst e
    obtain ⟨v, rfl, h⟩ := hx.one
    obtain ⟨a, vs, rfl, ha, ra⟩ := wkLst r h
    exact ⟨_, _, rfl, .inl ⟨vs, SqL.of ha, rfl⟩, by rw [ra.length]; exact nx_here r q (.int _)⟩
  · injection e with e; subst e
    obtain ⟨v, rfl, h⟩ := hx.one
    obtain ⟨a, vs, rfl, ha, ra⟩ := wkTup r h
    exact ⟨_, _, rfl, .inr ⟨vs, ha, rfl⟩, by rw [ra.length]; exact nx_here r q (.int _)⟩
  · split at e
    · rename_i hl
      injection e with e; subst e
      obtain ⟨v, rfl, h⟩ := hx.one
      obtain rfl := wkStr h
      exact ⟨_, _, rfl, ⟨le_size hl, rfl⟩, nx_here r q (.int _)⟩
    · cases e
  · rename_i p cs er
    injection e with e; subst e
    obtain ⟨v, rfl, h⟩ := hx.one
    obtain ⟨a, c, rfl, hc, _⟩ := wkCel r h er
    exact ⟨_, _, rfl, .inl ⟨_, SqL.of hc, rfl⟩, by rw [List.length_map]; exact nx_here r q (.int _)⟩
  · injection e with e; subst e
    obtain ⟨v, rfl, h⟩ := hx.one
    obtain rfl := wkInt h
    exact ⟨_, rfl, nx_here r q (.int _)⟩
  · injection e with e; subst e
    obtain ⟨v, rfl, h⟩ := hx.one
    obtain rfl := wkInt h
    exact .inl ⟨_, rfl, nx_here r q (.int _)⟩
  · injection e with e; subst e
    obtain ⟨v, rfl, h⟩ := hx.one
    obtain rfl := wkBl h
    exact .inr ⟨_, rfl, nx_here r q (.int _)⟩
  · split at e
    · rename_i hl
      injection e with e; subst e
      obtain ⟨v, rfl, h⟩ := hx.one
      obtain rfl := wkInt h
      exact ⟨_, rfl, hl, nx_here r q (.str _)⟩
    · cases e
  · injection e with e; subst e
    obtain ⟨v, rfl, h⟩ := hx.one
    obtain ⟨a, vs, rfl, ha, ra⟩ := wkLst r h
    exact ⟨a, vs, rfl, .inl (SqL.of ha), nx_lst r q ra⟩
  · injection e with e; subst e
    obtain ⟨v, rfl, h⟩ := hx.one
    obtain ⟨a, vs, rfl, ha, ra⟩ := wkTup r h
    exact ⟨a, vs, rfl, .inr ha, nx_lst r q ra⟩
  · injection e with e; subst e
    obtain ⟨v, rfl, h⟩ := hx.one
    obtain ⟨a, vs, rfl, ha, ra⟩ := wkLst r h
    exact ⟨a, vs, rfl, .inl ⟨SqL.of ha, nx_tup (by decide) r q ra⟩⟩
  · injection e with e; subst e
    obtain ⟨v, rfl, h⟩ := hx.one
    obtain ⟨a, vs, rfl, ha, ra⟩ := wkTup r h
    refine ⟨a, vs, rfl, .inr ⟨ha, nx_here r q ?_⟩⟩
    rcases h with h | ⟨ys, e, _⟩
    · exact h
    · cases e
  · split at e
    · rename_i bs eb
      injection e with e; subst e
      obtain ⟨v, rfl, h⟩ := hx.one
      obtain ⟨a, vs, rfl, ha, ra⟩ := wkLst r h
      obtain rfl := ra.toBools eb
      exact ⟨a, bs, rfl, SqL.of ha, nx_here r q (.bl _)⟩
    · cases e
  · split at e
    · rename_i bs eb
      injection e with e; subst e
      obtain ⟨v, rfl, h⟩ := hx.one
      obtain ⟨a, vs, rfl, ha, ra⟩ := wkLst r h
      obtain rfl := ra.toBools eb
      exact ⟨a, bs, rfl, SqL.of ha, nx_here r q (.bl _)⟩
    · cases e
  · split at e
    · rename_i bs eb
      injection e with e; subst e
      obtain ⟨v, rfl, h⟩ := hx.one
      obtain ⟨a, vs, rfl, ha, ra⟩ := wkLst r h
      obtain rfl := ra.toInts eb
      exact ⟨a, bs, rfl, SqL.of ha, nx_here r q (.int _)⟩
    · cases e
  · injection e with e; subst e
    obtain ⟨v, u, rfl, h1, h2⟩ := hx.two
    obtain rfl := wkInt h1; obtain rfl := wkInt h2
    exact ⟨_, _, rfl, nx_here r q (.int _)⟩
  · injection e with e; subst e
    obtain ⟨v, u, rfl, h1, h2⟩ := hx.two
    obtain rfl := wkInt h1; obtain rfl := wkInt h2
    exact ⟨_, _, rfl, nx_here r q (.int _)⟩
  · exact absurd rfl (hb _)
  · cases e
/-! ### isinstance -/
def tyNames : List String := ["int", "bool", "str", "tuple", "list"]
theorem wkTy (r : StR C E W σ H s) {v : V} {d : D} {t : String} {b : Bool} (h : RepM C E H0 W σ H s .wk v d) (ht : t ∈ tyNames) (e : isiD t d = some b) : ∃ T : String, TyX C.K H v (.type T) ∧ kitB T t = some b := by
  have fin : ∀ T : String, TyX C.K H v (.type T) → kitB T t = some b → ∃ T : String, TyX C.K H v (.type T) ∧ kitB T t = some b := fun T a c => ⟨T, a, c⟩
  cases d with
  | int i =>
    obtain rfl := wkInt h
    refine fin "int" (.base (.int i)) ?_
    simp only [isiD, Option.some.injEq] at e
    subst e
    simp only [tyNames, List.mem_cons, List.not_mem_nil, or_false] at ht
    rcases ht with rfl | rfl | rfl | rfl | rfl <;> decide +kernel
  | bl i =>
    obtain rfl := wkBl h
    refine fin "bool" (.base (.bl i)) ?_
    simp only [isiD, Option.some.injEq] at e
    subst e
    simp only [tyNames, List.mem_cons, List.not_mem_nil, or_false] at ht
    rcases ht with rfl | rfl | rfl | rfl | rfl <;> decide +kernel
  | str i =>
    obtain rfl := wkStr h
    refine fin "str" (.base (.str i)) ?_
    simp only [isiD, Option.some.injEq] at e
    subst e
    simp only [tyNames, List.mem_cons, List.not_mem_nil, or_false] at ht
    rcases ht with rfl | rfl | rfl | rfl | rfl <;> decide +kernel
  | non =>
    obtain rfl := wkNon h
    refine fin "NoneType" (.base .non) ?_
    simp only [isiD, Option.some.injEq] at e
    subst e
    simp only [tyNames, List.mem_cons, List.not_mem_nil, or_false] at ht
    rcases ht with rfl | rfl | rfl | rfl | rfl <;> decide +kernel
  | tup xs =>
    obtain ⟨a, vs, rfl, ha, ra⟩ := wkTup r h
    refine fin "tuple" ?_ ?_
    · rcases ha with (ha | ⟨o, ha⟩) | ⟨o, its, n, hk, hc, _⟩
      · exact .base (.tup ha)
      · exact .fTuple ha
      · exact .kTuple hk hc
    · simp only [isiD, Option.some.injEq] at e
      subst e
      simp only [tyNames, List.mem_cons, List.not_mem_nil, or_false] at ht
      rcases ht with rfl | rfl | rfl | rfl | rfl <;> decide +kernel
  | lst xs =>
    obtain ⟨a, vs, rfl, ha, ra⟩ := wkLst r h
    refine fin "list" (.base (.lst ha)) ?_
    simp only [isiD, Option.some.injEq] at e
    subst e
    simp only [tyNames, List.mem_cons, List.not_mem_nil, or_false] at ht
    rcases ht with rfl | rfl | rfl | rfl | rfl <;> decide +kernel
  | scr _ => cases e
  | tok => cases e
  | cel => cases e
  | fn _ => cases e
theorem boot_ty {t : String} (ht : t ∈ tyNames) : bootBuiltins (Str.ofString t) = some (.type t) ∧ (Str.ofString t) ≠ "__name__" ∧ (Str.ofString t == ("__debug__" : Str)) = false := by
  simp only [tyNames, List.mem_cons, List.not_mem_nil, or_false] at ht
  rcases ht with rfl | rfl | rfl | rfl | rfl <;> exact ⟨by decide +kernel, by decide +kernel, by decide +kernel⟩
end
end Vi

/-! V7: one rule a form of expression. -/
namespace Vi
open PySem PySem.Spec PyProof.Rows L2
section
variable {C : Ct} {E : En} {Wx : WX} {X : Cx} {e a b c : Expr} {es : List Expr} {pos p : Pos} {m ma mb mc : S → RE D} {md md' : Md}
/-- any mode but wk serves as st -/
theorem _root_.L2.PE.st (h : PE X e (tE C E Wx m md)) (hm : md ≠ .wk) : PE X e (tE C E Wx m .st) := by
  cases md with
  | st => exact h
  | wk => exact absurd rfl hm
  | fr => exact h.imp fun _ _ _ q => tE_fr q
theorem _root_.L2.PE.wk (h : PE X e (tE C E Wx m md)) : PE X e (tE C E Wx m .wk) := h.imp fun _ _ _ q => tE_wk q

theorem StR.frz1 {σ : L2.St} {W : Wd} {H : Hp} {s : S} (r : StR C E W σ H s) {i : Nat} {xs : List D} (q : s.sl[i]? = some (.own xs)) :
    ∃ a W', σ[i]? = some (some (.ref a)) ∧ StR C E W' σ H { s with sl := s.sl.set i (Slot.val (.lst xs)) } ∧ ExK σ W H s W' H { s with sl := s.sl.set i (Slot.val (.lst xs)) } ∧ Rep C W' (.ref a) (.lst xs) := by
  obtain ⟨a, vs, e, ha, hr⟩ := r.sl i _ q
  have o : OwnAt s i := ⟨_, q, rfl⟩
  obtain ⟨g, e0, ns⟩ := r.ow i a o e
  have l := Wd.add_le (o := .lst vs) g
  have hi : i < s.sl.length := (List.getElem?_eq_some_iff.mp q).1
  have at1 : ∀ j x, (s.sl.set i (Slot.val (.lst xs)))[j]? = some x → (j = i ∧ x = .val (.lst xs)) ∨ (j ≠ i ∧ s.sl[j]? = some x) := fun j x hj => by
    by_cases hji : j = i
    · subst hji
      rw [List.getElem?_set_self hi] at hj
      exact .inl ⟨rfl, (Option.some.inj hj).symm⟩
    · rw [List.getElem?_set_ne (Ne.symm hji)] at hj
      exact .inr ⟨hji, hj⟩
  have own1 : ∀ j, OwnAt { s with sl := s.sl.set i (Slot.val (.lst xs)) } j → OwnAt s j ∧ j ≠ i := fun j ⟨x, hj, hx⟩ => by
    rcases at1 j x hj with ⟨_, rfl⟩ | ⟨hne, hj⟩
    · cases hx
    · exact ⟨⟨x, hj, hx⟩, hne⟩
  have r1 : StR C E (W.add a (.lst vs)) σ H { s with sl := s.sl.set i (Slot.val (.lst xs)) } := by
    refine ⟨⟨r.kp.le.trans l, r.kp.kp0, r.kp.sn, r.kp.tt⟩, fun b h1 h2 => ?_, fun b u hb => ?_, r.rg.same rfl (fun _ _ => rfl) (fun b hb => ?_), ?_, fun j x hj => ?_, fun j1 j2 b o1 o2 => r.nd j1 j2 b (own1 j1 o1).1 (own1 j2 o2).1, fun j b oj ej => ?_, fun p hp => ?_, r.lo.trans l⟩
    · by_cases hb : b = a
      · subst hb; exact e0
      · refine r.fr b h1 fun z => h2 ?_
        show upd W.G a (.lst vs) b = none
        rw [upd_ne hb]; exact z
    · have hb : upd W.G a (.lst vs) b = some u := hb
      by_cases z : b = a
      · subst z; rw [upd_same] at hb; cases hb; exact ha
      · rw [upd_ne z] at hb; exact r.gh b u hb
    · show upd W.G a (.lst vs) b = W.G b
      rw [upd_ne]
      rintro rfl
      exact ns hb
    · show σ.length = (s.sl.set i _).length
      rw [List.length_set]; exact r.len
    · rcases at1 j x hj with ⟨rfl, rfl⟩ | ⟨hne, hj⟩
      · exact ⟨.ref a, e, .lst add_at (hr.mono l)⟩
      · exact (r.sl j x hj).move l (fun b u h _ _ => h) (fun b h => .inl h) (fun b ho eb => (r.ow j b ⟨x, hj, ho⟩ eb).2.2)
    · obtain ⟨oj1, hne⟩ := own1 j oj
      obtain ⟨o1, o2, o3⟩ := r.ow j b oj1 ej
      refine ⟨?_, o2, o3⟩
      show upd W.G a (.lst vs) b = none
      rw [upd_ne]
      · exact o1
      · rintro rfl
        exact hne (r.nd j i b oj1 o ej e)
    · obtain ⟨ys, b1, b2, b3⟩ := r.pr p hp
      refine ⟨ys, ?_, b2, b3⟩
      show (s.sl.set i _)[p.1]? = _
      rw [List.getElem?_set_ne]
      · exact b1
      · intro z; rw [← z, q] at b1; cases b1
  have k1 : ExK σ W H s (W.add a (.lst vs)) H { s with sl := s.sl.set i (Slot.val (.lst xs)) } := by
    refine ⟨⟨l, fun b u h _ _ => h, fun _ h => .inl h, Tt.refl H⟩, fun b h1 h2 => ?_, fun j oj => (own1 j oj).1, fun j ⟨ys, hj⟩ => ?_⟩
    · by_cases hb : b = a
      · subst hb; exact .inr ⟨i, ⟨_, q⟩, e⟩
      · have h2' : upd W.G a (.lst vs) b ≠ none := h2
        rw [upd_ne hb] at h2'
        exact absurd h1 h2'
    · rcases at1 j _ hj with ⟨_, z⟩ | ⟨_, z⟩
      · cases z
      · exact ⟨ys, z⟩
  exact ⟨a, _, e, r1, k1, .lst add_at (hr.mono l)⟩
theorem StR.frzAll {σ : L2.St} {H : Hp} : ∀ (fz : List Nat) {W : Wd} {s : S}, StR C E W σ H s → ∃ W', StR C E W' σ H (frzS fz s) ∧ ExK σ W H s W' H (frzS fz s)
  | [], W, s, r => ⟨W, r, ExK.refl _ _ _ _⟩
  | i :: fz, W, s, r => by
    unfold frzS
    split
    · rename_i xs q
      obtain ⟨a, W1, _, r1, k1, _⟩ := r.frz1 q
      obtain ⟨W2, r2, k2⟩ := StR.frzAll fz r1
      exact ⟨W2, r2, k1.trans r1 k2⟩
    · exact StR.frzAll fz r
theorem r_var {i : Nat} {x : Str} (hN : X.N[i]? = some x) (hv : Vis X.env.scope x) (hd : (x == ("__debug__" : Str)) = false) (hcd : (x == ("__classdict__" : Str)) = false) : PE X (.Name x pos) (tE C E Wx (rdS i) .st) := by
  refine (pe_var hN hv hd hcd).imp fun σ H Q ⟨W, s, r, h⟩ => ?_
  cases q : s.sl[i]? with
  | none => simp only [rdS, q] at h; exact h.elim
  | some sl =>
    cases sl with
    | val d =>
      simp only [rdS, q] at h
      obtain ⟨v, e, hr⟩ := r.sl i _ q
      exact ⟨v, e, h W H r (ExK.refl σ W H s) v hr⟩
    | own xs =>
      simp only [rdS, q] at h
      obtain ⟨a, W1, e, r1, k1, h1⟩ := r.frz1 q
      exact ⟨.ref a, e, h _ H r1 k1 _ h1⟩
    | uns => simp only [rdS, q] at h; exact h.elim
    | lck xs => simp only [rdS, q] at h; exact h.elim
    | exv e => simp only [rdS, q] at h; exact h.elim
theorem r_pk {i : Nat} {x : Str} (hN : X.N[i]? = some x) (hv : Vis X.env.scope x) (hd : (x == ("__debug__" : Str)) = false) (hcd : (x == ("__classdict__" : Str)) = false) : PE X (.Name x pos) (tE C E Wx (pkS i) .wk) := by
  refine (pe_var hN hv hd hcd).imp fun σ H Q ⟨W, s, r, h⟩ => ?_
  have go : ∀ xs, OwnAt s i → (s.sl[i]? = some (.own xs) ∨ s.sl[i]? = some (.lck xs)) → EC C E Wx σ W H s (fun d W' H' s' => ∀ v, RepM C E H W' σ H' s' .wk v d → Q v H') (.ok (.lst xs) s) → tVar i σ H Q := fun xs o hq h => by
    obtain ⟨a, vs, ys, e, ha, hr, hy⟩ := own_ref r o
    have hxy : xs = ys := by
      rcases hq with h1 | h1 <;> rcases hy with h2 | h2 <;> rw [h1] at h2 <;> cases h2 <;> rfl
    subst hxy
    exact ⟨.ref a, e, h W H r (ExK.refl σ W H s) _ (.inr ⟨xs, rfl, a, vs, rfl, ha, hr, (r.ow i a o e).2.2⟩)⟩
  cases q : s.sl[i]? with
  | none => simp only [pkS, q] at h; exact h.elim
  | some sl =>
    cases sl with
    | val d =>
      simp only [pkS, q] at h
      obtain ⟨v, e, hr⟩ := r.sl i _ q
      exact ⟨v, e, h W H r (ExK.refl σ W H s) v (.inl hr)⟩
    | own xs => simp only [pkS, q] at h; exact go xs ⟨_, q, rfl⟩ (.inl q) h
    | lck xs => simp only [pkS, q] at h; exact go xs ⟨_, q, rfl⟩ (.inr q) h
    | uns => simp only [pkS, q] at h; exact h.elim
    | exv e => simp only [pkS, q] at h; exact h.elim
/-- what is the same everywhere -/
theorem r_cst {v : V} {d : D} (h : PE X e (tC v)) (hr : ∀ W, Rep C W v d) : PE X e (tE C E Wx (fun s => .ok d s) .st) := by
  refine h.imp fun σ H Q ⟨W, s, r, h⟩ => ?_
  exact h W H r (ExK.refl σ W H s) v (hr W)
theorem r_bin {o : BOp} (ha : PE X a (tE C E Wx ma .wk)) (hb : PE X b (tE C E Wx mb .wk)) (hK : X.K = C.K) : PE X (.BinOp a (opOf o) b pos) (tE C E Wx (fun s => (ma s).bind fun x s => (mb s).bind fun y s => .opt (binD o x y) s) .fr) := by
  refine (pe_op (op_bin o) ha hb).imp fun σ H Q ⟨W, s, r, h⟩ => ?_
  refine ⟨W, s, r, h.bind.mono fun x W1 H1 s1 r1 k1 h1 v hv => ?_⟩
  refine ⟨W1, s1, r1, h1.bind.mono fun y W2 H2 s2 r2 k2 h2 u hu => ?_⟩
  obtain ⟨d, e, q⟩ := h2.opt r2
  rw [hK]
  refine st_bin r2 (hv.keep r1 k2) hu e fun W' H' r' k' w hw => q W' H' r' k' w (hw.start (k1.k.trans k2.k) k'.k.le)
theorem r_neg (ha : PE X a (tE C E Wx ma .wk)) : PE X (.UnaryOp .USub a pos) (tE C E Wx (fun s => (ma s).bind fun x s => .opt (negD x) s) .st) := by
  refine (pe_un un_neg ha).imp fun σ H Q ⟨W, s, r, h⟩ => ?_
  refine ⟨W, s, r, h.bind.mono fun x W1 H1 s1 r1 k1 h1 v hv => ?_⟩
  obtain ⟨d, e, q⟩ := h1.opt r1
  cases x with
  | int i =>
    simp only [negD, Option.some.injEq] at e
    subst e
    obtain rfl := wkInt hv
    exact ⟨i, rfl, q W1 H1 r1 (ExK.refl _ _ _ _) _ (.int _)⟩
  | _ => cases e
theorem r_cmp {o : COp} (hu : X.A.units + 65 < cLine) (ha : PE X a (tE C E Wx ma .wk)) (hb : PE X b (tE C E Wx mb .wk)) (hm : behindInMarks (cmpOf o) b = false) (hK : X.K = C.K) :
    PE X (.Compare a [cmpOf o] [b] pos) (tE C E Wx (fun s => (ma s).bind fun x s => (mb s).bind fun y s => .opt ((cmpD o x y).map .bl) s) .st) := by
  refine (pe_cmpR (op_cmp hu o) ha hb hm).imp fun σ H Q ⟨W, s, r, h⟩ => ?_
  refine ⟨W, s, r, h.bind.mono fun x W1 H1 s1 r1 k1 h1 v hv => ?_⟩
  refine ⟨W1, s1, r1, h1.bind.mono fun y W2 H2 s2 r2 k2 h2 u hu => ?_⟩
  obtain ⟨d, e, q⟩ := h2.opt r2
  cases ec : cmpD o x y with
  | none => rw [ec] at e; cases e
  | some t =>
    rw [ec] at e
    simp only [Option.map_some, Option.some.injEq] at e
    subst e
    rw [hK]
    exact st_cmp r2 (hv.keep r1 k2) hu ec (q W2 H2 r2 (ExK.refl _ _ _ _) _ (.bl _))
theorem t_cmp {o : COp} (hu : X.A.units + 65 < cLine) (ha : PE X a (tE C E Wx ma .wk)) (hb : PE X b (tE C E Wx mb .wk)) (hm : behindInMarks (cmpOf o) b = false) (hK : X.K = C.K) :
    PT X (.Compare a [cmpOf o] [b] pos) (tT C E Wx (fun s => (ma s).bind fun x s => (mb s).bind fun y s => .opt ((cmpD o x y).map .bl) s)) := by
  refine (pt_cmpR (op_cmp hu o) ha hb hm).imp fun σ H Q ⟨W, s, r, h⟩ => ?_
  refine ⟨W, s, r, h.bind.mono fun x W1 H1 s1 r1 k1 h1 v hv => ?_⟩
  refine ⟨W1, s1, r1, h1.bind.mono fun y W2 H2 s2 r2 k2 h2 u hu => ?_⟩
  obtain ⟨d, e, q⟩ := h2.opt r2
  cases ec : cmpD o x y with
  | none => rw [ec] at e; cases e
  | some t =>
    rw [ec] at e
    simp only [Option.map_some, Option.some.injEq] at e
    subst e
    obtain ⟨b', e', q'⟩ := q W2 H2 r2 (ExK.refl _ _ _ _)
    rw [hK]
    exact st_cmp r2 (hv.keep r1 k2) hu ec ⟨b', congrArg _ (D.bl.inj e'), q'⟩
theorem r_chn {o o' : COp} (hu : X.A.units + 65 < cLine) (ha : PE X a (tE C E Wx ma .wk)) (hb : PE X b (tE C E Wx mb .wk)) (hc : PE X c (tE C E Wx mc .wk)) (hm : lastMarks [cmpOf o, cmpOf o'] [b, c] = false) (hK : X.K = C.K) :
    PE X (.Compare a [cmpOf o, cmpOf o'] [b, c] pos) (tE C E Wx (fun s => (ma s).bind fun x s => (mb s).bind fun y s => match cmpD o x y with
      | some true => (mc s).bind fun z s => .opt ((cmpD o' y z).map .bl) s
      | some false => .ok (.bl false) s
      | none => .stuck) .st) := by
  refine (pe_chain (op_cmp hu o) (op_cmp hu o') ha hb hc hm).imp fun σ H Q ⟨W, s, r, h⟩ => ?_
  refine ⟨W, s, r, h.bind.mono fun x W1 H1 s1 r1 k1 h1 v hv => ?_⟩
  refine ⟨W1, s1, r1, h1.bind.mono fun y W2 H2 s2 r2 k2 h2 u hu' => ?_⟩
  rw [hK]
  cases ec : cmpD o x y with
  | none => rw [ec] at h2; exact h2.elim
  | some t =>
    rw [ec] at h2
    refine st_cmp r2 (hv.keep r1 k2) hu' ec ⟨t, rfl, ?_⟩
    cases t with
    | false =>
      rw [if_neg Bool.false_ne_true]
      exact h2 W2 H2 r2 (ExK.refl _ _ _ _) _ (.bl _)
    | true =>
      rw [if_pos rfl]
      refine ⟨W2, s2, r2, (EC.bind h2).mono fun z W3 H3 s3 r3 k3 h3 w hw => ?_⟩
      obtain ⟨d, e, q⟩ := h3.opt r3
      cases ec2 : cmpD o' y z with
      | none => rw [ec2] at e; cases e
      | some t2 =>
        rw [ec2] at e
        simp only [Option.map_some, Option.some.injEq] at e
        subst e
        exact st_cmp r3 (hu'.keep r2 k3) hw ec2 (q W3 H3 r3 (ExK.refl _ _ _ _) _ (.bl _))
theorem t_chn {o o' : COp} (hu : X.A.units + 65 < cLine) (ha : PE X a (tE C E Wx ma .wk)) (hb : PE X b (tE C E Wx mb .wk)) (hc : PE X c (tE C E Wx mc .wk)) (hm : lastMarks [cmpOf o, cmpOf o'] [b, c] = false) (hK : X.K = C.K) :
    PT X (.Compare a [cmpOf o, cmpOf o'] [b, c] pos) (tT C E Wx (fun s => (ma s).bind fun x s => (mb s).bind fun y s => match cmpD o x y with
      | some true => (mc s).bind fun z s => .opt ((cmpD o' y z).map .bl) s
      | some false => .ok (.bl false) s
      | none => .stuck)) := by
  refine (pt_chain (op_cmp hu o) (op_cmp hu o') ha hb hc hm).imp fun σ H Q ⟨W, s, r, h⟩ => ?_
  refine ⟨W, s, r, h.bind.mono fun x W1 H1 s1 r1 k1 h1 v hv => ?_⟩
  refine ⟨W1, s1, r1, h1.bind.mono fun y W2 H2 s2 r2 k2 h2 u hu' => ?_⟩
  rw [hK]
  cases ec : cmpD o x y with
  | none => rw [ec] at h2; exact h2.elim
  | some t =>
    rw [ec] at h2
    refine st_cmp r2 (hv.keep r1 k2) hu' ec ⟨t, rfl, ?_⟩
    cases t with
    | false =>
      rw [if_neg Bool.false_ne_true]
      obtain ⟨b', e', q'⟩ := h2 W2 H2 r2 (ExK.refl _ _ _ _)
      exact ⟨b', congrArg _ (D.bl.inj e'), q'⟩
    | true =>
      rw [if_pos rfl]
      refine ⟨W2, s2, r2, (EC.bind h2).mono fun z W3 H3 s3 r3 k3 h3 w hw => ?_⟩
      obtain ⟨d, e, q⟩ := h3.opt r3
      cases ec2 : cmpD o' y z with
      | none => rw [ec2] at e; cases e
      | some t2 =>
        rw [ec2] at e
        simp only [Option.map_some, Option.some.injEq] at e
        subst e
        obtain ⟨b', e', q'⟩ := q W3 H3 r3 (ExK.refl _ _ _ _)
        exact st_cmp r3 (hu'.keep r2 k3) hw ec2 ⟨b', congrArg _ (D.bl.inj e'), q'⟩
end
end Vi

/-! V8: further forms of expressions; calls. -/
namespace Vi
open PySem PySem.Spec PyProof.Rows L2
def Md.from : Md → Md → Bool
  | _, .wk => true
  | .fr, .fr => true
  | .wk, _ => false
  | _, .st => true
  | _, .fr => false
section
variable {C : Ct} {E : En} {Wx : WX} {X : Cx} {e a b c : Expr} {es : List Expr} {pos p : Pos} {m ma mb mc : S → RE D} {mes : S → RE (List D)} {md md' : Md} {ms : List Md}
theorem _root_.L2.PE.to (h : PE X e (tE C E Wx m md)) (hf : md.from md' = true) : PE X e (tE C E Wx m md') := by
  cases md' with
  | wk => exact h.wk
  | st => exact h.st (by rintro rfl; cases hf)
  | fr =>
    cases md with
    | fr => exact h
    | st => cases hf
    | wk => cases hf
theorem bl_of {σ : L2.St} {W : Wd} {H H0 : Hp} {s : S} {md : Md} {v : V} {b : Bool} (h : RepM C E H0 W σ H s md v (.bl b)) : v = .bl b := by
  cases md with
  | st => cases h; rfl
  | wk => exact wkBl h
  | fr => cases (show Rep C W v (.bl b) from h); rfl
theorem ne_bl {σ : L2.St} {W : Wd} {H H0 : Hp} {s : S} {md : Md} {v : V} {d : D} {k : Bool} (h : RepM C E H0 W σ H s md v d) (e : v = .bl k) : d = .bl k := by
  subst e
  cases md with
  | st => cases h; rfl
  | wk =>
    rcases h with h | ⟨xs, _, a, vs, e, _⟩
    · cases h; rfl
    · cases e
  | fr =>
    cases d with
    | lst xs => obtain ⟨a, vs, e, _⟩ := h; cases e
    | _ => first | (cases (show Rep C W _ _ from h); rfl) | (cases (show Rep C W _ _ from h))
theorem r_and {rest : List Expr} (ha : PE X a (tE C E Wx ma .wk)) (hb : PE X (.BoolOp .And (b :: rest) pos) (tE C E Wx mb md)) :
    PE X (.BoolOp .And (a :: b :: rest) pos) (tE C E Wx (fun s => (ma s).bind fun x s => match x with
      | .bl true => mb s
      | .bl false => .ok (.bl false) s
      | _ => .stuck) md) := by
  refine (pe_and ha hb).imp fun σ H Q ⟨W, s, r, h⟩ => ?_
  refine ⟨W, s, r, h.bind.mono fun x W1 H1 s1 r1 k1 h1 v hv => ?_⟩
  cases x with
  | bl k =>
    refine ⟨k, wkBl hv, ?_⟩
    cases k with
    | true =>
      rw [if_pos rfl]
      exact ⟨W1, s1, r1, (show EC C E Wx σ W1 H1 s1 _ (mb s1) from h1).mono fun d W2 H2 s2 r2 k2 h2 w hw => h2 w (hw.start k1.k k2.k.le)⟩
    | false =>
      rw [if_neg Bool.false_ne_true]
      refine h1 W1 H1 r1 (ExK.refl _ _ _ _) _ ?_
      cases md with
      | st => exact .bl _
      | wk => exact .inl (.bl _)
      | fr => exact .bl _
  | _ => exact h1.elim
theorem r_or {rest : List Expr} (ha : PE X a (tE C E Wx ma .wk)) (hb : PE X (.BoolOp .Or (b :: rest) pos) (tE C E Wx mb md)) :
    PE X (.BoolOp .Or (a :: b :: rest) pos) (tE C E Wx (fun s => (ma s).bind fun x s => match x with
      | .bl true => .ok (.bl true) s
      | .bl false => mb s
      | _ => .stuck) md) := by
  refine (pe_or ha hb).imp fun σ H Q ⟨W, s, r, h⟩ => ?_
  refine ⟨W, s, r, h.bind.mono fun x W1 H1 s1 r1 k1 h1 v hv => ?_⟩
  cases x with
  | bl k =>
    refine ⟨k, wkBl hv, ?_⟩
    cases k with
    | false =>
      rw [if_neg Bool.false_ne_true]
      exact ⟨W1, s1, r1, (show EC C E Wx σ W1 H1 s1 _ (mb s1) from h1).mono fun d W2 H2 s2 r2 k2 h2 w hw => h2 w (hw.start k1.k k2.k.le)⟩
    | true =>
      rw [if_pos rfl]
      refine h1 W1 H1 r1 (ExK.refl _ _ _ _) _ ?_
      cases md with
      | st => exact .bl _
      | wk => exact .inl (.bl _)
      | fr => exact .bl _
  | _ => exact h1.elim
theorem r_not (ha : PE X a (tE C E Wx ma .wk)) : PE X (.UnaryOp .Not a pos) (tE C E Wx (fun s => (ma s).bind fun x s => match x with
      | .bl b => .ok (.bl (!b)) s
      | _ => .stuck) .st) := by
  refine (pe_not ha).imp fun σ H Q ⟨W, s, r, h⟩ => ?_
  refine ⟨W, s, r, h.bind.mono fun x W1 H1 s1 r1 k1 h1 v hv => ?_⟩
  cases x with
  | bl k => exact ⟨k, wkBl hv, h1 W1 H1 r1 (ExK.refl _ _ _ _) _ (.bl _)⟩
  | _ => exact h1.elim
theorem r_ife (ht : PT X a (tT C E Wx ma)) (hb : PE X b (tE C E Wx mb md)) (hc : PE X c (tE C E Wx mc md)) : PE X (.IfExp a b c pos) (tE C E Wx (fun s => (ma s).bind fun x s => match x with
      | .bl true => mb s
      | .bl false => mc s
      | _ => .stuck) md) := by
  refine (pe_ifExp ht hb hc).imp fun σ H Q ⟨W, s, r, h⟩ => ?_
  refine ⟨W, s, r, h.bind.mono fun x W1 H1 s1 r1 k1 h1 => ?_⟩
  cases x with
  | bl k =>
    refine ⟨k, rfl, ?_⟩
    cases k with
    | true =>
      rw [if_pos rfl]
      exact ⟨W1, s1, r1, (show EC C E Wx σ W1 H1 s1 _ (mb s1) from h1).mono fun d W2 H2 s2 r2 k2 h2 w hw => h2 w (hw.start k1.k k2.k.le)⟩
    | false =>
      rw [if_neg Bool.false_ne_true]
      exact ⟨W1, s1, r1, (show EC C E Wx σ W1 H1 s1 _ (mc s1) from h1).mono fun d W2 H2 s2 r2 k2 h2 w hw => h2 w (hw.start k1.k k2.k.le)⟩
  | _ => exact h1.elim
/-! ### tests -/
theorem t_and {rest : List Expr} (ha : PT X a (tT C E Wx ma)) (hb : PW X (.BoolOp .And (b :: rest) pos) (tT C E Wx mb)) :
    PW X (.BoolOp .And (a :: b :: rest) pos) (tT C E Wx (fun s => (ma s).bind fun x s => match x with
      | .bl true => mb s
      | .bl false => .ok (.bl false) s
      | _ => .stuck)) := by
  refine ⟨fun wh pins s σ H Q I q => (pw_and ha hb).run wh pins s σ H Q I ?_⟩
  obtain ⟨W, s, r, h⟩ := q
  refine ⟨W, s, r, h.bind.mono fun x W1 H1 s1 r1 k1 h1 => ?_⟩
  cases x with
  | bl k =>
    refine ⟨k, rfl, ?_⟩
    cases k with
    | true =>
      rw [if_pos rfl]
      exact ⟨W1, s1, r1, h1⟩
    | false =>
      rw [if_neg Bool.false_ne_true]
      obtain ⟨b', e', q'⟩ := h1 W1 H1 r1 (ExK.refl _ _ _ _)
      cases e'
      exact q'
  | _ => exact h1.elim
theorem t_or {rest : List Expr} (ha : PT X a (tT C E Wx ma)) (hb : PW X (.BoolOp .Or (b :: rest) pos) (tT C E Wx mb)) :
    PW X (.BoolOp .Or (a :: b :: rest) pos) (tT C E Wx (fun s => (ma s).bind fun x s => match x with
      | .bl true => .ok (.bl true) s
      | .bl false => mb s
      | _ => .stuck)) := by
  refine ⟨fun wh pins s σ H Q I q => (pw_or ha hb).run wh pins s σ H Q I ?_⟩
  obtain ⟨W, s, r, h⟩ := q
  refine ⟨W, s, r, h.bind.mono fun x W1 H1 s1 r1 k1 h1 => ?_⟩
  cases x with
  | bl k =>
    refine ⟨k, rfl, ?_⟩
    cases k with
    | false =>
      rw [if_neg Bool.false_ne_true]
      exact ⟨W1, s1, r1, h1⟩
    | true =>
      rw [if_pos rfl]
      obtain ⟨b', e', q'⟩ := h1 W1 H1 r1 (ExK.refl _ _ _ _)
      cases e'
      exact q'
  | _ => exact h1.elim
theorem t_not (ha : PT X a (tT C E Wx ma)) : PT X (.UnaryOp .Not a pos) (tT C E Wx (fun s => (ma s).bind fun x s => match x with
      | .bl b => .ok (.bl (!b)) s
      | _ => .stuck)) := by
  refine (pt_not ha).imp fun σ H Q ⟨W, s, r, h⟩ => ?_
  refine ⟨W, s, r, h.bind.mono fun x W1 H1 s1 r1 k1 h1 => ?_⟩
  cases x with
  | bl k =>
    obtain ⟨b', e', q'⟩ := h1 W1 H1 r1 (ExK.refl _ _ _ _)
    cases e'
    exact ⟨k, rfl, q'⟩
  | _ => exact h1.elim
theorem pt_ifE {c : Expr} {tA t1 t2 : TT} (hc : PT X c tA) (ha : PT X a t1) (hb : PT X b t2) : PT X (.IfExp c a b pos) (fun σ H Q => tA σ H fun k H1 => if k = true then t1 σ H1 Q else t2 σ H1 Q) := by
  refine ⟨fun pins s σ H Q I h => ?_⟩
  rw [arm_isTrue_IfExp]
  refine wpAny_bind (thn (hc.run pins s σ H _ I h) fun k s1 ⟨H1, I1, q1⟩ => ?_)
  cases k with
  | true => exact ha.run pins s1 σ H1 Q I1 q1
  | false => exact hb.run pins s1 σ H1 Q I1 q1
theorem t_ife (ht : PT X a (tT C E Wx ma)) (hb : PT X b (tT C E Wx mb)) (hc : PT X c (tT C E Wx mc)) : PT X (.IfExp a b c pos) (tT C E Wx (fun s => (ma s).bind fun x s => match x with
      | .bl true => mb s
      | .bl false => mc s
      | _ => .stuck)) := by
  refine (pt_ifE ht hb hc).imp fun σ H Q ⟨W, s, r, h⟩ => ?_
  refine ⟨W, s, r, h.bind.mono fun x W1 H1 s1 r1 k1 h1 => ?_⟩
  cases x with
  | bl k =>
    refine ⟨k, rfl, ?_⟩
    cases k with
    | true =>
      rw [if_pos rfl]
      exact ⟨W1, s1, r1, h1⟩
    | false =>
      rw [if_neg Bool.false_ne_true]
      exact ⟨W1, s1, r1, h1⟩
  | _ => exact h1.elim
theorem t_val (ha : PE X a (tE C E Wx ma .wk)) (he : ∀ whole, isTrue a X.env whole = (do let v ← whole; standAt a.pos; holding [v] (truthy v))) : PT X a (tT C E Wx ma) := by
  refine (pt_val ha he).imp fun σ H Q ⟨W, s, r, h⟩ => ?_
  refine ⟨W, s, r, h.mono fun x W1 H1 s1 r1 k1 h1 v hv => ?_⟩
  obtain ⟨b, rfl, q⟩ := h1
  exact ⟨b, wkBl hv, q⟩
/-! ### rows of expressions -/
theorem r_anil : PA X [] (tA C E Wx (fun s => .ok [] s) []) := pa_nil.imp fun σ H Q ⟨W, s, r, h⟩ => h W H r (ExK.refl _ _ _ _) _ .nil
theorem r_acons (ha : PE X e (tE C E Wx m md)) (hr : PA X es (tA C E Wx mes ms)) (hs : starEach (e :: es) X.env = (false, eval e X.env) :: starEach es X.env) :
    PA X (e :: es) (tA C E Wx (fun s => (m s).bind fun x s => (mes s).bind fun xs s => .ok (x :: xs) s) (md :: ms)) := by
  refine (pa_cons ha hr hs).imp fun σ H Q ⟨W, s, r, h⟩ => ?_
  refine ⟨W, s, r, h.bind.mono fun x W1 H1 s1 r1 k1 h1 v hv => ?_⟩
  refine ⟨W1, s1, r1, h1.bind.mono fun xs W2 H2 s2 r2 k2 h2 vs hvs => ?_⟩
  refine h2 W2 H2 r2 (ExK.refl _ _ _ _) _ (.cons (hv.keep r1 k2) (hvs.start k1.k k2.k.le) fun hm hl j u y j1 j2 j3 hy => ?_)
  subst hm
  cases x with
  | lst ys =>
    obtain ⟨a, zs, rfl, ha, _⟩ := (show FrL C E H W1 σ H1 s1 v ys from hv)
    cases y with
    | lst ws =>
      obtain ⟨b, qs, rfl, _, _, _, _, _, hb, _⟩ := (show FrL C E H1 W2 σ H2 s2 u ws from hvs.at j1 j2 j3)
      intro z
      injection z with z
      subst z
      rw [ha] at hb; cases hb
    | _ => cases hy
  | _ => cases hl
theorem r_tup {x1} (h : PA X es (tA C E Wx mes ms)) (hm : ∀ m ∈ ms, m = Md.st) : PE X (.Tuple es x1 pos) (tE C E Wx (fun s => (mes s).bind fun xs s => if xs.length ≤ lim then .ok (.tup xs) s else .stuck) .st) := by
  refine (pe_tup h).imp fun σ H Q ⟨W, s, r, h⟩ => ?_
  refine ⟨W, s, r, h.bind.mono fun xs W1 H1 s1 r1 k1 h1 vs hv => ?_⟩
  have hr := hv.toSt hm
  split at h1
  · rename_i hl
    exact ⟨by rw [hr.length]; exact le_size hl, nx_tup (md := .st) (by decide) r1 (fun W' H' r' k' v hv => h1 W' H' r' k' v hv) hr⟩
  · exact h1.elim
theorem r_lst (h : PA X es (tA C E Wx mes ms)) (hm : ∀ m ∈ ms, m = Md.st) : PE X (.List es pos) (tE C E Wx (fun s => (mes s).bind fun xs s => if xs.length ≤ lim then .ok (.lst xs) s else .stuck) .fr) := by
  refine (pe_lst h).imp fun σ H Q ⟨W, s, r, h⟩ => ?_
  refine ⟨W, s, r, h.bind.mono fun xs W1 H1 s1 r1 k1 h1 vs hv => ?_⟩
  have hr := hv.toSt hm
  split at h1
  · rename_i hl
    exact ⟨by rw [hr.length]; exact le_size hl, nx_lst r1 (fun W' H' r' k' v hv => h1 W' H' r' k' v (hv.start k1.k k'.k.le)) hr⟩
  · exact h1.elim
theorem r_ix (ha : PE X a (tE C E Wx ma .wk)) (hb : PE X b (tE C E Wx mb .wk)) (hs : PlainIx b) (hK : X.K = C.K) : PE X (.Subscript a b pos) (tE C E Wx (fun s => (ma s).bind fun x s => (mb s).bind fun y s => .opt (ixD x y s.rg) s) .st) := by
  refine (pe_ix ix_seq ha hb hs).imp fun σ H Q ⟨W, s, r, h⟩ => ?_
  refine ⟨W, s, r, h.bind.mono fun x W1 H1 s1 r1 k1 h1 v hv => ?_⟩
  refine ⟨W1, s1, r1, h1.bind.mono fun y W2 H2 s2 r2 k2 h2 u hu => ?_⟩
  obtain ⟨d, e, q⟩ := h2.opt r2
  rw [hK]
  exact st_ix r2 (hv.keep r1 k2) hu e q
def tO (C : Ct) (E : En) (Wx : WX) (m : S → RE (Option Int)) : TO := fun σ H Q => ∃ W s, StR C E W σ H s ∧ EC C E Wx σ W H s (fun o _ H' _ => Q o H') (m s)
theorem _root_.L2.PO.imp {e : Option Expr} {t t' : TO} (h : PO X e t) (f : ∀ σ H Q, t' σ H Q → t σ H Q) : PO X e t' := ⟨fun pins s σ H Q I q => h.run pins s σ H Q I (f σ H Q q)⟩
theorem r_onone : PO X none (tO C E Wx (fun s => .ok none s)) := po_none.imp fun σ H Q ⟨W, s, r, h⟩ => h W H r (ExK.refl _ _ _ _)
theorem r_osome (ha : PE X e (tE C E Wx m .wk)) : PO X (some e) (tO C E Wx (fun s => (m s).bind fun x s => match x with
    | .int i => .ok (some i) s
    | _ => .stuck)) := by
  refine (po_some ha).imp fun σ H Q ⟨W, s, r, h⟩ => ?_
  refine ⟨W, s, r, h.bind.mono fun x W1 H1 s1 r1 k1 h1 v hv => ?_⟩
  cases x with
  | int i => exact ⟨i, wkInt hv, h1 W1 H1 r1 (ExK.refl _ _ _ _)⟩
  | _ => exact h1.elim
theorem r_sl {lo hi : Option Expr} {ml mh : S → RE (Option Int)} {p2 : Pos} (ha : PE X a (tE C E Wx ma .wk)) (hl : PO X lo (tO C E Wx ml)) (hh : PO X hi (tO C E Wx mh)) (hK : X.K = C.K) :
    PE X (.Subscript a (.Slice lo hi none p2) pos) (tE C E Wx (fun s => (ma s).bind fun x s => (ml s).bind fun l s => (mh s).bind fun h s => .opt (cutD x l h) s) .fr) := by
  refine (pe_slice sl_any ha hl hh).imp fun σ H Q ⟨W, s, r, h⟩ => ?_
  refine ⟨W, s, r, h.bind.mono fun x W1 H1 s1 r1 k1 h1 v hv => ?_⟩
  refine ⟨W1, s1, r1, h1.bind.mono fun l W2 H2 s2 r2 k2 h2 => ?_⟩
  refine ⟨W2, s2, r2, h2.bind.mono fun u W3 H3 s3 r3 k3 h3 => ?_⟩
  obtain ⟨d, e, q⟩ := h3.opt r3
  rw [hK]
  have k13 := k2.trans r2 k3
  exact st_sl r3 (hv.keep r1 k13) e fun W' H' r' k' w hw => q W' H' r' k' w (hw.start (k1.k.trans k13.k) k'.k.le)
theorem r_rev {k : Nat} {p1 p2 p3 : Pos} (ha : PE X a (tE C E Wx ma .wk)) : PE X (.Subscript a (.Slice none none (some (.UnaryOp .USub (.Constant (.int 1) k p1) p2)) p3) pos) (tE C E Wx (fun s => (ma s).bind fun x s => .opt (revD x) s) .fr) := by
  refine (pe_revL ha).imp fun σ H Q ⟨W, s, r, h⟩ => ?_
  refine ⟨W, s, r, h.bind.mono fun x W1 H1 s1 r1 k1 h1 v hv => ?_⟩
  obtain ⟨d, e, q⟩ := h1.opt r1
  cases x with
  | lst xs =>
    simp only [revD, Option.some.injEq] at e
    subst e
    obtain ⟨a, vs, rfl, ha, ra⟩ := wkLst r1 hv
    exact ⟨a, vs, rfl, SqL.of ha, nx_lst r1 (fun W' H' r' k' w hw => q W' H' r' k' w (hw.start k1.k k'.k.le)) ra.reverse⟩
  | _ => cases e
/-! ### built-ins -/
theorem RepsM.wks {σ : L2.St} {W : Wd} {H H0 H1 : Hp} {s : S} (r : StR C E W σ H s) {vs : List V} {ds : List D} (h : RepsM C E H0 W σ H s ms vs ds) : Wks C E H1 W σ H s vs ds := by
  induction h with
  | nil => exact .nil
  | cons a b _ ih => exact .cons (RepM.wk_of r a) ih
theorem r_blt {b : Blt} (hc : X.calm = true) (hg : Gl X (bName b)) (hm : X.mg (bName b) = none) (ha : PA X (e :: es) (tA C E Wx mes ms)) (hb : ∀ t, b ≠ .isi t)
    (hx : starEach (e :: es) X.env = (false, eval e X.env) :: starEach es X.env) (hpl : (backTo pos (starEach es X.env)).any (·.1) = false) (hK : X.K = C.K) :
    PE X (.Call (.Name (bName b) p) (e :: es) [] pos) (tE C E Wx (fun s => (mes s).bind fun xs s => .opt (bltD b xs s.rg) s) .fr) := by
  refine (pe_blt hc hg hm ha hb hx hpl).imp fun σ H Q ⟨W, s, r, h⟩ => ?_
  refine ⟨W, s, r, h.bind.mono fun xs W1 H1 s1 r1 k1 h1 vs hv => ?_⟩
  obtain ⟨d, e, q⟩ := h1.opt r1
  rw [hK]
  exact st_blt (H0 := H) r1 (hv.wks r1) e hb fun W' H' r' k' w hw => q W' H' r' k' w (hw.start k1.k k'.k.le)
theorem r_isi {t : String} {pt : Pos} (ht : t ∈ tyNames) (hg : Gl X "isinstance") (hm : X.mg "isinstance" = none) (hg2 : Gl X (Str.ofString t)) (hm2 : X.mg (Str.ofString t) = none) (ha : PE X a (tE C E Wx ma .wk)) (hK : X.K = C.K)
    (hx : starEach [a, .Name (Str.ofString t) pt] X.env = (false, eval a X.env) :: starEach [.Name (Str.ofString t) pt] X.env) :
    PE X (.Call (.Name "isinstance" p) [a, .Name (Str.ofString t) pt] [] pos) (tE C E Wx (fun s => ((ma s).bind fun x s => RE.bind (.ok [] s) fun xs s => .ok (x :: xs) s).bind fun xs s => .opt (bltD (.isi t) xs s.rg) s) .st) := by
  obtain ⟨b1, b2, b3⟩ := boot_ty ht
  refine (pe_callB call_isi hg hm (by decide +kernel) (pa_cons ha (pa_cons (pe_bltn (v := .ty t) hg2 hm2 b1 rfl b2 b3) pa_nil) hx) (by decide) (by decide) hx (by rfl)).imp fun σ H Q ⟨W, s, r, h⟩ => ?_
  refine ⟨W, s, r, h.bind.bind.mono fun x W1 H1 s1 r1 k1 h1 v hv => ?_⟩
  have h2 : EC C E Wx σ W1 H1 s1 (fun d W' H' s' => ∀ v, RepM C E H W' σ H' s' .st v d → Q v H') (.opt (bltD (.isi t) [x] s1.rg) s1) := (show EC C E Wx σ W1 H1 s1 _ (.ok [x] s1) from h1) W1 H1 r1 (ExK.refl _ _ _ _)
  obtain ⟨d, e, q⟩ := h2.opt r1
  simp only [bltD] at e
  split at e
  · rename_i b eb
    injection e with e; subst e
    obtain ⟨T, hT, hk⟩ := wkTy r1 hv ht eb
    refine ⟨v, .ty t, .type T, .type t, b, rfl, .ty t, by rw [hK]; exact hT, kit_ty hk, q W1 H1 r1 (ExK.refl _ _ _ _) _ (.bl _)⟩
  · cases e
/-! ### calls -/
/-- what is fresh to the callee's world was fresh in the heap -/

def TabW (C : Ct) (W : Wd) (H : Hp) : Prop := W.T = C.T ∧ LamX.Tabs W.T H ∧ ∀ p ∈ W.T, W.G p.1 = none
def spC (C : Ct) (cl : Cl) (k np : Nat) : Sp := fun vs H Q Ek => vs.length = np ∧ ∃ W ds r, TabW C W H ∧ Same W.G H ∧ RgR W H r ∧ Reps C W vs ds ∧
  match cl k ds r with
  | .ok d r' => ∀ W' H' v, Keep W H W' H' → (∀ b, W.G b = none → W'.G b ≠ none → H b = none) → Same W'.G H' → RgR W' H' r' → Rep C W' v d → Q v H'
  | .exc e r' => ∀ W' H' cls dx, Keep W H W' H' → (∀ b, W.G b = none → W'.G b ≠ none → H b = none) → Same W'.G H' → RgR W' H' r' → ExR C W' H' cls dx e → Ek cls dx H'
  | .stuck => False
theorem StR.call {σ : L2.St} {W W' : Wd} {H H' : Hp} {s : S} {r' : Rng} (r : StR C E W σ H s) (k : Keep W H W' H') (g : ∀ b, W.G b = none → W'.G b ≠ none → H b = none) (sm : Same W'.G H') (rg : RgR W' H' r') :
    StR C E W' σ H' { s with rg := r' } ∧ ExK σ W H s W' H' { s with rg := r' } := by
  have hn : ∀ b, InSt W' b → InSt W b ∨ H b = none := fun b ⟨x, c, e, hb⟩ => by
    rcases k.sn _ e with z | ⟨z1, z2⟩
    · exact .inl ⟨x, c, z, hb⟩
    · rcases hb with rfl | rfl
      · exact .inr z1
      · exact .inr z2
  refine ⟨⟨r.kp.trans k, fun b h1 h2 => ?_, sm, rg, r.len, fun i x h => ?_, r.nd, fun i a o e => ?_, fun p hp => ?_, r.lo.trans k.le⟩, ⟨k, fun b h1 h2 => .inl (g b h1 h2), fun _ h => h, fun _ h => h⟩⟩
  · by_cases h3 : W.G b = none
    · exact (r.free0 (g b h3 h2)).1
    · exact r.fr b h1 h3
  · refine (r.sl i x h).move k.le (fun b u hb ns nt => k.kp0 b u hb (k.notSt hb ns) nt) hn (fun a ho e => (r.ow i a ⟨x, h, ho⟩ e).2.2)
  · obtain ⟨o1, o2, o3⟩ := r.ow i a o e
    obtain ⟨a', vs, xs, e1, h1, _⟩ := own_ref r o
    rw [e] at e1
    injection e1 with e1
    injection e1 with e1
    injection e1 with e1
    subst e1
    refine ⟨?_, o2, k.notSt h1 o3⟩
    cases q : W'.G a with
    | none => rfl
    | some u =>
      have := g a o1 (by rw [q]; intro z; cases z)
      rw [h1] at this; cases this
  · obtain ⟨ys, b1, b2, b3⟩ := r.pr p hp
    obtain ⟨_, _, o3⟩ := r.ow p.1 p.2.1 ⟨_, b1, rfl⟩ b2
    exact ⟨ys, b1, b2, k.kp _ _ b3 (k.notSt b3 o3)⟩
/-- a callee that may be called -/
structure CalC (C : Ct) (X : Cx) (cl : Cl) (k : Nat) : Prop where
  ex : ∃ (fd : FuncData) (ps : List Str) (n : Nat), FnOk X.prog X.w X.K X.mg X.base (L2.CX X.prog X.w) n (C.fA k) fd ps (spC C cl k ps.length) ∧ Room n X.A ∧ PySem.W.keepIn X.K (.ref (C.fA k)) = true ∧ Binds X.K fd ps []
theorem pe_callS0 {CX : CXT} {k : Nat} {f : Addr} {fd : FuncData} {ps : List Str} {sp : Sp} {E : L2.St → XK} {x : Str} (F : FnOk X.prog X.w X.K X.mg X.base CX k f fd ps sp) (hr : Room k X.A) (hg : Gl X x) (hm : X.mg x = some (.ref f)) (hk : PySem.W.keepIn X.K (.ref f) = true) (hb : Binds X.K fd ps [])
    (hx : ∀ σ, PassesAt CX X σ (E σ)) (hdb : (x == ("__debug__" : Str)) = false) : PE X (.Call (.Name x p) [] [] pos) (tCallS sp E tNil) := by
  refine ⟨fun pins s σ H Q I h => ?_⟩
  refine wpAny_Call_Name_kw (ld_glob I hg hm ?_ hdb)
  exact PySem.W.callWith_K0 I.kIn hk (run_fnS (us := []) F hr hb (hx σ) I .nil h)
def TaOk (C : Ct) (E : En) : Prop := TabW C E.W E.H
theorem StR.tabs {σ : L2.St} {W : Wd} {H : Hp} {s : S} (r : StR C E W σ H s) (ta : TaOk C E) : TabW C W H := by
  refine ⟨r.kp.le.t.trans ta.1, r.kp.le.t ▸ r.kp.tt.tb ta.2.1, fun p hp => ?_⟩
  have hp' : p ∈ E.W.T := r.kp.le.t ▸ hp
  cases q : W.G p.1 with
  | none => rfl
  | some o =>
    obtain ⟨ps, h1, _⟩ := ta.2.1 p hp'
    have h2 := r.fr p.1 (ta.2.2 p hp') (by rw [q]; intro z; cases z)
    rw [h1] at h2; cases h2
theorem call_go {cl : Cl} {k np : Nat} {σ : L2.St} {W : Wd} {H H0 : Hp} {s : S} {Q : VK} {vs : List V} {ds : List D} (ta : TaOk C E) (r : StR C E W σ H s) (hv : Reps C W vs ds) (hn : vs.length = np)
    (h : EC C E Wx σ W H s (fun d W' H' s' => ∀ v, RepM C E H0 W' σ H' s' .st v d → Q v H') (match cl k ds s.rg with
      | .ok d r => .ok d { s with rg := r }
      | .exc e r => .exc e { s with rg := r }
      | .stuck => .stuck)) : spC C cl k np vs H Q (WE Wx σ) := by
  refine ⟨hn, W, ds, s.rg, r.tabs ta, r.gh, r.rg, hv, ?_⟩
  cases q : cl k ds s.rg with
  | ok d r' =>
    rw [q] at h
    intro W' H' v kp g sm rg hr
    obtain ⟨r1, k1⟩ := r.call kp g sm rg
    exact h W' H' r1 k1 v hr
  | exc e r' =>
    rw [q] at h
    intro W' H' cls dx kp g sm rg hr
    obtain ⟨r1, k1⟩ := r.call kp g sm rg
    exact h W' H' cls dx r1 hr
  | stuck => rw [q] at h; exact h.elim
theorem r_call {cl : Cl} {k n : Nat} {x : Str} {fd : FuncData} {ps : List Str} (ta : TaOk C E) (F : FnOk X.prog X.w X.K X.mg X.base (L2.CX X.prog X.w) n (C.fA k) fd ps (spC C cl k ps.length)) (hr : Room n X.A) (hk : PySem.W.keepIn X.K (.ref (C.fA k)) = true) (hb : Binds X.K fd ps [])
    (hg : Gl X x) (hm : X.mg x = some (.ref (C.fA k))) (tk : Takes X Wx) (hdb : (x == ("__debug__" : Str)) = false) (ha : PA X (e :: es) (tA C E Wx mes ms)) (hms : ∀ m ∈ ms, m = Md.st)
    (he : starEach (e :: es) X.env = (false, eval e X.env) :: starEach es X.env) (hpl : (backTo pos (starEach es X.env)).any (·.1) = false) (hn : (e :: es).length = ps.length) (hl : ∀ s ds s', mes s = .ok ds s' → ds.length = (e :: es).length) :
    PE X (.Call (.Name x p) (e :: es) [] pos) (tE C E Wx (fun s => (mes s).bind fun xs s => match cl k xs s.rg with
      | .ok d r => .ok d { s with rg := r }
      | .exc e r => .exc e { s with rg := r }
      | .stuck => .stuck) .st) := by
  refine (pe_callS (E := WE Wx) F hr hg hm hk hb (fun σ => passAt tk σ) ha hdb he hpl).imp fun σ H Q ⟨W, s, r, h⟩ => ?_
  refine ⟨W, s, r, ?_⟩
  change EC C E Wx σ W H s _ ((mes s).bind _) at h
  cases q : mes s with
  | stuck => rw [q] at h; exact h
  | exc e s' => rw [q] at h; exact h
  | ok ds s' =>
    have hl' := hl s ds s' q
    rw [q] at h
    have h' := EC.bind (r := .ok ds s') h
    refine (show EC C E Wx σ W H s _ (.ok ds s') from fun W1 H1 r1 k1 vs hv => ?_)
    have hr := hv.toSt hms
    exact call_go ta r1 hr (by rw [hr.length, hl']; exact hn) (h' W1 H1 r1 k1)
theorem r_call0 {cl : Cl} {k n : Nat} {x : Str} {fd : FuncData} {ps : List Str} (ta : TaOk C E) (F : FnOk X.prog X.w X.K X.mg X.base (L2.CX X.prog X.w) n (C.fA k) fd ps (spC C cl k ps.length)) (hr : Room n X.A) (hk : PySem.W.keepIn X.K (.ref (C.fA k)) = true) (hb : Binds X.K fd ps [])
    (hg : Gl X x) (hm : X.mg x = some (.ref (C.fA k))) (tk : Takes X Wx) (hdb : (x == ("__debug__" : Str)) = false) (hn : 0 = ps.length) :
    PE X (.Call (.Name x p) [] [] pos) (tE C E Wx (fun s => RE.bind (.ok [] s) fun xs s => match cl k xs s.rg with
      | .ok d r => .ok d { s with rg := r }
      | .exc e r => .exc e { s with rg := r }
      | .stuck => .stuck) .st) := by
  refine (pe_callS0 (E := WE Wx) F hr hg hm hk hb (fun σ => passAt tk σ) hdb).imp fun σ H Q ⟨W, s, r, h⟩ => ?_
  exact call_go ta r .nil hn h
/-! ### calls that are lent owned lists -/
mutual
theorem Rep.flatG {C : Ct} {W W2 : Wd} (h : ∀ a o, W.G a = some o → (∀ vs, o ≠ .lst vs) → W2.G a = some o) : ∀ {v : V} {d : D}, flat d = true → Rep C W v d → Rep C W2 v d
  | _, _, _, .non => .non
  | _, _, _, .bl b => .bl b
  | _, _, _, .int i => .int i
  | _, _, _, .str x => .str x
  | _, .tup ds, f, .tup q r => .tup (by
      rcases q with (q | ⟨o, q⟩) | q
      · exact .inl (.inl (h _ _ q (by intro vs z; cases z)))
      · exact .inl (.inr ⟨o, h _ _ q (by intro vs z; cases z)⟩)
      · exact .inr q) (Reps.flatG h (by simpa [flat] using f) r)
  | _, .lst _, f, .lst _ _ => by simp [flat] at f
  | _, .scr _, f, .scr _ => by simp [flat] at f
  | _, .tok, f, .tok _ => by simp [flat] at f
  | _, .cel, f, .cel _ => by simp [flat] at f
  | _, _, _, .fn k => .fn k
theorem Reps.flatG {C : Ct} {W W2 : Wd} (h : ∀ a o, W.G a = some o → (∀ vs, o ≠ .lst vs) → W2.G a = some o) : ∀ {vs : List V} {ds : List D}, flats ds = true → Reps C W vs ds → Reps C W2 vs ds
  | _, _, _, .nil => .nil
  | _, d :: ds, f, .cons a b => by
    simp only [flats, Bool.and_eq_true] at f
    exact .cons (Rep.flatG h f.1 a) (Reps.flatG h f.2 b)
end
/-- a world in which the arguments are locked -/
theorem lend_world {σ : L2.St} {W : Wd} {H H0 : Hp} {s : S} (r : StR C E W σ H s) : ∀ {vs : List V} {ds : List D}, Wks C E H0 W σ H s vs ds → ∃ W1, Le W W1 ∧ W1.st = W.st ∧ Same W1.G H ∧ Reps C W1 vs ds ∧ (∀ b, InSt W b → W1.G b = none) ∧ (∀ b o, W1.G b = some o → W.G b = some o ∨ ∃ vs, o = .lst vs)
  | _, _, .nil => ⟨W, Le.refl W, rfl, r.gh, .nil, fun b hb => (r.stAt hb).choose_spec.2, fun b o h => .inl h⟩
  | _, _, .cons (v := v) (d := d) a b => by
    obtain ⟨W1, l, st, sm, rp, ns, nl⟩ := lend_world r b
    rcases a with a | ⟨xs, rfl, p, us, rfl, hp, hr, hn⟩
    · exact ⟨W1, l, st, sm, .cons (a.mono l) rp, ns, nl⟩
    · by_cases g : W1.G p = none
      · have l2 := Wd.add_le (o := .lst us) g
        refine ⟨W1.add p (.lst us), l.trans l2, st, fun b u hb => ?_, .cons (.lst add_at ((hr.mono l).mono l2)) (rp.mono l2), fun b hb => ?_, fun b o hb => ?_⟩
        · have hb : upd W1.G p (.lst us) b = some u := hb
          by_cases q : b = p
          · subst q; rw [upd_same] at hb; cases hb; exact hp
          · rw [upd_ne q] at hb; exact sm b u hb
        · show upd W1.G p (.lst us) b = none
          rw [upd_ne]
          · exact ns b hb
          · rintro rfl; exact hn hb
        · have hb : upd W1.G p (.lst us) b = some o := hb
          by_cases q : b = p
          · subst q; rw [upd_same] at hb; cases hb; exact .inr ⟨us, rfl⟩
          · rw [upd_ne q] at hb; exact nl b o hb
      · have e : W1.G p = some (.lst us) := by
          cases q : W1.G p with
          | none => exact absurd q g
          | some o =>
            have := sm p o q
            rw [hp] at this
            rw [this]
        exact ⟨W1, l, st, sm, .cons (.lst e (hr.mono l)) rp, ns, nl⟩
/-- what stays of a world when the loan ends -/
def Wd.back (W W1 : Wd) : Wd := ⟨fun b => match W1.G b with
  | some (.lst _) => W.G b
  | x => x, W1.st, W1.T⟩
theorem back_le {W W1 : Wd} (l : Le W W1) : Le W (W.back W1) ∧ Le (W.back W1) W1 := by
  refine ⟨⟨fun b u h => ?_, l.s, l.t⟩, ⟨fun b u h => ?_, fun _ h => h, rfl⟩⟩
  · have q := l.g b u h
    show (match W1.G b with | some (.lst _) => W.G b | x => x) = some u
    rw [q]
    cases u <;> first | rfl | exact h
  · have h : (match W1.G b with | some (.lst _) => W.G b | x => x) = some u := h
    split at h
    · exact l.g b u h
    · exact h
theorem back_at {W W1 : Wd} {b : Addr} {o : HO} (h : W1.G b = some o) (n : ∀ vs, o ≠ .lst vs) : (W.back W1).G b = some o := by
  show (match W1.G b with | some (.lst _) => W.G b | x => x) = some o
  rw [h]
  cases o <;> first | rfl | exact absurd rfl (n _)
theorem back_none {W W1 : Wd} {b : Addr} (h : W1.G b = none) : (W.back W1).G b = none := by
  show (match W1.G b with | some (.lst _) => W.G b | x => x) = none
  rw [h]
theorem StR.lent {σ : L2.St} {W W1 W' : Wd} {H H' : Hp} {s : S} {r' : Rng} (r : StR C E W σ H s) (l : Le W W1) (st : W1.st = W.st) (nl : ∀ b o, W1.G b = some o → W.G b = some o ∨ ∃ vs, o = .lst vs) (k : Keep W1 H W' H') (g : ∀ b, W1.G b = none → W'.G b ≠ none → H b = none) (sm : Same W'.G H') (rg : RgR W' H' r') :
    StR C E (W.back W') σ H' { s with rg := r' } ∧ ExK σ W H s (W.back W') H' { s with rg := r' } := by
  have lw := l.trans k.le
  obtain ⟨b1, b2⟩ := back_le lw
  refine r.call ⟨b1, k.kp0, fun p h => ?_, l.t ▸ k.tt⟩ (fun b h1 h2 => ?_) (fun b u h => sm b u (b2.g b u h)) ?_
  · rcases k.sn p h with z | z
    · rw [st] at z; exact .inl z
    · exact .inr z
  · cases q : W'.G b with
    | none => exact absurd (back_none q) h2
    | some o =>
      cases q1 : W1.G b with
      | none => exact g b q1 (by rw [q]; intro z; cases z)
      | some o1 =>
        exfalso
        have e := k.le.g b o1 q1
        rcases nl b o1 q1 with z | ⟨us, rfl⟩
        · rw [h1] at z; cases z
        · apply h2
          show (match W'.G b with | some (.lst _) => W.G b | x => x) = none
          rw [e]
          exact h1
  · cases r' with
    | none => exact rg
    | some pc =>
      obtain ⟨p, cs⟩ := pc
      obtain ⟨x, c, e, z1, z2, g1, g2⟩ := rg
      exact ⟨x, c, e, z1, z2, back_none g1, back_none g2⟩
theorem lend_go {cl : Cl} {k np : Nat} {σ : L2.St} {W : Wd} {H H0 H1 : Hp} {s : S} {Q : VK} {vs : List V} {ds : List D} (ta : TaOk C E) (r : StR C E W σ H s) (hv : Wks C E H1 W σ H s vs ds) (hn : vs.length = np)
    (h : EC C E Wx σ W H s (fun d W' H' s' => ∀ v, RepM C E H0 W' σ H' s' .st v d → Q v H') (match cl k ds s.rg with
      | .ok d r => if flat d then .ok d { s with rg := r } else .stuck
      | .exc e r => if flats e.fs then .exc e { s with rg := r } else .stuck
      | .stuck => .stuck)) : spC C cl k np vs H Q (WE Wx σ) := by
  obtain ⟨W1, l, st, sm, rp, ns, nl⟩ := lend_world r hv
  have tw : TabW C W1 H := by
    obtain ⟨t1, t2, t3⟩ := r.tabs ta
    refine ⟨by rw [l.t]; exact t1, by rw [l.t]; exact t2, fun p hp => ?_⟩
    rw [l.t] at hp
    cases q : W1.G p.1 with
    | none => rfl
    | some o =>
      rcases nl _ _ q with z | ⟨us, rfl⟩
      · rw [t3 p hp] at z; cases z
      · obtain ⟨ps, h1, _⟩ := t2 p hp
        rw [sm _ _ q] at h1; cases h1
  refine ⟨hn, W1, ds, s.rg, tw, sm, r.rg.same st (fun _ _ => rfl) (fun b hb => by rw [ns b hb, (r.stAt hb).choose_spec.2]), rp, ?_⟩
  have key : ∀ (W' : Wd) (a : Addr) (o : HO), W'.G a = some o → (∀ vs, o ≠ .lst vs) → (W.back W').G a = some o := fun W' a o h n => back_at h n
  cases q : cl k ds s.rg with
  | ok d r' =>
    rw [q] at h
    simp only [] at h
    split at h
    · rename_i f
      intro W' H' v kp g sm' rg hr
      obtain ⟨r1, k1⟩ := r.lent l st nl kp g sm' rg
      exact h _ H' r1 k1 v (Rep.flatG (key W') f hr)
    · exact h.elim
  | exc e r' =>
    rw [q] at h
    simp only [] at h
    split at h
    · rename_i f
      intro W' H' cls dx kp g sm' rg hr
      obtain ⟨r1, k1⟩ := r.lent l st nl kp g sm' rg
      obtain ⟨c1, a, us, c2, c3, c4, c5, c6⟩ := hr
      exact h _ H' cls dx r1 ⟨c1, a, us, c2, c3, Reps.flatG (key W') f c4, c5, c6⟩
    · exact h.elim
  | stuck => rw [q] at h; exact h.elim
theorem Wks.length {σ : L2.St} {W : Wd} {H H0 : Hp} {s : S} : ∀ {vs : List V} {ds : List D}, Wks C E H0 W σ H s vs ds → vs.length = ds.length
  | _, _, .nil => rfl
  | _, _, .cons _ b => congrArg (· + 1) (Wks.length b)
theorem r_lend {cl : Cl} {k n : Nat} {x : Str} {fd : FuncData} {ps : List Str} (ta : TaOk C E) (F : FnOk X.prog X.w X.K X.mg X.base (L2.CX X.prog X.w) n (C.fA k) fd ps (spC C cl k ps.length)) (hr : Room n X.A) (hk : PySem.W.keepIn X.K (.ref (C.fA k)) = true) (hb : Binds X.K fd ps [])
    (hg : Gl X x) (hm : X.mg x = some (.ref (C.fA k))) (tk : Takes X Wx) (hdb : (x == ("__debug__" : Str)) = false) (ha : PA X (e :: es) (tA C E Wx mes ms))
    (he : starEach (e :: es) X.env = (false, eval e X.env) :: starEach es X.env) (hpl : (backTo pos (starEach es X.env)).any (·.1) = false) (hn : (e :: es).length = ps.length) (hl : ∀ s ds s', mes s = .ok ds s' → ds.length = (e :: es).length) :
    PE X (.Call (.Name x p) (e :: es) [] pos) (tE C E Wx (fun s => (mes s).bind fun xs s => match cl k xs s.rg with
      | .ok d r => if flat d then .ok d { s with rg := r } else .stuck
      | .exc e r => if flats e.fs then .exc e { s with rg := r } else .stuck
      | .stuck => .stuck) .st) := by
  refine (pe_callS (E := WE Wx) F hr hg hm hk hb (fun σ => passAt tk σ) ha hdb he hpl).imp fun σ H Q ⟨W, s, r, h⟩ => ?_
  refine ⟨W, s, r, ?_⟩
  change EC C E Wx σ W H s _ ((mes s).bind _) at h
  cases q : mes s with
  | stuck => rw [q] at h; exact h
  | exc e s' => rw [q] at h; exact h
  | ok ds s' =>
    have hl' := hl s ds s' q
    rw [q] at h
    have h' := EC.bind (r := .ok ds s') h
    refine (show EC C E Wx σ W H s _ (.ok ds s') from fun W1 H1 r1 k1 vs hv => ?_)
    have hw : Wks C E H1 W1 σ H1 s' vs ds := hv.wks r1
    exact lend_go ta r1 hw (by rw [hw.length, hl']; exact hn) (h' W1 H1 r1 k1)
end
end Vi

/-! VL: sorted by a key that a lambda reads off each row. -/
namespace Vi
open PySem PySem.Spec PyProof.Rows L2
/-- the lambda that reads the item n of its row -/
structure LamR (params : Arguments) (body : Expr) (scope : Scope) (n : Nat) : Prop where
  kind : scope.kind = .function
  co : scope.isCoroutine = false
  gen : scope.isGenerator = false
  ex : ∃ (x : Str) (kd : Nat) (p1 p2 p3 : Pos), body = .Subscript (.Name x p1) (.Constant (.int (n : Int)) kd p2) p3 ∧ scope.names = [(x, .local)] ∧ (x == ("__debug__" : Str)) = false ∧
    ∀ (q : Str) (sc : Scope) (cl : List (Str × Addr)) (pm cv ctv v : Value), bindArgs (PySem.W.kla_fn "<lambda>" q params body sc cl pm cv ctv) ⟨[v], []⟩ = pure [(x, v)]
section
variable {prog : Program} {w : World} {A : Around} {s : Shared}
theorem lam_turn {params : Arguments} {body : Expr} {scope : Scope} {n : Nat} (L : LamR params body scope n) {f c' : Addr} {q : Str} {cl : List (Str × Addr)} {pm ctv : Value} {t : Addr} {items : Array Value} {k : Int} {tk : Tok}
    (hf : s.heap.get? f = some (PySem.W.kla_obj "<lambda>" q params body scope cl pm c' ctv)) (hcd : s.heap.CodeRec (.ref c') q) (hl : s.heap.NoLimit) (hr : A.depth < recursionLimit)
    (ht : IsTup s.heap t items) (hi : items[n]? = some (.int k tk)) (hn : n < 1000) (hz : items.size ≤ 16777216) :
    wpAny (model prog w) A (call (.ref f) [.ref t]) (PySem.W.KeyPure (.int k) s) (fun _ _ => False) s := by
  obtain ⟨x, kd, p1, p2, p3, rfl, hnm, hx, hb⟩ := L.ex
  have hlk : scope.names.lookup x = some .local := by rw [hnm]; simp [List.lookup]
  have hd := hx
  have rc : codeAny (model prog w) A (.call (.ref f) ⟨[.ref t], []⟩) (fun r s' => ∃ v, r = .ok (.ret v) ∧ PySem.W.KeyPure (.int k) s v s') s := by
    refine PySem.W.kla_callFunE hr hf rfl L.co L.gen rfl hcd ?_
    rw [hb]
    refine wpAny_pure (wpAny_newFunctionEnv (fun y hy => by rw [hnm] at hy; simp only [List.mem_singleton] at hy; subst hy; intro z; cases z) (fun y hy => by
      simp only [List.mem_singleton] at hy
      subst hy; exact hlk) (fun h₁ hns hsb => ⟨hl.fresh _ hsb, ?_⟩) L.kind)
    have kp : ∀ b o, s.heap.get? b = some o → h₁.get? b = some o := fun b o e => hsb.extBut b o (Nat.ne_of_lt (Heap.lt_size e)) (Heap.get?_push_of_some _ e)
    refine PySem.W.kla_codeExpr (wpAny_Subscript_Constant_late ?_)
    refine wpAny_Name (wpAny_loadName_local (m := fun y => [(x, Value.ref t)].reverse.lookup y) (v := .ref t) L.kind hlk hns (by simp [List.lookup]) ?_) hd
    refine wpAny_Constant_int ?_
    refine ⟨"tuple", _, slot_tuple_getitem.lookup, (ht.keeps kp).typeIs, ?_⟩
    have hlt : n < items.size := by
      rcases Nat.lt_or_ge n items.size with h | h
      · exact h
      · rw [Array.getElem?_eq_none h] at hi; cases hi
    refine PyProof.Rows.getItem_tuple (ht.keeps kp) (by omega) (by omega) (j := n) ?_ hi ?_
    · rw [seqIndex_of (by omega) (by omega)]
      simp
    · exact ⟨_, rfl, h₁, _, rfl, kp, .int k tk⟩
  refine wpAny_call (codeAny_mono rc fun r s' hq => ?_)
  obtain ⟨v, rfl, h⟩ := hq
  exact h
/-- a list or a tuple -/
def SqAt (h : Heap) (l : Addr) (vs : List Value) : Prop := ∃ (o : Obj) (n : Nat), h.get? l = some o ∧ (o.cls = .type "list" ∨ o.cls = .type "tuple") ∧ o.data = .seq vs.toArray n
theorem gather {E : Value → Shared → Prop} {l : Addr} {vs : List Value} {Q : List Value → Shared → Prop} (hl : SqAt s.heap l vs) (hsz : vs.length ≤ sizeLine)
    (h : Q vs { s with heap := (s.heap.push (seqObj "list" #[] 0)).update s.heap.objs.size (Obj.mapSeq (· ++ vs.toArray)) }) : wpAny (model prog w) A (collect (.ref l)) Q E s := by
  obtain ⟨o, n, ho, hc, hd⟩ := hl
  have hN : (s.heap.push (seqObj "list" #[] 0)).get? s.heap.objs.size = some (seqObj "list" #[] 0) := Heap.get?_push_size _ rfl
  have hp : (s.heap.push (seqObj "list" #[] 0)).get? l = some o := Heap.get?_push_of_some _ ho
  have sz : ((#[] : Array Value) ++ vs.toArray).size ≤ sizeLine + 1 := by
    rw [Array.size_append]
    have : vs.toArray.size = vs.length := by simp
    rw [this]
    show 0 + _ ≤ _
    omega
  have gate : ∀ {T : String} {R : PySem.Fin → Shared → Prop} {E2 : Value → Shared → Prop} {A2 : Around}, o.cls = .type T → (Value.type T == Value.type "list" || Value.type T == Value.type "tuple") = true → R (.done (.ret (.ref s.heap.objs.size))) { s with heap := (s.heap.push (seqObj "list" #[] 0)).update s.heap.objs.size (Obj.mapSeq (· ++ vs.toArray)) } →
      wpAny (model prog w) A2 (Builtin.List.listExtendWith (.ref s.heap.objs.size) (.ref l) (.ref s.heap.objs.size)) R E2 { s with heap := s.heap.push (seqObj "list" #[] 0) } := by
    intro T R E2 A2 hT ht hR
    unfold Builtin.List.listExtendWith
    refine wpAny_bind (wpAny_typeOf (T := T) ⟨o, hp, hT⟩ ?_)
    rw [if_pos (by rw [Bool.or_assoc, ht, Bool.or_true])]
    refine wpAny_bind (listItems_at hp hd ?_)
    refine wpAny_bind (listItems_at hN rfl ?_)
    rw [if_neg (by simp)]
    exact wpAny_bind (listUpdate_at hN rfl (wpAny_pure hR) (Nat.zero_le _) sz)
  unfold collect
  refine wpAny_bind (wpAny_runValue (codeAny_builtin entry_proto_collect' ?_))
  show wpAny _ _ (do again (.builtin "list.__iadd__" ⟨[← newList [], .ref l], []⟩)) _ _ s
  refine wpAny_bind (wpAny_newList (wpAny_pure ⟨Code.quiet_builtin _ (by decide +kernel), codeAny_builtin entry_list_iadd' ?_⟩))
  show wpAny _ _ (Builtin.List.listExtendWith (.ref s.heap.objs.size) (.ref l) (.ref s.heap.objs.size)) _ _ { s with heap := s.heap.push (seqObj "list" #[] 0) }
  have last : wpAny (model prog w) A (do
      let o ← load s.heap.objs.size
      match o.data with
      | .seq xs _ => pure xs.toList
      | _ => unsupported "internal:collect") Q E { s with heap := (s.heap.push (seqObj "list" #[] 0)).update s.heap.objs.size (Obj.mapSeq (· ++ vs.toArray)) } := by
    refine wpAny_bind (wpAny_load (get?_update_seq hN _) ?_)
    show wpAny _ _ (pure ((#[] : Array Value) ++ vs.toArray).toList) Q E _
    rw [show ((#[] : Array Value) ++ vs.toArray).toList = vs by simp]
    exact wpAny_pure h
  rcases hc with hc | hc
  · exact gate hc rfl last
  · exact gate hc rfl last
theorem sorted_by {E : Value → Shared → Prop} {β : Type} {vs : List Value} {bs : List β} {R : Value → β → Prop} {l : Addr} {f : Addr} {Q : Value → Shared → Prop} (k : β → Int) (hl : SqAt s.heap l vs) (e : PySem.W.EachIs R vs bs) (hL : bs.length ≤ sizeLine) (hu : A.units + 65 < cLine)
    (turn : ∀ (v : Value) (x : β), R v x → x ∈ bs → ∀ (h : Heap) (tk : Nat), (∀ b o, s.heap.get? b = some o → h.get? b = some o) →
      wpAny (model prog w) A.in1.in1 (call (.ref f) [v]) (PySem.W.KeyPure (.int (k x)) { s with heap := h, toks := tk }) (fun _ _ => False) { s with heap := h, toks := tk })
    (h : ∀ out c h' tk, (∀ b o, s.heap.get? b = some o → h'.get? b = some o) → h'.get? (s.heap.objs.size + 1) = some (seqObj "list" (List.toArray out) c) → PySem.W.EachIs R out (bs.mergeSort fun a b => decide (k a ≤ k b)) →
      Q (.ref (s.heap.objs.size + 1)) { s with heap := h', toks := tk }) :
    wpAny (model prog w) A (call (.builtin "sorted") [.ref l] [(Str.ofString "key", .ref f)]) Q E s := by
  have hLv : vs.length ≤ sizeLine := by rw [e.length]; exact hL
  have nd : ∀ x ∈ bs, A.in1.in1.units + (PyData.int (k x)).depth < cLine := fun x _ => by
    show A.units + 1 + 1 + 0 < _
    omega
  have up : ∀ {g : Heap}, PySem.W.KeepsBut (s.heap.objs.size + 1) (PySem.W.copyHeap s.heap vs) g → ∀ b o, s.heap.get? b = some o → g.get? b = some o := fun kp b o q =>
    kp b o (Nat.ne_of_lt (Nat.lt_succ_of_lt (Heap.lt_size q))) (PySem.W.copyHeap_old q)
  refine call_function_entry_kw kind_sorted plain_sorted entry_sorted (ksk_s1 _ _) ?_
  unfold Builtin.«sorted»
  refine wpAny_bind (m := checkCount "sorted" 1 1 _) (wpAny_pure (wpAny_bind (gather hl hLv (wpAny_bind (wpAny_newList ?_ hLv)))))
  have hz : ((s.heap.push (seqObj "list" #[] 0)).update s.heap.objs.size (Obj.mapSeq (· ++ vs.toArray))).objs.size = s.heap.objs.size + 1 := (Heap.size_update _ _ _).trans (size_push' _ _)
  show wpAny _ _ _ _ _ { s with heap := PySem.W.copyHeap s.heap vs }
  rw [hz]
  refine wpAny_bind (wpAny_holding (wpAny_call_entry_kw slot_list_sort ⟨_, PySem.W.copyHeap_at s.heap vs, rfl⟩ entry_list_sort ?_ (ksk_l1 _ _)))
  show wpAny (model prog w) A.in1.in1 (Builtin.«list.sort» ⟨[.ref (s.heap.objs.size + 1)], [(Str.ofString "key", .ref f)]⟩) _ _ _
  rw [ksk_t1]
  refine PySem.W.keyH_tree (kz := bs.map fun b => .int (k b)) (s := { s with heap := PySem.W.copyHeap s.heap vs }) (PySem.W.copyHeap_at s.heap vs) ((List.length_map _).trans e.length.symm) hLv (PySem.W.AllAlike.of fun _ _ => by simp [PySem.W.alike]) (PySem.W.Sortable.others fun b => ⟨fun z => (nomatch z), fun xs z => (nomatch z)⟩) (PySem.W.bound_map (A := A.in1.in1) nd)
    (PySem.W.keyH_turns (k := fun b => .int (k b)) (s := { s with heap := PySem.W.copyHeap s.heap vs }) e fun v x hR hx g tk kp => turn v x hR hx g tk (up kp)) fun g tk out c kp hD ko => ?_
  have eo := PySem.W.keyedOut_each (fun b => .int (k b)) ko e
  rw [PySem.W.dataLe_int] at eo
  exact ⟨_, rfl, wpAny_pure ⟨_, rfl, h out c g tk (up kp) hD eo⟩⟩
end
/-- what the making of a lambda does to the heap: nothing, or a row more in the table and a code object -/
inductive Made (H : Hp) (P : Addr) (q : Str) : Hp → Prop
  | old : Made H P q H
  | new (ps : Array Value) (pos : Pos) (c : Addr) : H P = some (.tbl ps) → TriplesOk ps.toList → H c = none → Made H P q (upd (upd H P (.tbl (ps ++ #[rawInt pos.line, rawInt pos.col, .ref c]))) c (LamX.CodeO c q))
theorem Made.nt {H H1 : Hp} {P : Addr} {q : Str} (m : Made H P q H1) {b : Addr} {o : HO} (h : H b = some o) (n : Nt o) : H1 b = some o := by
  cases m with
  | old => exact h
  | new ps pos c hP ht hc =>
    have h1 : b ≠ c := fun z => by rw [z, hc] at h; cases h
    have h2 : b ≠ P := fun z => by rw [z, hP] at h; cases h; exact n ps rfl
    rw [upd_ne h1, upd_ne h2]
    exact h
theorem Made.tabs {H H1 : Hp} {P : Addr} {q : Str} (m : Made H P q H1) {T : List (Addr × Str)} (hu : ∀ p ∈ T, p.1 = P → p.2 = q) (hT : LamX.Tabs T H) : LamX.Tabs T H1 := by
  cases m with
  | old => exact hT
  | new ps pos c hP ht hc =>
    have stay : ∀ b d r, H b = some (LamX.CodeO d r) → upd (upd H P (.tbl (ps ++ #[rawInt pos.line, rawInt pos.col, .ref c]))) c (LamX.CodeO c q) b = some (LamX.CodeO d r) := fun b d r e =>
      (Made.new ps pos c hP ht hc).nt e (fun qs z => LamX.codeO_ne qs z)
    intro p hp
    obtain ⟨qs, a1, a2, a3⟩ := hT p hp
    have nc : p.1 ≠ c := fun z => by rw [z, hc] at a1; cases a1
    by_cases hb : p.1 = P
    · have hq := hu p hp hb
      obtain ⟨p1, p2⟩ := p
      simp only at hb hq a1 nc
      subst hb
      subst hq
      obtain rfl : ps = qs := by rw [hP] at a1; cases a1; rfl
      have eL : (ps ++ #[rawInt pos.line, rawInt pos.col, .ref c]).toList = ps.toList ++ [rawInt pos.line, rawInt pos.col, .ref c] := by simp
      refine ⟨_, by rw [upd_ne nc, upd_same], by rw [eL]; exact PySem.TriplesOk_snoc _ _ _ _ ht, fun p' cv hcv => ?_⟩
      rw [eL] at hcv
      rcases LamX.among_app _ ht hcv with z | z
      · obtain ⟨c0, e1, e2⟩ := a3 p' cv z
        exact ⟨c0, e1, stay _ _ _ e2⟩
      · exact ⟨c, z, upd_same⟩
    · refine ⟨qs, by rw [upd_ne nc, upd_ne hb]; exact a1, a2, fun p' cv hcv => ?_⟩
      obtain ⟨c0, e1, e2⟩ := a3 p' cv hcv
      exact ⟨c0, e1, stay _ _ _ e2⟩
theorem Made.tt {H H1 : Hp} {P : Addr} {q : Str} (m : Made H P q H1) {T : List (Addr × Str)} (hu : ∀ p ∈ T, p.1 = P → p.2 = q) : Tt T H H1 := by
  refine ⟨fun b ps h => ?_, fun h => m.tabs hu h⟩
  cases m with
  | old => exact ⟨ps, h⟩
  | new qs pos c hP ht hc =>
    have h1 : b ≠ c := fun z => by rw [z, hc] at h; cases h
    by_cases hb : b = P
    · subst hb
      exact ⟨_, by rw [upd_ne h1, upd_same]⟩
    · exact ⟨ps, by rw [upd_ne h1, upd_ne hb]; exact h⟩
section
variable {X : Cx} {pins : List (Addr × Obj)} {σ : L2.St} {H : Hp} {s : Shared}
/-- the making of a lambda without defaults and without names of the maker -/
theorem lam_mk {c P : Addr} {params : Arguments} {body : Expr} {scope : Scope} {pos : Pos} {Er : Value → Shared → Prop} {Q : Value → Shared → Prop} (I : Inv X pins σ H s) (TB : LamX.TabB X.base X.mg c P) (hcode : X.env.code = .ref c)
    (hT : LamX.TabS H P (X.env.qual ++ "<lambda>")) (hdef : defaultsOf params X.env = ([], [])) (hfree : ∀ y ∈ scope.names, y.2 ≠ .free)
    (h : ∀ (f c' : Addr) (pm ctv : Value) (cl : List (Str × Addr)) (H1 : Hp) (s' : Shared), Inv X pins σ H1 s' → Made H P (X.env.qual ++ "<lambda>") H1 →
      s'.heap.get? f = some (PySem.W.kla_obj "<lambda>" (X.env.qual ++ "<lambda>") params body scope cl pm c' ctv) → s'.heap.CodeRec (.ref c') (X.env.qual ++ "<lambda>") → Q (.ref f) s') :
    wpAny (model X.prog X.w) X.A (eval (.Lambda params body scope pos) X.env) Q Er s := by
  obtain ⟨ps, hP, ht, ha⟩ := hT
  have hfr : ∀ y ∈ scope.names, y.2 = .free → ∃ c, X.env.cells.lookup y.1 = some c := fun y hy e => absurd e (hfree y hy)
  have hP' := I.hok P _ hP
  have glo := I.mod.glob.keeps I.bk
  have cod := TB.code.keeps I.bk
  have bms := TB.bm.keeps I.bk
  refine PySem.W.kla_eval hdef ?_
  rcases hc : codeAmong pos ps.toList with _ | cv
  · refine PySem.W.kla_makeFunction (mg := X.mg) (c := c) (P := P) (ps := ps) (closure_ok hfr) I.ok.glob glo hcode cod hP' ht hc TB.gP bms ?_
    intro c' ctv h' tk hx hge hlt ⟨c2, oc, vs, t, e2, hoc, hd, hv⟩ htb
    cases e2
    refine h h'.objs.size c' _ ctv _ _ _ (LamX.inv_table (t' := tk) (more := #[rawInt pos.line, rawInt pos.col, .ref c']) (q := X.env.qual ++ "<lambda>") I hP (fun b o hb e => Heap.get?_push_of_some _ (hx b o hb e)) (Heap.get?_push_of_some _ htb) hge ⟨oc, vs, t, Heap.get?_push_of_some _ hoc, hd, hv⟩)
      (Made.new ps pos c' hP ht (I.hok.fresh hge)) (Heap.get?_push_size _ rfl) ⟨c', oc, vs, t, rfl, Heap.get?_push_of_some _ hoc, hd, hv⟩
  · obtain ⟨c', rfl, hco⟩ := ha pos cv hc
    refine PySem.W.kla_makeFunctionHit (mg := X.mg) (c := c) (P := P) (ps := ps) (closure_ok hfr) I.ok.glob glo hcode cod hP' ht hc bms ?_
    intro ctv h' tk hx hsz
    have I1 := I.kept (t' := tk) (fun b o e => Heap.get?_push_of_some (PySem.W.kla_obj "<lambda>" (X.env.qual ++ "<lambda>") params body scope (cloFrom X.env.cells scope.names []) ((X.mg "__name__").getD .none) c' ctv) (hx b o e))
    obtain ⟨⟨oc, vs, t, hoc, hd, hv⟩, _, _⟩ := I1.hok c' _ hco
    exact h h'.objs.size c' _ ctv _ H _ I1 Made.old (Heap.get?_push_size _ rfl) ⟨c', oc, vs, t, rfl, hoc, hd, hv⟩
end
end Vi

/-! V9: targets, what is walked, comprehensions. -/
namespace Vi
open PySem PySem.Spec PyProof.Rows L2
section
variable {C : Ct} {E : En} {Wx : WX} {σ : L2.St} {W W' W1 W2 : Wd} {H H' H1 H2 H0 : Hp} {s s' s1 s2 : S}

/-! ### slots set -/
theorem get_set {α : Type} {l : List α} {i j : Nat} {x y : α} (h : (l.set i x)[j]? = some y) : (j = i ∧ y = x ∧ i < l.length) ∨ (j ≠ i ∧ l[j]? = some y) := by
  by_cases hji : j = i
  · subst hji
    by_cases hl : j < l.length
    · rw [List.getElem?_set_self hl] at h
      exact .inl ⟨rfl, (Option.some.inj h).symm, hl⟩
    · rw [List.getElem?_eq_none (by simpa using hl)] at h
      cases h
  · rw [List.getElem?_set_ne (Ne.symm hji)] at h
    exact .inr ⟨hji, h⟩
/-- a slot gets a new value and a new meaning -/
theorem StR.setSlot (r : StR C E W σ H s) (i : Nat) {v : V} {x : Slot} (hn : nlck s.sl i = true) (hx : SltR C E W H (some (some v)) x) (ho : x.isO = true → ∃ a, v = .ref a ∧ W.G a = none ∧ E.H a = none ∧ ¬ InSt W a ∧ ∀ j : Nat, OwnAt s j → σ[j]? ≠ some (some (.ref a))) :
    StR C E W (σ.set i (some v)) H { s with sl := s.sl.set i x } := by
  have own1 : ∀ j, OwnAt { s with sl := s.sl.set i x } j → (j = i ∧ x.isO = true ∧ i < s.sl.length) ∨ (j ≠ i ∧ OwnAt s j) := fun j ⟨y, hj, hy⟩ => by
    rcases get_set hj with ⟨h1, h2, h3⟩ | ⟨h1, h2⟩
    · subst h2; exact .inl ⟨h1, hy, h3⟩
    · exact .inr ⟨h1, ⟨y, h2, hy⟩⟩
  have vs : ∀ j a, (σ.set i (some v))[j]? = some (some (.ref a)) → (j = i ∧ v = .ref a) ∨ (j ≠ i ∧ σ[j]? = some (some (.ref a))) := fun j a h => by
    rcases get_set h with ⟨h1, h2, _⟩ | ⟨h1, h2⟩
    · injection h2 with h2; exact .inl ⟨h1, h2.symm⟩
    · exact .inr ⟨h1, h2⟩
  refine ⟨r.kp, r.fr, r.gh, r.rg, ?_, fun j y hj => ?_, fun j1 j2 a o1 o2 e1 e2 => ?_, fun j a o e => ?_, fun p hp => ?_, r.lo⟩
  · show (σ.set i (some v)).length = (s.sl.set i x).length
    rw [List.length_set, List.length_set]; exact r.len
  · rcases get_set hj with ⟨rfl, rfl, hl⟩ | ⟨h1, h2⟩
    · rw [List.getElem?_set_self (by rw [r.len]; exact hl)]
      exact hx
    · rw [List.getElem?_set_ne (Ne.symm h1)]
      exact r.sl j y h2
  · rcases own1 j1 o1 with ⟨a1, a2, a3⟩ | ⟨a1, a2⟩ <;> rcases own1 j2 o2 with ⟨b1, b2, b3⟩ | ⟨b1, b2⟩
    · exact a1.trans b1.symm
    · rcases vs j1 a e1 with ⟨_, c2⟩ | ⟨c1, _⟩
      · obtain ⟨a', ea, _, _, _, ne⟩ := ho a2
        rcases vs j2 a e2 with ⟨d1, _⟩ | ⟨_, d2⟩
        · exact absurd d1 b1
        · rw [ea] at c2; injection c2 with c2; subst c2; exact absurd d2 (ne j2 b2)
      · exact absurd a1 c1
    · rcases vs j2 a e2 with ⟨_, c2⟩ | ⟨c1, _⟩
      · obtain ⟨a', ea, _, _, _, ne⟩ := ho b2
        rcases vs j1 a e1 with ⟨d1, _⟩ | ⟨_, d2⟩
        · exact absurd d1 a1
        · rw [ea] at c2; injection c2 with c2; subst c2; exact absurd d2 (ne j1 a2)
      · exact absurd b1 c1
    · rcases vs j1 a e1 with ⟨d1, _⟩ | ⟨_, d2⟩
      · exact absurd d1 a1
      · rcases vs j2 a e2 with ⟨d1', _⟩ | ⟨_, d2'⟩
        · exact absurd d1' b1
        · exact r.nd j1 j2 a a2 b2 d2 d2'
  · rcases own1 j o with ⟨a1, a2, a3⟩ | ⟨a1, a2⟩
    · rcases vs j a e with ⟨_, c2⟩ | ⟨c1, _⟩
      · obtain ⟨a', ea, q1, q2, q3, _⟩ := ho a2
        rw [ea] at c2; injection c2 with c2; subst c2; exact ⟨q1, q2, q3⟩
      · exact absurd a1 c1
    · rcases vs j a e with ⟨d1, _⟩ | ⟨_, d2⟩
      · exact absurd d1 a1
      · exact r.ow j a a2 d2
  · obtain ⟨ys, b1, b2, b3⟩ := r.pr p hp
    have hpi : i ≠ p.1 := fun z => by
      unfold nlck at hn
      rw [z, b1] at hn; cases hn
    exact ⟨ys, by show (s.sl.set i x)[p.1]? = _; rw [List.getElem?_set_ne hpi]; exact b1, by rw [List.getElem?_set_ne hpi]; exact b2, b3⟩
theorem StR.setVal (r : StR C E W σ H s) (i : Nat) {v : V} {d : D} (hn : nlck s.sl i = true) (h : Rep C W v d) : StR C E W (σ.set i (some v)) H { s with sl := s.sl.set i (.val d) } :=
  r.setSlot i hn ⟨v, rfl, h⟩ (fun z => by cases z)
/-! ### targets -/
theorem nlck_set {sl : List Slot} {i j : Nat} {d : D} (h : nlck sl j = true) : nlck (sl.set i (.val d)) j = true := by
  unfold nlck at h ⊢
  by_cases e : i = j
  · subst e
    by_cases hl : i < sl.length
    · rw [List.getElem?_set_self hl]
    · rw [List.getElem?_eq_none (by simpa using hl)]
  · rw [List.getElem?_set_ne e]; exact h
def gNames : List Nat → TGs
  | [] => gNil
  | i :: r => gCons (gName i) (gNames r)
def gT (K : PySem.W.Frag) : Tg → TG
  | .nm i => gName i
  | .tp is => gTup K is.length (gNames is)
def setAll (σ : L2.St) (l : List (Nat × V)) : L2.St := l.foldl (fun τ p => τ.set p.1 (some p.2)) σ
theorem names_go : ∀ (is : List Nat) (ds : List D) (vs : List V) (σ : L2.St) (s : S) (Q : L2.St → Hp → Prop), StR C E W σ H s → Reps C W vs ds → is.length = ds.length → (∀ i ∈ is, nlck s.sl i = true) →
    (∀ σ', σ' = setAll σ (is.zip vs) → StR C E W σ' H { s with sl := (is.zip ds).foldl (fun l p => l.set p.1 (.val p.2)) s.sl } → Q σ' H) → gNames is vs σ H Q
  | [], ds, vs, σ, s, Q, r, h, hl, hn, q => by
    cases ds with
    | nil => cases h; exact ⟨rfl, q σ rfl r⟩
    | cons _ _ => cases hl
  | i :: is, ds, vs, σ, s, Q, r, h, hl, hn, q => by
    cases h with
    | nil => cases hl
    | @cons v vs d ds a b =>
      refine ⟨v, vs, rfl, ?_⟩
      exact names_go is ds vs _ _ Q (r.setVal i (hn i List.mem_cons_self) a) b (by simpa using hl) (fun j hj => nlck_set (hn j (List.mem_cons_of_mem _ hj))) q
theorem tg_go {tg : Tg} {x : V} {d : D} {sl : List Slot} {Q : L2.St → Hp → Prop} (r : StR C E W σ H s) (h : Rep C W x d) (hb : bindTg tg d s.sl = some sl)
    (q : ∀ σ', (∃ l : List (Nat × V), σ' = setAll σ l ∧ ∀ p ∈ l, p.1 ∈ (match tg with | .nm i => [i] | .tp is => is)) → StR C E W σ' H { s with sl := sl } → Q σ' H) : gT C.K tg x σ H Q := by
  cases tg with
  | nm i =>
    simp only [bindTg] at hb
    split at hb
    · rename_i hn
      injection hb with hb
      subst hb
      exact q _ ⟨[(i, x)], rfl, fun p hp => by simp at hp; simp [hp]⟩ (r.setVal i hn h)
    · cases hb
  | tp is =>
    cases d with
    | tup ds =>
      simp only [bindTg] at hb
      split at hb
      · rename_i hl
        injection hb with hb
        subst hb
        cases h with
        | @tup a vs _ ht hr =>
          refine ⟨a, vs, rfl, sqT_same r.gh ht, by rw [hr.length]; exact hl.1.symm, ?_⟩
          refine names_go is ds vs σ s Q r hr hl.1 (List.all_eq_true.mp hl.2) fun σ' e r' => q σ' ⟨is.zip vs, e, fun p hp => (List.of_mem_zip hp).1⟩ r'
      · cases hb
    | _ => simp [bindTg] at hb

/-! ### what is walked -/
def SrcAt (o : Option (Addr × List V)) (H : Hp) : Prop := match o with
  | none => True
  | some (a, vs) => H a = some (.lst vs)
structure ItR (C : Ct) (W : Wd) (o : Option (Addr × List V)) (J : It) (ds : List D) : Prop where
  stop : ∀ H', Same W.G H' → SrcAt o H' → J.stop ds.length H'
  go : ∀ (i : Nat) (d : D) H', ds[i]? = some d → Same W.G H' → SrcAt o H' → J.go i H' ∧ ∀ x H'', J.yld i H' x H'' → H'' = H' ∧ Rep C W x d
theorem itr_list {a : Addr} {vs : List V} {xs : List D} (h : ∀ H', Same W.G H' → SqL C.K H' a vs) (hr : Reps C W vs xs) : ItR C W none (Itl C.K a) xs :=
  ⟨fun H' g _ => ⟨vs, h H' g, by rw [hr.length]; exact Nat.le_refl _⟩, fun i d H' e g _ => by
    obtain ⟨v, e2, hv⟩ := hr.get e
    exact ⟨⟨vs, v, h H' g, e2⟩, fun x H'' ⟨e3, hx⟩ => ⟨e3, by rw [Option.some.inj ((hx vs (h H' g)).symm.trans e2)]; exact hv⟩⟩⟩
theorem itr_own {a : Addr} {vs : List V} {xs : List D} (hr : Reps C W vs xs) : ItR C W (some (a, vs)) (Itl C.K a) xs :=
  ⟨fun H' g q => ⟨vs, SqL.of q, by rw [hr.length]; exact Nat.le_refl _⟩, fun i d H' e g q => by
    obtain ⟨v, e2, hv⟩ := hr.get e
    exact ⟨⟨vs, v, SqL.of q, e2⟩, fun x H'' ⟨e3, hx⟩ => ⟨e3, by rw [Option.some.inj ((hx vs (SqL.of q)).symm.trans e2)]; exact hv⟩⟩⟩
theorem itr_tup {a : Addr} {vs : List V} {xs : List D} (h : ∀ H', Same W.G H' → SqT C.K H' a vs) (hr : Reps C W vs xs) : ItR C W none (Itt C.K a) xs :=
  ⟨fun H' g _ => ⟨vs, h H' g, by rw [hr.length]; exact Nat.le_refl _⟩, fun i d H' e g _ => by
    obtain ⟨v, e2, hv⟩ := hr.get e
    exact ⟨⟨vs, v, h H' g, e2⟩, fun x H'' ⟨e3, hx⟩ => ⟨e3, by rw [Option.some.inj ((hx vs (h H' g)).symm.trans e2)]; exact hv⟩⟩⟩
theorem itr_str {z : Str} : ItR C W none (Its z) (z.cps.toList.map fun c => .str ⟨#[c]⟩) :=
  ⟨fun H' _ _ => by show z.cps.size ≤ _; simp, fun i d H' e _ _ => by
    have hi : i < z.cps.size := by
      have := (List.getElem?_eq_some_iff.mp e).1
      simpa using this
    refine ⟨hi, fun x H'' ⟨e3, c, e4, e5⟩ => ⟨e3, ?_⟩⟩
    subst e5
    rw [List.getElem?_map, Array.getElem?_toList, e4] at e
    injection e with e
    subst e
    exact .str _⟩
theorem itr_rng {lo hi : Int} : ItR C W none (Itr lo (hi - lo).toNat) (rngL lo hi) :=
  ⟨fun H' _ _ => by show (hi - lo).toNat ≤ _; simp [rngL], fun i d H' e _ _ => by
    unfold rngL at e
    rw [List.getElem?_map] at e
    have hi : i < (hi - lo).toNat := by
      cases q : (List.range (hi - lo).toNat)[i]? with
      | none => rw [q] at e; cases e
      | some k => simpa using (List.getElem?_eq_some_iff.mp q).1
    refine ⟨hi, fun x H'' ⟨e3, e4⟩ => ⟨e3, ?_⟩⟩
    subst e4
    rw [List.getElem?_range hi] at e
    injection e with e
    subst e
    exact .int _⟩
theorem itr_rngC {lo hi : Int} : ItR C W none (Itc lo (-1) (lo - hi).toNat) (rngC lo hi (-1)) :=
  ⟨fun H' _ _ => by show (lo - hi).toNat ≤ _; simp [rngC], fun i d H' e _ _ => by
    unfold rngC at e
    rw [if_pos rfl, List.getElem?_map] at e
    have hi : i < (lo - hi).toNat := by
      cases q : (List.range (lo - hi).toNat)[i]? with
      | none => rw [q] at e; cases e
      | some k => simpa using (List.getElem?_eq_some_iff.mp q).1
    refine ⟨hi, fun x H'' ⟨e3, e4⟩ => ⟨e3, ?_⟩⟩
    subst e4
    rw [List.getElem?_range hi] at e
    injection e with e
    subst e
    rw [show lo + (i : Int) * -1 = lo - i by omega]
    exact .int _⟩
def tI (C : Ct) (E : En) (Wx : WX) (st : Bool) (m : S → RE (List D)) : TI := fun σ H R => ∃ W s, StR C E W σ H s ∧ EC C E Wx σ W H s (fun ds W' H' s' =>
  ∀ o J, SrcAt o H' → (∀ a vs, o = some (a, vs) → st = false ∧ ¬ InSt W' a) → ItR C W' o J ds → R J H') (m s)
end
section
variable {C : Ct} {E : En} {Wx : WX} {X : Cx} {tg e a b c : Expr} {es : List Expr} {pos p : Pos} {m ma mb mc : S → RE D} {md : Md}
theorem _root_.L2.PI.imp {t t' : TI} (h : PI X tg e t) (f : ∀ σ H R, t' σ H R → t σ H R) : PI X tg e t' := ⟨fun pins s σ H R I q => h.run pins s σ H R I (f σ H R q)⟩
def iSeq (K : PySem.W.Frag) (tl : TE) : TI := fun σ H R => tl σ H fun x H1 => (∃ a, x = .ref a ∧ (∃ xs, SqL K H1 a xs) ∧ R (Itl K a) H1) ∨ (∃ a, x = .ref a ∧ (∃ xs, SqT K H1 a xs) ∧ R (Itt K a) H1) ∨ (∃ z, x = .str z ∧ R (Its z) H1)
theorem pi_seq {l : Expr} {tl : TE} (hl : PE X l tl) : PI X tg l (iSeq X.K tl) := by
  refine ⟨fun pins s σ H R I h => ?_⟩
  refine thn (hl.run pins s σ H _ I h) fun v s1 ⟨x, H1, I1, r1, q1⟩ => ?_
  rcases q1 with ⟨a, e, ⟨xs, hq⟩, q⟩ | ⟨a, e, ⟨xs, hq⟩, q⟩ | ⟨z, e, q⟩
  · subst e
    cases r1
    obtain ⟨its, rv, p, hz⟩ := I1.list hq
    refine wpAny_pyIter_list p.isList ?_
    refine ⟨s1.heap.objs.size, [s1.heap.objs.size], _, _, H1, rfl, I1.kept (t' := s1.toks) fun b o e => Heap.get?_push_of_some _ e, turn_list a _, ⟨_, Heap.get?_push_size _ rfl, rfl, rfl⟩, fun b hb => ?_, q⟩
    have e : b = s1.heap.objs.size := by simpa using hb
    subst e
    exact I1.fpOk (Nat.le_refl _) (I1.hok.fresh (Nat.le_refl _))
  · subst e
    cases r1
    obtain ⟨its, rv, p, hz⟩ := I1.tuple hq
    refine wpAny_pyIter_tuple (show s1.heap.IsTuple a its.toArray from p) ?_
    refine ⟨s1.heap.objs.size, [s1.heap.objs.size], _, _, H1, rfl, I1.kept (t' := s1.toks) fun b o e => Heap.get?_push_of_some _ e, turn_tuple a _, ⟨_, Heap.get?_push_size _ rfl, rfl, rfl⟩, fun b hb => ?_, q⟩
    have e : b = s1.heap.objs.size := by simpa using hb
    subst e
    exact I1.fpOk (Nat.le_refl _) (I1.hok.fresh (Nat.le_refl _))
  · subst e
    obtain ⟨t, rfl⟩ := r1
    cases ha : z.cps.all (· < 128)
    · exact wpAny_pyIter_wide ha (pi_one (tk := s1.toks) I1 _ (turn_str _ z t "str_iterator" (.inr rfl)) ⟨_, Heap.get?_push_size _ rfl, rfl, rfl⟩ q)
    · exact wpAny_pyIter_ascii ha (pi_one (tk := s1.toks) I1 _ (turn_str _ z t "str_ascii_iterator" (.inl rfl)) ⟨_, Heap.get?_push_size _ rfl, rfl, rfl⟩ q)
/-- a list, a tuple, a text; st: never an owned one -/
theorem i_seq (st : Bool) (hm : st = true → md = .st) (ha : PE X e (tE C E Wx m md)) (hK : X.K = C.K) : PI X tg e (tI C E Wx st fun s => (m s).bind fun x s => .opt (itemsD x s.rg) s) := by
  refine (pi_seq ha).imp fun σ H R ⟨W, s, r, h⟩ => ?_
  refine ⟨W, s, r, h.bind.mono fun x W1 H1 s1 r1 k1 h1 v hv => ?_⟩
  obtain ⟨ds, e, q⟩ := h1.opt r1
  have q1 := q W1 H1 r1 (ExK.refl _ _ _ _)
  rw [hK]
  cases x with
  | lst xs =>
    simp only [itemsD, Option.some.injEq] at e
    subst e
    cases st with
    | true =>
      obtain rfl := hm rfl
      cases hv with
      | @lst a vs _ hg hr =>
        exact .inl ⟨a, rfl, ⟨vs, SqL.of (r1.gh _ _ hg)⟩, q1 none _ trivial (fun _ _ z => by cases z) (itr_list (fun H' g => SqL.of (g _ _ hg)) hr)⟩
    | false =>
      rcases RepM.wk_of (H1 := H) r1 hv with h | ⟨ys, e, a, vs, rfl, ha, hr, n⟩
      · cases h with
        | @lst a vs _ hg hr =>
          exact .inl ⟨a, rfl, ⟨vs, SqL.of (r1.gh _ _ hg)⟩, q1 none _ trivial (fun _ _ z => by cases z) (itr_list (fun H' g => SqL.of (g _ _ hg)) hr)⟩
      · injection e with e; subst e
        exact .inl ⟨a, rfl, ⟨vs, SqL.of ha⟩, q1 (some (a, vs)) _ ha (fun _ _ z => by injection z with z; injection z with z1 z2; subst z1 z2; exact ⟨rfl, n⟩) (itr_own hr)⟩
  | tup xs =>
    simp only [itemsD, Option.some.injEq] at e
    subst e
    rcases RepM.wk_of (H1 := H) r1 hv with h | ⟨ys, e, _⟩
    · cases h with
      | @tup a vs _ hg hr =>
        exact .inr (.inl ⟨a, rfl, ⟨vs, sqT_same r1.gh hg⟩, q1 none _ trivial (fun _ _ z => by cases z) (itr_tup (fun H' g => sqT_same g hg) hr)⟩)
    · cases e
  | str z =>
    simp only [itemsD, Option.some.injEq] at e
    subst e
    exact .inr (.inr ⟨z, wkStr (RepM.wk_of (H1 := H) r1 hv), q1 none _ trivial (fun _ _ z => by cases z) itr_str⟩)
  | _ => cases e
theorem sm62 {i : Int} (h : small62 i = true) : -(2 ^ 62) ≤ i ∧ i < 2 ^ 62 := by
  unfold small62 at h
  simp only [Bool.and_eq_true, decide_eq_true_eq] at h
  omega
theorem i_rng1 (hg : Gl X "range") (hm : X.mg "range" = none) (ha : PE X a (tE C E Wx ma .wk)) (hs : starEach [a] X.env = [(false, eval a X.env)]) : PI X tg (.Call (.Name "range" p) [a] [] pos) (tI C E Wx true fun s => (ma s).bind fun x s => match x with
    | .int n => if small62 n then .ok (rngL 0 n) s else .stuck
    | _ => .stuck) := by
  refine (pi_range1 hg hm (pa_cons ha pa_nil hs) hs).imp fun σ H R ⟨W, s, r, h⟩ => ?_
  refine ⟨W, s, r, h.bind.mono fun x W1 H1 s1 r1 k1 h1 v hv => ?_⟩
  cases x with
  | int n =>
    simp only [] at h1
    split at h1
    · rename_i hn
      obtain ⟨b1, b2⟩ := sm62 hn
      refine ⟨n, by rw [wkInt hv], b1, b2, ?_⟩
      have := h1 W1 H1 r1 (ExK.refl _ _ _ _) none (Itr 0 (n - 0).toNat) trivial (fun _ _ z => by cases z) itr_rng
      simpa using this
    · exact h1.elim
  | _ => exact h1.elim
theorem i_rng2 (hg : Gl X "range") (hm : X.mg "range" = none) (ha : PE X a (tE C E Wx ma .wk)) (hb : PE X b (tE C E Wx mb .wk)) (hs : starEach [a, b] X.env = [(false, eval a X.env), (false, eval b X.env)]) (hs2 : starEach [b] X.env = [(false, eval b X.env)]) :
    PI X tg (.Call (.Name "range" p) [a, b] [] pos) (tI C E Wx true fun s => (ma s).bind fun x s => (mb s).bind fun y s => match x, y with
    | .int m, .int n => if small62 m && small62 n then .ok (rngL m n) s else .stuck
    | _, _ => .stuck) := by
  refine (pi_range2 hg hm (pa_cons ha (pa_cons hb pa_nil hs2) (by rw [hs, hs2])) hs hs2).imp fun σ H R ⟨W, s, r, h⟩ => ?_
  refine ⟨W, s, r, h.bind.mono fun x W1 H1 s1 r1 k1 h1 v hv => ?_⟩
  refine ⟨W1, s1, r1, h1.bind.mono fun y W2 H2 s2 r2 k2 h2 u hu => ?_⟩
  cases x with
  | int i =>
    cases y with
    | int j =>
      simp only [] at h2
      split at h2
      · rename_i hn
        rw [Bool.and_eq_true] at hn
        obtain ⟨b1, b2⟩ := sm62 hn.1
        obtain ⟨b3, b4⟩ := sm62 hn.2
        refine ⟨i, j, by rw [wkInt hv, wkInt hu], ⟨b1, b2, b3, b4⟩, ?_⟩
        exact h2 W2 H2 r2 (ExK.refl _ _ _ _) none _ trivial (fun _ _ z => by cases z) itr_rng
      · exact h2.elim
    | _ => exact h2.elim
  | _ => exact h2.elim
theorem i_rng3 {k : Nat} {p1 p2 : Pos} (hg : Gl X "range") (hm : X.mg "range" = none) (ha : PE X a (tE C E Wx ma .wk)) (hb : PE X b (tE C E Wx mb .wk))
    (hs : starEach [a, b, .UnaryOp .USub (.Constant (.int 1) k p1) p2] X.env = (false, eval a X.env) :: starEach [b, .UnaryOp .USub (.Constant (.int 1) k p1) p2] X.env) (hs2 : starEach [b, .UnaryOp .USub (.Constant (.int 1) k p1) p2] X.env = (false, eval b X.env) :: starEach [.UnaryOp .USub (.Constant (.int 1) k p1) p2] X.env)
    (hpl : (backTo pos (starEach [b, .UnaryOp .USub (.Constant (.int 1) k p1) p2] X.env)).any (·.1) = false) :
    PI X tg (.Call (.Name "range" p) [a, b, .UnaryOp .USub (.Constant (.int 1) k p1) p2] [] pos) (tI C E Wx true fun s => (ma s).bind fun x s => (mb s).bind fun y s => match x, y with
    | .int m, .int n => if small62 m && small62 n && decide ((-1 : Int) = -1) then .ok (rngC m n (-1)) s else .stuck
    | _, _ => .stuck) := by
  refine (pi_range3 hg hm (pa_cons ha (pa_cons hb (pa_cons (pe_un un_neg pe_int) pa_nil (by rfl)) hs2) hs) hs hpl).imp fun σ H R ⟨W, s, r, h⟩ => ?_
  refine ⟨W, s, r, h.bind.mono fun x W1 H1 s1 r1 k1 h1 v hv => ?_⟩
  refine ⟨W1, s1, r1, h1.bind.mono fun y W2 H2 s2 r2 k2 h2 u hu => ?_⟩
  cases x with
  | int i =>
    cases y with
    | int j =>
      simp only [] at h2
      split at h2
      · rename_i hn
        simp only [Bool.and_eq_true, decide_true, and_true] at hn
        obtain ⟨b1, b2⟩ := sm62 hn.1
        obtain ⟨b3, b4⟩ := sm62 hn.2
        refine ⟨1, rfl, i, j, -1, _, by rw [wkInt hv, wkInt hu], RgC.neg b1 b2 b3 b4, ?_⟩
        exact h2 W2 H2 r2 (ExK.refl _ _ _ _) none _ trivial (fun _ _ z => by cases z) itr_rngC
      · exact h2.elim
    | _ => exact h2.elim
  | _ => exact h2.elim
end
end Vi

/-! V10: comprehensions. -/
namespace Vi
open PySem PySem.Spec PyProof.Rows L2
section
variable {C : Ct} {E : En} {Wx : WX} {σ : L2.St} {W W' W1 W2 Wc : Wd} {H H' H1 H2 H0 Hc : Hp} {s s' s1 s2 : S}

theorem wipe_get {σ : L2.St} : ∀ (vs : List Nat) (i : Nat), (wipe σ vs)[i]? = if i ∈ vs ∧ i < σ.length then some none else σ[i]?
  | [], i => by simp [wipe]
  | v :: vs, i => by
    unfold wipe
    by_cases h : i = v
    · subst h
      by_cases hl : i < σ.length
      · rw [List.getElem?_set_self (by rw [wipe_length]; exact hl)]
        simp [hl]
      · rw [List.getElem?_eq_none (by rw [List.length_set, wipe_length]; omega)]
        simp [hl]
        all_goals first | done | omega | (rw [List.getElem?_eq_none (by omega)])
    · rw [List.getElem?_set_ne (Ne.symm h), wipe_get vs i]
      simp [h]
theorem wipe_ext {σ τ : L2.St} {vs : List Nat} (hl : σ.length = τ.length) (h : ∀ i, i ∉ vs → σ[i]? = τ[i]?) : wipe σ vs = wipe τ vs := by
  apply List.ext_getElem?
  intro i
  rw [wipe_get, wipe_get, hl]
  by_cases hi : i ∈ vs
  · by_cases hj : i < τ.length
    · simp [hi, hj]
    · rw [if_neg (fun z => hj z.2), if_neg (fun z => hj z.2), List.getElem?_eq_none (by omega), List.getElem?_eq_none (by omega)]
  · simp [hi]
    exact h i hi
theorem setAll_len : ∀ (l : List (Nat × V)) (σ : L2.St), (setAll σ l).length = σ.length
  | [], _ => rfl
  | p :: l, σ => by
    show (setAll (σ.set p.1 (some p.2)) l).length = σ.length
    rw [setAll_len l, List.length_set]
theorem setAll_out {i : Nat} : ∀ (l : List (Nat × V)) (σ : L2.St), (∀ p ∈ l, p.1 ≠ i) → (setAll σ l)[i]? = σ[i]?
  | [], _, _ => rfl
  | p :: l, σ, h => by
    show (setAll (σ.set p.1 (some p.2)) l)[i]? = σ[i]?
    rw [setAll_out l _ (fun q hq => h q (List.mem_cons_of_mem _ hq)), List.getElem?_set_ne (h p List.mem_cons_self)]
theorem wipe_setAll {σ : L2.St} {vs : List Nat} {l : List (Nat × V)} (h : ∀ p ∈ l, p.1 ∈ vs) : wipe (setAll (wipe σ vs) l) vs = wipe (wipe σ vs) vs :=
  wipe_ext (setAll_len l _) fun i hi => setAll_out l _ fun p hp e => hi (e ▸ h p hp)
theorem wipe_wipe {σ : L2.St} {vs : List Nat} : wipe (wipe σ vs) vs = wipe σ vs := wipe_ext (wipe_length σ vs) fun i hi => by
  rw [wipe_get]; simp [hi]
theorem wipeS_get : ∀ (own : List Nat) (sl sl' : List Slot), wipeS own sl = some sl' → sl'.length = sl.length ∧ ∀ i x, sl'[i]? = some x → (i ∈ own ∧ x = .uns) ∨ (i ∉ own ∧ sl[i]? = some x)
  | [], sl, sl', h => by
    simp only [wipeS, Option.some.injEq] at h
    subst h
    exact ⟨rfl, fun i x e => .inr ⟨by simp, e⟩⟩
  | j :: r, sl, sl', h => by
    have go : ∀ sl2, wipeS r sl = some sl2 → sl' = sl2.set j .uns → sl'.length = sl.length ∧ ∀ i x, sl'[i]? = some x → (i ∈ j :: r ∧ x = .uns) ∨ (i ∉ j :: r ∧ sl[i]? = some x) := fun sl2 e q => by
      subst q
      obtain ⟨h1, h2⟩ := wipeS_get r sl sl2 e
      refine ⟨by rw [List.length_set]; exact h1, fun i x e => ?_⟩
      rcases get_set e with ⟨rfl, rfl, _⟩ | ⟨hne, e⟩
      · exact .inl ⟨List.mem_cons_self, rfl⟩
      · rcases h2 i x e with ⟨a, b⟩ | ⟨a, b⟩
        · exact .inl ⟨List.mem_cons_of_mem _ a, b⟩
        · exact .inr ⟨by simp [hne, a], b⟩
    unfold wipeS at h
    split at h
    · cases h
    · cases h
    · split at h
      · rename_i sl2 e
        injection h with h
        exact go sl2 e h.symm
      · cases h
theorem lock_get {sl : List Slot} {i : Nat} {x : Slot} (h : (sl.map Slot.lock)[i]? = some x) : ∃ y, sl[i]? = some y ∧ x = y.lock := by
  rw [List.getElem?_map] at h
  cases q : sl[i]? with
  | none => rw [q] at h; cases h
  | some y => rw [q] at h; injection h with h; exact ⟨y, rfl, h.symm⟩
theorem lock_isO (x : Slot) : x.lock.isO = x.isO := by cases x <;> rfl
theorem lock_own (x : Slot) (xs : List D) : x.lock ≠ .own xs := by cases x <;> simp [Slot.lock]
theorem wipeS_lck : ∀ (own : List Nat) (sl sl' : List Slot), wipeS own sl = some sl' → ∀ {i : Nat} {xs : List D}, sl[i]? = some (.lck xs) → i ∉ own ∧ sl'[i]? = some (.lck xs)
  | [], sl, sl', h, i, xs, e => by
    simp only [wipeS, Option.some.injEq] at h
    subst h
    exact ⟨by simp, e⟩
  | j :: r, sl, sl', h, i, xs, e => by
    unfold wipeS at h
    split at h
    · cases h
    · cases h
    · rename_i n1 n2
      split at h
      · rename_i sl2 e2
        injection h with h
        subst h
        obtain ⟨a1, a2⟩ := wipeS_lck r sl sl2 e2 e
        have hij : j ≠ i := fun z => n2 xs (by rw [z]; exact e)
        exact ⟨by simp [Ne.symm hij, a1], by rw [List.getElem?_set_ne hij]; exact a2⟩
      · cases h
/-- the block's state -/
theorem StR.blk (r : StR C E W σ H s) {own : List Nat} {sl : List Slot} (h : wipeS own (s.sl.map Slot.lock) = some sl) : StR C E W (wipe σ own) H ⟨sl, s.rg⟩ := by
  obtain ⟨hl, hg⟩ := wipeS_get _ _ _ h
  have own1 : ∀ j, OwnAt ⟨sl, s.rg⟩ j → j ∉ own ∧ OwnAt s j := fun j ⟨x, hj, hx⟩ => by
    rcases hg j x hj with ⟨_, rfl⟩ | ⟨a, b⟩
    · cases hx
    · obtain ⟨y, h1, rfl⟩ := lock_get b
      exact ⟨a, y, h1, by rw [← lock_isO]; exact hx⟩
  have out : ∀ j : Nat, j ∉ own → (wipe σ own)[j]? = σ[j]? := fun j hj => by rw [wipe_get]; simp [hj]
  refine ⟨r.kp, r.fr, r.gh, r.rg, ?_, fun i x hx => ?_, fun i j a o1 o2 e1 e2 => ?_, fun i a o e => ?_, fun p hp => ?_, r.lo⟩
  · show (wipe σ own).length = sl.length
    rw [wipe_length, hl, List.length_map]; exact r.len
  · rcases hg i x hx with ⟨_, rfl⟩ | ⟨a, b⟩
    · trivial
    · obtain ⟨y, h1, rfl⟩ := lock_get b
      rw [out i a]
      have q := r.sl i y h1
      cases y <;> exact q
  · obtain ⟨a1, b1⟩ := own1 i o1
    obtain ⟨a2, b2⟩ := own1 j o2
    rw [out i a1] at e1
    rw [out j a2] at e2
    exact r.nd i j a b1 b2 e1 e2
  · obtain ⟨a1, b1⟩ := own1 i o
    rw [out i a1] at e
    exact r.ow i a b1 e
  · obtain ⟨ys, b1, b2, b3⟩ := r.pr p hp
    have hm : (s.sl.map Slot.lock)[p.1]? = some (.lck ys) := by rw [List.getElem?_map, b1]; rfl
    obtain ⟨c1, c2⟩ := wipeS_lck _ _ _ h hm
    exact ⟨ys, c2, by rw [out _ c1]; exact b2, b3⟩
theorem wipeS_noUn {own : List Nat} {s : S} {sl : List Slot} (h : wipeS own (s.sl.map Slot.lock) = some sl) (r : Rng) (i : Nat) : ¬ UnAt ⟨sl, r⟩ i := fun ⟨xs, hx⟩ => by
  obtain ⟨_, hg⟩ := wipeS_get _ _ _ h
  rcases hg i _ hx with ⟨_, z⟩ | ⟨_, b⟩
  · cases z
  · obtain ⟨y, _, e⟩ := lock_get b
    exact lock_own y xs e.symm
theorem foldl_noUn : ∀ (l : List (Nat × D)) (sl : List Slot), (∀ (i : Nat) (xs : List D), sl[i]? ≠ some (Slot.own xs)) → ∀ (i : Nat) (xs : List D), (l.foldl (fun (l : List Slot) p => l.set p.1 (Slot.val p.2)) sl)[i]? ≠ some (Slot.own xs)
  | [], sl, h => h
  | p :: l, sl, h => foldl_noUn l _ fun i xs e => by
    rcases get_set e with ⟨_, z, _⟩ | ⟨_, z⟩
    · cases z
    · exact h i xs z
theorem bindTg_noUn {tg : Tg} {d : D} {sl sl' : List Slot} {r : Rng} (h : bindTg tg d sl = some sl') (n : ∀ i, ¬ UnAt ⟨sl, r⟩ i) (r' : Rng) (i : Nat) : ¬ UnAt ⟨sl', r'⟩ i := fun ⟨xs, hx⟩ => by
  have n' : ∀ (i : Nat) (xs : List D), sl[i]? ≠ some (Slot.own xs) := fun i xs e => n i ⟨xs, e⟩
  have hx : sl'[i]? = some (.own xs) := hx
  cases tg with
  | nm j =>
    simp only [bindTg] at h
    split at h
    · injection h with h
      subst h
      rcases get_set hx with ⟨_, z, _⟩ | ⟨_, z⟩
      · cases z
      · exact n' i xs z
    · cases h
  | tp is =>
    cases d with
    | tup ds =>
      simp only [bindTg] at h
      split at h
      · injection h with h
        subst h
        exact foldl_noUn _ _ n' i xs hx
      · cases h
    | _ => simp [bindTg] at h
/-- an object of ours that no data lean on is changed -/
theorem StR.updFree (r : StR C E W σ H s) {p : Addr} {o : HO} (g : W.G p = none) (e : E.H p = none) (ns : ¬ InSt W p) (ne : ∀ i : Nat, OwnAt s i → σ[i]? ≠ some (some (.ref p))) (hx : ∀ a cls dx, E.xa = some (a, cls, dx) → dx ≠ some p) {us : List V} (hl : H p = some (.lst us)) : StR C E W σ (upd H p o) s := by
  refine ⟨⟨r.kp.le, fun b u h n nt => ?_, r.kp.sn, r.kp.tt.trans (tt_lst hl)⟩, r.fr, fun b u h => ?_, r.rg.same rfl (fun b hb => ?_) (fun _ _ => rfl), r.len, fun i x h => ?_, r.nd, r.ow, fun q hq => ?_, r.lo⟩
  · rw [upd_ne]
    · exact r.kp.kp0 b u h n nt
    · rintro rfl; rw [e] at h; cases h
  · rw [upd_ne]
    · exact r.gh b u h
    · rintro rfl; rw [g] at h; cases h
  · rw [upd_ne]; rintro rfl; exact ns hb
  · have q := r.sl i x h
    cases x with
    | uns => trivial
    | val d => exact q
    | own xs =>
      obtain ⟨a, vs, e1, h1, h2⟩ := q
      exact ⟨a, vs, e1, by rw [upd_ne]; exact h1; rintro rfl; exact ne i ⟨_, h, rfl⟩ e1, h2⟩
    | lck xs =>
      obtain ⟨a, vs, e1, h1, h2⟩ := q
      exact ⟨a, vs, e1, by rw [upd_ne]; exact h1; rintro rfl; exact ne i ⟨_, h, rfl⟩ e1, h2⟩
    | exv ex =>
      obtain ⟨a, cls, dx, e1, e2, e3, b, vs, e4, hb, hr⟩ := q
      exact ⟨a, cls, dx, e1, e2, e3, b, vs, e4, by rw [upd_ne]; exact hb; rintro rfl; exact hx a cls dx e2 e4, hr⟩
  · obtain ⟨ys, b1, b2, b3⟩ := r.pr q hq
    refine ⟨ys, b1, b2, ?_⟩
    rw [upd_ne]
    · exact b3
    · intro z; rw [z] at b2; exact ne q.1 ⟨_, b1, rfl⟩ b2

def tC1 (C : Ct) (E : En) (t : Option (S → RE D)) : TT := match t with
  | none => tYes
  | some t => tT C E (fun _ _ _ _ => False) t
/-- the reading of a comprehension follows from the evaluator's -/
theorem lc_go {fz own : List Nat} {tg : Tg} {mi : S → RE (List D)} {t : Option (S → RE D)} {me : S → RE D} {σ : L2.St} {H : Hp} {Q : VK} (hx : E.xa = none) (htg : ∀ i ∈ (match tg with | .nm i => [i] | .tp is => is), i ∈ own)
    (h : tE C E Wx (fun s => (mi (frzS fz s)).bind fun xs s => compR own (compF t me tg) xs s) .fr σ H Q) :
    tLc (tI C E Wx false mi) (gT C.K tg) (tC1 C E t) (tE C E (fun _ _ _ _ => False) me .st) own σ H Q := by
  obtain ⟨W0, s0, r0, h⟩ := h
  obtain ⟨Wa, ra, ka⟩ := r0.frzAll fz
  refine ⟨Wa, frzS fz s0, ra, ((EC.bind h).rebase ra ka).mono fun ds W1 H1 s1 r1 k1 h1 o J src hsrc itr => fun Dd hD => ?_⟩
  unfold compR at h1
  cases hw : wipeS own (s1.sl.map Slot.lock) with
  | none => rw [hw] at h1; exact h1.elim
  | some slb =>
    rw [hw] at h1
    simp only [] at h1
    cases hc : compL (compF t me tg slb) ds s1.rg [] with
    | stuck => rw [hc] at h1; exact h1.elim
    | exc e s => rw [hc] at h1; exact h1.elim
    | ok dsR sR =>
      rw [hc] at h1
      have noUn := wipeS_noUn hw
      obtain ⟨f1, f2, f3⟩ := r1.free0 hD
      have rb0 := r1.blk hw
      have neD : ∀ {W H r}, StR C E W (wipe σ own) H ⟨slb, r⟩ → ∀ i : Nat, OwnAt ⟨slb, r⟩ i → (wipe σ own)[i]? ≠ some (some (.ref Dd)) := fun {W H r} _ i oi => rb0.slotNe hD i oi
      refine ⟨fun i m Hc => i ≤ ds.length ∧ m = ds.length - i ∧ ∃ Wc rc acc dacc, StR C E Wc (wipe σ own) Hc ⟨slb, rc⟩ ∧ Keep W1 H1 Wc Hc ∧ (∀ b, W1.G b = none → Wc.G b ≠ none → H1 b = none) ∧ Hc Dd = some (.lst acc) ∧ Reps C Wc acc dacc ∧ Wc.G Dd = none ∧ ¬ InSt Wc Dd ∧ SrcAt o Hc ∧ compL (compF t me tg slb) (ds.drop i) rc dacc = .ok dsR sR,
        ⟨ds.length, Nat.zero_le _, rfl, W1, s1.rg, [], [], rb0.alloc hD, ⟨Le.refl _, fun b u hb _ _ => by rw [upd_ne (ne_of_none hb hD)]; exact hb, fun _ h => .inl h, tt_fresh hD⟩, fun b h q => absurd h q, upd_same, .nil, f2, f3, ?_, hc⟩, fun i m Hc hW => ?_⟩
      · cases o with
        | none => trivial
        | some av =>
          obtain ⟨a, vs⟩ := av
          have src : H1 a = some (.lst vs) := src
          show upd H1 Dd (.lst []) a = some (.lst vs)
          rw [upd_ne (ne_of_none src hD)]; exact src
      · obtain ⟨hi, rfl, Wc, rc, acc, dacc, rb, kp, gn, hDc, hacc, gD, nD, srcC, run⟩ := hW
        have g1c : Same W1.G Hc := fun b u hb => rb.gh b u (kp.le.g b u hb)
        by_cases hlt : i < ds.length
        · have hd : ds[i]? = some ds[i] := List.getElem?_eq_getElem hlt
          obtain ⟨go, yl⟩ := itr.go i ds[i] Hc hd g1c srcC
          refine .inr ⟨go, fun H' => ∃ m', m' < ds.length - i ∧ (i + 1 ≤ ds.length ∧ m' = ds.length - (i + 1) ∧ ∃ Wc rc acc dacc, StR C E Wc (wipe σ own) H' ⟨slb, rc⟩ ∧ Keep W1 H1 Wc H' ∧ (∀ b, W1.G b = none → Wc.G b ≠ none → H1 b = none) ∧ H' Dd = some (.lst acc) ∧ Reps C Wc acc dacc ∧ Wc.G Dd = none ∧ ¬ InSt Wc Dd ∧ SrcAt o H' ∧ compL (compF t me tg slb) (ds.drop (i + 1)) rc dacc = .ok dsR sR), fun H' z => z, fun x Hx y => ?_⟩
          obtain ⟨rfl, hx1⟩ := yl x Hx y
          have hxr : Rep C Wc x ds[i] := hx1.mono kp.le
          rw [List.drop_eq_getElem_cons hlt] at run
          simp only [compL] at run
          -- the turn's parts
          unfold compF at run
          cases hb : bindTg tg ds[i] slb with
          | none => rw [hb] at run; simp at run
          | some slt =>
            rw [hb] at run
            simp only [] at run
            have noT := bindTg_noUn (r' := rc) hb (noUn rc)
            refine tg_go rb hxr hb fun σ' ⟨l, el, hl⟩ rt => ⟨?_, ?_⟩
            · rw [el, wipe_setAll fun p hp => htg _ (hl p hp), wipe_wipe]
            · have rt : StR C E Wc σ' Hx ⟨slt, rc⟩ := rt
              -- what a turn leaves, from where its evaluations end
              have fin : ∀ {W' : Wd} {H' : Hp} {s' : S}, StR C E W' σ' H' s' → ExK σ' Wc Hx ⟨slt, rc⟩ W' H' s' → StR C E W' (wipe σ own) H' ⟨slb, s'.rg⟩ ∧ Keep W1 H1 W' H' ∧ (∀ b, W1.G b = none → W'.G b ≠ none → H1 b = none) ∧ H' Dd = some (.lst acc) ∧ Reps C W' acc dacc ∧ W'.G Dd = none ∧ ¬ InSt W' Dd ∧ SrcAt o H' := fun {W' H' s'} r' k' => by
                have gn' : ∀ b, Wc.G b = none → W'.G b ≠ none → Hx b = none := fun b h1 h2 => by
                  rcases k'.gn b h1 h2 with z | ⟨j, hj, _⟩
                  · exact z
                  · exact absurd hj (noT j)
                obtain ⟨rb', _⟩ := rb.call k'.k gn' r'.gh r'.rg
                refine ⟨rb', kp.trans k'.k, fun b h1 h2 => ?_, k'.k.kp _ _ hDc (k'.k.notSt hDc nD), hacc.mono k'.k.le, ?_, k'.k.notSt hDc nD, ?_⟩
                · by_cases h3 : Wc.G b = none
                  · have h4 := gn' b h3 h2
                    cases q : H1 b with
                    | none => rfl
                    | some u =>
                      by_cases hs : InSt Wc b
                      · obtain ⟨_, z, _⟩ := rb.stAt hs
                        rw [h4] at z; cases z
                      · exact absurd h4 (kp.ne q hs)
                  · exact gn b h1 h3
                · cases q : W'.G Dd with
                  | none => rfl
                  | some u =>
                    have := gn' Dd gD (by rw [q]; intro z; cases z)
                    rw [hDc] at this; cases this
                · cases o with
                  | none => trivial
                  | some av =>
                    obtain ⟨a, vs⟩ := av
                    have q : Hx a = some (.lst vs) := srcC
                    have nC : ¬ InSt Wc a := kp.notSt src (hsrc a vs rfl).2
                    exact k'.k.kp _ _ q (k'.k.notSt q nC)
              have add : ∀ {W' : Wd} {H' : Hp} {s' : S} {v : V} {d : D}, StR C E W' σ' H' s' → ExK σ' Wc Hx ⟨slt, rc⟩ W' H' s' → Rep C W' v d → dacc.length < lim → compL (compF t me tg slb) (ds.drop (i + 1)) s'.rg (dacc ++ [d]) = .ok dsR sR →
                  ∃ acc, H' Dd = some (.lst acc) ∧ acc.length < sizeLine ∧ ∃ m', m' < ds.length - i ∧ (i + 1 ≤ ds.length ∧ m' = ds.length - (i + 1) ∧ ∃ Wc rc acc2 dacc, StR C E Wc (wipe σ own) (upd H' Dd (.lst (acc ++ [v]))) ⟨slb, rc⟩ ∧ Keep W1 H1 Wc (upd H' Dd (.lst (acc ++ [v]))) ∧ (∀ b, W1.G b = none → Wc.G b ≠ none → H1 b = none) ∧ (upd H' Dd (.lst (acc ++ [v]))) Dd = some (.lst acc2) ∧ Reps C Wc acc2 dacc ∧ Wc.G Dd = none ∧ ¬ InSt Wc Dd ∧ SrcAt o (upd H' Dd (.lst (acc ++ [v]))) ∧ compL (compF t me tg slb) (ds.drop (i + 1)) rc dacc = .ok dsR sR) := fun {W' H' s' v d} r' k' hv hz run' => by
                obtain ⟨b1, b2, b3, b4, b5, b6, b7, b8⟩ := fin r' k'
                refine ⟨acc, b4, by rw [b5.length]; exact lt_size hz, ds.length - (i + 1), by omega, hlt, rfl, W', s'.rg, acc ++ [v], dacc ++ [d], b1.updFree b6 f1 b7 (neD b1) (fun a cls dx z => by rw [hx] at z; cases z) b4, ⟨b2.le, fun b u hb n nt => ?_, b2.sn, b2.tt.trans (tt_lst b4)⟩, b3, upd_same, b5.append (.one hv), b6, b7, ?_, run'⟩
                · rw [upd_ne (ne_of_none hb hD)]; exact b2.kp0 b u hb n nt
                · cases o with
                  | none => trivial
                  | some av =>
                    obtain ⟨a, vs⟩ := av
                    have q : H' a = some (.lst vs) := b8
                    show upd H' Dd (.lst (acc ++ [v])) a = some (.lst vs)
                    rw [upd_ne (ne_of_none src hD)]; exact q
              cases t with
              | none =>
                show tE C E _ me .st σ' Hx _
                simp only [] at run
                refine ⟨Wc, ⟨slt, rc⟩, rt, ?_⟩
                cases hm : me ⟨slt, rc⟩ with
                | stuck => rw [hm] at run; simp [RE.bind] at run
                | exc e s' => rw [hm] at run; simp [RE.bind] at run
                | ok d s' =>
                  rw [hm] at run
                  simp only [RE.bind] at run
                  split at run
                  · rename_i hz
                    exact fun W' H' r' k' v hv => add r' k' hv hz run
                  · cases run
              | some t =>
                simp only [] at run
                refine ⟨Wc, ⟨slt, rc⟩, rt, ?_⟩
                cases ht : t ⟨slt, rc⟩ with
                | stuck => rw [ht] at run; simp [RE.bind] at run
                | exc e s' => rw [ht] at run; simp [RE.bind] at run
                | ok b s2 =>
                  rw [ht] at run
                  simp only [RE.bind] at run
                  intro W2 H2 r2 k2
                  cases b with
                  | bl k =>
                    refine ⟨k, rfl, ?_⟩
                    cases k with
                    | false =>
                      rw [if_neg Bool.false_ne_true]
                      simp only [] at run
                      obtain ⟨b1, b2, b3, b4, b5, b6, b7, b8⟩ := fin r2 k2
                      exact ⟨ds.length - (i + 1), by omega, hlt, rfl, W2, s2.rg, acc, dacc, b1, b2, b3, b4, b5, b6, b7, b8, run⟩
                    | true =>
                      rw [if_pos rfl]
                      simp only [] at run
                      refine ⟨W2, s2, r2, ?_⟩
                      cases hm : me s2 with
                      | stuck => rw [hm] at run; simp at run
                      | exc e s' => rw [hm] at run; simp at run
                      | ok d s' =>
                        rw [hm] at run
                        simp only [] at run
                        split at run
                        · rename_i hz
                          exact fun W' H' r' k' v hv => add r' (k2.trans r2 k') hv hz run
                        · cases run
                  | _ => simp at run
        · have e : i = ds.length := by omega
          subst e
          rw [List.drop_eq_nil_of_le (Nat.le_refl _)] at run
          simp only [compL, RE.ok.injEq] at run
          obtain ⟨rfl, rfl⟩ := run
          refine .inl ⟨itr.stop Hc g1c srcC, ?_⟩
          obtain ⟨rF, kF⟩ := r1.call kp gn rb.gh rb.rg
          have k01 := ka.trans ra k1
          refine h1 Wc Hc rF kF _ ⟨Dd, acc, rfl, hDc, hacc, gD, f1, nD, ?_, fun j hj => r1.slotNe hD j hj⟩
          cases q : H Dd with
          | none => rfl
          | some u => exact absurd hD (k01.k.ne q f3)
end
end Vi

/-! V11: the terms against the text: expressions. -/
namespace Vi
open PySem PySem.Spec PyProof.Rows L2

mutual
def D.eqb : D → D → Bool
  | .non, .non => true
  | .bl a, .bl b => a == b
  | .int a, .int b => a == b
  | .str a, .str b => decide (a = b)
  | .tup a, .tup b => D.eqbs a b
  | _, _ => false
def D.eqbs : List D → List D → Bool
  | [], [] => true
  | a :: r, b :: t => D.eqb a b && D.eqbs r t
  | _, _ => false
end
mutual
theorem D.eqb_eq : ∀ {a b : D}, D.eqb a b = true → a = b
  | .non, b, h => by cases b <;> first | rfl | (simp [D.eqb] at h)
  | .bl x, b, h => by cases b <;> first | (simp [D.eqb] at h; done) | (simp [D.eqb] at h; rw [h])
  | .int x, b, h => by cases b <;> first | (simp [D.eqb] at h; done) | (simp [D.eqb] at h; rw [h])
  | .str x, b, h => by cases b <;> first | (simp [D.eqb] at h; done) | (simp [D.eqb] at h; rw [h])
  | .tup x, b, h => by
    cases b with
    | tup y => simp only [D.eqb] at h; rw [D.eqbs_eq h]
    | _ => simp [D.eqb] at h
  | .lst x, b, h => by cases b <;> simp [D.eqb] at h
  | .scr x, b, h => by cases b <;> simp [D.eqb] at h
  | .tok, b, h => by cases b <;> simp [D.eqb] at h
  | .cel, b, h => by cases b <;> simp [D.eqb] at h
  | .fn x, b, h => by cases b <;> simp [D.eqb] at h
theorem D.eqbs_eq : ∀ {a b : List D}, D.eqbs a b = true → a = b
  | [], b, h => by cases b <;> first | rfl | (simp [D.eqbs] at h)
  | x :: r, b, h => by
    cases b with
    | nil => simp [D.eqbs] at h
    | cons y t =>
      simp only [D.eqbs, Bool.and_eq_true] at h
      rw [D.eqb_eq h.1, D.eqbs_eq h.2]
end

/-- what the look leans on -/
structure Kx where
  N : List Str
  sc : Scope
  st : List (Str × NameKind)
  bn : List Str
  fns : List (Str × Nat)
  gls : List (Str × D)
  cls : List (Str × Nat)
  hot : Option Nat
  lam : Bool := false
def Kx.isGl (k : Kx) (x : Str) : Bool := decide (k.sc.names.lookup x = some .globalImplicit)
def Kx.isVis (k : Kx) (x : Str) : Bool := decide (k.sc.names.lookup x = some .local) || decide (k.sc.names.lookup x = some .cell) || decide (k.sc.names.lookup x = some .free)
def Kx.isSt (k : Kx) (x : Str) : Bool := decide (k.st.lookup x = some .local) || decide (k.st.lookup x = some .cell)
def okN (x : Str) : Bool := !(x == ("__debug__" : Str)) && !(x == ("__classdict__" : Str))
def Kx.slot (k : Kx) (i : Nat) (x : Str) : Bool := decide (k.N[i]? = some x) && k.isVis x && okN x
def Kx.blt (k : Kx) (x : Str) : Bool := k.isGl x && decide (x ∈ k.bn)
def cstOk : Const → D → Bool
  | .none, .non => true
  | .bool a, .bl b => a == b
  | .int a, .int b => a == b
  | .str a, .str b => decide (a = b)
  | _, _ => false
def noStar : Expr → Bool
  | .Starred .. => false
  | _ => true
def noSl : Expr → Bool
  | .Slice .. => false
  | _ => true
def noSet : Expr → Bool
  | .Set .. => false
  | _ => true
def chkTg (k : Kx) : Tg → Expr → Bool
  | .nm i, .Name x _ => decide (k.N[i]? = some x) && k.isSt x
  | .tp is, .Tuple es _ _ => k.hot.isNone && decide (is.length = es.length) && (is.zip es).all fun p => match p.2 with | .Name x _ => decide (k.N[p.1]? = some x) && k.isSt x | _ => false
  | _, _ => false
def Tg.slots : Tg → List Nat
  | .nm i => [i]
  | .tp is => is
def mdE : IE → Md
  | .var _ => .st
  | .pk _ => .wk
  | .bin .. => .fr
  | .lst _ => .fr
  | .sl .. => .fr
  | .rev _ => .fr
  | .blt (.isi _) _ => .st
  | .blt .. => .fr
  | .lc .. => .fr
  | .and _ b => if mdE b = .wk then .wk else .st
  | .or _ b => if mdE b = .wk then .wk else .st
  | .ife _ a b => if mdE a = .wk ∨ mdE b = .wk then .wk else if mdE a = .fr ∧ mdE b = .fr then .fr else .st
  | _ => .st
def tOk : IE → Bool
  | .ife t a b => tOk t && tOk a && tOk b
  | .and a b => tOk a && tOk b
  | .or a b => tOk a && tOk b
  | .not a => tOk a
  | _ => true
def IE.pkOf : IE → Option Nat
  | .pk i => some i
  | _ => none
def lenEs : IEs → Nat
  | .nil => 0
  | .cons _ r => lenEs r + 1
def fieldOk (x : Str) : Bool := decide (x = Str.ofString "word") || decide (x = Str.ofString "line") || decide (x = Str.ofString "place") || decide (x = Str.ofString "limit")
def blkK (k : Kx) (sc : Scope) : Kx := { k with sc := relS sc k.sc, st := sc.names, lam := false }
def isSp1 (k : Kx) (x y : Str) : Bool := decide (x = "len") && decide (y = "set") && k.blt x && k.blt y
/-- lambda row: row[n] -/
def chkLam (n : Nat) : Expr → Bool
  | .Lambda ⟨[], [⟨x, none, _⟩], none, [], [], none, []⟩ (.Subscript (.Name y _) (.Constant (.int i) _ _) _) scope _ =>
    decide (x = Str.ofString "row") && decide (y = Str.ofString "row") && decide (i = (n : Int)) && decide (n < 1000) && decide (scope.kind = .function) && !scope.isCoroutine && !scope.isGenerator && decide (scope.names = [(Str.ofString "row", .local)])
  | _ => false
def isSp2 (n : Nat) (k : Kx) (x y : Str) (e : Expr) : Bool := decide (x = "sorted") && k.lam && decide (y = Str.ofString "key") && k.blt x && chkLam n e
/-- the arguments of a call of a special shape -/
def chkSp : Spc → Kx → Expr → List Expr → List Keyword → Option (List Expr)
  | .lset, k, f, l, kw => match f, l, kw with
    | .Name x _, [.Call (.Name y _) [a] [] _], [] => if isSp1 k x y then some [a] else none
    | _, _, _ => none
  | .skey n, k, f, l, kw => match f, l, kw with
    | .Name x _, [a], [⟨some y, e, _⟩] => if isSp2 n k x y e then some [a] else none
    | _, _, _ => none
mutual
def chkE : IE → Kx → Expr → Bool
  | .var i, k, e => match e with | .Name x _ => k.slot i x | _ => false
  | .pk i, k, e => match e with | .Name x _ => k.slot i x | _ => false
  | .cst d, _, e => match e with | .Constant c _ _ => cstOk c d | _ => false
  | .glb x d, k, e => match e with | .Name y _ => decide (x = y) && k.isGl x && okN x && k.gls.any fun p => decide (p.1 = x) && D.eqb d p.2 | _ => false
  | .fnr x i, k, e => match e with | .Name y _ => decide (x = y) && k.isGl x && okN x && decide ((k.fns[i]?).map (·.1) = some x) | _ => false
  | .bin o a b, k, e => match e with | .BinOp l op r _ => decide (op = opOf o) && chkE a k l && chkE b k r | _ => false
  | .neg a, k, e => match e with | .UnaryOp .USub x _ => chkE a k x | _ => false
  | .cmp o a b, k, e => match e with | .Compare l [op] [r] _ => decide (op = cmpOf o) && chkE a k l && chkE b k r && noSet r | _ => false
  | .chn o o' a b c, k, e => match e with | .Compare l [op, op'] [r, r'] _ => decide (op = cmpOf o) && decide (op' = cmpOf o') && chkE a k l && chkE b k r && chkE c k r' && noSet r' | _ => false
  | .and a b, k, e => match e with
    | .BoolOp .And [x, y] _ => chkE a k x && chkE b k y
    | .BoolOp .And (x :: y :: z :: r) p => chkE a k x && chkE b k (.BoolOp .And (y :: z :: r) p)
    | _ => false
  | .or a b, k, e => match e with
    | .BoolOp .Or [x, y] _ => chkE a k x && chkE b k y
    | .BoolOp .Or (x :: y :: z :: r) p => chkE a k x && chkE b k (.BoolOp .Or (y :: z :: r) p)
    | _ => false
  | .not a, k, e => match e with | .UnaryOp .Not x _ => chkE a k x | _ => false
  | .ife t a b, k, e => match e with | .IfExp c x y _ => chkE t k c && tOk t && chkE a k x && chkE b k y | _ => false
  | .tup es, k, e => match e with | .Tuple l _ _ => chkEs es k l && strong es | _ => false
  | .lst es, k, e => match e with | .List l _ => chkEs es k l && strong es | _ => false
  | .ix a i, k, e => match e with | .Subscript x j _ => chkE a k x && chkE i k j && noSl j | _ => false
  | .sl a lo hi, k, e => match e with | .Subscript x (.Slice l h none _) _ => chkE a k x && chkO lo k l && chkO hi k h | _ => false
  | .rev a, k, e => match e with | .Subscript x (.Slice none none (some (.UnaryOp .USub (.Constant (.int 1) _ _) _)) _) _ => chkE a k x | _ => false
  | .blt b es, k, e => match b with
    | .isi t => match e with
      | .Call (.Name f _) [x, .Name y _] [] _ => match es with
        | .cons a .nil => decide (f = "isinstance") && decide (y = Str.ofString t) && decide (t ∈ tyNames) && k.blt f && k.blt y && chkE a k x && noStar x
        | _ => false
      | _ => false
    | b => match e with
      | .Call (.Name f _) (x :: l) [] _ => k.hot.isNone && decide (f = bName b) && k.blt f && chkEs es k (x :: l)
      | _ => false
  | .call x i es, k, e => match e with
    | .Call (.Name f _) l [] _ => decide (f = x) && k.isGl x && okN x && decide (k.fns[i]? = some (x, l.length)) && chkEs es k l && strong es
    | _ => false
  | .lend x i es, k, e => match e with
    | .Call (.Name f _) l [] _ => decide (f = x) && k.isGl x && okN x && decide (k.fns[i]? = some (x, l.length)) && chkEs es k l && !l.isEmpty
    | _ => false
  | .cv i es, k, e => match e with
    | .Call (.Name f _) (x :: l) [] _ => k.hot.isNone && k.slot i f && chkEs es k (x :: l) && strong es
    | _ => false
  | .lc a tg it c own _, k, e => match e with
    | .ListComp elt [⟨t, i, ifs, n⟩] sc _ => k.hot.isNone && decide (n = 0) && chkI it k i && noSet i && blkC k.N k.sc sc (own.map fun j => (k.N.getD j Str.empty, j)) && chkTg (blkK k sc) tg t && (tg.slots.all fun j => decide (j ∈ own)) && chkE a (blkK k sc) elt && decide (mdE a ≠ .wk) && chkC c (blkK k sc) ifs
    | _ => false
  | .fld i x, k, e => match e with | .Attribute (.Name n _) a _ => decide (k.hot = some i) && decide (a = x) && k.slot i n && fieldOk x | _ => false
  | .sp o es, k, e => match e with
    | .Call f l kw _ => (match chkSp o k f l kw with | some l' => k.hot.isNone && chkEs es k l' | none => false)
    | _ => false
def chkEs : IEs → Kx → List Expr → Bool
  | .nil, _, l => match l with | [] => true | _ => false
  | .cons a r, k, l => match l with | e :: l => chkE a k e && noStar e && chkEs r k l | _ => false
def chkO : IO → Kx → Option Expr → Bool
  | .none, _, o => match o with | none => true | _ => false
  | .some a, k, o => match o with | some e => chkE a k e | _ => false
def chkC : IO → Kx → List Expr → Bool
  | .none, _, l => match l with | [] => true | _ => false
  | .some a, k, l => match l with | [e] => chkE a k e && tOk a | _ => false
def chkI : II → Kx → Expr → Bool
  | .rng1 a, k, e => match e with | .Call (.Name f _) [x] [] _ => decide (f = "range") && k.blt f && chkE a k x && noStar x | _ => false
  | .rng2 a b, k, e => match e with | .Call (.Name f _) [x, y] [] _ => decide (f = "range") && k.blt f && chkE a k x && noStar x && chkE b k y && noStar y | _ => false
  | .rng3 a b c, k, e => match e with | .Call (.Name f _) [x, y, .UnaryOp .USub (.Constant (.int 1) _ _) _] [] _ => decide (f = "range") && decide (c = -1) && k.blt f && chkE a k x && noStar x && chkE b k y && noStar y | _ => false
  | .seq a, k, e => chkE a k e
def strong : IEs → Bool
  | .nil => true
  | .cons a r => decide (mdE a ≠ .wk) && strong r
end

/-- what the context holds of the text -/
def HotX (E : En) (X : Cx) : Prop := ∃ a oe cls d pn X0, X = Cx.suite X0 a ((a, oe) :: pn) ∧ Zc cls d oe ∧ (∃ vs, oe.data = .fields vs) ∧ E.xa = some (a, cls, d)
/-- an entry that differs in its locks alone -/
def EnOk (E E' : En) : Prop := E'.xa = E.xa ∧ E'.H = E.H ∧ E'.W = E.W
/-- the def's table of code objects, for its lambda -/
def LamC (C : Ct) (X : Cx) : Prop := ∃ c P, LamX.TabB X.base X.mg c P ∧ X.env.code = .ref c ∧ (P, X.env.qual ++ "<lambda>") ∈ C.T ∧ (∀ p ∈ C.T, p.1 = P → p.2 = X.env.qual ++ "<lambda>") ∧ X.A.depth + 8 < recursionLimit
structure Gx (C : Ct) (E : En) (k : Kx) (Wx : WX) (X : Cx) (cl : Cl) : Prop where
  N : X.N = k.N
  nd : k.N.Nodup
  sc : X.env.scope = k.sc
  K : X.K = C.K
  cal : k.hot.isNone = true → X.calm = true
  xa : k.hot.isNone = true → E.xa = none
  xh : k.hot.isNone = false → HotX E X
  xf : ∀ c ∈ C.ok, XfC X.K (C.clA c) ∧ ∀ n ∈ exFlds c, PySem.W.findIn X.K (.ref (C.clA c)) n = some none
  un : X.A.units + 65 < cLine
  bl : ∀ x, x ∈ k.bn → X.mg x = none
  gl : ∀ x d, (x, d) ∈ k.gls → ∃ v u, X.mg x = some u ∧ RelV v u ∧ ∀ W, Rep C W v d
  fn : ∀ i x n, k.fns[i]? = some (x, n) → X.mg x = some (.ref (C.fA i)) ∧ ∃ (fd : FuncData) (ps : List Str) (j : Nat), FnOk X.prog X.w X.K X.mg X.base (L2.CX X.prog X.w) j (C.fA i) fd ps (spC C cl i ps.length) ∧ ps.length = n ∧ Room j X.A ∧ PySem.W.keepIn X.K (.ref (C.fA i)) = true ∧ Binds X.K fd ps []
  tb : k.hot.isNone = true → ∀ j ds r, cl j ds r ≠ .stuck → ∃ x, k.fns[j]? = some (x, ds.length)
  tk : Takes X Wx
  ta : TaOk C E
  lm : k.lam = true → LamC C X
  st : ∀ x, k.isSt x = true → Loc X.env.scope x ∧ (X.fn x = true ∨ X.env.scope.names.lookup x = some .local)
section
variable {C : Ct} {E : En} {Wx : WX} {X : Cx} {cl : Cl} {k : Kx}
theorem Gx.glb (g : Gx C E k Wx X cl) {x : Str} (h : k.isGl x = true) : Gl X x := by
  unfold Kx.isGl at h
  show X.env.scope.names.lookup x = _
  rw [g.sc]; exact of_decide_eq_true h
theorem Gx.vis (g : Gx C E k Wx X cl) {x : Str} (h : k.isVis x = true) : Vis X.env.scope x := by
  unfold Kx.isVis at h
  simp only [Bool.or_eq_true, decide_eq_true_eq] at h
  unfold Vis
  rw [g.sc]
  rcases h with (h | h) | h
  · exact .inl h
  · exact .inr (.inl h)
  · exact .inr (.inr h)
theorem okN_d {x : Str} (h : okN x = true) : (x == ("__debug__" : Str)) = false := by
  unfold okN at h
  simp only [Bool.and_eq_true, Bool.not_eq_true'] at h
  exact h.1
theorem okN_c {x : Str} (h : okN x = true) : (x == ("__classdict__" : Str)) = false := by
  unfold okN at h
  simp only [Bool.and_eq_true, Bool.not_eq_true'] at h
  exact h.2
theorem Gx.bltn (g : Gx C E k Wx X cl) {x : Str} (h : k.blt x = true) : Gl X x ∧ X.mg x = none := by
  unfold Kx.blt at h
  simp only [Bool.and_eq_true, decide_eq_true_eq] at h
  exact ⟨g.glb h.1, g.bl x h.2⟩
theorem star_of {e : Expr} {es : List Expr} {env : Env} (h : noStar e = true) : starEach (e :: es) env = (false, eval e env) :: starEach es env := by cases e <;> first | rfl | cases h
theorem mark_of {e : Expr} {op : CmpOp} (h : noSet e = true) : behindInMarks op e = false := by cases e <;> first | rfl | cases h
theorem last_of {a b : Expr} {o o' : CmpOp} (h : noSet b = true) : lastMarks [o, o'] [a, b] = false := by cases b <;> first | rfl | cases h
theorem plainIx_of {e : Expr} (h : noSl e = true) : PlainIx e := by cases e <;> first | (intro _ _; rfl) | cases h
theorem folded_of {e : Expr} {env : Env} (h : noSet e = true) : ∀ x, foldedSetIterable e env x = pure x := by cases e <;> first | (intro _; rfl) | cases h
theorem len_of : ∀ {es : IEs} {l : List Expr}, chkEs es k l = true → l.length = lenEs es
  | .nil, [], _ => rfl
  | .nil, _ :: _, h => by simp [chkEs] at h
  | .cons _ _, [], h => by simp [chkEs] at h
  | .cons a r, e :: l, h => by
    simp only [chkEs, Bool.and_eq_true] at h
    show l.length + 1 = lenEs r + 1
    rw [len_of h.2]
theorem plain_of : ∀ {es : IEs} {l : List Expr} {env : Env} {pos : Pos}, chkEs es k l = true → (backTo pos (starEach l env)).any (·.1) = false
  | .nil, [], _, _, _ => rfl
  | .nil, _ :: _, _, _, h => by simp [chkEs] at h
  | .cons _ _, [], _, _, h => by simp [chkEs] at h
  | .cons a r, e :: l, env, pos, h => by
    simp only [chkEs, Bool.and_eq_true] at h
    rw [star_of h.1.2]
    have := plain_of (env := env) (pos := pos) h.2
    show (false || (backTo pos (starEach l env)).any (·.1)) = false
    rw [this]; rfl
theorem evs_len : ∀ {es : IEs} {s s' : S} {ds : List D}, evs cl es s = .ok ds s' → ds.length = lenEs es
  | .nil, s, s', ds, h => by
    simp only [evs, RE.ok.injEq] at h
    obtain ⟨rfl, _⟩ := h
    rfl
  | .cons a r, s, s', ds, h => by
    simp only [evs] at h
    cases q : ev cl a s with
    | stuck => rw [q] at h; cases h
    | exc e s => rw [q] at h; cases h
    | ok x s1 =>
      rw [q] at h
      simp only [RE.bind] at h
      cases q2 : evs cl r s1 with
      | stuck => rw [q2] at h; cases h
      | exc e s => rw [q2] at h; cases h
      | ok xs s2 =>
        rw [q2] at h
        simp only [RE.ok.injEq] at h
        obtain ⟨rfl, _⟩ := h
        show xs.length + 1 = lenEs r + 1
        rw [evs_len q2]
theorem from_if {b : Md} : Md.from b (if b = .wk then .wk else .st) = true := by cases b <;> rfl
def okMs : List Md → IEs → Bool
  | [], .nil => true
  | m :: ms, .cons e r => (mdE e).from m && okMs ms r
  | _, _ => false
theorem okMs_st : ∀ {es : IEs}, strong es = true → okMs (List.replicate (lenEs es) .st) es = true
  | .nil, _ => rfl
  | .cons a r, h => by
    simp only [strong, Bool.and_eq_true, decide_eq_true_eq] at h
    show ((mdE a).from .st && okMs (List.replicate (lenEs r) .st) r) = true
    rw [okMs_st h.2, Bool.and_true]
    cases q : mdE a with
    | wk => exact absurd q h.1
    | st => rfl
    | fr => rfl
theorem okMs_wk : ∀ {es : IEs}, okMs (List.replicate (lenEs es) .wk) es = true
  | .nil => rfl
  | .cons a r => by
    show ((mdE a).from .wk && okMs (List.replicate (lenEs r) .wk) r) = true
    rw [okMs_wk, Bool.and_true]
    cases mdE a <;> rfl
theorem rep_st {n : Nat} : ∀ m ∈ List.replicate n Md.st, m = Md.st := fun m h => List.eq_of_mem_replicate h
/-- the block of a comprehension -/
theorem Gx.blk (g : Gx C E k Wx X cl) (hk : k.hot.isNone = true) (s : Shared) (H : Hp) (sc : Scope) (Cc : Addr) (l : List (Str × Addr)) (fp : List Addr) : Gx C E (blkK k sc) (fun _ _ _ _ => False) (X.blk s H sc (compEnvC sc l Cc X.env) fp) cl where
  N := g.N
  nd := g.nd
  sc := by
    show relS sc X.env.scope = relS sc k.sc
    rw [g.sc]
  K := g.K
  cal := g.cal
  xa := g.xa
  xh := fun z => by have z : k.hot.isNone = false := z; rw [hk] at z; cases z
  xf := g.xf
  un := g.un
  bl := g.bl
  gl := g.gl
  fn := g.fn
  tb := g.tb
  ta := g.ta
  lm := fun z => by cases z
  tk := fun _ _ x => by
    obtain ⟨_, _, _, _, _, _, _, _, _, _, _, _, _, _, _, _, z⟩ := x
    exact z.elim
  st := fun x h => by
    unfold Kx.isSt blkK at h
    simp only [Bool.or_eq_true, decide_eq_true_eq] at h
    have e : (compEnvC sc l Cc X.env).scope = relS sc X.env.scope := rfl
    rcases h with h | h
    · have q : (relS sc X.env.scope).names.lookup x = some .local := lookup_relS_keep (by decide) h
      exact ⟨.inl q, .inr q⟩
    · have q : (relS sc X.env.scope).names.lookup x = some .cell := lookup_relS_keep (by decide) h
      exact ⟨.inr q, .inl (by show (sc.names.lookup x == some .cell) = true; rw [h]; rfl)⟩
theorem pgs_names (g : Gx C E k Wx X cl) : ∀ (is : List Nat) (es : List Expr), is.length = es.length → (is.zip es).all (fun p => match p.2 with | .Name x _ => decide (k.N[p.1]? = some x) && k.isSt x | _ => false) = true →
    PGs X es (gNames is) ∧ (assignEach es X.env).length = es.length ∧ (assignEach es X.env).findIdx? (·.1) = none
  | [], [], _, _ => ⟨pgs_nil, rfl, rfl⟩
  | [], _ :: _, h, _ => by cases h
  | _ :: _, [], h, _ => by cases h
  | i :: is, e :: es, hl, h => by
    simp only [List.zip_cons_cons, List.all_cons, Bool.and_eq_true] at h
    obtain ⟨h1, h2, h3⟩ := pgs_names g is es (by simpa using hl) h.2
    cases e with
    | Name x p =>
      have h0 := h.1
      simp only [Bool.and_eq_true, decide_eq_true_eq] at h0
      obtain ⟨l1, l2⟩ := g.st x h0.2
      refine ⟨pgs_cons (pg_name (by rw [g.N]; exact g.nd) (by rw [g.N]; exact h0.1) l1 l2) h1 rfl, ?_, ?_⟩
      · show (assignEach es X.env).length + 1 = es.length + 1
        rw [h2]
      · show (((false, assign (.Name x p) X.env) :: assignEach es X.env).findIdx? (·.1)) = none
        rw [List.findIdx?_cons, h3]; rfl
    | _ => simp at h
theorem sTg (g : Gx C E k Wx X cl) {tg : Tg} {t : Expr} (h : chkTg k tg t = true) : PG X t (gT C.K tg) := by
  cases tg with
  | nm i =>
    cases t with
    | Name x p =>
      simp only [chkTg, Bool.and_eq_true, decide_eq_true_eq] at h
      obtain ⟨l1, l2⟩ := g.st x h.2
      exact pg_name (by rw [g.N]; exact g.nd) (by rw [g.N]; exact h.1) l1 l2
    | _ => simp [chkTg] at h
  | tp is =>
    cases t with
    | Tuple es n p =>
      simp only [chkTg, Bool.and_eq_true, decide_eq_true_eq] at h
      obtain ⟨h1, h2, h3⟩ := pgs_names g is es h.1.2 h.2
      rw [← g.K]
      exact pg_tup (g.cal h.1.1) h1 (h2.trans h.1.2.symm) h3
    | _ => simp [chkTg] at h
end
end Vi

/-! VM: sorted(xs, key=lambda row: row[n]). -/
namespace Vi
open PySem PySem.Spec PyProof.Rows L2
theorem Made.rd {H H1 : Hp} {P a : Addr} {q : Str} {o : HO} (m : Made H P q H1) (h : Rd H a o) (n : Nt o) : Rd H1 a o := by
  rcases h with h | ⟨z, h⟩
  · exact .inl (m.nt h n)
  · exact .inr ⟨z, m.nt h (fun ps e => by cases e)⟩
theorem Made.sqL {K : PySem.W.Frag} {H H1 : Hp} {P a : Addr} {q : Str} {xs : List V} (m : Made H P q H1) (h : SqL K H a xs) : SqL K H1 a xs := by
  rcases h with h | h
  · exact .inl (m.rd h (nt_lst _))
  · exact .inr h
theorem Made.sqT {K : PySem.W.Frag} {H H1 : Hp} {P a : Addr} {q : Str} {xs : List V} (m : Made H P q H1) (h : SqT K H a xs) : SqT K H1 a xs := by
  rcases h with h | h
  · exact .inl (m.rd h (fun ps e => by cases e))
  · exact .inr h
/-- rows with their keys -/
def KeyV (K : PySem.W.Frag) (H : Hp) (n : Nat) (zs : List (V × Int)) : Prop := ∀ z ∈ zs, ∃ a us, z.1 = .ref a ∧ SqT K H a us ∧ us[n]? = some (.int z.2)
def tSkey (K : PySem.W.Frag) (P : Addr) (q : Str) (n : Nat) (ta : TA) : TE := fun σ H Q => ta σ H fun xs H1 => ∃ l zs, xs = [V.ref l] ∧ (SqL K H1 l (zs.map (·.1)) ∨ SqT K H1 l (zs.map (·.1))) ∧ KeyV K H1 n zs ∧ LamX.TabS H1 P q ∧
  ∀ H2 p, Made H1 P q H2 → H2 p = none → Q (.ref p) (upd H2 p (.lst ((zs.mergeSort skeyLe).map (·.1))))
theorem vals_of_each : ∀ {vs : List Value} {zs : List (V × Int)}, PySem.W.EachIs (fun v z => RelV z.1 v) vs zs → Vals (zs.map (·.1)) vs
  | _, _, .nil => .nil
  | _, _, .cons a b => .cons a (vals_of_each b)
theorem each_of_vals : ∀ {vs : List Value} {zs : List (V × Int)}, Vals (zs.map (·.1)) vs → PySem.W.EachIs (fun v z => RelV z.1 v) vs zs
  | _, [], .nil => .nil
  | _, _ :: _, .cons a b => .cons a (each_of_vals b)
section
variable {X : Cx} {a : Expr} {p pos kpos lpos : Pos} {ta : TA}
theorem pe_skey {c P : Addr} {n : Nat} {params : Arguments} {body : Expr} {scope : Scope} (hn : n < 1000) (hg : Gl X "sorted") (hm : X.mg "sorted" = none) (TB : LamX.TabB X.base X.mg c P) (hcode : X.env.code = .ref c) (hdp : X.A.depth + 8 < recursionLimit) (hun : X.A.units + 65 < cLine)
    (L : LamR params body scope n) (hdef : defaultsOf params X.env = ([], [])) (hfree : ∀ y ∈ scope.names, y.2 ≠ .free) (ha : PA X [a] ta)
    (he : backTo pos (starEach [a] X.env) = (false, eval a X.env) :: backTo pos (starEach [] X.env)) (hpl : (backTo pos (starEach [a] X.env)).any (·.1) = false) :
    PE X (.Call (.Name "sorted" p) [a] [⟨some (Str.ofString "key"), .Lambda params body scope lpos, kpos⟩] pos) (tSkey X.K P (X.env.qual ++ "<lambda>") n ta) := by
  refine ⟨fun pins s σ H Q I h => ?_⟩
  refine wpAny_Call_Name_kw (ld_blt I hg hm PyProof.Rows.boot_sorted ?_ (by decide) (by decide))
  refine PyProof.Rows.callWith_kw (thn (ha.run pos pins s σ H _ I h) fun us s1 ⟨vs, H1, I1, r1, q1⟩ => ?_) he hpl rfl rfl
  obtain ⟨l, zs, rfl, hl, hk, hT, q⟩ := q1
  obtain rfl := Vals.ref1 r1
  show wpAny _ _ (evalAll ((do let v ← eval (.Lambda params body scope lpos) X.env; standAt pos; pure v) :: [])) _ _ s1
  refine wpAny_evalAll_cons (wpAny_bind (lam_mk I1 TB hcode hT hdef hfree fun f c' pm ctv cl H2 s2 I2 md hf hcd => wpAny_bind (wpAny_standAt (wpAny_pure ?_))))
  refine wpAny_evalAll_nil ?_
  show wpAny _ _ (call (.builtin "sorted") [.ref l] [(Str.ofString "key", .ref f)]) _ _ s2
  obtain ⟨its, rv, hli, hz⟩ : ∃ its : List Value, Vals (zs.map (·.1)) its ∧ SqAt s2.heap l its ∧ zs.length ≤ sizeLine := by
    rcases hl with hl | hl
    · obtain ⟨its, rv, ⟨o, n, h1, h2, _, h4⟩, hz⟩ := I2.list (md.sqL hl)
      exact ⟨its, rv, ⟨o, n, h1, .inl h2, h4⟩, by rwa [List.length_map] at hz⟩
    · obtain ⟨its, rv, ⟨o, h1, h2, n, h4⟩, hz⟩ := I2.tuple (md.sqT hl)
      exact ⟨its, rv, ⟨o, n, h1, .inr h2, h4⟩, by rwa [List.length_map] at hz⟩
  have hk2 : KeyV X.K H2 n zs := fun z hz => let ⟨a, us, e1, e2, e3⟩ := hk z hz; ⟨a, us, e1, md.sqT e2, e3⟩
  refine sorted_by (β := V × Int) (bs := zs) (R := fun v z => RelV z.1 v) (fun z => z.2) hli (each_of_vals rv) hz hun (fun v z hv hzm h tk kp => ?_) fun out c2 h' tk kp hD eo => ?_
  · obtain ⟨a, us, e1, e2, e3⟩ := hk2 z hzm
    obtain ⟨tits, tr, tt, tz⟩ := I2.tuple e2
    obtain ⟨u, hu, ru⟩ := tr.get e3
    obtain ⟨tk2, rfl⟩ := ru
    rw [e1] at hv
    obtain rfl : v = .ref a := hv
    have hsz : tits.length ≤ 16777216 := by rw [← tr.length]; rw [PySem.sizeLine_eq] at tz; exact tz
    exact lam_turn (s := { s2 with heap := h, toks := tk }) L (kp _ _ hf) (hcd.keeps kp) (I2.nolimit.keeps kp) (by show X.A.depth < _; omega) (tt.keeps kp) (by simpa using hu) hn (by simpa using hsz)
  · have rv' := vals_of_each eo
    have hl2 : ((zs.mergeSort skeyLe).map (·.1)).length ≤ sizeLine := by rw [List.length_map, List.length_mergeSort]; exact hz
    exact ⟨.ref _, upd H2 (s2.heap.objs.size + 1) (.lst ((zs.mergeSort skeyLe).map (·.1))), I2.laid (t' := tk) kp (Nat.le_succ _) ⟨hl2, out, c2, rv', hD⟩, rfl, q H2 _ md (I2.hok.fresh (Nat.le_succ _))⟩
end
section
variable {C : Ct} {E : En} {cl : Cl}
theorem StR.made {σ : L2.St} {W : Wd} {H H1 : Hp} {s : S} {P : Addr} {q : Str} (r : StR C E W σ H s) (ta : TaOk C E) (m : Made H P q H1) (hP : (P, q) ∈ C.T) (hu : ∀ p ∈ C.T, p.1 = P → p.2 = q) : StR C E W σ H1 s ∧ ExK σ W H s W H1 s := by
  obtain ⟨t1, t2, t3⟩ := r.tabs ta
  have g0 : W.G P = none := t3 (P, q) (by rw [t1]; exact hP)
  have sm : Same W.G H1 := fun b o hb => by
    have h0 := r.gh b o hb
    cases m with
    | old => exact h0
    | new ps pos c hP' ht hc =>
      rw [upd_ne, upd_ne]
      · exact h0
      · rintro rfl; rw [g0] at hb; cases hb
      · rintro rfl; rw [hc] at h0; cases h0
  refine r.call ⟨Le.refl W, fun b o h _ n => m.nt h n, fun p h => .inl h, m.tt (by rw [t1]; exact hu)⟩ (fun b h1 h2 => absurd h1 h2) sm (r.rg.same rfl (fun b hb => ?_) (fun _ _ => rfl))
  obtain ⟨vs, h1, _⟩ := r.stAt hb
  rw [h1]
  exact m.nt h1 (nt_lst _)
theorem lamR_of {n : Nat} {e : Expr} (h : chkLam n e = true) : ∃ params body scope lpos, e = .Lambda params body scope lpos ∧ LamR params body scope n ∧ n < 1000 ∧ (∀ env, defaultsOf params env = ([], [])) ∧ ∀ y ∈ scope.names, y.2 ≠ .free := by
  unfold chkLam at h
  split at h
  · simp only [Bool.and_eq_true, decide_eq_true_eq, Bool.not_eq_true'] at h
    obtain ⟨⟨⟨⟨⟨⟨⟨rfl, rfl⟩, rfl⟩, h1⟩, h2⟩, h3⟩, h4⟩, h5⟩ := h
    refine ⟨_, _, _, _, rfl, ⟨h2, h3, h4, _, _, _, _, _, rfl, h5, by decide, fun q sc cl pm cv ctv v => ?_⟩, h1, fun env => rfl, fun y hy => ?_⟩
    · rfl
    · rw [h5, List.mem_singleton] at hy
      subst hy
      intro z; cases z
  · cases h
theorem keys_rep {K : PySem.W.Frag} {W : Wd} {H : Hp} {n : Nat} (hK : K = C.K) (sm : Same W.G H) : ∀ {us : List V} {xs : List D} {ks : List (D × Int)}, Reps C W us xs → skeysD n xs = some ks →
    ∃ ws : List (V × D × Int), us = ws.map (·.1) ∧ ks = ws.map (·.2) ∧ (∀ w ∈ ws, Rep C W w.1 w.2.1) ∧ KeyV K H n (ws.map fun w => (w.1, w.2.2))
  | _, _, ks, .nil, h => by
    simp only [skeysD, Option.some.injEq] at h
    subst h
    exact ⟨[], rfl, rfl, fun w hw => (nomatch hw), fun w hw => (nomatch hw)⟩
  | _, _, ks, .cons (v := v) (d := d) (ds := ds) a b, h => by
    unfold skeysD at h
    split at h
    · rename_i k hk
      split at h
      · rename_i ks' hks
        injection h with h
        subst h
        obtain ⟨ws, rfl, rfl, h3, h4⟩ := keys_rep hK sm b hks
        refine ⟨(v, d, k) :: ws, rfl, rfl, fun w hw => ?_, fun z hz => ?_⟩
        · rcases List.mem_cons.mp hw with rfl | hw
          · exact a
          · exact h3 w hw
        · rw [List.map_cons] at hz
          rcases List.mem_cons.mp hz with rfl | hz
          · unfold skeyD at hk
            split at hk
            · rename_i ds' 
              split at hk
              · rename_i i hi
                injection hk with hk
                subst hk
                cases a with
                | tup ht hr =>
                  obtain ⟨u, hu, ru⟩ := hr.get hi
                  cases ru
                  exact ⟨_, _, rfl, by rw [hK]; exact sqT_same sm ht, hu⟩
              · cases hk
            · cases hk
          · exact h4 z hz
      · cases h
    · cases h
theorem reps_of {W : Wd} : ∀ {ws : List (V × D × Int)}, (∀ w ∈ ws, Rep C W w.1 w.2.1) → Reps C W (ws.map (·.1)) (ws.map fun w => w.2.1)
  | [], _ => .nil
  | w :: ws, h => .cons (h w List.mem_cons_self) (reps_of fun x hx => h x (List.mem_cons_of_mem _ hx))
theorem sorted_rep {W : Wd} {ws : List (V × D × Int)} (h : ∀ w ∈ ws, Rep C W w.1 w.2.1) : Reps C W (((ws.map fun w => (w.1, w.2.2)).mergeSort skeyLe).map (·.1)) (((ws.map (·.2)).mergeSort skeyLe).map (·.1)) := by
  have e1 := List.map_mergeSort (r := fun (x y : V × D × Int) => decide (x.2.2 ≤ y.2.2)) (s := skeyLe) (f := fun w : V × D × Int => (w.1, w.2.2)) (l := ws) (fun _ _ _ _ => rfl)
  have e2 := List.map_mergeSort (r := fun (x y : V × D × Int) => decide (x.2.2 ≤ y.2.2)) (s := skeyLe) (f := fun w : V × D × Int => w.2) (l := ws) (fun _ _ _ _ => rfl)
  rw [← e1, ← e2, List.map_map, List.map_map]
  exact reps_of fun w hw => h w (List.mem_mergeSort.mp hw)
theorem r_skey {X : Cx} {k : Kx} {Wx : WX} {n : Nat} {f : Expr} {l l' : List Expr} {kw : List Keyword} {p : Pos} {mes : S → RE (List D)} {ms : List Md} (g : Gx C E k Wx X cl) (h : chkSp (.skey n) k f l kw = some l') (hs : ∀ x ∈ l', noStar x = true) (ha : PA X l' (tA C E Wx mes ms)) :
    PE X (.Call f l kw p) (tE C E Wx (fun s => (mes s).bind fun xs s => .opt (spD (.skey n) xs s.rg) s) .st) := by
  simp only [chkSp] at h
  split at h
  · split at h
    · rename_i c
      injection h with h
      subst h
      unfold isSp2 at c
      simp only [Bool.and_eq_true, decide_eq_true_eq] at c
      obtain ⟨⟨⟨⟨rfl, c1⟩, rfl⟩, c2⟩, c3⟩ := c
      obtain ⟨params, body, scope, lpos, rfl, L, hn, hdef, hfree⟩ := lamR_of c3
      obtain ⟨b1, b2⟩ := g.bltn c2
      obtain ⟨cA, P, TB, hcode, hmT, hu, hdp⟩ := g.lm c1
      have hst := star_of (env := X.env) (es := []) (hs _ (List.mem_singleton.mpr rfl))
      refine (pe_skey hn b1 b2 TB hcode hdp g.un L (hdef _) hfree ha (by rw [hst]; rfl) (by rw [hst]; rfl)).imp fun σ H Q ⟨W, s, r, h⟩ => ?_
      refine ⟨W, s, r, h.bind.mono fun xs W1 H1 s1 r1 k1 h1 vs hv => ?_⟩
      obtain ⟨d, e, q⟩ := h1.opt r1
      have hx : Wks C E H1 W1 σ H1 s1 vs xs := hv.wks r1
      obtain ⟨t1, t2, t3⟩ := r1.tabs g.ta
      have go : ∀ {ys : List D} {us : List V} {a : Addr}, Reps C W1 us ys → (SqL C.K H1 a us ∨ SqT C.K H1 a us) → spD (.skey n) xs s1.rg = (match skeysD n ys with
          | some ks => some (.lst ((ks.mergeSort skeyLe).map (·.1)))
          | none => none) → ∃ l zs, [V.ref a] = [V.ref l] ∧ (SqL X.K H1 l (zs.map (·.1)) ∨ SqT X.K H1 l (zs.map (·.1))) ∧ KeyV X.K H1 n zs ∧ LamX.TabS H1 P (X.env.qual ++ "<lambda>") ∧
            ∀ H2 p, Made H1 P (X.env.qual ++ "<lambda>") H2 → H2 p = none → Q (.ref p) (upd H2 p (.lst ((zs.mergeSort skeyLe).map (·.1)))) := by
        intro ys us a ra ha' he
        rw [he] at e
        split at e
        · rename_i ks hks
          injection e with e
          subst e
          obtain ⟨ws, rfl, rfl, w3, w4⟩ := keys_rep g.K r1.gh ra hks
          refine ⟨a, ws.map fun w => (w.1, w.2.2), rfl, by rw [List.map_map, g.K]; exact ha', w4, t2 (P, _) (by rw [t1]; exact hmT), fun H2 p md hp => ?_⟩
          obtain ⟨r2, k2⟩ := r1.made g.ta md hmT hu
          obtain ⟨f1, f2, f3⟩ := r2.free0 hp
          exact q _ _ (r2.allocG hp) (k2.trans r2 (ExK.allocG r2 hp)) _ (.lst add_at ((sorted_rep w3).mono (Wd.add_le f2)))
        · cases e
      have e0 := e
      unfold spD at e0
      split at e0
      · cases ‹Spc.skey n = Spc.lset›
      · rename_i heq
        injection heq with heq
        subst heq
        obtain ⟨v, rfl, hw⟩ := hx.one
        obtain ⟨a, us, rfl, ha', ra⟩ := wkLst r1 hw
        exact go ra (.inl (SqL.of ha')) rfl
      · rename_i heq
        injection heq with heq
        subst heq
        obtain ⟨v, rfl, hw⟩ := hx.one
        have hr : Rep C W1 v _ := hw.resolve_right (fun ⟨_, z, _⟩ => by cases z)
        cases hr with
        | tup ht ra => exact go ra (.inr (sqT_same r1.gh ht)) rfl
      · cases e0
    · cases h
  · cases h
end
end Vi

/-! V11S: calls of special shapes. -/
namespace Vi
open PySem PySem.Spec PyProof.Rows L2
theorem metN_le : ∀ ks : List (Int ⊕ Str), metN ks ≤ ks.length
  | [] => Nat.le_refl _
  | k :: r => by
    have := metN_le r
    unfold metN
    split <;> simp only [List.length_cons] <;> omega
theorem setOf_to {prog : Program} {w : World} {h : Heap} {a : Addr} {S S' : Key → Bool} {n n' : Nat} (hS : h.SetOf (mixKind prog w) a S n) (e : ∀ k, S k = S' k) (en : n = n') : h.SetOf (mixKind prog w) a S' n' := by
  obtain rfl : S = S' := funext e
  subst en; exact hS
section
variable {prog : Program} {w : World} {A : Around} {R : Result → Shared → Prop} {I : Addr} {fp wr : List Addr} {G : Array GenState → Array GenState → Prop} {n : Nat} {P : Nat → Value → Prop} {St : Nat → Shared → Prop}
theorem set_loop (W : WalksS prog w A.in1 I fp wr G n P St) (S : Addr) (hno : S ∉ fp) (ks : List Key) (hn : ks.length = n)
    (hk : ∀ (i : Nat) (v : Value), P i v → ∃ k : Key, ks[i]? = some k ∧ keyIs k v = true) (hb : n + 1 < scanBound) :
    ∀ (k i : Nat) (s : Shared), n - i = k → i ≤ n → St i s →
      s.heap.SetOf (mixKind prog w) S (fun y => memK y (ks.take i)) (metN (ks.take i).reverse) →
      (∀ s', Moved (S :: wr) G s s' → s'.heap.SetOf (mixKind prog w) S (fun y => memK y ks) (metN ks.reverse) → R (.ok (.ret .none)) s') →
      codeAny (model prog w) A (.builtin "set.update.loop" ⟨[.ref S, .ref I], []⟩) R s := by
  have hSw : S ∉ wr := fun h => hno (W.sub _ h)
  have hsub : ∀ b ∈ wr, b ∈ S :: wr := fun b hb => List.mem_cons_of_mem _ hb
  intro k
  induction k with
  | zero =>
    intro i s hki hi hst hS hR
    have hin : i = n := by omega
    subst hin
    rw [List.take_of_length_le (Nat.le_of_eq hn)] at hS
    refine codeAny_builtin PyProof.Rows.F.entry_set_update_loop ?_
    rw [Around.under_plainId PyProof.Rows.F.plain_set_update_loop _]
    show wpAny _ A.in1 (pyNext (.ref I) >>= _) _ _ s
    refine wpAny_bind (W.done s _ _ hst fun s' hm => ?_)
    refine wpAny_pure (hR s' (hm.mono hsub) ?_)
    obtain ⟨o, es, ep, t, ho, q⟩ := hS
    exact ⟨o, es, ep, t, hm.heap S _ hSw ho, q⟩
  | succ k ih =>
    intro i s hki hi hst hS hR
    have hlt : i < n := by omega
    refine codeAny_builtin PyProof.Rows.F.entry_set_update_loop ?_
    rw [Around.under_plainId PyProof.Rows.F.plain_set_update_loop _]
    show wpAny _ A.in1 (pyNext (.ref I) >>= _) _ _ s
    refine wpAny_bind (W.item i s _ _ hlt hst fun v s' hP hst' hm => ?_)
    obtain ⟨y, hy, hyv⟩ := hk i v hP
    have hS2 : s'.heap.SetOf (mixKind prog w) S (fun z => memK z (ks.take i)) (metN (ks.take i).reverse) := by
      obtain ⟨o, es, ep, tb, ho, q⟩ := hS
      exact ⟨o, es, ep, tb, hm.heap S _ hSw ho, q⟩
    show wpAny _ A.in1 (holding [v] (setAdd S v) >>= _) _ _ s'
    refine wpAny_bind (wpAny_holding ?_)
    unfold setAdd
    refine wpAny_holding ?_
    refine wpAny_bind ((mixKind prog w).pyHash (k := y) hyv ?_)
    have hl : (ks.take i).reverse.length ≤ i := by simp; omega
    have hroom : metN (ks.take i).reverse + 1 < scanBound := by have := metN_le (ks.take i).reverse; omega
    have hsc : v.scannable = true := by
      rcases keyIs_shape hyv with ⟨_, _, _, rfl⟩ | ⟨_, _, _, rfl⟩ <;> rfl
    refine wpAny_setAddHashed_of (knd := mixKind prog w) (s := { s' with toks := s'.toks + 1 }) hyv hsc hS2 hroom fun h' hsb hS3 => ?_
    have et : ks.take (i + 1) = ks.take i ++ [y] := by rw [List.take_add_one, hy]; rfl
    have hSi : h'.SetOf (mixKind prog w) S (fun z => memK z (ks.take (i + 1))) (metN (ks.take (i + 1)).reverse) := by
      refine setOf_to hS3 (fun z => ?_) ?_
      · rw [et]; unfold memK; rw [List.any_append]; simp [eq_comm]
      · rw [et, List.reverse_append]
        have e3 : metN (y :: (ks.take i).reverse) = if memK y (ks.take i).reverse = true then metN (ks.take i).reverse else metN (ks.take i).reverse + 1 := rfl
        show _ = metN (y :: (ks.take i).reverse)
        have e2 : memK y (ks.take i).reverse = memK y (ks.take i) := by unfold memK; rw [List.any_reverse]
        rw [e3, e2]
    refine wpAny_pure ⟨plainId_quiet PyProof.Rows.F.plain_set_update_loop _, ih (i + 1) _ (by omega) hlt (W.frame _ s' _ _ hst' (Nat.le_succ _) fun b hb o e => ?_) hSi fun s2 hm2 hS4 => ?_⟩
    · rw [hsb.2 b (fun h : b = S => hno (by rw [← h]; exact hb))]; exact e
    · refine hR s2 (Moved.trans W.gtrans ((hm.mono hsub).then_heap (Nat.le_succ _) fun b o hb e => ?_) hm2) hS4
      rw [hsb.2 b (fun h : b = S => hb (by rw [h]; exact List.mem_cons_self))]; exact e
end
section
variable {prog : Program} {w : World} {A : Around} {E : Value → Shared → Prop} {s : Shared}
abbrev freshSet (led : Bool) : Obj := { cls := .type "set", dict := none, data := .set #[] 0 (.fresh 0 0 led) }
set_option maxHeartbeats 3200000 in
theorem call_set_keys {l : Addr} {items : Array Value} {ks : List Key} {Q : Value → Shared → Prop}
    (hh : A.handled = none) (hl : s.heap.IsList l items) (hn : ks.length = items.size) (hi : ∀ (i : Nat) (v : Value), items[i]? = some v → ∃ k : Key, ks[i]? = some k ∧ keyIs k v = true) (hb : items.size + 1 < scanBound)
    (h : ∀ (h' : Heap) (tk : Nat), h'.SetOf (mixKind prog w) s.heap.objs.size (fun y => memK y ks) (metN ks.reverse) →
      (∀ b o, b < s.heap.objs.size → s.heap.get? b = some o → h'.get? b = some o) → Q (.ref s.heap.objs.size) { s with heap := h', toks := tk }) :
    wpAny (model prog w) A (call (.type "set") [.ref l]) Q E s := by
  obtain ⟨c, tl, hmro⟩ := PySem.F.called_set.mro
  have hmade := PySem.F.called_set.made
  have hsub := PySem.F.called_set.sub
  refine wpAny_call (codeAny_of_tree ?_)
  show wpAny _ _ (callAny (.type "set") _) _ _ _
  refine wpAny_pure ⟨Code.quiet_builtin _ (by decide +kernel), codeAny_builtin PySem.F.entry_type_call ?_⟩
  rw [Around.under_plain (weight_type_call_type "set" [.ref l] []) rfl]
  have h1 := PySem.F.called_set.notType
  have h2 := PySem.F.called_set.canCreate
  have hct := PySem.F.typeCall_set_1 (.ref l)
  repeat (any_goals (first | assumption | wp_step))
  refine codeAny_mono (code_set_new_1 (.ref l) (E := E) (Q₁ := fun obj s₁ => ∃ led : Bool, obj = .ref s.heap.objs.size ∧ s₁ = { s with heap := s.heap.push (freshSet led) }) fun led => ⟨led, rfl, rfl⟩) fun r s₁ hr => ?_
  cases r with
  | error e => exact hr
  | ok fl =>
    cases fl with
    | ret obj =>
      obtain ⟨led, rfl, rfl⟩ := hr
      have hS : (s.heap.push (freshSet led)).get? s.heap.objs.size = some (freshSet led) := Heap.get?_push_size _ rfl
      have hT : Shared.TypeIs { s with heap := s.heap.push (freshSet led) } (.ref s.heap.objs.size) "set" := ⟨_, hS, rfl⟩
      have hli := PySem.F.called_set.init.lookup
      have hbi := PySem.F.called_set.init.bind (.ref s.heap.objs.size)
      repeat (any_goals (first | assumption | wp_step))
      refine codeAny_mono (codeAny_call_builtin (R := wants (fun r s₂ => r = .none ∧ ∃ h' tk, s₂ = { s with heap := h', toks := tk } ∧
          h'.SetOf (mixKind prog w) s.heap.objs.size (fun y => memK y ks) (metN ks.reverse) ∧
          (∀ b o, b < s.heap.objs.size → s.heap.get? b = some o → h'.get? b = some o)) E) PySem.F.called_set.init.plain PySem.F.entry_set_init (check_set_init_1 hT ?_)) fun r₂ s₂ hr₂ => ?_
      · obtain ⟨ol, hol, hcl, nl, hdl⟩ := hl
        obtain ⟨ocls, odict, odata, oslots⟩ := ol
        simp only at hcl hdl
        subst hcl; subst hdl
        have hol' : (s.heap.push (freshSet led)).get? l = some { cls := .type "list", dict := odict, data := .seq items nl, slots := oslots } := Heap.get?_push_of_some _ hol
        have hsls := PySem.F.sub_list_set
        have hslf := PySem.F.sub_list_frozenset
        have hne : (Value.type "list" == Value.type "dict") = false := by decide
        have hl1 : (s.heap.push (freshSet led)).IsList l items := ⟨_, hol', rfl, nl, rfl⟩
        unfold Builtin.«set.__init__» noKeywords Builtin.Frozenset.updateFrom
        generalize hPI : pyIter = PI
        wp_walk
        subst hPI
        refine wpAny_pyIter_list hl1 ?_
        refine wpAny_bind (wpAny_runValue ?_)
        have hlS : l < s.heap.objs.size := Heap.lt_size hol
        have hh3 : A.in1.in1.in1.handled = none := by simp [hh]
        have hz : (s.heap.push (freshSet led)).objs.size = s.heap.objs.size + 1 := Heap.size_push _ _
        have hneI : l ≠ (s.heap.push (freshSet led)).objs.size := by rw [hz]; exact Nat.ne_of_lt (Nat.lt_succ_of_lt hlS)
        have hSf : s.heap.objs.size ∉ [(s.heap.push (freshSet led)).objs.size, l] := by
          intro q
          rw [hz] at q
          simp only [List.mem_cons, List.not_mem_nil, or_false] at q
          rcases q with q | q
          · exact Nat.ne_of_lt (Nat.lt_succ_self _) q
          · exact Nat.ne_of_gt hlS q
        refine set_loop ((Walks.list hh3 _ l hneI items).toS) s.heap.objs.size
          hSf ks hn hi hb (items.size - 0) 0 _ (by omega) (Nat.zero_le _)
          ⟨⟨_, Heap.get?_push_size _ rfl, rfl, rfl⟩, (hl1.push _)⟩ ?hS0 ?hR
        case hS0 =>
          have hget : ((s.heap.push (freshSet led)).push { cls := .type "list_iterator", data := .fields #[.ref l, .int 0 0] }).get? s.heap.objs.size = some (freshSet led) := Heap.get?_push_of_some _ hS
          exact ⟨_, #[], 0, .fresh 0 0 led, hget, ⟨rfl, rfl, rfl⟩, rfl, fun e he => by simp at he, fun k => by simp [memK], by simp; unfold scanBound; omega, by rfl, rfl⟩
        case hR =>
          intro s' hm hS2
          obtain ⟨h', g', d', tk', os'⟩ := s'
          have eg : g' = s.gens := hm.gens
          have ed : d' = s.drawn := hm.drawn
          have eo : os' = s.os := hm.os
          subst eg; subst ed; subst eo
          refine wpAny_pure ?_
          refine wpAny_pure ⟨rfl, h', tk', rfl, hS2, fun b o hb e => ?_⟩
          exact hm.heap b o (by
            intro q
            rw [hz] at q
            simp only [List.mem_cons, List.not_mem_nil, or_false] at q
            rcases q with q | q
            · exact Nat.ne_of_lt hb q
            · exact Nat.ne_of_lt (Nat.lt_succ_of_lt hb) q) (Heap.get?_push_of_some _ (Heap.get?_push_of_some _ e))
      · cases r₂ with
        | error e => exact hr₂
        | ok fl₂ =>
          cases fl₂ with
          | ret r =>
            obtain ⟨rfl, h', tk, rfl, hS2, hk2⟩ := hr₂
            repeat (any_goals (first | assumption | wp_step))
            exact h _ _ hS2 hk2
          | _ => exact hr₂.elim
    | _ => exact hr.elim
end
section
variable {X : Cx} {a : Expr} {p p2 q pos : Pos} {ta : TA}
def tLenSetK (K : PySem.W.Frag) (ta : TA) : TE := fun σ H Q => ta σ H fun xs H1 => ∃ (l : Addr) (ks : List Key), xs = [V.ref l] ∧ SqL K H1 l (ks.map kV) ∧ ks.length < 4000 ∧ Q (.int (metN ks.reverse)) H1
theorem vals_keys (P : Program) (w : World) : ∀ {ks : List Key} {us : List Value}, Vals (ks.map kV) us → ∀ (i : Nat) (v : Value), us[i]? = some v → ∃ k, ks[i]? = some k ∧ keyIs k v = true
  | [], _, .nil, i, v, h => by simp at h
  | k :: ks, _, .cons r t, 0, v, h => by
    simp only [List.getElem?_cons_zero, Option.some.injEq] at h
    subst h
    exact ⟨k, rfl, kV_is (P := P) (w := w) r⟩
  | k :: ks, _, .cons r t, i + 1, v, h => vals_keys P w t i v h
theorem pe_lenSetK (hc : X.calm = true) (hg : Gl X "len") (hm : X.mg "len" = none) (hg2 : Gl X "set") (hm2 : X.mg "set" = none) (ha : PA X [a] ta)
    (na : starEach [a] X.env = (false, eval a X.env) :: starEach [] X.env) : PE X (.Call (.Name "len" p) [.Call (.Name "set" p2) [a] [] q] [] pos) (tLenSetK X.K ta) := by
  refine ⟨fun pins s σ H Q I h => ?_⟩
  refine Call_ (ld_blt I hg hm PySem.boot_len ?_)
  refine PyProof.Rows.callWith_builtin1 (PyProof.Rows.args_cons ?_ rfl) rfl rfl
  refine Call_ (ld_blt I hg2 hm2 PyProof.Rows.boot_set ?_)
  refine PyProof.Rows.callWith_type1 (thn (ha.run q pins s σ H _ I h) fun us s1 ⟨vs, H1, I1, r1, q1⟩ => ?_) na rfl
  obtain ⟨l, ks, rfl, hq, hlt, q1⟩ := q1
  obtain ⟨u, rfl, ru⟩ := vals1 r1
  cases ru
  obtain ⟨its, r, pl, hz⟩ := I1.list hq
  have hlen : ks.length = its.toArray.size := by rw [List.size_toArray, ← r.length, List.length_map]
  refine call_set_keys (I1.ok.hd hc) pl.isList hlen (fun i v hv => vals_keys X.prog X.w r i v (by simpa using hv)) (by unfold scanBound; omega) fun h' tk hS hk => ?_
  refine PyProof.Rows.args_nil ?_
  obtain ⟨o, es, ep, t, ho, hex, hd, _, _, _, hf, hn⟩ := hS
  have I2 : Inv X pins σ H1 { s1 with heap := h', toks := tk } := I1.kept fun b o e => hk b o (Heap.lt_size e) e
  have hle := metN_le ks.reverse
  rw [List.length_reverse] at hle
  exact call_len_set ho hex hd hf (by rw [hn] <;> omega) ⟨.int (metN ks.reverse), H1, I2.tok _, ⟨_, by rw [hn]⟩, q1⟩
end
section
variable {C : Ct} {E : En} {cl : Cl}
theorem reps_keys {W : Wd} : ∀ {vs : List V} {ds : List D} {ks : List (Int ⊕ Str)}, Reps C W vs ds → keysD ds = some ks → vs = ks.map kV
  | _, _, ks, .nil, h => by
    simp only [keysD, Option.some.injEq] at h
    subst h; rfl
  | _, _, ks, .cons (d := d) (ds := ds) a b, h => by
    unfold keysD at h
    split at h
    · rename_i k hk
      split at h
      · rename_i ks' hks
        injection h with h
        subst h
        rw [List.map_cons, ← reps_keys b hks]
        unfold keyD at hk
        split at hk
        · injection hk with hk; subst hk; cases a; rfl
        · injection hk with hk; subst hk; cases a; rfl
        · cases hk
      · cases h
    · cases h
theorem chkEs_star : ∀ {es : IEs} {k : Kx} {l : List Expr}, chkEs es k l = true → ∀ x ∈ l, noStar x = true
  | .nil, k, l, h, x, hx => by
    cases l with
    | nil => cases hx
    | cons _ _ => simp [chkEs] at h
  | .cons a r, k, l, h, x, hx => by
    cases l with
    | nil => cases hx
    | cons e l =>
      simp only [chkEs, Bool.and_eq_true] at h
      rcases List.mem_cons.mp hx with rfl | hx
      · exact h.1.2
      · exact chkEs_star h.2 x hx
theorem r_sp {X : Cx} {k : Kx} {Wx : WX} {o : Spc} {f : Expr} {l l' : List Expr} {kw : List Keyword} {p : Pos} {mes : S → RE (List D)} {ms : List Md} (g : Gx C E k Wx X cl) (hh : k.hot.isNone = true) (h : chkSp o k f l kw = some l') (hs : ∀ x ∈ l', noStar x = true) (ha : PA X l' (tA C E Wx mes ms)) :
    PE X (.Call f l kw p) (tE C E Wx (fun s => (mes s).bind fun xs s => .opt (spD o xs s.rg) s) .st) := by
  cases o with
  | skey n => exact r_skey g h hs ha
  | lset =>
    simp only [chkSp] at h
    split at h
    · split at h
      · rename_i c
        injection h with h
        subst h
        unfold isSp1 at c
        simp only [Bool.and_eq_true, decide_eq_true_eq] at c
        obtain ⟨⟨⟨rfl, rfl⟩, c1⟩, c2⟩ := c
        obtain ⟨b1, b2⟩ := g.bltn c1
        obtain ⟨b3, b4⟩ := g.bltn c2
        refine (pe_lenSetK (g.cal hh) b1 b2 b3 b4 ha (star_of (hs _ (by simp)))).imp fun σ H Q ⟨W, s, r, h⟩ => ?_
        refine ⟨W, s, r, h.bind.mono fun xs W1 H1 s1 r1 k1 h1 vs hv => ?_⟩
        obtain ⟨d, e, q⟩ := h1.opt r1
        have hx : Wks C E H1 W1 σ H1 s1 vs xs := hv.wks r1
        unfold spD at e
        split at e
        · split at e
          · rename_i ks hks
            split at e
            · rename_i hlt
              injection e with e
              subst e
              obtain ⟨v, rfl, hw⟩ := hx.one
              obtain ⟨a, us, rfl, ha', ra⟩ := wkLst r1 hw
              refine ⟨a, ks, rfl, SqL.of (by rw [← reps_keys ra hks]; exact ha'), hlt, ?_⟩
              exact q W1 H1 r1 (ExK.refl _ _ _ _) _ (.int _)
            · cases e
          · cases e
        · cases ‹Spc.lset = Spc.skey _›
        · cases ‹Spc.lset = Spc.skey _›
        · cases e
      · cases h
    · cases h
end
end Vi

/-! V12: the evaluator's value is the program's: expressions. -/
namespace Vi
open PySem PySem.Spec PyProof.Rows L2
section
variable {C : Ct} {E : En} {cl : Cl}
theorem r_cv {X : Cx} {k : Kx} {Wx : WX} {i : Nat} {x : Str} {e : Expr} {es : List Expr} {p pos : Pos} {mes : S → RE (List D)} {ms : List Md} (g : Gx C E k Wx X cl) (hh : k.hot.isNone = true) (hs : k.slot i x = true) (ha : PA X (e :: es) (tA C E Wx mes ms)) (hms : ∀ m ∈ ms, m = Md.st)
    (he : starEach (e :: es) X.env = (false, eval e X.env) :: starEach es X.env) (hpl : (backTo pos (starEach es X.env)).any (·.1) = false) (hl : ∀ s ds s', mes s = .ok ds s' → ds.length = (e :: es).length) :
    PE X (.Call (.Name x p) (e :: es) [] pos) (tE C E Wx (fun s => match s.sl[i]? with
      | some (.val (.fn k)) => match mes s with
        | .ok xs s => match cl k xs s.rg with
          | .ok d r => .ok d { s with rg := r }
          | .exc e r => .exc e { s with rg := r }
          | .stuck => .stuck
        | _ => .stuck
      | _ => .stuck) .st) := by
  unfold Kx.slot at hs
  simp only [Bool.and_eq_true, decide_eq_true_eq] at hs
  refine ⟨fun pins s σ H Q I h => ?_⟩
  obtain ⟨W, sv, r, h⟩ := h
  simp only [] at h
  split at h
  · rename_i j hj
    obtain ⟨v, ev, hv⟩ := r.sl i _ hj
    cases hv
    split at h
    · rename_i ds s' q
      by_cases hn : cl j ds s'.rg = .stuck
      · rw [hn] at h; exact h.elim
      · obtain ⟨y, hy⟩ := g.tb hh j ds _ hn
        obtain ⟨_, fd, ps, n, F, hps, hr, hk, hb⟩ := g.fn j y _ hy
        refine wpAny_Call_Name_kw (thn ((pe_var (pos := p) (by rw [g.N]; exact hs.1.1) (g.vis hs.1.2) (okN_d hs.2) (okN_c hs.2)).run pins s σ H (fun v H1 => v = .ref (C.fA j) ∧ H1 = H) I ⟨.ref (C.fA j), ev, rfl, rfl⟩) fun u s1 ⟨v, H1, I1, r1, q1⟩ => ?_)
        obtain ⟨rfl, rfl⟩ := q1
        cases r1
        refine PySem.W.callWith_K (h₀ := X.base) I.ok.mod.kin hk (thn (ha.run pos pins s1 σ H1 (fun vs H2 => spC C cl j ps.length vs H2 Q (WE Wx σ)) I1 ⟨W, sv, r, ?_⟩) fun us s2 ⟨vs, H2, I2, r, q⟩ => ⟨I2.kIn, run_fnS F hr hb (passAt g.tk σ) I2 r q⟩) he hpl
        rw [q]
        intro W1 H2 r2 k2 vs hvs
        have hr2 := hvs.toSt hms
        exact call_go g.ta r2 hr2 (by rw [hr2.length]; exact hps.symm) (EC.rebase r2 k2 h)
    · exact h.elim
  · exact h.elim
theorem zip_look {x : Str} {v : V} : ∀ {l : List Str} {vs : List V}, x ∈ l → vs[l.idxOf x]? = some v → (l.zip vs).lookup x = some v
  | [], _, h, _ => by cases h
  | y :: l, [], _, h => by simp at h
  | y :: l, u :: vs, hx, h => by
    by_cases e : y = x
    · subst e
      simp only [List.idxOf_cons_self, List.getElem?_cons_zero, Option.some.injEq] at h
      subst h
      simp [List.lookup]
    · have e' : (x == y) = false := by simpa using fun z => e z.symm
      have ey : (y == x) = false := by simpa using e
      rw [List.idxOf_cons, ey] at h
      have h' : vs[l.idxOf x]? = some v := by simpa using h
      rw [List.zip_cons_cons, List.lookup, e']
      exact zip_look ((List.mem_cons.mp hx).resolve_left fun z => e z.symm) h'
theorem r_fld {X : Cx} {k : Kx} {Wx : WX} {i : Nat} {n f : Str} {p pos : Pos} (g : Gx C E k Wx X cl) (hi : k.hot = some i) (hs : k.slot i n = true) (hf : fieldOk f = true) :
    PE X (.Attribute (.Name n p) f pos) (tE C E Wx (fun s => match s.sl[i]? with
      | some (.exv e) => .opt e.fs[(exFlds e.cls).idxOf f]? s
      | _ => .stuck) .st) := by
  obtain ⟨a, oe, cls, d, pn, X0, rfl, hz, hd, hxa⟩ := g.xh (by rw [hi]; rfl)
  unfold Kx.slot at hs
  simp only [Bool.and_eq_true, decide_eq_true_eq] at hs
  refine ⟨fun pins s σ H Q I h => ?_⟩
  obtain ⟨W, sv, r, h⟩ := h
  simp only [] at h
  split at h
  · rename_i ex hex
    obtain ⟨a', cls', d', e1, e2, ⟨e3, e4⟩, b, vs, e5, hb, hvs, hl, nb⟩ := r.sl i _ hex
    rw [hxa] at e2
    injection e2 with e2
    injection e2 with e6 e7
    injection e7 with e7 e8
    subst e6 e7 e8
    subst e3 e5
    obtain ⟨T, hno⟩ := g.xf _ e4
    obtain ⟨y, ey, q⟩ := EC.opt r h
    obtain ⟨v, hv1, hv2⟩ := Reps.get hvs ey
    have hlt : (exFlds ex.cls).idxOf f < (exFlds ex.cls).length := by
      rw [← hl]
      exact (List.getElem?_eq_some_iff.mp hv1).1
    have hm : f ∈ exFlds ex.cls := List.idxOf_lt_length_iff.mp hlt
    refine (pe_xf (pos := pos) (n := f) (te := tVar i) T (hno _ hm) hz hd (pe_var (X := Cx.suite X0 a ((a, oe) :: pn)) (pos := p) (by rw [g.N]; exact hs.1.1) (g.vis hs.1.2) (okN_d hs.2) (okN_c hs.2)) ?_).run pins s σ H Q I ⟨.ref a, e1, rfl, rfl, b, _, v, rfl, hb, zip_look hm hv1, q W H r (ExK.refl _ _ _ _) v hv2⟩
    unfold fieldOk at hf
    simp only [Bool.or_eq_true, decide_eq_true_eq] at hf
    rcases hf with ((rfl | rfl) | rfl) | rfl <;> rfl
  · exact h.elim
theorem tI_any {Wx : WX} {st : Bool} {m : S → RE (List D)} {σ : L2.St} {H : Hp} {R : It → Hp → Prop} (h : tI C E Wx st m σ H R) : tI C E Wx true m σ H R := by
  obtain ⟨W, s, r, h⟩ := h
  exact ⟨W, s, r, h.mono fun ds W1 H1 s1 _ _ q o J src ho itr => q o J src (fun a vs z => absurd (ho a vs z).1 (by decide)) itr⟩
set_option maxHeartbeats 4000000 in
mutual
theorem sE : ∀ (ie : IE) {k : Kx} {X : Cx} {Wx : WX} {e : Expr}, Gx C E k Wx X cl → chkE ie k e = true → PE X e (tE C E Wx (fun s => ev cl ie s) (mdE ie))
  | .var i, k, X, Wx, e, g, h => by
    unfold chkE at h
    split at h
    · unfold Kx.slot at h
      simp only [Bool.and_eq_true, decide_eq_true_eq] at h
      exact r_var (by rw [g.N]; exact h.1.1) (g.vis h.1.2) (okN_d h.2) (okN_c h.2)
    · cases h
  | .pk i, k, X, Wx, e, g, h => by
    unfold chkE at h
    split at h
    · unfold Kx.slot at h
      simp only [Bool.and_eq_true, decide_eq_true_eq] at h
      exact r_pk (by rw [g.N]; exact h.1.1) (g.vis h.1.2) (okN_d h.2) (okN_c h.2)
    · cases h
  | .cst d, k, X, Wx, e, g, h => by
    unfold chkE at h
    split at h
    · unfold cstOk at h
      split at h
      · exact r_cst pe_non fun W => .non
      · rw [beq_iff_eq] at h; subst h; exact r_cst pe_bl fun W => .bl _
      · rw [beq_iff_eq] at h; subst h; exact r_cst pe_int fun W => .int _
      · rw [decide_eq_true_eq] at h; subst h; exact r_cst pe_str fun W => .str _
      · cases h
    · cases h
  | .glb x d, k, X, Wx, e, g, h => by
    unfold chkE at h
    split at h
    · simp only [Bool.and_eq_true, decide_eq_true_eq, List.any_eq_true] at h
      obtain ⟨⟨⟨rfl, h1⟩, h2⟩, ⟨y, d'⟩, h3, rfl, h5⟩ := h
      obtain rfl := D.eqb_eq h5
      obtain ⟨v, u, hm, hr, hW⟩ := g.gl y d h3
      exact r_cst (pe_glob (g.glb h1) hm hr (okN_d h2)) hW
    · cases h
  | .fnr x i, k, X, Wx, e, g, h => by
    unfold chkE at h
    split at h
    · simp only [Bool.and_eq_true, decide_eq_true_eq] at h
      obtain ⟨⟨⟨rfl, h1⟩, h2⟩, h3⟩ := h
      cases q : k.fns[i]? with
      | none => rw [q] at h3; cases h3
      | some p =>
        obtain ⟨y, n⟩ := p
        rw [q] at h3
        simp only [Option.map_some, Option.some.injEq] at h3
        subst h3
        obtain ⟨hm, _⟩ := g.fn i _ n q
        exact r_cst (pe_glob (v := .ref (C.fA i)) (g.glb h1) hm rfl (okN_d h2)) fun W => .fn i
    · cases h
  | .bin o a b, k, X, Wx, e, g, h => by
    unfold chkE at h
    split at h
    · simp only [Bool.and_eq_true, decide_eq_true_eq] at h
      obtain ⟨⟨rfl, h1⟩, h2⟩ := h
      exact r_bin (sE a g h1).wk (sE b g h2).wk g.K
    · cases h
  | .neg a, k, X, Wx, e, g, h => by
    unfold chkE at h
    split at h
    · exact r_neg (sE a g h).wk
    · cases h
  | .cmp o a b, k, X, Wx, e, g, h => by
    unfold chkE at h
    split at h
    · simp only [Bool.and_eq_true, decide_eq_true_eq] at h
      obtain ⟨⟨⟨rfl, h1⟩, h2⟩, h3⟩ := h
      exact r_cmp g.un (sE a g h1).wk (sE b g h2).wk (mark_of h3) g.K
    · cases h
  | .chn o o' a b c, k, X, Wx, e, g, h => by
    unfold chkE at h
    split at h
    · simp only [Bool.and_eq_true, decide_eq_true_eq] at h
      obtain ⟨⟨⟨⟨⟨rfl, rfl⟩, h1⟩, h2⟩, h3⟩, h4⟩ := h
      exact r_chn g.un (sE a g h1).wk (sE b g h2).wk (sE c g h3).wk (last_of h4) g.K
    · cases h
  | .and a b, k, X, Wx, e, g, h => by
    unfold chkE at h
    split at h
    · simp only [Bool.and_eq_true] at h
      exact r_and (sE a g h.1).wk (pe_one ((sE b g h.2).to from_if))
    · simp only [Bool.and_eq_true] at h
      exact r_and (sE a g h.1).wk ((sE b g h.2).to from_if)
    · cases h
  | .or a b, k, X, Wx, e, g, h => by
    unfold chkE at h
    split at h
    · simp only [Bool.and_eq_true] at h
      exact r_or (sE a g h.1).wk (pe_one ((sE b g h.2).to from_if))
    · simp only [Bool.and_eq_true] at h
      exact r_or (sE a g h.1).wk ((sE b g h.2).to from_if)
    · cases h
  | .not a, k, X, Wx, e, g, h => by
    unfold chkE at h
    split at h
    · exact r_not (sE a g h).wk
    · cases h
  | .ife t a b, k, X, Wx, e, g, h => by
    unfold chkE at h
    split at h
    · simp only [Bool.and_eq_true] at h
      obtain ⟨⟨⟨h1, h2⟩, h3⟩, h4⟩ := h
      refine r_ife (sT t g h1 h2) ((sE a g h3).to ?_) ((sE b g h4).to ?_)
      · simp only [mdE]
        cases mdE a <;> cases mdE b <;> rfl
      · simp only [mdE]
        cases mdE a <;> cases mdE b <;> rfl
    · cases h
  | .tup es, k, X, Wx, e, g, h => by
    unfold chkE at h
    split at h
    · simp only [Bool.and_eq_true] at h
      exact r_tup (sEs es _ g (okMs_st h.2) h.1) rep_st
    · cases h
  | .lst es, k, X, Wx, e, g, h => by
    unfold chkE at h
    split at h
    · simp only [Bool.and_eq_true] at h
      exact r_lst (sEs es _ g (okMs_st h.2) h.1) rep_st
    · cases h
  | .ix a i, k, X, Wx, e, g, h => by
    unfold chkE at h
    split at h
    · simp only [Bool.and_eq_true] at h
      exact r_ix (sE a g h.1.1).wk (sE i g h.1.2).wk (plainIx_of h.2) g.K
    · cases h
  | .sl a lo hi, k, X, Wx, e, g, h => by
    unfold chkE at h
    split at h
    · simp only [Bool.and_eq_true] at h
      exact r_sl (sE a g h.1.1).wk (sO lo g h.1.2) (sO hi g h.2) g.K
    · cases h
  | .rev a, k, X, Wx, e, g, h => by
    unfold chkE at h
    split at h
    · exact r_rev (sE a g h).wk
    · cases h
  | .blt b es, k, X, Wx, e, g, h => by
    unfold chkE at h
    split at h
    · rename_i t
      split at h
      · split at h
        · rename_i a
          simp only [Bool.and_eq_true, decide_eq_true_eq] at h
          obtain ⟨⟨⟨⟨⟨⟨rfl, rfl⟩, h1⟩, h2⟩, h3⟩, h4⟩, h5⟩ := h
          obtain ⟨b1, b2⟩ := g.bltn h2
          obtain ⟨b3, b4⟩ := g.bltn h3
          exact r_isi h1 b1 b2 b3 b4 (sE a g h4).wk g.K (star_of h5)
        · cases h
      · cases h
    · rename_i hb
      split at h
      · simp only [Bool.and_eq_true, decide_eq_true_eq] at h
        obtain ⟨⟨⟨hh, rfl⟩, h1⟩, h2⟩ := h
        obtain ⟨b1, b2⟩ := g.bltn h1
        have hst : ∀ {x : Expr} {l : List Expr}, chkEs es k (x :: l) = true → noStar x = true ∧ (∃ a r, es = .cons a r ∧ chkEs r k l = true) := fun {x l} h => by
          cases es with
          | nil => simp [chkEs] at h
          | cons a r =>
            simp only [chkEs, Bool.and_eq_true] at h
            exact ⟨h.1.2, a, r, rfl, h.2⟩
        obtain ⟨s1, a, r, _, s2⟩ := hst h2
        have this : ∀ p pos, _ := fun p pos => r_blt (C := C) (E := E) (Wx := Wx) (X := X) (b := b) (p := p) (pos := pos) (g.cal hh) b1 b2 (sEs es _ g okMs_wk h2) (fun t z => hb t z) (star_of s1) (plain_of s2) g.K
        cases b with
        | isi t => exact absurd rfl (hb t)
        | _ => exact this _ _
      · cases h
  | .call x i es, k, X, Wx, e, g, h => by
    unfold chkE at h
    split at h
    · rename_i f p l pos
      simp only [Bool.and_eq_true, decide_eq_true_eq] at h
      obtain ⟨⟨⟨⟨⟨rfl, h1⟩, h2⟩, h3⟩, h4⟩, h5⟩ := h
      obtain ⟨hm, fd, ps, n, F, hps, hr, hk, hb⟩ := g.fn i _ _ h3
      cases es with
      | nil =>
        cases l with
        | nil => exact r_call0 g.ta F hr hk hb (g.glb h1) hm g.tk (okN_d h2) hps.symm
        | cons _ _ => simp [chkEs] at h4
      | cons a r =>
        cases l with
        | nil => simp [chkEs] at h4
        | cons y l =>
          have h4' := h4
          simp only [chkEs, Bool.and_eq_true] at h4'
          exact r_call g.ta F hr hk hb (g.glb h1) hm g.tk (okN_d h2) (sEs (.cons a r) _ g (okMs_st h5) h4) rep_st (star_of h4'.1.2) (plain_of h4'.2) hps.symm (fun s ds s' q => by rw [evs_len q, len_of h4])
    · cases h
  | .lend x i es, k, X, Wx, e, g, h => by
    unfold chkE at h
    split at h
    · rename_i f p l pos
      simp only [Bool.and_eq_true, decide_eq_true_eq] at h
      obtain ⟨⟨⟨⟨⟨rfl, h1⟩, h2⟩, h3⟩, h4⟩, h5⟩ := h
      obtain ⟨hm, fd, ps, n, F, hps, hr, hk, hb⟩ := g.fn i _ _ h3
      cases es with
      | nil =>
        cases l with
        | nil => cases h5
        | cons _ _ => simp [chkEs] at h4
      | cons a r =>
        cases l with
        | nil => simp [chkEs] at h4
        | cons y l =>
          have h4' := h4
          simp only [chkEs, Bool.and_eq_true] at h4'
          exact r_lend g.ta F hr hk hb (g.glb h1) hm g.tk (okN_d h2) (sEs (.cons a r) _ g okMs_wk h4) (star_of h4'.1.2) (plain_of h4'.2) hps.symm (fun s ds s' q => by rw [evs_len q, len_of h4])
    · cases h
  | .cv i es, k, X, Wx, e, g, h => by
    unfold chkE at h
    split at h
    · simp only [Bool.and_eq_true] at h
      obtain ⟨⟨⟨hh, h1⟩, h2⟩, h3⟩ := h
      cases es with
      | nil => simp [chkEs] at h2
      | cons a r =>
        have h4' := h2
        simp only [chkEs, Bool.and_eq_true] at h4'
        exact r_cv g hh h1 (sEs (.cons a r) _ g (okMs_st h3) h2) rep_st (star_of h4'.1.2) (plain_of h4'.2) (fun s ds s' q => by rw [evs_len q, len_of h2])
    · cases h
  | .lc a tg it c own fz, k, X, Wx, e, g, h => by
    unfold chkE at h
    split at h
    · rename_i elt t i ifs n sc pos
      simp only [Bool.and_eq_true, decide_eq_true_eq, List.all_eq_true] at h
      obtain ⟨⟨⟨⟨⟨⟨⟨⟨⟨hh, rfl⟩, h1⟩, h2⟩, h3⟩, h4⟩, h5⟩, h6⟩, h7⟩, h8⟩ := h
      have hown : (own.map fun j => (k.N.getD j Str.empty, j)).map (·.2) = own := by
        rw [List.map_map]; exact List.map_id' own
      have hblk : BlkOk X.N X.env.scope sc (own.map fun j => (k.N.getD j Str.empty, j)) := by
        rw [g.N, g.sc]; exact blkOk_by h3
      have := (pe_lc (pos := pos) (g.cal hh) (by rw [g.N]; exact g.nd) (sI it false (fun z => by cases z) (Wx := Wx) (tg := t) g h1) hblk (fun s H Cc l fp => sTg (g.blk hh s H sc Cc l fp) h4) (fun s H Cc l fp => sC c (g.blk hh s H sc Cc l fp) h8)
        (fun s H Cc l fp => (sE a (g.blk hh s H sc Cc l fp) h6).st h7) (folded_of h2))
      rw [hown] at this
      exact this.imp fun σ H Q q => lc_go (g.xa hh) h5 q
    · cases h
  | .fld i f, k, X, Wx, e, g, h => by
    unfold chkE at h
    split at h
    · simp only [Bool.and_eq_true, decide_eq_true_eq] at h
      obtain ⟨⟨⟨h1, rfl⟩, h2⟩, h3⟩ := h
      exact r_fld g h1 h2 h3
    · cases h
  | .sp o es, k, X, Wx, e, g, h => by
    unfold chkE at h
    split at h
    · split at h
      · rename_i l' hl
        simp only [Bool.and_eq_true] at h
        obtain ⟨hh, h2⟩ := h
        exact r_sp g hh hl (chkEs_star h2) (sEs es _ g okMs_wk h2)
      · cases h
    · cases h
theorem sT : ∀ (ie : IE) {k : Kx} {X : Cx} {Wx : WX} {e : Expr}, Gx C E k Wx X cl → chkE ie k e = true → tOk ie = true → PT X e (tT C E Wx (fun s => ev cl ie s))
  | .var i, k, X, Wx, e, g, h, o => by
    refine t_val (sE (.var i) g h).wk ?_
    unfold chkE at h
    split at h
    · intro _; rfl
    · cases h
  | .pk i, k, X, Wx, e, g, h, o => by
    refine t_val (sE (.pk i) g h).wk ?_
    unfold chkE at h
    split at h
    · intro _; rfl
    · cases h
  | .cst d, k, X, Wx, e, g, h, o => by
    refine t_val (sE (.cst d) g h).wk ?_
    unfold chkE at h
    split at h
    · intro _; rfl
    · cases h
  | .glb x d, k, X, Wx, e, g, h, o => by
    refine t_val (sE (.glb x d) g h).wk ?_
    unfold chkE at h
    split at h
    · intro _; rfl
    · cases h
  | .fnr x d, k, X, Wx, e, g, h, o => by
    refine t_val (sE (.fnr x d) g h).wk ?_
    unfold chkE at h
    split at h
    · intro _; rfl
    · cases h
  | .bin p a b, k, X, Wx, e, g, h, o => by
    refine t_val (sE (.bin p a b) g h).wk ?_
    unfold chkE at h
    split at h
    · intro _; rfl
    · cases h
  | .neg a, k, X, Wx, e, g, h, o => by
    refine t_val (sE (.neg a) g h).wk ?_
    unfold chkE at h
    split at h
    · intro _; rfl
    · cases h
  | .cmp p a b, k, X, Wx, e, g, h, o => by
    unfold chkE at h
    split at h
    · simp only [Bool.and_eq_true, decide_eq_true_eq] at h
      obtain ⟨⟨⟨rfl, h1⟩, h2⟩, h3⟩ := h
      exact t_cmp g.un (sE a g h1).wk (sE b g h2).wk (mark_of h3) g.K
    · cases h
  | .chn p p' a b c, k, X, Wx, e, g, h, o => by
    unfold chkE at h
    split at h
    · simp only [Bool.and_eq_true, decide_eq_true_eq] at h
      obtain ⟨⟨⟨⟨⟨rfl, rfl⟩, h1⟩, h2⟩, h3⟩, h4⟩ := h
      exact t_chn g.un (sE a g h1).wk (sE b g h2).wk (sE c g h3).wk (last_of h4) g.K
    · cases h
  | .and a b, k, X, Wx, e, g, h, o => by
    unfold chkE at h
    simp only [tOk, Bool.and_eq_true] at o
    split at h
    · simp only [Bool.and_eq_true] at h
      exact (t_and (sT a g h.1 o.1) (pw_and1 (sT b g h.2 o.2))).pt
    · simp only [Bool.and_eq_true] at h
      exact (t_and (sT a g h.1 o.1) (sW b g h.2 o.2)).pt
    · cases h
  | .or a b, k, X, Wx, e, g, h, o => by
    unfold chkE at h
    simp only [tOk, Bool.and_eq_true] at o
    split at h
    · simp only [Bool.and_eq_true] at h
      exact (t_or (sT a g h.1 o.1) (pw_or1 (sT b g h.2 o.2))).pt
    · simp only [Bool.and_eq_true] at h
      exact (t_or (sT a g h.1 o.1) (sW b g h.2 o.2)).pt
    · cases h
  | .not a, k, X, Wx, e, g, h, o => by
    unfold chkE at h
    simp only [tOk] at o
    split at h
    · exact t_not (sT a g h o)
    · cases h
  | .ife t a b, k, X, Wx, e, g, h, o => by
    unfold chkE at h
    simp only [tOk, Bool.and_eq_true] at o
    split at h
    · simp only [Bool.and_eq_true] at h
      obtain ⟨⟨⟨h1, h2⟩, h3⟩, h4⟩ := h
      exact t_ife (sT t g h1 h2) (sT a g h3 o.1.2) (sT b g h4 o.2)
    · cases h
  | .tup es, k, X, Wx, e, g, h, o => by
    refine t_val (sE (.tup es) g h).wk ?_
    unfold chkE at h
    split at h
    · intro _; rfl
    · cases h
  | .lst es, k, X, Wx, e, g, h, o => by
    refine t_val (sE (.lst es) g h).wk ?_
    unfold chkE at h
    split at h
    · intro _; rfl
    · cases h
  | .ix a i, k, X, Wx, e, g, h, o => by
    refine t_val (sE (.ix a i) g h).wk ?_
    unfold chkE at h
    split at h
    · intro _; rfl
    · cases h
  | .sl a lo hi, k, X, Wx, e, g, h, o => by
    refine t_val (sE (.sl a lo hi) g h).wk ?_
    unfold chkE at h
    split at h
    · intro _; rfl
    · cases h
  | .rev a, k, X, Wx, e, g, h, o => by
    refine t_val (sE (.rev a) g h).wk ?_
    unfold chkE at h
    split at h
    · intro _; rfl
    · cases h
  | .blt b es, k, X, Wx, e, g, h, o => by
    refine t_val (sE (.blt b es) g h).wk ?_
    unfold chkE at h
    split at h
    · split at h
      · intro _; rfl
      · cases h
    · split at h
      · intro _; rfl
      · cases h
  | .call x i es, k, X, Wx, e, g, h, o => by
    refine t_val (sE (.call x i es) g h).wk ?_
    unfold chkE at h
    split at h
    · intro _; rfl
    · cases h
  | .cv i es, k, X, Wx, e, g, h, o => by
    refine t_val (sE (.cv i es) g h).wk ?_
    unfold chkE at h
    split at h
    · intro _; rfl
    · cases h
  | .lc a tg it c own fz, k, X, Wx, e, g, h, o => by
    refine t_val (sE (.lc a tg it c own fz) g h).wk ?_
    unfold chkE at h
    split at h
    · intro _; rfl
    · cases h
  | .fld i f, k, X, Wx, e, g, h, o => by
    refine t_val (sE (.fld i f) g h).wk ?_
    unfold chkE at h
    split at h
    · intro _; rfl
    · cases h
  | .sp i f, k, X, Wx, e, g, h, o => by
    refine t_val (sE (.sp i f) g h).wk ?_
    unfold chkE at h
    split at h
    · intro _; rfl
    · cases h
  | .lend x i es, k, X, Wx, e, g, h, o => by
    refine t_val (sE (.lend x i es) g h).wk ?_
    unfold chkE at h
    split at h
    · intro _; rfl
    · cases h
theorem sW : ∀ (ie : IE) {k : Kx} {X : Cx} {Wx : WX} {op : BoolOp} {y z : Expr} {l : List Expr} {p : Pos}, Gx C E k Wx X cl → chkE ie k (.BoolOp op (y :: z :: l) p) = true → tOk ie = true → PW X (.BoolOp op (y :: z :: l) p) (tT C E Wx (fun s => ev cl ie s))
  | .and a b, k, X, Wx, op, y, z, l, p, g, h, o => by
    simp only [tOk, Bool.and_eq_true] at o
    cases op with
    | Or => simp [chkE] at h
    | And =>
      cases l with
      | nil =>
        simp only [chkE, Bool.and_eq_true] at h
        exact t_and (sT a g h.1 o.1) (pw_and1 (sT b g h.2 o.2))
      | cons w l =>
        simp only [chkE, Bool.and_eq_true] at h
        exact t_and (sT a g h.1 o.1) (sW b g h.2 o.2)
  | .or a b, k, X, Wx, op, y, z, l, p, g, h, o => by
    simp only [tOk, Bool.and_eq_true] at o
    cases op with
    | And => simp [chkE] at h
    | Or =>
      cases l with
      | nil =>
        simp only [chkE, Bool.and_eq_true] at h
        exact t_or (sT a g h.1 o.1) (pw_or1 (sT b g h.2 o.2))
      | cons w l =>
        simp only [chkE, Bool.and_eq_true] at h
        exact t_or (sT a g h.1 o.1) (sW b g h.2 o.2)
  | .var i, k, X, Wx, op, y, z, l, p, g, h, o => by simp [chkE] at h
  | .pk i, k, X, Wx, op, y, z, l, p, g, h, o => by simp [chkE] at h
  | .cst i, k, X, Wx, op, y, z, l, p, g, h, o => by simp [chkE] at h
  | .glb i j, k, X, Wx, op, y, z, l, p, g, h, o => by simp [chkE] at h
  | .fnr i j, k, X, Wx, op, y, z, l, p, g, h, o => by simp [chkE] at h
  | .bin i j a, k, X, Wx, op, y, z, l, p, g, h, o => by simp [chkE] at h
  | .neg i, k, X, Wx, op, y, z, l, p, g, h, o => by simp [chkE] at h
  | .cmp i j a, k, X, Wx, op, y, z, l, p, g, h, o => by simp [chkE] at h
  | .chn i j a b c, k, X, Wx, op, y, z, l, p, g, h, o => by simp [chkE] at h
  | .not i, k, X, Wx, op, y, z, l, p, g, h, o => by simp [chkE] at h
  | .ife i j a, k, X, Wx, op, y, z, l, p, g, h, o => by simp [chkE] at h
  | .tup i, k, X, Wx, op, y, z, l, p, g, h, o => by simp [chkE] at h
  | .lst i, k, X, Wx, op, y, z, l, p, g, h, o => by simp [chkE] at h
  | .ix i j, k, X, Wx, op, y, z, l, p, g, h, o => by simp [chkE] at h
  | .sl i j a, k, X, Wx, op, y, z, l, p, g, h, o => by simp [chkE] at h
  | .rev i, k, X, Wx, op, y, z, l, p, g, h, o => by simp [chkE] at h
  | .blt i j, k, X, Wx, op, y, z, l, p, g, h, o => by
    unfold chkE at h
    cases i <;> simp at h
  | .call i j a, k, X, Wx, op, y, z, l, p, g, h, o => by simp [chkE] at h
  | .cv i j, k, X, Wx, op, y, z, l, p, g, h, o => by simp [chkE] at h
  | .lc i j a b c d, k, X, Wx, op, y, z, l, p, g, h, o => by simp [chkE] at h
  | .fld i j, k, X, Wx, op, y, z, l, p, g, h, o => by simp [chkE] at h
  | .sp i j, k, X, Wx, op, y, z, l, p, g, h, o => by simp [chkE] at h
  | .lend i j a, k, X, Wx, op, y, z, l, p, g, h, o => by simp [chkE] at h
theorem sEs : ∀ (es : IEs) (ms : List Md) {k : Kx} {X : Cx} {Wx : WX} {l : List Expr}, Gx C E k Wx X cl → okMs ms es = true → chkEs es k l = true → PA X l (tA C E Wx (fun s => evs cl es s) ms)
  | .nil, ms, k, X, Wx, l, g, o, h => by
    cases ms with
    | nil =>
      cases l with
      | nil => exact r_anil
      | cons _ _ => simp [chkEs] at h
    | cons _ _ => simp [okMs] at o
  | .cons a r, ms, k, X, Wx, l, g, o, h => by
    cases ms with
    | nil => simp [okMs] at o
    | cons m ms =>
      cases l with
      | nil => simp [chkEs] at h
      | cons e l =>
        simp only [chkEs, Bool.and_eq_true] at h
        simp only [okMs, Bool.and_eq_true] at o
        exact r_acons ((sE a g h.1.1).to o.1) (sEs r ms g o.2 h.2) (star_of h.1.2)
theorem sO : ∀ (o : IO) {k : Kx} {X : Cx} {Wx : WX} {e : Option Expr}, Gx C E k Wx X cl → chkO o k e = true → PO X e (tO C E Wx (fun s => evo cl o s))
  | .none, k, X, Wx, e, g, h => by
    cases e with
    | none => exact r_onone
    | some _ => simp [chkO] at h
  | .some a, k, X, Wx, e, g, h => by
    cases e with
    | none => simp [chkO] at h
    | some e => exact r_osome (sE a g (by simpa [chkO] using h)).wk
theorem sC : ∀ (o : IO) {k : Kx} {X : Cx} {l : List Expr}, Gx C E k (fun _ _ _ _ => False) X cl → chkC o k l = true → PTs X l (tC1 C E (evc cl o))
  | .none, k, X, l, g, h => by
    cases l with
    | nil => exact pts_nil
    | cons _ _ => simp [chkC] at h
  | .some a, k, X, l, g, h => by
    unfold chkC at h
    split at h
    · simp only [Bool.and_eq_true] at h
      exact pts_one (sT a g h.1 h.2)
    · cases h
theorem sI : ∀ (it : II) (st : Bool) (hst : st = true → ∀ a, it = .seq a → mdE a ≠ .wk) {k : Kx} {X : Cx} {Wx : WX} {e tg : Expr}, Gx C E k Wx X cl → chkI it k e = true → PI X tg e (tI C E Wx st (fun s => evi cl it s))
  | .rng1 a, st, hst, k, X, Wx, e, tg, g, h => by
    unfold chkI at h
    split at h
    · simp only [Bool.and_eq_true, decide_eq_true_eq] at h
      obtain ⟨⟨⟨rfl, h1⟩, h2⟩, h3⟩ := h
      obtain ⟨b1, b2⟩ := g.bltn h1
      exact (i_rng1 b1 b2 (sE a g h2).wk (star_of h3)).imp fun σ H R q => tI_any q
    · cases h
  | .rng2 a b, st, hst, k, X, Wx, e, tg, g, h => by
    unfold chkI at h
    split at h
    · simp only [Bool.and_eq_true, decide_eq_true_eq] at h
      obtain ⟨⟨⟨⟨⟨rfl, h1⟩, h2⟩, h3⟩, h4⟩, h5⟩ := h
      obtain ⟨b1, b2⟩ := g.bltn h1
      exact (i_rng2 b1 b2 (sE a g h2).wk (sE b g h4).wk (by rw [star_of h3, star_of h5]; rfl) (by rw [star_of h5]; rfl)).imp fun σ H R q => tI_any q
    · cases h
  | .rng3 a b c, st, hst, k, X, Wx, e, tg, g, h => by
    unfold chkI at h
    split at h
    · simp only [Bool.and_eq_true, decide_eq_true_eq] at h
      obtain ⟨⟨⟨⟨⟨⟨rfl, rfl⟩, h1⟩, h2⟩, h3⟩, h4⟩, h5⟩ := h
      obtain ⟨b1, b2⟩ := g.bltn h1
      exact (i_rng3 b1 b2 (sE a g h2).wk (sE b g h4).wk (star_of h3) (star_of h5) (by rw [star_of h5]; rfl)).imp fun σ H R q => tI_any q
    · cases h
  | .seq a, st, hst, k, X, Wx, e, tg, g, h => by
    have h' : chkE a k e = true := by unfold chkI at h; exact h
    cases st with
    | false => exact i_seq false (fun z => by cases z) (sE a g h') g.K
    | true => exact i_seq (md := .st) true (fun _ => rfl) ((sE a g h').st (hst rfl a rfl)) g.K
end
end
end Vi

/-! V13: readings of statements. -/
namespace Vi
open PySem PySem.Spec PyProof.Rows L2
section
variable {C : Ct} {E : En} {Wx : WX} {σ : L2.St} {W W' W1 W2 Wc : Wd} {H H' H1 H2 H0 Hc : Hp} {s s' s1 s2 : S}
def SC (C : Ct) (E : En) (Wx : WX) (Dn : Ends) : RS → Prop
  | .next s' => ∀ W' σ' H', StR C E W' σ' H' s' → Dn.nx σ' H'
  | .brk s' => ∀ W' σ' H', StR C E W' σ' H' s' → Dn.bk σ' H'
  | .cnt s' => ∀ W' σ' H', StR C E W' σ' H' s' → Dn.ct σ' H'
  | .ret d s' => ∀ W' σ' H' v, StR C E W' σ' H' s' → Rep C W' v d → Dn.rt v H'
  | .exc e s' => ∀ W' σ' H' cls dx, StR C E W' σ' H' s' → ExR C W' H' cls dx e → Wx cls dx σ' H'
  | .stuck => False
def tS (C : Ct) (E : En) (Wx : WX) (m : S → RS) : TS := fun Dn σ H => ∃ W s, StR C E W σ H s ∧ SC C E Wx Dn (m s)
theorem SC.stm {α : Type} {Dn : Ends} {r : RE α} {f : α → S → RS} (h : SC C E Wx Dn (r.stm f)) : EC C E Wx σ W H s (fun a _ _ s' => SC C E Wx Dn (f a s')) r := by
  cases r with
  | ok a s' => exact fun W' H' _ _ => h
  | exc e s' => exact fun W' H' cls dx r' x => h W' σ H' cls dx r' x
  | stuck => exact h
theorem tE_of {m : S → RE D} {md : Md} {f : D → S → RS} {Dn : Ends} {Q : VK} (h : tS C E Wx (fun s => (m s).stm f) Dn σ H) (q : ∀ d W' H' s' v, StR C E W' σ H' s' → RepM C E H W' σ H' s' md v d → SC C E Wx Dn (f d s') → Q v H') : tE C E Wx m md σ H Q := by
  obtain ⟨W, s, r, h⟩ := h
  exact ⟨W, s, r, h.stm.mono fun d W' H' s' r' k' h' v hv => q d W' H' s' v r' hv h'⟩
theorem tA_of {m : S → RE (List D)} {ms : List Md} {f : List D → S → RS} {Dn : Ends} {Q : List V → Hp → Prop} (h : tS C E Wx (fun s => (m s).stm f) Dn σ H) (q : ∀ d W' H' s' v, StR C E W' σ H' s' → RepsM C E H W' σ H' s' ms v d → SC C E Wx Dn (f d s') → Q v H') : tA C E Wx m ms σ H Q := by
  obtain ⟨W, s, r, h⟩ := h
  exact ⟨W, s, r, h.stm.mono fun d W' H' s' r' k' h' v hv => q d W' H' s' v r' hv h'⟩
/-- a value comes into a slot -/
theorem StR.setM (r : StR C E W σ H s) {i : Nat} {v : V} {d : D} {fr : Bool} (hn : nlck s.sl i = true) (h : RepM C E H0 W σ H s (if fr then .fr else .st) v d) : StR C E W (σ.set i (some v)) H { s with sl := s.sl.set i (slotOf fr d) } := by
  cases fr with
  | false => exact r.setVal i hn h
  | true =>
    cases d with
    | lst xs =>
      obtain ⟨a, vs, rfl, ha, hr, g, e, n, h0, ne⟩ := (show FrL C E H0 W σ H s v xs from h)
      exact r.setSlot i hn ⟨a, vs, rfl, ha, hr⟩ fun _ => ⟨a, rfl, g, e, n, ne⟩
    | non => exact r.setVal i hn (show Rep C W v _ from h)
    | bl _ => exact r.setVal i hn (show Rep C W v _ from h)
    | int _ => exact r.setVal i hn (show Rep C W v _ from h)
    | str _ => exact r.setVal i hn (show Rep C W v _ from h)
    | tup _ => exact r.setVal i hn (show Rep C W v _ from h)
    | scr _ => exact r.setVal i hn (show Rep C W v _ from h)
    | tok => exact r.setVal i hn (show Rep C W v _ from h)
    | cel => exact r.setVal i hn (show Rep C W v _ from h)
    | fn _ => exact r.setVal i hn (show Rep C W v _ from h)
/-- an owned list changes -/
theorem StR.wrOwn (r : StR C E W σ H s) {i : Nat} {xs ys : List D} {a : Addr} {us : List V} (h : s.sl[i]? = some (.own xs)) (e : σ[i]? = some (some (.ref a))) (hr : Reps C W us ys) : StR C E W σ (upd H a (.lst us)) { s with sl := s.sl.set i (.own ys) } := by
  have o : OwnAt s i := ⟨_, h, rfl⟩
  obtain ⟨g, e0, ns⟩ := r.ow i a o e
  obtain ⟨vs0, hat⟩ : ∃ vs, H a = some (.lst vs) := by
    obtain ⟨a', vs', _, e1, h1, _⟩ := own_ref r o
    rw [e] at e1
    injection e1 with e1
    injection e1 with e1
    injection e1 with e1
    subst e1
    exact ⟨vs', h1⟩
  have hi : i < s.sl.length := (List.getElem?_eq_some_iff.mp h).1
  have own1 : ∀ j, OwnAt { s with sl := s.sl.set i (.own ys) } j → OwnAt s j := fun j ⟨y, hj, hy⟩ => by
    rcases get_set hj with ⟨h1, _, _⟩ | ⟨h1, h2⟩
    · rw [h1]; exact o
    · exact ⟨y, h2, hy⟩
  refine ⟨⟨r.kp.le, fun b u hb n nt => ?_, r.kp.sn, r.kp.tt.trans (tt_lst hat)⟩, r.fr, fun b u hb => ?_, r.rg.same rfl (fun b hb => ?_) (fun _ _ => rfl), ?_, fun j x hj => ?_, fun j1 j2 b o1 o2 => r.nd j1 j2 b (own1 j1 o1) (own1 j2 o2), fun j b oj ej => r.ow j b (own1 j oj) ej, fun p hp => ?_, r.lo⟩
  · rw [upd_ne]
    · exact r.kp.kp0 b u hb n nt
    · rintro rfl; rw [e0] at hb; cases hb
  · rw [upd_ne]
    · exact r.gh b u hb
    · rintro rfl; rw [g] at hb; cases hb
  · rw [upd_ne]; rintro rfl; exact ns hb
  · show σ.length = (s.sl.set i _).length
    rw [List.length_set]; exact r.len
  · rcases get_set hj with ⟨rfl, rfl, _⟩ | ⟨h1, h2⟩
    · exact ⟨a, us, e, upd_same, hr⟩
    · have q := r.sl j x h2
      have ne : x.isO = true → ∀ b, σ[j]? = some (some (.ref b)) → b ≠ a := fun ho b eb z => by
        subst z
        exact h1 (r.nd j i b ⟨x, h2, ho⟩ o eb e)
      cases x with
      | uns => trivial
      | val d => exact q
      | own zs =>
        obtain ⟨b, vs, e1, hb, hr'⟩ := q
        exact ⟨b, vs, e1, by rw [upd_ne (ne rfl b e1)]; exact hb, hr'⟩
      | lck zs =>
        obtain ⟨b, vs, e1, hb, hr'⟩ := q
        exact ⟨b, vs, e1, by rw [upd_ne (ne rfl b e1)]; exact hb, hr'⟩
      | exv ex =>
        obtain ⟨b, cls, dx, e1, e2, e3, c, vs, e4, hc, hr'⟩ := q
        have ha : ∃ vs, H a = some (.lst vs) := by
          obtain ⟨a', vs, xs', ea, ha, _⟩ := own_ref r o
          rw [e] at ea
          injection ea with ea
          injection ea with ea
          injection ea with ea
          subst ea
          exact ⟨vs, ha⟩
        obtain ⟨vs', ha⟩ := ha
        exact ⟨b, cls, dx, e1, e2, e3, c, vs, e4, (by rw [upd_ne]; exact hc; rintro rfl; rw [ha] at hc; cases hc), hr'⟩
  · obtain ⟨zs, b1, b2, b3⟩ := r.pr p hp
    have hpi : i ≠ p.1 := fun z => by rw [z, b1] at h; cases h
    refine ⟨zs, by show (s.sl.set i _)[p.1]? = _; rw [List.getElem?_set_ne hpi]; exact b1, b2, ?_⟩
    rw [upd_ne]
    · exact b3
    · intro z
      rw [z] at b2
      exact hpi (r.nd i p.1 a o ⟨_, b1, rfl⟩ e b2)
/-- the draws change -/
theorem StR.wrRng (r : StR C E W σ H s) {p p' : Int} {cs cs' : List Int} {x c b : Addr} {us : List V} (h : s.rg = some (p, cs)) (hst : W.st = some (x, c)) (hb : (b = x ∧ us = [.int p', .ref c] ∧ cs' = cs) ∨ (b = c ∧ us = cs'.map V.int ∧ p' = p)) :
    StR C E W σ (upd H b (.lst us)) { s with rg := some (p', cs') } := by
  have hin : InSt W b := ⟨x, c, hst, by rcases hb with ⟨h, _⟩ | ⟨h, _⟩ <;> simp [h]⟩
  obtain ⟨vb, hHb, gb⟩ := r.stAt hin
  have rg := r.rg
  rw [h] at rg
  obtain ⟨x', c', e2, z1, z2, g1, g2⟩ := rg
  rw [hst] at e2
  injection e2 with e2
  injection e2 with e3 e4
  subst e3 e4
  have hxc : x ≠ c := fun z => by
    subst z
    rw [z1] at z2
    injection z2 with z2
    injection z2 with z2
    cases cs with
    | nil => cases z2
    | cons q cs =>
      cases cs with
      | nil => simp at z2
      | cons q' cs => simp at z2
  refine ⟨⟨r.kp.le, fun a u ha n nt => ?_, r.kp.sn, r.kp.tt.trans (tt_lst hHb)⟩, r.fr, fun a u ha => ?_, ?_, r.len, fun i y hy => ?_, r.nd, r.ow, fun q hq => ?_, r.lo⟩
  · rw [upd_ne]
    · exact r.kp.kp0 a u ha n nt
    · rintro rfl; exact n hin
  · rw [upd_ne]
    · exact r.gh a u ha
    · rintro rfl; rw [gb] at ha; cases ha
  · rcases hb with ⟨rfl, rfl, rfl⟩ | ⟨rfl, rfl, rfl⟩
    · exact ⟨b, c, hst, upd_same, by rw [upd_ne (Ne.symm hxc)]; exact z2, g1, g2⟩
    · exact ⟨x, b, hst, by rw [upd_ne hxc]; exact z1, upd_same, g1, g2⟩
  · have q := r.sl i y hy
    cases y with
    | uns => trivial
    | val d => exact q
    | own zs =>
      obtain ⟨a, vs, e1, ha, hr'⟩ := q
      exact ⟨a, vs, e1, by rw [upd_ne]; exact ha; rintro rfl; exact (r.ow i a ⟨_, hy, rfl⟩ e1).2.2 hin, hr'⟩
    | lck zs =>
      obtain ⟨a, vs, e1, ha, hr'⟩ := q
      exact ⟨a, vs, e1, by rw [upd_ne]; exact ha; rintro rfl; exact (r.ow i a ⟨_, hy, rfl⟩ e1).2.2 hin, hr'⟩
    | exv ex =>
      obtain ⟨a, cls, dx, e1, e2, e3, d, vs, e4, hd, hr', hl, n⟩ := q
      exact ⟨a, cls, dx, e1, e2, e3, d, vs, e4, by rw [upd_ne]; exact hd; rintro rfl; exact n hin, hr', hl, n⟩
  · obtain ⟨zs, b1, b2, b3⟩ := r.pr q hq
    refine ⟨zs, b1, b2, ?_⟩
    rw [upd_ne]
    · exact b3
    · intro z
      rw [z] at b2
      exact (r.ow q.1 b ⟨_, b1, rfl⟩ b2).2.2 hin
end
section
variable {C : Ct} {E : En} {Wx : WX} {X : Cx} {e a b c : Expr} {es : List Expr} {pos p : Pos} {m ma mb mc : S → RE D} {mes : S → RE (List D)} {md : Md} {ms : List Md} {st : Stmt} {sts : List Stmt} {n1 n2 : S → RS}
theorem s_nil : PSs X [] (tS C E Wx (fun s => .next s)) := PSs.imp pss_nil fun Dn σ H ⟨W, s, r, h⟩ => h W σ H r
theorem s_cons (h1 : PS X st (tS C E Wx n1)) (h2 : PSs X sts (tS C E Wx n2)) : PSs X (st :: sts) (tS C E Wx (fun s => match n1 s with
    | .next s => n2 s
    | r => r)) := by
  refine PSs.imp (pss_cons h1 h2) fun Dn σ H ⟨W, s, r, h⟩ => ?_
  refine ⟨W, s, r, ?_⟩
  simp only [] at h
  cases q : n1 s with
  | next s' => rw [q] at h; exact fun W' σ' H' r' => ⟨W', s', r', h⟩
  | ret d s' => rw [q] at h; exact h
  | brk s' => rw [q] at h; exact h
  | cnt s' => rw [q] at h; exact h
  | exc e s' => rw [q] at h; exact h
  | stuck => rw [q] at h; exact h
theorem s_ret (he : PE X e (tE C E Wx m .st)) : PS X (.Return (some e) pos) (tS C E Wx (fun s => (m s).stm fun d s => .ret d s)) :=
  PS.imp (ps_ret he) fun Dn σ H h => tE_of h fun d W' H' s' v r' hv h' => h' W' σ H' v r' hv
theorem s_drp (he : PE X e (tE C E Wx m md)) (hs : swapsWith e none pos.line X.env = pure false) : PS X (.Expr e pos) (tS C E Wx (fun s => (m s).stm fun _ s => .next s)) :=
  PS.imp (ps_expr he hs) fun Dn σ H h => tE_of h fun d W' H' s' v r' hv h' => h' W' σ H' r'
theorem s_if {x : List Stmt} {y : List Stmt} (hc : PT X c (tT C E Wx m)) (ha : PSs X x (tS C E Wx n1)) (hb : PSs X y (tS C E Wx n2)) : PS X (.If c x y pos) (tS C E Wx (fun s => (m s).stm fun x s => match x with
    | .bl true => n1 s
    | .bl false => n2 s
    | _ => .stuck)) := by
  refine PS.imp (ps_if hc ha hb) fun Dn σ H ⟨W, s, r, h⟩ => ?_
  refine ⟨W, s, r, h.stm.mono fun d W' H' s' r' k' h' => ?_⟩
  cases d with
  | bl k =>
    refine ⟨k, rfl, ?_⟩
    cases k with
    | true => rw [if_pos rfl]; exact ⟨W', s', r', h'⟩
    | false => rw [if_neg Bool.false_ne_true]; exact ⟨W', s', r', h'⟩
  | _ => exact h'.elim
theorem s_while (hp : PassesOwn (model X.prog X.w) X.A X.env X.xe) (hc : PT X c (tT C E Wx m)) (hb : PSs X sts (tS C E Wx n1)) (fu : Nat) : PS X (.While c sts [] pos) (tS C E Wx (fun s => whlL m n1 fu s)) := by
  refine PS.imp (ps_while hp hc hb) fun Dn σ H ⟨W, s, r, h⟩ => ?_
  refine ⟨fun j σ H => ∃ W s, StR C E W σ H s ∧ SC C E Wx Dn (whlL m n1 j s), ⟨fu, W, s, r, h⟩, ?_⟩
  rintro j σ H ⟨W, s, r, h⟩
  cases j with
  | zero => exact h.elim
  | succ j =>
    have h : SC C E Wx Dn ((m s).stm fun b s => match b with
      | .bl true => match n1 s with
        | .next s => whlL m n1 j s
        | .cnt s => whlL m n1 j s
        | .brk s => .next s
        | r => r
      | .bl false => .next s
      | _ => .stuck) := h
    refine ⟨W, s, r, h.stm.mono fun d W' H' s' r' k' h' => ?_⟩
    cases d with
    | bl k =>
      refine ⟨k, rfl, ?_⟩
      cases k with
      | false => rw [if_neg Bool.false_ne_true]; exact h' W' σ H' r'
      | true =>
        rw [if_pos rfl]
        refine ⟨fun σ H => ∃ W s, StR C E W σ H s ∧ SC C E Wx Dn (whlL m n1 j s), fun σ' H' z => ⟨j, Nat.lt_succ_self j, z⟩, W', s', r', ?_⟩
        simp only [] at h'
        cases q : n1 s' with
        | next s2 => rw [q] at h'; exact fun W2 σ2 H2 r2 => ⟨W2, s2, r2, h'⟩
        | cnt s2 => rw [q] at h'; exact fun W2 σ2 H2 r2 => ⟨W2, s2, r2, h'⟩
        | brk s2 => rw [q] at h'; exact h'
        | ret d s2 => rw [q] at h'; exact h'
        | exc e s2 => rw [q] at h'; exact h'
        | stuck => rw [q] at h'; exact h'
    | _ => exact h'.elim
theorem s_set {i : Nat} {x : Str} {pos' : Pos} {fr : Bool} (hN : X.N.Nodup) (hi : X.N[i]? = some x) (hx : Loc X.env.scope x) (hf : X.fn x = true ∨ X.env.scope.names.lookup x = some .local) (he : PE X e (tE C E Wx m (if fr then .fr else .st)))
    (hs : swapsWith e (some (.Name x pos')) pos.line X.env = pure false) : PS X (.Assign [.Name x pos'] e pos) (tS C E Wx (fun s => (m s).stm fun d s => if nlck s.sl i then .next { s with sl := s.sl.set i (slotOf fr d) } else .stuck)) := by
  refine PS.imp (ps_set hN hi hx he hs hf) fun Dn σ H h => tE_of h fun d W' H' s' v r' hv h' => ?_
  split at h'
  · rename_i hn
    exact h' W' _ H' (r'.setM hn hv)
  · exact h'.elim
theorem s_aug {i : Nat} {x : Str} {pos' : Pos} {o : BOp} (ho : o = .add ∨ o = .sub) (hN : X.N.Nodup) (hi : X.N[i]? = some x) (hx : Loc X.env.scope x) (hf : X.fn x = true ∨ X.env.scope.names.lookup x = some .local) (he : PE X e (tE C E Wx m .wk)) :
    PS X (.AugAssign (.Name x pos') (opOf o) e pos) (tS C E Wx (fun s => match s.sl[i]? with
      | some (.val x) => (m s).stm fun y s => match augD o x y with
        | some z => if nlck s.sl i then .next { s with sl := s.sl.set i (.val z) } else .stuck
        | none => .stuck
      | _ => .stuck)) := by
  have rule : PIp X (opOf o) (fun x y H Q => (match o with | .add => (ipI fun i j => i + j) x y H Q ∨ (∃ i j, x = .str i ∧ y = .str j ∧ i.length + j.length ≤ sizeLine ∧ Q (.str (i ++ j)) H) | _ => (ipI fun i j => i - j) x y H Q)) := by
    rcases ho with rfl | rfl
    · intro pins s σ H x y v u Q I r1 r2 h
      rcases h with h | h
      · exact ip_add pins s σ H x y v u Q I r1 r2 h
      · exact iop_add_str pins s σ H x y v u Q I r1 r2 h
    · exact ip_sub
  refine PS.imp (ps_aug hN hi hx he rule hf) fun Dn σ H ⟨W, s, r, h⟩ => ?_
  simp only [] at h
  split at h
  · rename_i d hd
    obtain ⟨v, ev, hv⟩ := r.sl i _ hd
    refine ⟨v, ev, W, s, r, h.stm.mono fun y W' H' s' r' k' h' u hu => ?_⟩
    have hv' := hv.mono k'.k.le
    split at h'
    · rename_i z hz
      split at h'
      · rename_i hn
        unfold augD at hz
        split at hz
        · injection hz with hz; subst hz
          cases hv'
          obtain rfl := wkInt hu
          exact .inl ⟨_, _, rfl, rfl, h' W' _ H' (r'.setVal i hn (.int _))⟩
        · split at hz
          · rename_i hl
            injection hz with hz; subst hz
            cases hv'
            obtain rfl := wkStr hu
            exact .inr ⟨_, _, rfl, rfl, le_size hl, h' W' _ H' (r'.setVal i hn (.str _))⟩
          · cases hz
        · injection hz with hz; subst hz
          cases hv'
          obtain rfl := wkInt hu
          exact ⟨_, _, rfl, rfl, h' W' _ H' (r'.setVal i hn (.int _))⟩
        · cases hz
      · exact h'.elim
    · exact h'.elim
  · exact h.elim
theorem s_unp {t : Expr} {is : List Nat} (g : PG X t (gT C.K (.tp is))) (he : PE X e (tE C E Wx m .st)) (hs : swapsWithSole [t] e pos.line X.env = pure false) (hw : swappedStores [t] e X.env = pure none) (h1 : (assignEach [t] X.env).map (·.2) = [assign t X.env]) :
    PS X (.Assign [t] e pos) (tS C E Wx (fun s => (m s).stm fun d s => match bindTg (.tp is) d s.sl with | some sl => .next { s with sl := sl } | none => .stuck)) := by
  refine PS.imp (ps_asg he g hs hw h1) fun Dn σ H h => tE_of h fun d W' H' s' v r' hv h' => ?_
  split at h'
  · rename_i sl hb
    exact tg_go r' hv hb fun σ' _ r2 => h' W' σ' H' r2
  · exact h'.elim
/-! ### stores into lists -/
theorem setAt_ix {xs ys : List D} {i : Int} {d : D} (h : setAt xs i d = some ys) : ∃ j, ixN xs.length i = some j ∧ ys = xs.set j d := by
  unfold setAt at h
  unfold ixN
  by_cases h0 : 0 ≤ i
  · rw [if_pos h0] at h ⊢
    by_cases h1 : i < xs.length
    · rw [if_pos h1] at h ⊢; injection h with h; exact ⟨_, rfl, h.symm⟩
    · rw [if_neg h1] at h; cases h
  · rw [if_neg h0] at h ⊢
    by_cases h1 : -(xs.length : Int) ≤ i
    · rw [if_pos h1] at h ⊢; injection h with h; exact ⟨_, rfl, h.symm⟩
    · rw [if_neg h1] at h; cases h
theorem store_go {σ : L2.St} {W : Wd} {H H0 : Hp} {s : S} {i : Nat} {y d : D} {w u v : V} {Dn : Ends} (r : StR C E W σ H s) (hw : σ[i]? = some (some w)) (hy : RepM C E H0 W σ H s .wk u y) (hd : Rep C W v d) (h : SC C E Wx Dn (storeIx i y d s)) :
    rSetL w u v H (fun H' => Dn.nx σ H') := by
  unfold storeIx at h
  split at h
  · rename_i xs k hs
    obtain rfl := wkInt hy
    split at h
    · rename_i ys hys
      obtain ⟨j, hj, rfl⟩ := setAt_ix hys
      obtain ⟨a, vs, e, ha, hr⟩ := r.sl i _ hs
      rw [hw] at e
      injection e with e
      injection e with e
      subst e
      exact ⟨a, vs, k, j, rfl, rfl, ha, by rw [hr.length]; exact hj, h W σ _ (r.wrOwn hs hw (hr.set hd j))⟩
    · exact h.elim
  · rename_i k hs
    obtain rfl := wkInt hy
    split at h
    · rename_i p cs n hrg
      split at h
      · rename_i hk
        subst hk
        obtain ⟨x, e, hx⟩ := r.sl i _ hs
        rw [hw] at e
        injection e with e
        injection e with e
        subst e
        obtain ⟨a, c, rfl, ha, hc, hcs, hst⟩ := wkTok r (H0 := H) (.inl hx) hrg
        cases hd
        exact ⟨a, _, 0, 0, rfl, rfl, ha, rfl, h W σ _ (r.wrRng hrg hst (.inl ⟨rfl, rfl, rfl⟩))⟩
      · exact h.elim
    · exact h.elim
  · rename_i k hs
    obtain rfl := wkInt hy
    split at h
    · rename_i p cs n hrg
      split at h
      · rename_i hk
        obtain ⟨x, e, hx⟩ := r.sl i _ hs
        rw [hw] at e
        injection e with e
        injection e with e
        subst e
        obtain ⟨a, c, rfl, hc, hst⟩ := wkCel r (H0 := H) (.inl hx) hrg
        cases hd
        refine ⟨c, _, k, k.toNat, rfl, rfl, hc, ?_, h W σ _ (r.wrRng hrg hst (.inr ⟨rfl, ?_, rfl⟩))⟩
        · unfold ixN
          rw [if_pos hk.1, List.length_map, if_pos hk.2]
        · rw [List.map_set]
      · exact h.elim
    · exact h.elim
  · exact h.elim
/-- the same, with what comes then left open -/
theorem store_on {σ : L2.St} {W : Wd} {H H0 : Hp} {s s' : S} {i : Nat} {y d : D} {w u v : V} (r : StR C E W σ H s) (hw : σ[i]? = some (some w)) (hy : RepM C E H0 W σ H s .wk u y) (hd : Rep C W v d) (h : storeIx i y d s = .next s') (N : Hp → Prop) (hN : ∀ H', StR C E W σ H' s' → N H') :
    rSetL w u v H N := by
  unfold storeIx at h
  split at h
  · rename_i xs k hs
    obtain rfl := wkInt hy
    split at h
    · rename_i ys hys
      injection h with h
      subst h
      obtain ⟨j, hj, rfl⟩ := setAt_ix hys
      obtain ⟨a, vs, e, ha, hr⟩ := r.sl i _ hs
      obtain rfl : w = .ref a := by rw [hw] at e; simpa using e
      exact ⟨a, vs, k, j, rfl, rfl, ha, by rw [hr.length]; exact hj, hN _ (r.wrOwn hs hw (hr.set hd j))⟩
    · cases h
  · rename_i k hs
    obtain rfl := wkInt hy
    split at h
    · rename_i p cs n hrg
      split at h
      · rename_i hk
        injection h with h
        subst h
        subst hk
        obtain ⟨x, e, hx⟩ := r.sl i _ hs
        obtain rfl : w = x := by rw [hw] at e; simpa using e
        obtain ⟨a, c, rfl, ha, hc, hcs, hst⟩ := wkTok r (H0 := H) (.inl hx) hrg
        cases hd
        exact ⟨a, _, 0, 0, rfl, rfl, ha, rfl, hN _ (r.wrRng hrg hst (.inl ⟨rfl, rfl, rfl⟩))⟩
      · cases h
    · cases h
  · rename_i k hs
    obtain rfl := wkInt hy
    split at h
    · rename_i p cs n hrg
      split at h
      · rename_i hk
        injection h with h
        subst h
        obtain ⟨x, e, hx⟩ := r.sl i _ hs
        obtain rfl : w = x := by rw [hw] at e; simpa using e
        obtain ⟨a, c, rfl, hc, hst⟩ := wkCel r (H0 := H) (.inl hx) hrg
        cases hd
        refine ⟨c, _, k, k.toNat, rfl, rfl, hc, ?_, hN _ (r.wrRng hrg hst (.inr ⟨rfl, ?_, rfl⟩))⟩
        · unfold ixN
          rw [if_pos hk.1, List.length_map, if_pos hk.2]
        · rw [List.map_set]
      · cases h
    · cases h
  · cases h
/-- the slot of a stored list as an expression -/
theorem slot_of {σ : L2.St} {W : Wd} {H : Hp} {s : S} {i : Nat} {y d : D} {Dn : Ends} (r : StR C E W σ H s) (h : SC C E Wx Dn (storeIx i y d s)) : ∃ w, σ[i]? = some (some w) := by
  unfold storeIx at h
  split at h
  · rename_i xs k hs
    obtain ⟨a, vs, e, _⟩ := r.sl i _ hs
    exact ⟨_, e⟩
  · rename_i k hs
    obtain ⟨x, e, _⟩ := r.sl i _ hs
    exact ⟨_, e⟩
  · rename_i k hs
    obtain ⟨x, e, _⟩ := r.sl i _ hs
    exact ⟨_, e⟩
  · exact h.elim
end
end Vi

/-! V14: stores, methods of lists, for. -/
namespace Vi
open PySem PySem.Spec PyProof.Rows L2
section
variable {C : Ct} {E : En} {Wx : WX} {X : Cx} {e a b c : Expr} {es : List Expr} {pos p : Pos} {m ma mb mc : S → RE D} {mes : S → RE (List D)} {md : Md} {ms : List Md} {st : Stmt} {sts : List Stmt} {n1 n2 : S → RS}
theorem stoOk_w {σ : L2.St} {W : Wd} {H : Hp} {s : S} {i : Nat} (r : StR C E W σ H s) (h : stoOk s.sl i = true) : ∃ w, σ[i]? = some (some w) := by
  unfold stoOk at h
  split at h
  · rename_i xs hs
    obtain ⟨a, vs, e, _⟩ := r.sl i _ hs
    exact ⟨_, e⟩
  · rename_i hs
    obtain ⟨x, e, _⟩ := r.sl i _ hs
    exact ⟨_, e⟩
  · rename_i hs
    obtain ⟨x, e, _⟩ := r.sl i _ hs
    exact ⟨_, e⟩
  · cases h
theorem s_sto {i : Nat} {x : Str} {ix : Expr} {p1 p2 : Pos} {mx me : S → RE D} (hv : PE X (.Name x p1) (tVar i)) (hi : PE X ix (tE C E Wx mx .wk)) (he : PE X e (tE C E Wx me .st)) (hsl : noSl ix = true) (hs : swapsWithSole [.Subscript (.Name x p1) ix p2] e pos.line X.env = pure false) (hw : swappedStores [.Subscript (.Name x p1) ix p2] e X.env = pure none) :
    PS X (.Assign [.Subscript (.Name x p1) ix p2] e pos) (tS C E Wx (fun s => (me s).stm fun d s => if stoOk s.sl i then (mx s).stm fun y s => storeIx i y d s else .stuck)) := by
  have g : PG X (.Subscript (.Name x p1) ix p2) (gSub (tVar i) (tE C E Wx mx .wk) rSetL) := pg_sub hv hi set_list (by intro v; cases ix <;> first | rfl | cases hsl)
  refine PS.imp (ps_asg he g hs hw (by rfl)) fun Dn σ H h => tE_of h fun d W' H' s' v r' hv h' => ?_
  split at h'
  · rename_i ho
    obtain ⟨w, hw⟩ := stoOk_w r' ho
    refine ⟨w, hw, W', s', r', h'.stm.mono fun y W2 H2 s2 r2 k2 h2 u hu => ?_⟩
    exact store_go r2 hw hu (Rep.mono k2.k.le hv) h2
  · exact h'.elim
theorem pget_list : PGet X (rIxL X.K) := by
  intro pins s σ H x y v u Q I rx ry h
  obtain ⟨p, xs, i, z, rfl, rfl, hq, he, q⟩ := h
  cases rx
  obtain ⟨t, rfl⟩ := ry
  obtain ⟨its, r, pl, hz⟩ := I.list hq
  obtain ⟨j, h1, h2, h3, h4, h5⟩ := atI_get he
  obtain ⟨w, ew, rw'⟩ := r.get h2
  have hl := r.length
  have hn := line63
  have fin : EP X pins σ Q w s := ⟨z, H, I, rw', q⟩
  by_cases h0 : 0 ≤ i
  · have hj : i.toNat = j := by
      rw [seqIndex_of h0 h5] at h1
      exact Option.some.inj h1
    exact wpAny_getItem_list pl.isList h0 (by omega) (by rw [hj]; simpa using ew) fin
  · have hj : (i + (its.toArray.size : Int)).toNat = j := by
      rw [seqIndex_neg (by omega) h4] at h1
      rw [List.size_toArray, ← hl]
      exact Option.some.inj h1
    exact wpAny_getItem_list_neg pl.isList (by omega) (by rw [List.size_toArray] <;> omega) (by omega) (by rw [hj]; simpa using ew) fin
theorem s_augs {i : Nat} {x : Str} {ix : Expr} {p1 p2 : Pos} {mx me : S → RE D} {o : BOp} (ho : o = .add ∨ o = .sub) (hv : PE X (.Name x p1) (tVar i)) (hi : PE X ix (tE C E Wx mx .wk)) (he : PE X e (tE C E Wx me .wk)) (hsl : noSl ix = true) (hK : X.K = C.K) :
    PS X (.AugAssign (.Subscript (.Name x p1) ix p2) (opOf o) e pos) (tS C E Wx (fun s => if stoOk s.sl i then (mx s).stm fun y s => match s.sl[i]?, y with
      | some (.own xs), .int k => match ixL xs k with
        | some old => (me s).stm fun z s => match augD o old z with
          | some w => storeIx i (.int k) w s
          | none => .stuck
        | none => .stuck
      | _, _ => .stuck
    else .stuck)) := by
  have rule : PIp X (opOf o) (fun x y H Q => (match o with | .add => (ipI fun i j => i + j) x y H Q ∨ (∃ i j, x = .str i ∧ y = .str j ∧ i.length + j.length ≤ sizeLine ∧ Q (.str (i ++ j)) H) | _ => (ipI fun i j => i - j) x y H Q)) := by
    rcases ho with rfl | rfl
    · intro pins s σ H x y v u Q I r1 r2 h
      rcases h with h | h
      · exact ip_add pins s σ H x y v u Q I r1 r2 h
      · exact iop_add_str pins s σ H x y v u Q I r1 r2 h
    · exact ip_sub
  refine PS.imp (ps_augS hv hi pget_list he rule set_list (by intros; cases ix <;> first | rfl | cases hsl)) fun Dn σ H ⟨W, s, r, h⟩ => ?_
  simp only [] at h
  split at h
  · rename_i hok
    obtain ⟨w0, hw⟩ := stoOk_w r hok
    refine ⟨w0, hw, W, s, r, h.stm.mono fun y W1 H1 s1 r1 k1 h1 u hu => ?_⟩
    split at h1
    · rename_i xs k hs
      obtain rfl := wkInt hu
      split at h1
      · rename_i old hold
        obtain ⟨a, vs, e, ha, hr⟩ := r1.sl i _ hs
        rw [hw] at e
        injection e with e
        injection e with e
        subst e
        obtain ⟨v, hv1, hv2⟩ := ixL_rep hr hold
        refine ⟨a, vs, k, v, rfl, rfl, SqL.of ha, hv1, W1, s1, r1, h1.stm.mono fun z W2 H2 s2 r2 k2 h2 q hq => ?_⟩
        have hv' := hv2.mono k2.k.le
        split at h2
        · rename_i w hz
          unfold augD at hz
          split at hz
          · injection hz with hz; subst hz
            cases hv'
            obtain rfl := wkInt hq
            exact .inl ⟨_, _, rfl, rfl, store_go r2 hw (H0 := H2) (.inl (.int k)) (.int _) h2⟩
          · split at hz
            · rename_i hl
              injection hz with hz; subst hz
              cases hv'
              obtain rfl := wkStr hq
              exact .inr ⟨_, _, rfl, rfl, le_size hl, store_go r2 hw (H0 := H2) (.inl (.int k)) (.str _) h2⟩
            · cases hz
          · injection hz with hz; subst hz
            cases hv'
            obtain rfl := wkInt hq
            exact ⟨_, _, rfl, rfl, store_go r2 hw (H0 := H2) (.inl (.int k)) (.int _) h2⟩
          · cases hz
        · exact h2.elim
      · exact h1.elim
    · exact h1.elim
  · exact h.elim
theorem s_app {i : Nat} {x : Str} {p1 ap cp : Pos} {me : S → RE D} (hv : PE X (.Name x p1) (tVar i)) (he : PE X e (tE C E Wx me .st)) (hst : noStar e = true) (hl : (ap.endLine == cp.line) = true) :
    PS X (.Expr (.Call (.Attribute (.Name x p1) "append" ap) [e] [] cp) pos) (tS C E Wx (fun s => match s.sl[i]? with
      | some (.own _) => (me s).stm fun d s => match s.sl[i]? with
        | some (.own xs) => if xs.length < lim then .next { s with sl := s.sl.set i (.own (xs ++ [d])) } else .stuck
        | _ => .stuck
      | _ => .stuck)) := by
  have hstar : ∀ env, starEach [e] env = [(false, eval e env)] := fun env => by rw [star_of hst]; rfl
  refine PS.imp (ps_expr (pe_bm PySem.F.plainAttrs_list PySem.F.slot_list_append PySem.F.type_list_append mt_append hv (pa_cons he pa_nil (hstar _)) (by rfl) (by rw [hstar]; rfl) hl (hstar _) (by rfl)) (by rfl)) fun Dn σ H ⟨W, s, r, h⟩ => ?_
  simp only [] at h
  split at h
  · rename_i xs0 hs0
    obtain ⟨a, vs0, e0, ha0, _⟩ := r.sl i _ hs0
    refine ⟨_, e0, Or.inl ⟨rfl, _, Or.inl (Or.inl ha0)⟩, W, s, r, h.stm.mono fun d W1 H1 s1 r1 k1 h1 v hv => ?_⟩
    split at h1
    · rename_i xs hs
      split at h1
      · rename_i hz
        obtain ⟨a', vs, e1, ha, hr⟩ := r1.sl i _ hs
        rw [e0] at e1
        injection e1 with e1
        injection e1 with e1
        injection e1 with e1
        subst e1
        exact ⟨a, vs, v, rfl, rfl, ha, by rw [hr.length]; exact lt_size hz, h1 W1 σ _ (r1.wrOwn hs e0 (hr.append (.one hv)))⟩
      · exact h1.elim
    · exact h1.elim
  · exact h.elim
theorem s_pop {i : Nat} {x : Str} {p1 ap cp : Pos} (hv : PE X (.Name x p1) (tVar i)) (hl : (ap.endLine == cp.line) = true) :
    PS X (.Expr (.Call (.Attribute (.Name x p1) "pop" ap) [] [] cp) pos) (tS C E Wx (fun s => match s.sl[i]? with
      | some (.own xs) => if xs = [] then .stuck else .next { s with sl := s.sl.set i (.own xs.dropLast) }
      | _ => .stuck)) := by
  refine PS.imp (ps_expr (pe_bm0 PySem.F.plainAttrs_list PySem.F.slot_list_pop PySem.F.type_list_pop mt_pop hv (by rfl) hl) (by rfl)) fun Dn σ H ⟨W, s, r, h⟩ => ?_
  simp only [] at h
  split at h
  · rename_i xs hs
    split at h
    · exact h.elim
    · rename_i hne
      obtain ⟨a, vs, e0, ha, hr⟩ := r.sl i _ hs
      have hl : 0 < vs.length := by
        rw [hr.length]
        exact List.length_pos_iff.mpr hne
      refine ⟨_, e0, Or.inl ⟨rfl, _, Or.inl (Or.inl ha)⟩, a, vs, vs[vs.length - 1], rfl, rfl, ha, List.getElem?_eq_getElem (by omega), h W σ _ (r.wrOwn hs e0 hr.dropLast)⟩
  · exact h.elim

/-! ### for -/
theorem gNames_mono {Q Q' : L2.St → Hp → Prop} : ∀ (is : List Nat) (vs : List V) (σ : L2.St) (H : Hp), (∀ σ' H', Q σ' H' → Q' σ' H') → gNames is vs σ H Q → gNames is vs σ H Q'
  | [], vs, σ, H, f, h => ⟨h.1, f _ _ h.2⟩
  | i :: is, vs, σ, H, f, h => by
    obtain ⟨v, r, e, q⟩ := h
    exact ⟨v, r, e, gNames_mono is r _ H f q⟩
theorem gT_mono {K : PySem.W.Frag} {tg : Tg} {x : V} {σ : L2.St} {H : Hp} {Q Q' : L2.St → Hp → Prop} (f : ∀ σ' H', Q σ' H' → Q' σ' H') (h : gT K tg x σ H Q) : gT K tg x σ H Q' := by
  cases tg with
  | nm j => exact f _ _ h
  | tp is =>
    obtain ⟨a, xs, e1, e2, e3, e4⟩ := h
    exact ⟨a, xs, e1, e2, e3, gNames_mono is xs σ H f e4⟩
theorem for_core {σ : L2.St} {W1 : Wd} {H1 : Hp} {s1 : S} {E' : En} {tg : Tg} {Dn : Ends} {ds : List D} {o : Option (Addr × List V)} {J : It} (lk : Option (Nat × List D)) (tb : TS) (htb : tb = tS C E' Wx n1)
    (hlo : E'.lo = W1) (r1 : StR C E' W1 σ H1 s1) (itr : ItR C W1 o J ds) (hsrc : ∀ W σ H s, StR C E' W σ H s → SrcAt o H) (back : ∀ W σ H s, StR C E' W σ H s → StR C E W σ H (unlock lk s)) (back0 : ∀ W σ H s, StR C E' W σ H s → StR C E W σ H s)
    (h : SC C E Wx Dn ((forL (fun x s => match bindTg tg x s.sl with | some sl => n1 { s with sl := sl } | none => .stuck) ds s1).unlk lk)) :
    ∃ W : Nat → Nat → L2.St → Hp → Prop, (∃ m, W 0 m σ H1) ∧ ∀ i m σ H, W i m σ H → (J.stop i H ∧ Dn.nx σ H) ∨ (J.go i H ∧ ∃ N : L2.St → Hp → Prop, (∀ σ' H', N σ' H' → ∃ m', m' < m ∧ W (i + 1) m' σ' H') ∧ ∀ x H', J.yld i H x H' → gT C.K tg x σ H' fun σ2 H2 => tb { Dn with nx := N, ct := N, bk := Dn.nx } σ2 H2) := by
  subst htb
  refine ⟨fun i m σ H => i ≤ ds.length ∧ m = ds.length - i ∧ ∃ W s, StR C E' W σ H s ∧ SC C E Wx Dn ((forL (fun x s => match bindTg tg x s.sl with | some sl => n1 { s with sl := sl } | none => .stuck) (ds.drop i) s).unlk lk), ⟨ds.length, Nat.zero_le _, rfl, W1, s1, r1, h⟩, ?_⟩
  rintro i m σ H ⟨hi, rfl, W, s, r, h⟩
  have g1 : Same W1.G H := fun b u hb => by
    have l := r.lo
    rw [hlo] at l
    exact r.gh b u (l.g b u hb)
  by_cases hlt : i < ds.length
  · have hd : ds[i]? = some ds[i] := List.getElem?_eq_getElem hlt
    obtain ⟨go, yl⟩ := itr.go i ds[i] H hd g1 (hsrc W σ H s r)
    refine .inr ⟨go, fun σ H => ∃ m', m' < ds.length - i ∧ (i + 1 ≤ ds.length ∧ m' = ds.length - (i + 1) ∧ ∃ W s, StR C E' W σ H s ∧ SC C E Wx Dn ((forL (fun x s => match bindTg tg x s.sl with | some sl => n1 { s with sl := sl } | none => .stuck) (ds.drop (i + 1)) s).unlk lk)), fun _ _ z => z, fun x H' y => ?_⟩
    obtain ⟨rfl, hx⟩ := yl x H' y
    have l := r.lo
    rw [hlo] at l
    rw [List.drop_eq_getElem_cons hlt] at h
    simp only [forL] at h
    cases hb : bindTg tg ds[i] s.sl with
    | none => rw [hb] at h; exact h.elim
    | some sl =>
      rw [hb] at h
      simp only [] at h
      refine tg_go r (hx.mono l) hb fun σ' _ r2 => ⟨W, { s with sl := sl }, r2, ?_⟩
      cases q : n1 { s with sl := sl } with
      | next s2 => rw [q] at h; exact fun W3 σ3 H3 r3 => ⟨ds.length - (i + 1), by omega, hlt, rfl, W3, s2, r3, h⟩
      | cnt s2 => rw [q] at h; exact fun W3 σ3 H3 r3 => ⟨ds.length - (i + 1), by omega, hlt, rfl, W3, s2, r3, h⟩
      | brk s2 => rw [q] at h; exact fun W3 σ3 H3 r3 => h W3 σ3 H3 (back _ _ _ _ r3)
      | ret d s2 => rw [q] at h; exact fun W3 σ3 H3 v r3 hv => h W3 σ3 H3 v (back0 _ _ _ _ r3) hv
      | exc e s2 => rw [q] at h; exact fun W3 σ3 H3 cls dx r3 hx => h W3 σ3 H3 cls dx (back0 _ _ _ _ r3) hx
      | stuck => rw [q] at h; exact h.elim
  · have e : i = ds.length := by omega
    subst e
    rw [List.drop_eq_nil_of_le (Nat.le_refl _)] at h
    exact .inl ⟨itr.stop H g1 (hsrc W σ H s r), h W σ H (back _ _ _ _ r)⟩
/-- the world kept in mind from here on -/
def En.from (E : En) (W : Wd) : En := { E with lo := W }
theorem StR.from {σ : L2.St} {W : Wd} {H : Hp} {s : S} (r : StR C E W σ H s) : StR C (E.from W) W σ H s := ⟨r.kp, r.fr, r.gh, r.rg, r.len, r.sl, r.nd, r.ow, r.pr, Le.refl W⟩
theorem StR.unfrom {σ : L2.St} {W W' : Wd} {H : Hp} {s : S} (l : Le E.lo W') (r : StR C (E.from W') W σ H s) : StR C E W σ H s := ⟨r.kp, r.fr, r.gh, r.rg, r.len, r.sl, r.nd, r.ow, r.pr, l.trans r.lo⟩
theorem s_for {tg : Tg} {t iter : Expr} {mi : S → RE (List D)} (hp : PassesOwn (model X.prog X.w) X.A X.env X.xe) (hc : X.calm = true) (hi : PI X t iter (tI C E Wx true mi)) (hg : PG X t (gT C.K tg)) (hb : ∀ E' : En, EnOk E E' → PSs X sts (tS C E' Wx n1)) (hs : ∀ x, foldedSetIterable iter X.env x = pure x) :
    PS X (.For t iter sts [] pos) (tS C E Wx (fun s => (mi s).stm fun xs s' => (forL (fun x s => match bindTg tg x s.sl with | some sl => n1 { s with sl := sl } | none => .stuck) xs s').unlk none)) := by
  -- the body's reading, for every world that may be kept in mind
  have key : PS X (.For t iter sts [] pos) (tFor (tI C E Wx true mi) (gT C.K tg) (fun Dn σ H => ∃ W', tS C (E.from W') Wx n1 Dn σ H)) :=
    ps_for hp hc hi hg ⟨fun pins s σ H Dn I ⟨W', q⟩ => (hb (E.from W') ⟨rfl, rfl, rfl⟩).run pins s σ H Dn I q⟩ hs
  refine PS.imp key fun Dn σ H ⟨W, s, r, h⟩ => ?_
  refine ⟨W, s, r, h.stm.mono fun ds W1 H1 s1 r1 k1 h1 o J src hsrc itr => ?_⟩
  have ho : o = none := by
    cases o with
    | none => rfl
    | some av => exact absurd (hsrc av.1 av.2 rfl).1 (by decide)
  subst ho
  obtain ⟨Wf, hW0, hstep⟩ := for_core (E := E) (E' := E.from W1) none (tS C (E.from W1) Wx n1) rfl rfl r1.from itr (fun _ _ _ _ _ => trivial) (fun _ _ _ _ r => r.unfrom r1.lo) (fun _ _ _ _ r => r.unfrom r1.lo) h1
  refine ⟨Wf, hW0, fun i m σ H q => ?_⟩
  rcases hstep i m σ H q with z | ⟨z1, N, z2, z3⟩
  · exact .inl z
  · refine .inr ⟨z1, N, z2, fun x H' y => ?_⟩
    exact gT_mono (fun σ' H'' q => ⟨W1, q⟩) (z3 x H' y)
/-- a list of ours is locked while it is walked -/
def En.lock (E : En) (W : Wd) (p : Nat × Addr × List V) : En := { E with lo := W, pr := p :: E.pr }
theorem StR.lock {σ : L2.St} {W : Wd} {H : Hp} {s : S} {i : Nat} {xs : List D} {a : Addr} {vs : List V} (r : StR C E W σ H s) (h : s.sl[i]? = some (.own xs)) (e : σ[i]? = some (some (.ref a))) (ha : H a = some (.lst vs)) (hr : Reps C W vs xs) : StR C (E.lock W (i, a, vs)) W σ H { s with sl := s.sl.set i (.lck xs) } := by
  have hi : i < s.sl.length := (List.getElem?_eq_some_iff.mp h).1
  have own1 : ∀ j, OwnAt { s with sl := s.sl.set i (.lck xs) } j → OwnAt s j := fun j ⟨y, hj, hy⟩ => by
    rcases get_set hj with ⟨h1, _, _⟩ | ⟨h1, h2⟩
    · rw [h1]; exact ⟨_, h, rfl⟩
    · exact ⟨y, h2, hy⟩
  refine ⟨r.kp, r.fr, r.gh, r.rg, ?_, fun j x hj => ?_, fun j1 j2 b o1 o2 => r.nd j1 j2 b (own1 j1 o1) (own1 j2 o2), fun j b o => r.ow j b (own1 j o), fun p hp => ?_, Le.refl W⟩
  · show σ.length = (s.sl.set i _).length
    rw [List.length_set]; exact r.len
  · rcases get_set hj with ⟨rfl, rfl, _⟩ | ⟨_, h2⟩
    · exact ⟨a, vs, e, ha, hr⟩
    · have q := r.sl j x h2
      cases x <;> exact q
  · have hp : p ∈ (i, a, vs) :: E.pr := hp
    rcases List.mem_cons.mp hp with rfl | hp
    · exact ⟨xs, by show (s.sl.set i _)[i]? = _; rw [List.getElem?_set_self hi], e, ha⟩
    · obtain ⟨ys, b1, b2, b3⟩ := r.pr p hp
      have hpi : i ≠ p.1 := fun z => by rw [z, b1] at h; cases h
      exact ⟨ys, by show (s.sl.set i _)[p.1]? = _; rw [List.getElem?_set_ne hpi]; exact b1, b2, b3⟩
theorem StR.unlock0 {σ : L2.St} {W W' : Wd} {H : Hp} {s : S} {p : Nat × Addr × List V} (l : Le E.lo W') (r : StR C (E.lock W' p) W σ H s) : StR C E W σ H s := ⟨r.kp, r.fr, r.gh, r.rg, r.len, fun i x h => by
    have q := r.sl i x h
    cases x <;> exact q, r.nd, r.ow, fun q hq => r.pr q (List.mem_cons_of_mem _ hq), l.trans r.lo⟩
theorem StR.unlock {σ : L2.St} {W W' : Wd} {H : Hp} {s : S} {i : Nat} {xs : List D} {a : Addr} {vs : List V} (l : Le E.lo W') (hne : ∀ p ∈ E.pr, p.1 ≠ i) (W0 : Wd) (h0 : Reps C W' vs xs) (r : StR C (E.lock W' (i, a, vs)) W σ H s) : StR C E W σ H (Vi.unlock (some (i, xs)) s) := by
  have r0 := r.unlock0 l
  unfold Vi.unlock
  obtain ⟨ys, b1, b2, b3⟩ := r.pr (i, a, vs) List.mem_cons_self
  replace b1 : s.sl[i]? = some (.lck ys) := b1
  replace b2 : σ[i]? = some (some (.ref a)) := b2
  simp only [b1]
  have hi : i < s.sl.length := (List.getElem?_eq_some_iff.mp b1).1
  have own1 : ∀ j, OwnAt { s with sl := s.sl.set i (.own xs) } j → OwnAt s j := fun j ⟨y, hj, hy⟩ => by
    rcases get_set hj with ⟨h1, _, _⟩ | ⟨h1, h2⟩
    · rw [h1]; exact ⟨_, b1, rfl⟩
    · exact ⟨y, h2, hy⟩
  refine ⟨r0.kp, r0.fr, r0.gh, r0.rg, ?_, fun j x hj => ?_, fun j1 j2 b o1 o2 => r0.nd j1 j2 b (own1 j1 o1) (own1 j2 o2), fun j b o => r0.ow j b (own1 j o), fun p hp => ?_, r0.lo⟩
  · show σ.length = (s.sl.set i _).length
    rw [List.length_set]; exact r0.len
  · rcases get_set hj with ⟨rfl, rfl, _⟩ | ⟨_, h2⟩
    · exact ⟨a, vs, b2, b3, h0.mono r.lo⟩
    · have q := r0.sl j x h2
      cases x <;> exact q
  · obtain ⟨zs, c1, c2, c3⟩ := r0.pr p hp
    have hpi : i ≠ p.1 := fun z => hne p hp z.symm
    exact ⟨zs, by show (s.sl.set i _)[p.1]? = _; rw [List.getElem?_set_ne hpi]; exact c1, c2, c3⟩
/-- for x in a name whose list may be an owned one -/
theorem s_forPk {tg : Tg} {t : Expr} {i : Nat} {x : Str} {p1 : Pos} (hp : PassesOwn (model X.prog X.w) X.A X.env X.xe) (hc : X.calm = true) (hv : PE X (.Name x p1) (tVar i)) (hg : PG X t (gT C.K tg)) (hb : ∀ E' : En, EnOk E E' → PSs X sts (tS C E' Wx n1)) (hK : X.K = C.K) :
    PS X (.For t (.Name x p1) sts [] pos) (tS C E Wx (fun s => (RE.bind (pkS i s) fun x s => .opt (itemsD x s.rg) s).stm fun xs s' => if isLck (.seq (.pk i)) s' then .stuck else
      (forL (fun x s => match bindTg tg x s.sl with | some sl => n1 { s with sl := sl } | none => .stuck) xs (lockS (lockOf (.seq (.pk i)) s') s')).unlk (lockOf (.seq (.pk i)) s'))) := by
  have key : PS X (.For t (.Name x p1) sts [] pos) (tFor (iSeq X.K (tVar i)) (gT C.K tg) (fun Dn σ H => ∃ E' : En, EnOk E E' ∧ tS C E' Wx n1 Dn σ H)) :=
    ps_for hp hc (pi_seq hv) hg ⟨fun pins s σ H Dn I ⟨E', hE, q⟩ => (hb E' hE).run pins s σ H Dn I q⟩ (fun _ => rfl)
  refine PS.imp key fun Dn σ H ⟨W, s, r, h⟩ => ?_
  simp only [] at h
  -- what the slot holds
  have run : ∀ {ds : List D} {o : Option (Addr × List V)} {J : It} (E' : En) (lk : Option (Nat × List D)) (s1 : S), EnOk E E' → E'.lo = W → StR C E' W σ H s1 → ItR C W o J ds → (∀ W σ H s, StR C E' W σ H s → SrcAt o H) → (∀ W σ H s, StR C E' W σ H s → StR C E W σ H (Vi.unlock lk s)) → (∀ W σ H s, StR C E' W σ H s → StR C E W σ H s) →
      SC C E Wx Dn ((forL (fun x s => match bindTg tg x s.sl with | some sl => n1 { s with sl := sl } | none => .stuck) ds s1).unlk lk) → ∃ Wv : Nat → Nat → L2.St → Hp → Prop, (∃ m, Wv 0 m σ H) ∧ ∀ i m σ H, Wv i m σ H → (J.stop i H ∧ Dn.nx σ H) ∨ (J.go i H ∧ ∃ N : L2.St → Hp → Prop, (∀ σ' H', N σ' H' → ∃ m', m' < m ∧ Wv (i + 1) m' σ' H') ∧ ∀ x H', J.yld i H x H' → gT C.K tg x σ H' fun σ2 H2 => ∃ E' : En, EnOk E E' ∧ tS C E' Wx n1 { Dn with nx := N, ct := N, bk := Dn.nx } σ2 H2) :=
    fun {ds o J} E' lk s1 hx hlo r1 itr hsrc back back0 h1 => by
      obtain ⟨Wf, hW0, hstep⟩ := for_core (E := E) (E' := E') lk (tS C E' Wx n1) rfl hlo r1 itr hsrc back back0 h1
      refine ⟨Wf, hW0, fun i m σ H q => ?_⟩
      rcases hstep i m σ H q with z | ⟨z1, N, z2, z3⟩
      · exact .inl z
      · exact .inr ⟨z1, N, z2, fun x H' y => gT_mono (fun σ' H'' q => ⟨E', hx, q⟩) (z3 x H' y)⟩
  rw [hK]
  have stk : ∀ {f : List D → S → RS}, SC C E Wx Dn (RE.stm (RE.bind RE.stuck fun (x : D) (s : S) => RE.opt (itemsD x s.rg) s) f) → False := fun h => h
  cases q : s.sl[i]? with
  | none =>
    have e1 : pkS i s = .stuck := by unfold pkS; rw [q]
    rw [e1] at h; exact (stk h).elim
  | some sl =>
    cases sl with
    | uns =>
      have e1 : pkS i s = .stuck := by unfold pkS; rw [q]
      rw [e1] at h; exact (stk h).elim
    | exv e =>
      have e1 : pkS i s = .stuck := by unfold pkS; rw [q]
      rw [e1] at h; exact (stk h).elim
    | lck xs =>
      have e1 : pkS i s = .ok (.lst xs) s := by unfold pkS; rw [q]
      rw [e1] at h
      replace h : SC C E Wx Dn (if isLck (.seq (.pk i)) s = true then .stuck else _) := h
      rw [if_pos (show isLck (.seq (.pk i)) s = true by unfold isLck nlck; simp only [q]; rfl)] at h
      exact h.elim
    | own xs =>
      have e1 : pkS i s = .ok (.lst xs) s := by unfold pkS; rw [q]
      rw [e1] at h
      replace h : SC C E Wx Dn (if isLck (.seq (.pk i)) s = true then .stuck else _) := h
      rw [if_neg (show ¬ isLck (.seq (.pk i)) s = true by unfold isLck nlck; simp only [q]; decide)] at h
      have hlk : lockOf (.seq (.pk i)) s = some (i, xs) := by unfold lockOf; simp only [q]
      rw [hlk] at h
      obtain ⟨a, vs, e, ha, hr⟩ := r.sl i _ q
      refine ⟨_, e, .inl ⟨a, rfl, ⟨vs, SqL.of ha⟩, ?_⟩⟩
      refine run (E.lock W (i, a, vs)) (some (i, xs)) _ ⟨rfl, rfl, rfl⟩ rfl (r.lock q e ha hr) (itr_own hr) (fun W σ H s r => ?_) (fun W' σ H s r' => ?_) (fun W' σ H s r' => r'.unlock0 r.lo) h
      · obtain ⟨_, _, _, b⟩ := r.pr (i, a, vs) List.mem_cons_self
        exact b
      · refine r'.unlock r.lo (fun p hp z => ?_) W hr
        obtain ⟨ys, b1, _⟩ := r.pr p hp
        rw [z, q] at b1; cases b1
    | val d =>
      have e1 : pkS i s = .ok d s := by unfold pkS; rw [q]
      rw [e1] at h
      obtain ⟨v, e, hv⟩ := r.sl i _ q
      have hnl : ¬ isLck (.seq (.pk i)) s = true := by unfold isLck nlck; simp only [q]; decide
      have hlk : lockOf (.seq (.pk i)) s = none := by unfold lockOf; simp only [q]
      cases d with
      | lst xs =>
        replace h : SC C E Wx Dn (if isLck (.seq (.pk i)) s = true then .stuck else _) := h
        rw [if_neg hnl, hlk] at h
        cases hv with
        | @lst a vs _ hg hr => exact ⟨_, e, .inl ⟨a, rfl, ⟨vs, SqL.of (r.gh _ _ hg)⟩, run (E.from W) none s ⟨rfl, rfl, rfl⟩ rfl r.from (itr_list (fun H' g => SqL.of (g _ _ hg)) hr) (fun _ _ _ _ _ => trivial) (fun _ _ _ _ r' => r'.unfrom r.lo) (fun _ _ _ _ r' => r'.unfrom r.lo) h⟩⟩
      | tup xs =>
        replace h : SC C E Wx Dn (if isLck (.seq (.pk i)) s = true then .stuck else _) := h
        rw [if_neg hnl, hlk] at h
        cases hv with
        | @tup a vs _ hg hr => exact ⟨_, e, .inr (.inl ⟨a, rfl, ⟨vs, sqT_same r.gh hg⟩, run (E.from W) none s ⟨rfl, rfl, rfl⟩ rfl r.from (itr_tup (fun H' g => sqT_same g hg) hr) (fun _ _ _ _ _ => trivial) (fun _ _ _ _ r' => r'.unfrom r.lo) (fun _ _ _ _ r' => r'.unfrom r.lo) h⟩)⟩
      | str z =>
        replace h : SC C E Wx Dn (if isLck (.seq (.pk i)) s = true then .stuck else _) := h
        rw [if_neg hnl, hlk] at h
        cases hv
        exact ⟨_, e, .inr (.inr ⟨z, rfl, run (E.from W) none s ⟨rfl, rfl, rfl⟩ rfl r.from itr_str (fun _ _ _ _ _ => trivial) (fun _ _ _ _ r' => r'.unfrom r.lo) (fun _ _ _ _ r' => r'.unfrom r.lo) h⟩)⟩
      | non => exact h.elim
      | bl _ => exact h.elim
      | int _ => exact h.elim
      | scr _ => exact h.elim
      | tok => exact h.elim
      | cel => exact h.elim
      | fn _ => exact h.elim
end
end Vi

/-! V14R: xs.remove(x) where items are data of any depth. -/
namespace Vi
open PySem PySem.Spec PyProof.Rows L2
open AutoSeq1 (wpAny_loadPart')
open MeetsSeq MeetsSeq2 MeetsSeq3 SeqRoads2 SeqAt
theorem rem_loop (l : Addr) (items : Array Value) (n : Nat) (x : Value) (e : Value → Bool) (j : Nat) (hj : j < items.size) (hit : e items[j] = true) (hs1 : items.size ≤ sizeLine) (k : Nat) :
    ∀ i : Nat, j - i = k → i ≤ j → (∀ m (hm : m < items.size), i ≤ m → m < j → e items[m] = false) → Meets (Builtin.«list.remove.loop» ⟨[.ref l, x, rawInt i], []⟩)
      (fun A R s => s.heap.get? l = some { cls := .type "list", dict := none, data := .seq items n, slots := #[] } ∧ (∀ y, y ∈ items → EqAt A.in1 s y x (e y)) ∧ R (.ok (.ret .none)) { s with heap := s.heap.update l (Obj.mapSeq fun xs => xs.eraseIdxIfInBounds j) }) := by
  induction k with
  | zero =>
    intro i hk hij hno prog w A R s h
    obtain ⟨hp, g, d, tk, os⟩ := s; obtain ⟨hl, he, h⟩ := h
    have hij' : i = j := by omega
    subst hij'
    wp_walk using wpAny_loadPart' hl
    have hi : items[((i : Nat) : Int).toNat]? = some items[i] := by simp [hj]
    rw [hi]
    refine wpAny_bind (he _ (Array.getElem_mem hj) prog w _ _ ?_)
    rw [hit]
    have hz : (items.eraseIdxIfInBounds i).size ≤ sizeLine + 1 := Nat.le_trans (size_erased items _) (Nat.le_succ_of_le hs1)
    wp_walk using (wpAny_updateSeq hl rfl (hz := hs1) (_hz' := hz)), wpAny_loadPart' hl
    simpa using h
  | succ k ih =>
    intro i hk hij hno prog w A R s h
    obtain ⟨hp, g, d, tk, os⟩ := s; obtain ⟨hl, he, h⟩ := h
    have hlt : i < items.size := by omega
    wp_walk using wpAny_loadPart' hl
    have hi : items[((i : Nat) : Int).toNat]? = some items[i] := by simp [hlt]
    have hc : ((i : Int) + 1) = ((i + 1 : Nat) : Int) := by push_cast; rfl
    rw [hi]
    refine wpAny_bind (he _ (Array.getElem_mem hlt) prog w _ _ ?_)
    rw [hno i hlt (Nat.le_refl _) (by omega)]
    wp_walk
    rw [hc]
    exact ⟨plainId_quiet plain_remove_loop _, codeAny_builtin entry_remove_loop (by
      rw [Around.under_plainId plain_remove_loop _]
      exact ih (i + 1) (by omega) (by omega) (fun m hm h1 h2 => hno m hm (by omega) h2) prog w A R _ ⟨hl, he, h⟩)⟩
theorem rem_at (l : Addr) (items : Array Value) (n : Nat) (x : Value) (e : Value → Bool) (j : Nat) (hj : j < items.size)
    (hit : e items[j] = true) (hno : ∀ m (hm : m < items.size), m < j → e items[m] = false) (hs1 : items.size ≤ sizeLine) :
    Meets (Builtin.«list.remove» ⟨[.ref l, x], []⟩)
      (fun A R s => s.heap.get? l = some { cls := .type "list", dict := none, data := .seq items n, slots := #[] } ∧ (∀ y, y ∈ items → EqAt A.in1 s y x (e y)) ∧ R (.ok (.ret .none)) { s with heap := s.heap.update l (Obj.mapSeq fun xs => xs.eraseIdxIfInBounds j) }) := by
  intro prog w A R s h
  obtain ⟨hp, g, d, tk, os⟩ := s; obtain ⟨hl, he, h⟩ := h
  wp_walk using wpAny_loadPart' hl
  exact ⟨plainId_quiet plain_remove_loop _, codeAny_builtin entry_remove_loop (by
    rw [Around.under_plainId plain_remove_loop _]
    exact rem_loop l items n x e j hj hit hs1 _ 0 rfl (Nat.zero_le _) (fun m hm _ h2 => hno m hm h2) prog w A R _ ⟨hl, he, h⟩)⟩
section
variable {X : Cx}
/-- l.remove(x): the first equal one goes -/
def rRemD (K : PySem.W.Frag) : V → List V → Hp → VK → Prop := fun x xs H Q => ∃ (a : Addr) (y : V) (vs : List V) (d : PyData) (ds : List PyData) (j : Nat) (z : PyData), x = V.ref a ∧ xs = [y] ∧ H a = some (.lst vs) ∧ DpAll K H vs ds ∧ Dp K H y d ∧
  SeqAt.shaped (.list ds) = true ∧ SeqAt.shaped d = true ∧ ds[j]? = some z ∧ PyData.eqv z d = true ∧ (∀ (m : Nat) (z' : PyData), m < j → ds[m]? = some z' → PyData.eqv z' d = false) ∧ Q .non (upd H a (.lst (vs.eraseIdx j)))
theorem mt_remD (hu : X.A.units + 65 < cLine) : MtM X "list.remove" (rRemD X.K) := by
  intro pins s σ H x xs v us Q I rx rxs h
  obtain ⟨a, y, vs, d, ds, j, z, rfl, rfl, hH, ha, hy, sl, sd, hz, hzj, hno, q⟩ := h
  cases rx
  cases rxs with
  | cons ry rt =>
    rename_i uy ut
    cases rt
    obtain ⟨bs, r1⟩ := Dp.reads I d y uy hy ry
    have hxs : PyData.canLayAll0 ds = true := SeqAt.canLay_of_shaped sl
    have hroom : X.A.units + 1 + min (PyData.depthAll ds) d.depth < cLine := room_in_shaped sd hu
    obtain ⟨zz, its, n, rv, hl, ho⟩ := I.lstM hH
    obtain ⟨as, h4⟩ := Dp.readsAll I ds _ its ha rv
    have hn : its.length = ds.length := SeqAt.ReadsAll.length ds its as h4
    have hmap : its.map (SeqAt.readOf s.heap) = ds := SeqAt.readsAll_map ds its as hxs h4
    obtain ⟨hjd, _⟩ := List.getElem?_eq_some_iff.mp hz
    have hjl : j < its.length := by omega
    have hj : j < its.toArray.size := by simpa using hjl
    have at_ : ∀ (m : Nat) (hm : m < its.toArray.size) (z' : PyData), ds[m]? = some z' → SeqAt.readOf s.heap its.toArray[m] = z' := by
      intro m hm z' hz'
      have hml : m < its.length := by simpa using hm
      rw [← hmap, List.getElem?_map, List.getElem?_eq_getElem hml] at hz'
      have e1 : SeqAt.readOf s.heap its[m] = z' := Option.some.inj (show some (SeqAt.readOf s.heap its[m]) = some z' from hz')
      simpa using e1
    refine call_meets PySem.F.slot_list_remove ⟨_, ho, rfl⟩ PySem.F.entry_list_remove (PySem.F.args_list_remove_2 _ _)
      (rem_at a its.toArray n uy (fun u => PyData.eqv (SeqAt.readOf s.heap u) d) j hj ?_ ?_ (by rw [List.size_toArray]; omega)) ⟨ho, SeqAt.items_eqAt (vs := its.toArray) (show ReadsAll s.heap its.toArray.toList ds as from h4) r1 hxs (SeqAt.canLay_of_shaped sd) hroom, ?_⟩
    · show PyData.eqv (SeqAt.readOf s.heap its.toArray[j]) d = true
      rw [at_ j hj z hz]
      exact hzj
    · intro m hm hmj
      have hmd : m < ds.length := by rw [List.size_toArray] at hm; omega
      have hz' : ds[m]? = some ds[m] := List.getElem?_eq_getElem hmd
      show PyData.eqv (SeqAt.readOf s.heap its.toArray[m]) d = false
      rw [at_ m hm _ hz']
      exact hno m _ hmj hz'
    · refine ⟨.non, _, I.lset (its' := its.eraseIdx j) (t' := s.toks) hH ho ?_ (rv.eraseIdx j) ?_, rfl, q⟩
      · show its.toArray.eraseIdxIfInBounds j = (its.eraseIdx j).toArray
        rw [List.eraseIdxIfInBounds_toArray]
      · have := List.length_eraseIdx_le vs j
        omega
end
section
variable {C : Ct} {E : En} {Wx : WX} {X : Cx} {e : Expr} {pos : Pos}
theorem Reps.eraseIdx {C : Ct} {W : Wd} : ∀ {vs : List V} {ds : List D} (j : Nat), Reps C W vs ds → Reps C W (vs.eraseIdx j) (ds.eraseIdx j)
  | _, _, _, .nil => by simpa using Reps.nil
  | _, _, 0, .cons _ b => b
  | _, _, j + 1, .cons a b => .cons a (Reps.eraseIdx j b)
theorem s_rem {i : Nat} {x : Str} {p1 ap cp : Pos} {me : S → RE D} (hu : X.A.units + 65 < cLine) (hK : X.K = C.K) (hv : PE X (.Name x p1) (tVar i)) (he : PE X e (tE C E Wx me .st)) (hst : noStar e = true) (hl : (ap.endLine == cp.line) = true) :
    PS X (.Expr (.Call (.Attribute (.Name x p1) "remove" ap) [e] [] cp) pos) (tS C E Wx (fun s => match s.sl[i]? with
      | some (.own _) => (me s).stm fun d s => match s.sl[i]? with
        | some (.own xs) => match remD xs d with
          | some ys => .next { s with sl := s.sl.set i (.own ys) }
          | none => .stuck
        | _ => .stuck
      | _ => .stuck)) := by
  have hstar : ∀ env, starEach [e] env = [(false, eval e env)] := fun env => by rw [star_of hst]; rfl
  refine PS.imp (ps_expr (pe_bm PySem.F.plainAttrs_list PySem.F.slot_list_remove PySem.F.type_list_remove (mt_remD hu) hv (pa_cons he pa_nil (hstar _)) (by rfl) (by rw [hstar]; rfl) hl (hstar _) (by rfl)) (by rfl)) fun Dn σ H ⟨W, s, r, h⟩ => ?_
  simp only [] at h
  split at h
  · rename_i xs0 hs0
    obtain ⟨a, vs0, e0, ha0, _⟩ := r.sl i _ hs0
    refine ⟨_, e0, Or.inl ⟨rfl, _, Or.inl (Or.inl ha0)⟩, W, s, r, h.stm.mono fun d W1 H1 s1 r1 k1 h1 v hv => ?_⟩
    split at h1
    · rename_i xs hs
      split at h1
      · rename_i ys hys
        obtain ⟨a', vs, e1, ha, hr⟩ := r1.sl i _ hs
        rw [e0] at e1
        injection e1 with e1
        injection e1 with e1
        injection e1 with e1
        subst e1
        unfold remD at hys
        split at hys
        · rename_i pd pds hd hds
          split at hys
          · rename_i hsh
            simp only [Bool.and_eq_true] at hsh
            split at hys
            · rename_i j hj
              injection hys with hys
              subst hys
              obtain ⟨j1, j2, j3⟩ := List.findIdx?_eq_some_iff_getElem.mp hj
              refine ⟨a, v, vs, pd, pds, j, pds[j], rfl, rfl, ha, ?_, ?_, hsh.2, hsh.1, List.getElem?_eq_getElem j1, j2, fun m z hm hz => ?_, h1 W1 σ _ (r1.wrOwn hs e0 (hr.eraseIdx j))⟩
              · rw [hK]; exact dps_same r1.gh (Reps.dp hr hds)
              · rw [hK]; exact dp_same r1.gh (Rep.dp hv hd)
              · obtain ⟨hml, rfl⟩ := List.getElem?_eq_some_iff.mp hz
                have := j3 m hm
                simpa using this
            · cases hys
          · cases hys
        · cases hys
      · exact h1.elim
    · exact h1.elim
  · exact h.elim
theorem s_ins {i : Nat} {x : Str} {p1 ap cp : Pos} {e2 : Expr} {ma mb : S → RE D} (hv : PE X (.Name x p1) (tVar i)) (ha : PE X e (tE C E Wx ma .st)) (hb : PE X e2 (tE C E Wx mb .st)) (h1 : noStar e = true) (h2 : noStar e2 = true) (hl : (ap.endLine == cp.line) = true) :
    PS X (.Expr (.Call (.Attribute (.Name x p1) "insert" ap) [e, e2] [] cp) pos) (tS C E Wx (fun s => match s.sl[i]? with
      | some (.own _) => (ma s).stm fun k s => (mb s).stm fun d s => match s.sl[i]? with
        | some (.own xs) => match insD xs k d with
          | some ys => .next { s with sl := s.sl.set i (.own ys) }
          | none => .stuck
        | _ => .stuck
      | _ => .stuck)) := by
  have s2 : ∀ env, starEach [e2] env = [(false, eval e2 env)] := fun env => by rw [star_of h2]; rfl
  have s1 : ∀ env, starEach [e, e2] env = [(false, eval e env), (false, eval e2 env)] := fun env => by rw [star_of h1, s2]
  refine PS.imp (ps_expr (pe_bm PySem.F.plainAttrs_list PySem.F.slot_list_insert PySem.F.type_list_insert mt_insert hv (pa_cons ha (pa_cons hb pa_nil (s2 _)) (by rw [s1, s2])) (by rfl) (by rw [s1]; rfl) hl (by rw [s1, s2]) (by rw [s2]; rfl)) (by rfl)) fun Dn σ H ⟨W, s, r, h⟩ => ?_
  simp only [] at h
  split at h
  · rename_i xs0 hs0
    obtain ⟨a, vs0, e0, ha0, _⟩ := r.sl i _ hs0
    refine ⟨_, e0, Or.inl ⟨rfl, _, Or.inl (Or.inl ha0)⟩, W, s, r, h.stm.mono fun k W1 H1 s1 r1 k1 h1 v hv => ⟨W1, s1, r1, h1.stm.mono fun d W2 H2 s2 r2 k2 h2 u hu => ?_⟩⟩
    split at h2
    · rename_i xs hs
      split at h2
      · rename_i ys hys
        obtain ⟨a', vs, e1, ha, hr⟩ := r2.sl i _ hs
        rw [e0] at e1
        injection e1 with e1
        injection e1 with e1
        injection e1 with e1
        subst e1
        unfold insD at hys
        split at hys
        · rename_i kk
          split at hys
          · rename_i hc
            injection hys with hys
            subst hys
            obtain ⟨c0, c1, c2⟩ := hc
            have hv' : Rep C W1 v (.int kk) := hv
            cases hv'
            have hu' : Rep C W2 u d := hu
            refine ⟨a, vs, kk, u, rfl, rfl, ha, ?_, c0, by omega, ?_⟩
            · rw [hr.length, PySem.sizeLine_eq]; omega
            · exact h2 W2 σ _ (r2.wrOwn hs e0 (((hr.take kk.toNat).append (.cons hu' .nil)).append (hr.drop kk.toNat)))
          · cases hys
        · cases hys
      · exact h2.elim
    · exact h2.elim
  · exact h.elim
end
end Vi

/-! V15: names set side by side, a name set to a comprehension, raise, try. -/
namespace Vi
open PySem PySem.Spec PyProof.Rows L2
section
variable {C : Ct} {E : En} {Wx : WX} {σ : L2.St} {W W' W1 W2 Wc : Wd} {H H' H1 H2 H0 Hc : Hp} {s s' s1 s2 : S}
theorem slotOf_own {fr : Bool} {d : D} (h : (slotOf fr d).isO = true) : fr = true ∧ isL d = true := by
  cases fr with
  | false => cases d <;> cases h
  | true => cases d <;> first | exact ⟨rfl, rfl⟩ | cases h
theorem RepM.setM {fr : Bool} {i : Nat} {v u : V} {d y : D} {m : Md} (hu : RepM C E H0 W σ H s m u y) (hd : m = .fr → fr = true → isL d = true → isL y = true → u ≠ v) :
    RepM C E H0 W (σ.set i (some v)) H { s with sl := s.sl.set i (slotOf fr d) } m u y := by
  cases m with
  | st => exact hu
  | wk => exact hu
  | fr =>
    cases y with
    | lst ys =>
      obtain ⟨a, vs, rfl, ha, hr, g, e, n, h0, ne⟩ := (show FrL C E H0 W σ H s u ys from hu)
      refine ⟨a, vs, rfl, ha, hr, g, e, n, h0, fun j ⟨z, hj, hz⟩ q => ?_⟩
      rcases get_set hj with ⟨rfl, rfl, hl⟩ | ⟨h1, h2⟩
      · obtain ⟨f1, f2⟩ := slotOf_own hz
        rcases get_set q with ⟨_, e2, _⟩ | ⟨e1, _⟩
        · injection e2 with e2
          exact hd rfl f1 f2 rfl e2
        · exact e1 rfl
      · rw [List.getElem?_set_ne (Ne.symm h1)] at q
        exact ne j ⟨z, h2, hz⟩ q
    | _ => exact hu
def fm (fr : Bool) : Md := if fr then .fr else .st
theorem RepsM.setM {fr : Bool} {i : Nat} {v : V} {d : D} : ∀ {ms : List Md} {vs : List V} {ds : List D}, RepsM C E H0 W σ H s ms vs ds → (fr = true → isL d = true → ∀ (j : Nat) (u : V) (y : D), ms[j]? = some .fr → vs[j]? = some u → ds[j]? = some y → isL y = true → u ≠ v) →
    RepsM C E H0 W (σ.set i (some v)) H { s with sl := s.sl.set i (slotOf fr d) } ms vs ds
  | _, _, _, .nil, _ => .nil
  | _, _, _, .cons a b c, h => .cons (a.setM fun e1 e2 e3 e4 => h e2 e3 0 _ _ (by rw [e1]; rfl) rfl rfl e4) (RepsM.setM b fun e1 e2 j u y j1 j2 j3 j4 => h e1 e2 (j + 1) u y (by simpa using j1) (by simpa using j2) (by simpa using j3) j4) c
theorem nlck_setM {sl : List Slot} {i j : Nat} {fr : Bool} {d : D} (h : nlck sl j = true) : nlck (sl.set i (slotOf fr d)) j = true := by
  unfold nlck at h ⊢
  by_cases e : i = j
  · subst e
    by_cases hl : i < sl.length
    · rw [List.getElem?_set_self hl]
      cases fr <;> cases d <;> rfl
    · rw [List.getElem?_eq_none (by simpa using hl)]
  · rw [List.getElem?_set_ne e]; exact h
theorem par_go : ∀ (ts : List (Nat × Bool)) (vs : List V) (ds : List D) (σ : L2.St) (s : S), StR C E W σ H s → RepsM C E H0 W σ H s (ts.map fun p => fm p.2) vs ds → (ts.all fun p => nlck s.sl p.1) = true →
    StR C E W ((ts.zip vs).foldl (fun τ p => τ.set p.1.1 (some p.2)) σ) H { s with sl := (ts.zip ds).foldl (fun l p => l.set p.1.1 (slotOf p.1.2 p.2)) s.sl }
  | [], vs, ds, σ, s, r, h, hn => by
    cases h; exact r
  | (i, fr) :: ts, vs, ds, σ, s, r, h, hn => by
    cases h with
    | @cons _ _ v vs d ds a b c =>
      simp only [List.all_cons, Bool.and_eq_true] at hn
      have r1 := r.setM (fr := fr) hn.1 a
      refine par_go ts vs ds (σ.set i (some v)) { s with sl := s.sl.set i (slotOf fr d) } r1 (b.setM fun e1 e2 j u y j1 j2 j3 j4 => c (by rw [e1]; rfl) e2 j u y j1 j2 j3 j4) ?_
      rw [List.all_eq_true] at hn ⊢
      exact fun p hp => nlck_setM (hn.2 p hp)
theorem RepsM.len : ∀ {ms : List Md} {vs : List V} {ds : List D}, RepsM C E H0 W σ H s ms vs ds → vs.length = ms.length ∧ ds.length = ms.length
  | _, _, _, .nil => ⟨rfl, rfl⟩
  | _, _, _, .cons _ b _ => by
    obtain ⟨h1, h2⟩ := RepsM.len b
    exact ⟨by rw [List.length_cons, List.length_cons, h1], by rw [List.length_cons, List.length_cons, h2]⟩
end
section
variable {C : Ct} {E : En} {Wx : WX} {X : Cx} {e a b c : Expr} {es : List Expr} {pos p : Pos} {m ma mb mc : S → RE D} {mes : S → RE (List D)} {md : Md} {ms : List Md} {st : Stmt} {sts : List Stmt} {n1 n2 : S → RS}
theorem s_brk : PS X (.Break pos) (tS C E Wx (fun s => .brk s)) := PS.imp ps_break fun Dn σ H ⟨W, s, r, h⟩ => h W σ H r
theorem s_cnt : PS X (.Continue pos) (tS C E Wx (fun s => .cnt s)) := PS.imp ps_continue fun Dn σ H ⟨W, s, r, h⟩ => h W σ H r
theorem s_pas : PS X (.Pass pos) (tS C E Wx (fun s => .next s)) := PS.imp ps_pass fun Dn σ H ⟨W, s, r, h⟩ => h W σ H r
abbrev parS (ts : List (Nat × Bool)) (mes : S → RE (List D)) (s : S) : RS := (mes s).stm fun ds s => if ts.length = ds.length ∧ ts.all (fun p => nlck s.sl p.1) = true then .next { s with sl := (ts.zip ds).foldl (fun l p => l.set p.1.1 (slotOf p.1.2 p.2)) s.sl } else .stuck
theorem s_par2 {i j : Nat} {x y : Str} {f1 f2 : Bool} {px py pt : Pos} {kt k2 pt2} (hc : X.calm = true) (hN : X.N.Nodup) (hi : X.N[i]? = some x) (hj : X.N[j]? = some y) (hij : i ≠ j)
    (hx : X.env.scope.names.lookup x = some .local) (hy : X.env.scope.names.lookup y = some .local) (ha : PA X [a, b] (tA C E Wx mes [fm f1, fm f2]))
    (hw : swappedStores [.Tuple [.Name x px, .Name y py] kt pt] (.Tuple [a, b] k2 pt2) X.env = pure (some [x, y]))
    (hs : swapsWithSole [.Tuple [.Name x px, .Name y py] kt pt] (.Tuple [a, b] k2 pt2) pos.line X.env = pure false) :
    PS X (.Assign [.Tuple [.Name x px, .Name y py] kt pt] (.Tuple [a, b] k2 pt2) pos) (tS C E Wx (parS [(i, f1), (j, f2)] mes)) := by
  refine PS.imp (ps_par hc hN hi hj hij hx hy ha hw hs) fun Dn σ H h => tA_of h fun ds W1 H1 s1 vs r1 hv h1 => ?_
  split at h1
  · rename_i hh
    obtain ⟨l1, _⟩ := hv.len
    have r2 := par_go [(i, f1), (j, f2)] vs ds σ s1 r1 hv hh.2
    match vs, l1 with
    | [u, v], _ => exact ⟨u, v, rfl, h1 W1 _ H1 r2⟩
  · exact h1.elim
theorem s_par3 {i j l : Nat} {x y z : Str} {f1 f2 f3 : Bool} {px py pz pt : Pos} {kt k2 pt2} (hc : X.calm = true) (hN : X.N.Nodup) (hi : X.N[i]? = some x) (hj : X.N[j]? = some y) (hl : X.N[l]? = some z) (hij : i ≠ j) (hil : i ≠ l) (hjl : j ≠ l)
    (hx : X.env.scope.names.lookup x = some .local) (hy : X.env.scope.names.lookup y = some .local) (hz : X.env.scope.names.lookup z = some .local) (ha : PA X [a, b, c] (tA C E Wx mes [fm f1, fm f2, fm f3]))
    (hw : swappedStores [.Tuple [.Name x px, .Name y py, .Name z pz] kt pt] (.Tuple [a, b, c] k2 pt2) X.env = pure (some [x, y, z]))
    (hs : swapsWithSole [.Tuple [.Name x px, .Name y py, .Name z pz] kt pt] (.Tuple [a, b, c] k2 pt2) pos.line X.env = pure false) :
    PS X (.Assign [.Tuple [.Name x px, .Name y py, .Name z pz] kt pt] (.Tuple [a, b, c] k2 pt2) pos) (tS C E Wx (parS [(i, f1), (j, f2), (l, f3)] mes)) := by
  refine PS.imp (ps_par3 hc hN hi hj hl hij hil hjl hx hy hz ha hw hs) fun Dn σ H h => tA_of h fun ds W1 H1 s1 vs r1 hv h1 => ?_
  split at h1
  · rename_i hh
    obtain ⟨l1, _⟩ := hv.len
    have r2 := par_go [(i, f1), (j, f2), (l, f3)] vs ds σ s1 r1 hv hh.2
    match vs, l1 with
    | [u, v, w], _ => exact ⟨u, v, w, rfl, h1 W1 _ H1 r2⟩
  · exact h1.elim
theorem names_goM {C : Ct} {E : En} {W : Wd} {H H0 : Hp} : ∀ (ts : List (Nat × Bool)) (vs : List V) (ds : List D) (σ : L2.St) (s : S) (Q : L2.St → Hp → Prop), StR C E W σ H s → RepsM C E H0 W σ H s (ts.map fun p => fm p.2) vs ds → (ts.all fun p => nlck s.sl p.1) = true →
    (∀ σ', StR C E W σ' H { s with sl := (ts.zip ds).foldl (fun l p => l.set p.1.1 (slotOf p.1.2 p.2)) s.sl } → Q σ' H) → gNames (ts.map (·.1)) vs σ H Q
  | [], vs, ds, σ, s, Q, r, h, hn, q => by
    cases h; exact ⟨rfl, q σ r⟩
  | (i, fr) :: ts, vs, ds, σ, s, Q, r, h, hn, q => by
    cases h with
    | @cons _ _ v vs d ds a b c =>
      simp only [List.all_cons, Bool.and_eq_true] at hn
      refine ⟨v, vs, rfl, ?_⟩
      refine names_goM ts vs ds _ { s with sl := s.sl.set i (slotOf fr d) } Q (r.setM (fr := fr) hn.1 a) (b.setM fun e1 e2 j u y j1 j2 j3 j4 => c (by rw [e1]; rfl) e2 j u y j1 j2 j3 j4) ?_ q
      have h2 := hn.2
      rw [List.all_eq_true] at h2 ⊢
      exact fun p hp => nlck_setM (h2 p hp)
theorem RepsM.keep {C : Ct} {E : En} {σ : L2.St} {W W' : Wd} {H H' H0 : Hp} {s s' : S} (r : StR C E W σ H s) (k : ExK σ W H s W' H' s') : ∀ {ms : List Md} {vs : List V} {ds : List D}, RepsM C E H0 W σ H s ms vs ds → RepsM C E H0 W' σ H' s' ms vs ds
  | _, _, _, .nil => .nil
  | _, _, _, .cons a b c => .cons (a.keep r k) (RepsM.keep r k b) c
theorem s_parT {tts : List Expr} {n k2 : Nat} {p1 pt2 : Pos} {ts : List (Nat × Bool)} (hc : X.calm = true) (hK : X.K = C.K) (g : PGs X tts (gNames (ts.map (·.1)))) (hn : (assignEach tts X.env).length = ts.length) (hst : (assignEach tts X.env).findIdx? (·.1) = none) (ha : PA X es (tA C E Wx mes (ts.map fun p => fm p.2))) (hlen : ts.length ≤ lim)
    (hs : swapsWithSole [.Tuple tts n p1] (.Tuple es k2 pt2) pos.line X.env = pure false) (hw : swappedStores [.Tuple tts n p1] (.Tuple es k2 pt2) X.env = pure none) :
    PS X (.Assign [.Tuple tts n p1] (.Tuple es k2 pt2) pos) (tS C E Wx (parS ts mes)) := by
  refine PS.imp (ps_asg (pe_tup ha) (pg_tup hc g hn hst) hs hw rfl) fun Dn σ H h => tA_of h fun ds W1 H1 s1 vs r1 hv h1 => ?_
  split at h1
  · rename_i hh
    obtain ⟨l1, l2⟩ := hv.len
    rw [List.length_map] at l1
    refine ⟨le_size (by rw [l1]; exact hlen), fun p hp => ⟨p, vs, rfl, .inl (.inl upd_same), l1, ?_⟩⟩
    have r2 := r1.alloc (o := .tup vs) hp
    exact names_goM ts vs ds σ s1 _ r2 (hv.keep r1 (ExK.alloc r1 hp)) hh.2 fun σ' r3 => h1 W1 σ' _ r3
  · exact h1.elim
theorem tE_md {md : Md} (hm : md ≠ .wk) {σ : L2.St} {H : Hp} {Q : VK} (h : tE C E Wx m md σ H Q) : tE C E Wx m .fr σ H Q := by
  cases md with
  | st => exact tE_fr h
  | fr => exact h
  | wk => exact absurd rfl hm
/-- name = [..] on one line -/
theorem s_setLc {i : Nat} {y : Str} {py : Pos} {elt tg iter : Expr} {ifs : List Expr} {scope : Scope} {own : List (Str × Nat)} {spos : Pos} {fr : Bool} {fz : List Nat} {t' : Tg} {mi : S → RE (List D)} {mt : Option (S → RE D)} {me : S → RE D} (hxa : E.xa = none) (htg : ∀ i ∈ (match t' with | .nm i => [i] | .tp is => is), i ∈ own.map (·.2)) (hc : X.calm = true) (hN : X.N.Nodup) (hy : X.N[i]? = some y) (hyl : X.env.scope.names.lookup y = some .local)
    (hsw : swapsWith (.ListComp elt [⟨tg, iter, ifs, 0⟩] scope pos) (some (.Name y py)) spos.line X.env = pure true) (hi : PI X tg iter (tI C E Wx false mi)) (ok : BlkOk X.N X.env.scope scope own)
    (hg : ∀ (s : Shared) (H : Hp) (Cc : Addr) (cl : List (Str × Addr)) (fp : List Addr), PG (X.blk s H scope (compEnvC scope cl Cc X.env) fp) tg (gT C.K t')) (ht : ∀ (s : Shared) (H : Hp) (Cc : Addr) (cl : List (Str × Addr)) (fp : List Addr), PTs (X.blk s H scope (compEnvC scope cl Cc X.env) fp) ifs (tC1 C E mt))
    (he : ∀ (s : Shared) (H : Hp) (Cc : Addr) (cl : List (Str × Addr)) (fp : List Addr), PE (X.blk s H scope (compEnvC scope cl Cc X.env) fp) elt (tE C E (fun _ _ _ _ => False) me .st)) (hs : ∀ x, foldedSetIterable iter X.env x = pure x) :
    PS X (.Assign [.Name y py] (.ListComp elt [⟨tg, iter, ifs, 0⟩] scope pos) spos) (tS C E Wx (fun s => ((mi (frzS fz s)).bind fun xs s => compR (own.map (·.2)) (compF mt me t') xs s).stm fun d s => if nlck s.sl i then .next { s with sl := s.sl.set i (slotOf fr d) } else .stuck)) := by
  refine PS.imp (ps_setLc hc hN hy hyl hsw hi ok hg ht he hs) fun Dn σ H h => ?_
  refine lc_go (Wx := Wx) (fz := fz) hxa htg (tE_md (md := if fr then .fr else .st) (by cases fr <;> decide) (tE_of h fun d W' H' s' v r' hv h' => ?_))
  split at h'
  · rename_i hn
    exact h' W' _ H' (r'.setM hn hv)
  · exact h'.elim
/-! ### raise -/
/-- what a class of errors promises -/
def MkPr (C : Ct) (P : Program) (K : PySem.W.Frag) (mg : Str → Option Value) (x : Str) (c : Nat) : Prop := ∀ (X : Cx) (es : List Expr) (e : Expr) (ta : TA) (p pos : Pos) (j : Nat), X.prog = P → X.K = K → X.mg = mg → X.calm = true → Room j X.A → 1 ≤ j → Gl X x → PA X (e :: es) ta →
  starEach (e :: es) X.env = (false, eval e X.env) :: starEach es X.env → (backTo pos (starEach es X.env)).any (·.1) = false →
  PMk X (.Call (.Name x p) (e :: es) [] pos) (fun σ H Q => ta σ H fun vs H1 => (∃ W ds, Reps C W vs ds ∧ exOk c ds = true) ∧ ∀ d, H1 d = none → Q (.ref (C.clA c)) (some d) (upd H1 d (.xd ((exFlds c).zip vs))))
theorem exOk_len {c : Nat} {ds : List D} (h : exOk c ds = true) : ds.length = (exFlds c).length := by
  unfold exOk at h
  split at h <;> first | rfl | cases h
theorem s_rai {c : Nat} {x : Str} {p1 pos2 : Pos} {j : Nat} (hok : c ∈ C.ok) (mk : MkPr C X.prog X.K X.mg x c) (hc : X.calm = true) (hr : Room j X.A) (hj : 1 ≤ j) (tk : Takes X Wx) (hg : Gl X x) (ha : PA X (e :: es) (tA C E Wx mes ms)) (hms : ∀ m ∈ ms, m = Md.st)
    (he : starEach (e :: es) X.env = (false, eval e X.env) :: starEach es X.env) (hpl : (backTo pos2 (starEach es X.env)).any (·.1) = false) :
    PS X (.Raise (some (.Call (.Name x p1) (e :: es) [] pos2)) none pos) (tS C E Wx (fun s => (mes s).stm fun xs s => if exOk c xs then .exc ⟨c, xs⟩ s else .stuck)) := by
  refine PS.imp (ps_raise hc tk (mk X es e _ p1 pos2 j rfl rfl rfl hc hr hj hg ha he hpl)) fun Dn σ H h => tA_of h fun ds W1 H1 s1 vs r1 hv h1 => ?_
  split at h1
  · rename_i hx
    have hr := hv.toSt hms
    refine ⟨⟨W1, ds, hr, hx⟩, fun d hd => ?_⟩
    have h2 := r1.alloc (o := .xd ((exFlds c).zip vs)) hd
    refine h1 W1 σ _ _ _ h2 ⟨⟨rfl, hok⟩, d, vs, rfl, upd_same, hr, ?_, (r1.free0 hd).2.2⟩
    rw [hr.length]
    exact exOk_len hx
  · exact h1.elim
/-! ### try -/
def En.hot (E : En) (a : Addr) (cls : Value) (d : Option Addr) : En := { E with xa := some (a, cls, d) }
theorem noExv_at {sl : List Slot} (h : noExv sl = true) {i : Nat} {e : Ex} (q : sl[i]? = some (.exv e)) : False := by
  unfold noExv at h
  rw [List.all_eq_true] at h
  have := h _ (List.mem_of_getElem? q)
  cases this
theorem StR.toHot {σ : L2.St} {W : Wd} {H : Hp} {s : S} {a : Addr} {cls : Value} {d : Option Addr} (h : noExv s.sl = true) (r : StR C E W σ H s) : StR C (E.hot a cls d) W σ H s := ⟨r.kp, r.fr, r.gh, r.rg, r.len, fun i x hi => by
    have q := r.sl i x hi
    cases x with
    | exv e => exact (noExv_at h hi).elim
    | _ => exact q, r.nd, r.ow, r.pr, r.lo⟩
theorem StR.ofHot {σ : L2.St} {W : Wd} {H : Hp} {s : S} {a : Addr} {cls : Value} {d : Option Addr} (h : noExv s.sl = true) (r : StR C (E.hot a cls d) W σ H s) : StR C E W σ H s := ⟨r.kp, r.fr, r.gh, r.rg, r.len, fun i x hi => by
    have q := r.sl i x hi
    cases x with
    | exv e => exact (noExv_at h hi).elim
    | _ => exact q, r.nd, r.ow, r.pr, r.lo⟩
theorem StR.unset {σ : L2.St} {W : Wd} {H : Hp} {s : S} (r : StR C E W σ H s) (i : Nat) (hn : nlck s.sl i = true) : StR C E W (σ.set i none) H { s with sl := s.sl.set i .uns } := by
  have own1 : ∀ j, OwnAt { s with sl := s.sl.set i .uns } j → j ≠ i ∧ OwnAt s j := fun j ⟨y, hj, hy⟩ => by
    rcases get_set hj with ⟨h1, h2, h3⟩ | ⟨h1, h2⟩
    · subst h2; cases hy
    · exact ⟨h1, ⟨y, h2, hy⟩⟩
  have vs : ∀ j a, j ≠ i → (σ.set i none)[j]? = some (some (.ref a)) → σ[j]? = some (some (.ref a)) := fun j a hji h => by
    rw [List.getElem?_set_ne (Ne.symm hji)] at h; exact h
  refine ⟨r.kp, r.fr, r.gh, r.rg, ?_, fun j y hj => ?_, fun j1 j2 a o1 o2 e1 e2 => ?_, fun j a o e => ?_, fun p hp => ?_, r.lo⟩
  · show (σ.set i none).length = (s.sl.set i .uns).length
    rw [List.length_set, List.length_set]; exact r.len
  · rcases get_set hj with ⟨rfl, rfl, hl⟩ | ⟨h1, h2⟩
    · trivial
    · rw [List.getElem?_set_ne (Ne.symm h1)]
      exact r.sl j y h2
  · obtain ⟨a1, a2⟩ := own1 j1 o1
    obtain ⟨b1, b2⟩ := own1 j2 o2
    exact r.nd j1 j2 a a2 b2 (vs j1 a a1 e1) (vs j2 a b1 e2)
  · obtain ⟨a1, a2⟩ := own1 j o
    exact r.ow j a a2 (vs j a a1 e)
  · obtain ⟨ys, b1, b2, b3⟩ := r.pr p hp
    have hpi : i ≠ p.1 := fun z => by
      unfold nlck at hn
      rw [z, b1] at hn; cases hn
    exact ⟨ys, by show (s.sl.set i .uns)[p.1]? = _; rw [List.getElem?_set_ne hpi]; exact b1, by rw [List.getElem?_set_ne hpi]; exact b2, b3⟩
theorem StR.gone {σ : L2.St} {W : Wd} {H : Hp} {s s' : S} {i : Nat} {a : Addr} {cls : Value} {d : Option Addr} (r : StR C (E.hot a cls d) W σ H s) (h : goneS (some i) s = some s') : StR C E W (σ.set i none) H s' := by
  unfold goneS at h
  split at h
  · rename_i i' hi
    injection hi with hi
    subst hi
    split at h
    · rename_i hh
      simp only [Bool.and_eq_true] at hh
      injection h with h
      subst h
      exact StR.ofHot hh.2 (r.unset i hh.1)
    · cases h
  · rename_i hi; cases hi
theorem StR.gone0 {σ : L2.St} {W : Wd} {H : Hp} {s s' : S} {a : Addr} {cls : Value} {d : Option Addr} (r : StR C (E.hot a cls d) W σ H s) (h : goneS none s = some s') : StR C E W σ H s' := by
  unfold goneS at h
  split at h
  · rename_i i' hi; cases hi
  · split at h
    · rename_i hh
      injection h with h
      subst h
      exact StR.ofHot hh r
    · cases h
abbrev tryS (n1 n2 : S → RS) (c : Nat) (n : Option Nat) (s : S) : RS := match n1 s with
    | .exc e s => if exSub e.cls c then
        match n with
        | some i => if nlck s.sl i && noExv s.sl then afterS (some i) (n2 { s with sl := s.sl.set i (.exv e) }) else .stuck
        | none => if noExv s.sl then afterS none (n2 s) else .stuck
      else .exc e s
    | r => r
theorem s_try {i c : Nat} {x n : Str} {body suite : List Stmt} {b₀ : Stmt} {np pos' : Pos} (hs : X.stack = X.env :: X.outer) (hf : X.env.frame = some X.env.locals) (hN : X.N.Nodup) (hi : X.N[i]? = some n) (hln : X.env.kindOf n = some .local) (hc : Names X x (.ref (C.clA c))) (tk : Takes X Wx) (hK : X.K = C.K)
    (hex : ∀ j ∈ C.ok, PySem.W.exmOne C.K (.ref (C.clA j)) (.ref (C.clA c)) = some (exSub j c))
    (hb : ∀ (W : WX) (pn : List (Addr × Obj)) (xe : Value → Shared → Prop), Takes (X.tr pn xe) W → PassesOwn (model X.prog X.w) X.A X.env xe → PSs (X.tr pn xe) body (tS C E W n1))
    (hsu : ∀ (a : Addr) (oe : Obj) (cls : Value) (d : Option Addr) (pn : List (Addr × Obj)), Zc cls d oe → (∃ vs, oe.data = .fields vs) → PSs (X.suite a ((a, oe) :: pn)) (b₀ :: suite) (tS C (E.hot a cls d) (fun _ _ _ _ => False) n2)) :
    PS X (.Try body [.ExceptHandler (some (.Name x np)) (some n) (b₀ :: suite) pos'] [] [] pos) (tS C E Wx (tryS n1 n2 c (some i))) := by
  refine PS.imp (ps_try_as (tb := fun W => tS C E W n1) (ts := fun a cls d => tS C (E.hot a cls d) (fun _ _ _ _ => False) n2) hs hf hN hi hln hc tk hb hsu) fun Dn σ H ⟨W, s, r, h⟩ => ⟨W, s, r, ?_⟩
  unfold tryS at h
  cases q : n1 s with
  | next s' => rw [q] at h; exact h
  | brk s' => rw [q] at h; exact h
  | cnt s' => rw [q] at h; exact h
  | ret d s' => rw [q] at h; exact h
  | stuck => rw [q] at h; exact h
  | exc e s' =>
    rw [q] at h
    simp only [] at h
    intro W' σ' H' cls dx r' hx
    refine ⟨exSub e.cls c, ?_, fun hb a ha => ?_, fun hb => ?_⟩
    · rw [hK, hx.1.1]; exact hex _ hx.1.2
    · rw [if_pos hb] at h
      split at h
      · rename_i hh
        simp only [Bool.and_eq_true] at hh
        refine ⟨W', { s' with sl := s'.sl.set i (.exv e) }, (r'.toHot hh.2).setSlot i hh.1 ⟨a, cls, dx, rfl, rfl, hx⟩ (fun z => by cases z), ?_⟩
        cases q2 : n2 { s' with sl := s'.sl.set i (.exv e) } with
        | next s2 =>
          rw [q2] at h
          unfold afterS at h
          simp only [] at h
          split at h
          · rename_i s3 h3
            exact fun W3 σ3 H3 r3 => h W3 _ H3 (r3.gone h3)
          · exact h.elim
        | ret d s2 =>
          rw [q2] at h
          unfold afterS at h
          simp only [] at h
          split at h
          · rename_i s3 h3
            exact fun W3 σ3 H3 v r3 hv => h W3 _ H3 v (r3.gone h3) hv
          · exact h.elim
        | brk s2 => rw [q2] at h; exact h.elim
        | cnt s2 => rw [q2] at h; exact h.elim
        | exc e2 s2 => rw [q2] at h; exact h.elim
        | stuck => rw [q2] at h; exact h.elim
      · exact h.elim
    · rw [if_neg (by rw [hb]; exact Bool.false_ne_true)] at h
      exact h W' σ' H' cls dx r' hx
theorem s_try0 {c : Nat} {x : Str} {body suite : List Stmt} {b₀ : Stmt} {np pos' : Pos} (hs : X.stack = X.env :: X.outer) (hf : X.env.frame = some X.env.locals) (hc : Names X x (.ref (C.clA c))) (tk : Takes X Wx) (hK : X.K = C.K)
    (hex : ∀ j ∈ C.ok, PySem.W.exmOne C.K (.ref (C.clA j)) (.ref (C.clA c)) = some (exSub j c))
    (hb : ∀ (W : WX) (pn : List (Addr × Obj)) (xe : Value → Shared → Prop), Takes (X.tr pn xe) W → PassesOwn (model X.prog X.w) X.A X.env xe → PSs (X.tr pn xe) body (tS C E W n1))
    (hsu : ∀ (a : Addr) (oe : Obj) (cls : Value) (d : Option Addr) (pn : List (Addr × Obj)), Zc cls d oe → (∃ vs, oe.data = .fields vs) → PSs (X.suite a ((a, oe) :: pn)) (b₀ :: suite) (tS C (E.hot a cls d) (fun _ _ _ _ => False) n2)) :
    PS X (.Try body [.ExceptHandler (some (.Name x np)) none (b₀ :: suite) pos'] [] [] pos) (tS C E Wx (tryS n1 n2 c none)) := by
  refine PS.imp (ps_try_only (tb := fun W => tS C E W n1) (ts := fun a cls d => tS C (E.hot a cls d) (fun _ _ _ _ => False) n2) hs hf hc tk hb hsu) fun Dn σ H ⟨W, s, r, h⟩ => ⟨W, s, r, ?_⟩
  unfold tryS at h
  cases q : n1 s with
  | next s' => rw [q] at h; exact h
  | brk s' => rw [q] at h; exact h
  | cnt s' => rw [q] at h; exact h
  | ret d s' => rw [q] at h; exact h
  | stuck => rw [q] at h; exact h
  | exc e s' =>
    rw [q] at h
    simp only [] at h
    intro W' σ' H' cls dx r' hx
    refine ⟨exSub e.cls c, ?_, fun hb a ha => ?_, fun hb => ?_⟩
    · rw [hK, hx.1.1]; exact hex _ hx.1.2
    · rw [if_pos hb] at h
      split at h
      · rename_i hh
        refine ⟨W', s', r'.toHot hh, ?_⟩
        cases q2 : n2 s' with
        | next s2 =>
          rw [q2] at h
          unfold afterS at h
          simp only [] at h
          split at h
          · rename_i s3 h3
            exact fun W3 σ3 H3 r3 => h W3 _ H3 (r3.gone0 h3)
          · exact h.elim
        | ret d s2 =>
          rw [q2] at h
          unfold afterS at h
          simp only [] at h
          split at h
          · rename_i s3 h3
            exact fun W3 σ3 H3 v r3 hv => h W3 _ H3 v (r3.gone0 h3) hv
          · exact h.elim
        | brk s2 => rw [q2] at h; exact h.elim
        | cnt s2 => rw [q2] at h; exact h.elim
        | exc e2 s2 => rw [q2] at h; exact h.elim
        | stuck => rw [q2] at h; exact h.elim
      · exact h.elim
    · rw [if_neg (by rw [hb]; exact Bool.false_ne_true)] at h
      exact h W' σ' H' cls dx r' hx
end
end Vi

/-! V16: the terms against the text: statements. -/
namespace Vi
open PySem PySem.Spec PyProof.Rows L2
section
variable {C : Ct} {E : En} {Wx : WX} {X : Cx}
/-- the draws are made -/
theorem StR.mkSt {σ : L2.St} {W : Wd} {H : Hp} {s : S} {i : Nat} {xs : List D} {ns : List Int} {a p : Addr} {vs : List V} (r : StR C E W σ H s) (hg : s.rg = none) (hi : s.sl[i]? = some (.own xs)) (hn : intsD xs = some ns) (e : σ[i]? = some (some (.ref a))) (ha : H a = some (.lst vs)) (hr : Reps C W vs xs) (hp : H p = none) :
    StR C E { W with st := some (p, a) } σ (upd H p (.lst [.int 0, .ref a])) { sl := s.sl.set i .uns, rg := some (0, ns) } := by
  have hst : W.st = none := by have := r.rg; rw [hg] at this; exact this
  have hEst : E.W.st = none := by
    cases q : E.W.st with
    | none => rfl
    | some z => have := r.kp.le.s z q; rw [hst] at this; cases this
  have hlo : E.lo.st = none := by
    cases q : E.lo.st with
    | none => rfl
    | some z => have := r.lo.s z q; rw [hst] at this; cases this
  have oi : OwnAt s i := ⟨_, hi, rfl⟩
  obtain ⟨g1, g2, g3⟩ := r.ow i a oi e
  obtain ⟨f1, f2, f3⟩ := r.free0 hp
  have ap : a ≠ p := fun z => by rw [z, hp] at ha; cases ha
  have le : Le W { W with st := some (p, a) } := ⟨Same.refl _, (fun z hz => by rw [hst] at hz; cases hz), rfl⟩
  have kp : ∀ b o, H b = some o → upd H p (.lst [.int 0, .ref a]) b = some o := fun b o h => by rw [upd_ne (ne_of_none h hp)]; exact h
  have own1 : ∀ j, OwnAt { sl := s.sl.set i .uns, rg := some (0, ns) } j → j ≠ i ∧ OwnAt s j := fun j ⟨y, hj, hy⟩ => by
    rcases get_set hj with ⟨h1, h2, h3⟩ | ⟨h1, h2⟩
    · subst h2; cases hy
    · exact ⟨h1, ⟨y, h2, hy⟩⟩
  have noIn : ∀ b, InSt W b → False := fun b ⟨x, c, h, _⟩ => by rw [hst] at h; cases h
  refine ⟨⟨r.kp.le.trans le, fun b o hb n nt => kp b o (r.kp.kp0 b o hb (fun z => noIn b z) nt), fun z hz => .inr ?_, r.kp.tt.trans (tt_fresh hp)⟩, r.fr, fun b o h => kp b o (r.gh b o h), ⟨p, a, rfl, upd_same, ?_, f2, g1⟩, ?_, fun j y hj => ?_, fun j1 j2 b o1 o2 => r.nd j1 j2 b (own1 j1 o1).2 (own1 j2 o2).2, fun j b o eb => ?_, fun q hq => ?_, r.lo.trans le⟩
  · have hz : some (p, a) = some z := hz
    injection hz with hz
    subst hz
    exact ⟨f1, g2⟩
  · rw [upd_ne ap, ha, hr.toInts hn]
  · show σ.length = (s.sl.set i .uns).length
    rw [List.length_set]; exact r.len
  · rcases get_set hj with ⟨rfl, rfl, hl⟩ | ⟨h1, h2⟩
    · trivial
    · have q := r.sl j y h2
      cases y with
      | uns => trivial
      | val d => obtain ⟨u, e1, e2⟩ := q; exact ⟨u, e1, e2.mono le⟩
      | own zs => obtain ⟨b, us, e1, e2, e3⟩ := q; exact ⟨b, us, e1, kp _ _ e2, e3.mono le⟩
      | lck zs => obtain ⟨b, us, e1, e2, e3⟩ := q; exact ⟨b, us, e1, kp _ _ e2, e3.mono le⟩
      | exv ex =>
        obtain ⟨b, cls, dx, e1, e2, e3, c, us, e4, e5, e6, e7, e8⟩ := q
        refine ⟨b, cls, dx, e1, e2, e3, c, us, e4, kp _ _ e5, e6.mono le, e7, fun ⟨x', c', h, z⟩ => ?_⟩
        have h : some (p, a) = some (x', c') := h
        injection h with h
        injection h with h1 h2
        subst h1 h2
        rcases z with z | z
        · subst z; rw [hp] at e5; cases e5
        · subst z; rw [ha] at e5; cases e5
  · obtain ⟨o1, o2⟩ := own1 j o
    obtain ⟨q1, q2, q3⟩ := r.ow j b o2 eb
    refine ⟨q1, q2, fun ⟨x', c', h, z⟩ => ?_⟩
    have h : some (p, a) = some (x', c') := h
    injection h with h
    injection h with h1 h2
    subst h1 h2
    rcases z with z | z
    · subst z
      exact r.slotNe hp j o2 eb
    · subst z
      exact o1 (r.nd j i b o2 oi eb e)
  · obtain ⟨ys, b1, b2, b3⟩ := r.pr q hq
    have hpi : i ≠ q.1 := fun z => by rw [z, b1] at hi; cases hi
    exact ⟨ys, by show (s.sl.set i .uns)[q.1]? = _; rw [List.getElem?_set_ne hpi]; exact b1, b2, kp _ _ b3⟩
theorem s_retst {i : Nat} {x : Str} {p1 pc pl pos : Pos} {kd : Nat} (hv : PE X (.Name x p1) (tVar i)) : PS X (.Return (some (.List [.Constant (.int 0) kd pc, .Name x p1] pl)) pos) (tS C E Wx (fun s => match s.rg, s.sl[i]? with
    | none, some (.own xs) => match intsD xs with
      | some ns => .ret .tok { sl := s.sl.set i .uns, rg := some (0, ns) }
      | none => .stuck
    | _, _ => .stuck)) := by
  refine PS.imp (ps_ret (pe_lst (pa_cons (pe_int (i := 0)) (pa_cons hv pa_nil rfl) rfl))) fun Dn σ H ⟨W, s, r, h⟩ => ?_
  simp only [] at h
  split at h
  · rename_i xs hg hs
    split at h
    · rename_i ns hn
      obtain ⟨a, vs, e, ha, hr⟩ := r.sl i _ hs
      refine ⟨_, e, (show 2 ≤ sizeLine by decide), fun p hp => ?_⟩
      have r2 := r.mkSt hg hs hn e ha hr hp
      exact h _ σ _ _ r2 (.tok rfl)
    · exact h.elim
  · exact h.elim
end

/-! ### the look -/
def noComp : Expr → Bool
  | .ListComp .. => false
  | .SetComp .. => false
  | .DictComp .. => false
  | _ => true
def noTup : Expr → Bool
  | .Tuple .. => false
  | _ => true
theorem sw_no {e : Expr} {t : Option Expr} {l : Nat} {env : Env} (h : noComp e = true) : swapsWith e t l env = pure false := by
  cases e <;> first | rfl | cases h
theorem sw_tup {e : Expr} {es : List Expr} {n : Nat} {p : Pos} {l : Nat} {env : Env} : swapsWithSole [.Tuple es n p] e l env = pure false := by
  cases e <;> rfl
theorem sw_sub {e o i : Expr} {p : Pos} {l : Nat} {env : Env} : swapsWithSole [.Subscript o i p] e l env = pure false := by
  cases e <;> rfl
theorem ss_sub {e o i : Expr} {p : Pos} {env : Env} : swappedStores [.Subscript o i p] e env = pure none := rfl
theorem ss_no {e : Expr} {es : List Expr} {n : Nat} {p : Pos} {env : Env} (h : noTup e = true) : swappedStores [.Tuple es n p] e env = pure none := by
  cases e <;> first | rfl | cases h
def isSta : Expr → Bool
  | .Starred .. => true
  | _ => false
/-- what the two rows say of their stores -/
def swp (sc : Scope) (ts vs : List Expr) : Option (Option (List Str)) :=
  if (!(ts.length == 2 || ts.length == 3) || vs.length != ts.length) = true then some none
  else if (vs.any isSta) = true then some none
  else
    let line := (ts.head?.map (·.pos.line)).getD 0
    let names := ts.filterMap fun
      | .Name id pos => if (sc.names.lookup id == some .local && pos.line == line) = true then some id else none
      | _ => none
    if (names.length != ts.length || names.eraseDups.length != names.length) = true then some none
    else if vs.all (foldedForSure 8) = true then some none
    else if vs.all (constantsAlone 8) = true then none
    else some (some names)
theorem any_sta (vs : List Expr) : (vs.any fun | .Starred .. => true | _ => false) = vs.any isSta := by
  congr
theorem swp_ok {ts vs : List Expr} {n n' : Nat} {p p' : Pos} {env : Env} {r : Option (List Str)} (hk : env.blockKind = .function) (h : swp env.scope ts vs = some r) : swappedStores [.Tuple ts n p] (.Tuple vs n' p') env = pure r := by
  unfold swp at h
  unfold swappedStores
  simp only [hk]
  simp only [] at h
  split at h
  · rename_i c
    injection h with h; subst h
    rw [if_pos (by rw [Bool.or_eq_true] at c ⊢; exact .inl (by rw [Bool.or_eq_true] at *; exact c))]
  · rename_i c1
    rw [if_neg (by
      intro z
      apply c1
      have e : (ScopeKind.function != ScopeKind.function) = false := by decide
      rw [e, Bool.or_false] at z
      exact z)]
    split at h
    · rename_i c
      injection h with h; subst h
      exact if_pos c
    · rename_i c2
      refine (if_neg c2).trans ?_
      split at h
      · rename_i c
        injection h with h; subst h
        exact if_pos c
      · rename_i c3
        refine (if_neg c3).trans ?_
        split at h
        · rename_i c
          injection h with h; subst h
          exact if_pos c
        · rename_i c4
          refine (if_neg c4).trans ?_
          split at h
          · cases h
          · rename_i c5
            injection h with h; subst h
            exact if_neg c5
theorem swp_sub {sc : Scope} {a b c d va vb : Expr} {p q : Pos} : swp sc [.Subscript a b p, .Subscript c d q] [va, vb] = some none := by
  unfold swp
  split
  · rfl
  · split
    · rfl
    · rfl
section
variable {C : Ct} {E : En} {Wx : WX} {X : Cx}
theorem s_sw2 {i j k1 k2 : Nat} {x y : Str} {ix jx va vb : Expr} {p1 p2 q1 q2 pt pt2 pos : Pos} {mx my : S → RE D} {mes : S → RE (List D)} (hc : X.calm = true) (hK : X.K = C.K) (hv1 : PE X (.Name x p1) (tVar i)) (hi1 : PE X ix (tE C E Wx mx .wk)) (hv2 : PE X (.Name y p2) (tVar j)) (hi2 : PE X jx (tE C E Wx my .wk))
    (h1 : noSl ix = true) (h2 : noSl jx = true) (ha : PA X [va, vb] (tA C E Wx mes [.st, .st])) (hw : swappedStores [.Tuple [.Subscript (.Name x p1) ix q1, .Subscript (.Name y p2) jx q2] k1 pt] (.Tuple [va, vb] k2 pt2) X.env = pure none) (hs : swapsWithSole [.Tuple [.Subscript (.Name x p1) ix q1, .Subscript (.Name y p2) jx q2] k1 pt] (.Tuple [va, vb] k2 pt2) pos.line X.env = pure false) :
    PS X (.Assign [.Tuple [.Subscript (.Name x p1) ix q1, .Subscript (.Name y p2) jx q2] k1 pt] (.Tuple [va, vb] k2 pt2) pos) (tS C E Wx (fun s => (mes s).stm fun ds s => match ds with
      | [d, e] => if stoOk s.sl i then (mx s).stm fun k s => match storeIx i k d s with
        | .next s => if stoOk s.sl j then (my s).stm fun l s => storeIx j l e s else .stuck
        | _ => .stuck
        else .stuck
      | _ => .stuck)) := by
  have g1 : PG X (.Subscript (.Name x p1) ix q1) (gSub (tVar i) (tE C E Wx mx .wk) rSetL) := pg_sub hv1 hi1 set_list (by intro v; cases ix <;> first | rfl | cases h1)
  have g2 : PG X (.Subscript (.Name y p2) jx q2) (gSub (tVar j) (tE C E Wx my .wk) rSetL) := pg_sub hv2 hi2 set_list (by intro v; cases jx <;> first | rfl | cases h2)
  refine PS.imp (ps_asg (pe_tup ha) (pg_tup hc (pgs_cons g1 (pgs_cons g2 pgs_nil))) hs hw rfl) fun Dn σ H h => tA_of h fun ds W1 H1 s1 vs r1 hv q1 => ?_
  split at q1
  · rename_i d e
    cases hv with
    | @cons _ _ v _ _ _ a1 b1 _ =>
      cases b1 with
      | @cons _ _ u _ _ _ a2 b2 _ =>
        cases b2
        refine ⟨le_size (show 2 ≤ lim by decide), fun p hp => ⟨p, [v, u], rfl, .inl (.inl upd_same), rfl, ?_⟩⟩
        have r2 := r1.alloc (o := .tup [v, u]) hp
        refine ⟨v, [u], rfl, ?_⟩
        split at q1
        · rename_i ho
          obtain ⟨w, hw⟩ := stoOk_w r2 ho
          refine ⟨w, hw, W1, s1, r2, q1.stm.mono fun k W2 H2 s2 r3 k2 q2 z hz => ?_⟩
          cases qs : storeIx i k d s2 with
          | next s3 =>
            rw [qs] at q2
            simp only [] at q2
            refine store_on r3 hw hz (Rep.mono k2.k.le a1) qs _ fun H3 r4 => ⟨u, [], rfl, ?_⟩
            split at q2
            · rename_i ho2
              obtain ⟨w2, hw2⟩ := stoOk_w r4 ho2
              refine ⟨w2, hw2, W2, s3, r4, q2.stm.mono fun l W3 H4 s4 r5 k3 q3 z2 hz2 => ?_⟩
              cases qt : storeIx j l e s4 with
              | next s5 =>
                rw [qt] at q3
                exact store_on r5 hw2 hz2 (Rep.mono (k2.k.le.trans k3.k.le) a2) qt _ fun H5 r6 => ⟨rfl, q3 _ _ _ r6⟩
              | _ => rw [qt] at q3; first | exact q3.elim | (unfold storeIx at qt; repeat (split at qt; all_goals try cases qt))
            · exact q2.elim
          | _ => rw [qs] at q2; exact q2.elim
        · exact q1.elim
  · exact q1.elim
end
end Vi

/-! V17: the terms against the text: statements, the look and the theorem. -/
namespace Vi
open PySem PySem.Spec PyProof.Rows L2
def Kx.st2 (k : Kx) (i : Nat) (x : Str) : Bool := decide (k.N[i]? = some x) && k.isSt x
def isLc : IE → Bool
  | .lc .. => true
  | _ => false
def isLoc (k : Kx) (x : Str) : Bool := decide (k.sc.names.lookup x = some .local)
def chkP2 (k : Kx) (ts : List (Nat × Bool)) (tts vs : List Expr) : Bool := match ts, tts, vs with
  | [(i, _), (j, _)], [.Name x _, .Name y _], [_, _] => decide (swp k.sc tts vs = some (some [x, y])) && decide (k.N[i]? = some x) && decide (k.N[j]? = some y) && decide (i ≠ j) && isLoc k x && isLoc k y
  | _, _, _ => false
def chkP3 (k : Kx) (ts : List (Nat × Bool)) (tts vs : List Expr) : Bool := match ts, tts, vs with
  | [(i, _), (j, _), (l, _)], [.Name x _, .Name y _, .Name z _], [_, _, _] => decide (swp k.sc tts vs = some (some [x, y, z])) && decide (k.N[i]? = some x) && decide (k.N[j]? = some y) && decide (k.N[l]? = some z) && decide (i ≠ j) && decide (i ≠ l) && decide (j ≠ l) && isLoc k x && isLoc k y && isLoc k z
  | _, _, _ => false
def chkPT (k : Kx) (ts : List (Nat × Bool)) (tts vs : List Expr) : Bool :=
  decide (swp k.sc tts vs = some none) && decide (ts.length = tts.length) && ((ts.map (·.1)).zip tts).all (fun p => match p.2 with | .Name x _ => decide (k.N[p.1]? = some x) && k.isSt x | _ => false) && decide (ts.length ≤ 1000)
def isPk : II → Bool
  | .seq (.pk _) => true
  | _ => false
def seqSt : II → Bool
  | .seq a => decide (mdE a ≠ .wk)
  | _ => true
def hotK (k : Kx) (i : Nat) : Kx := { k with hot := some i, fns := [], cls := [], lam := false }
mutual
def chkS : IS → Kx → Stmt → Bool
  | .set i fr e, k, st => match st with
    | .Assign [.Name x _] v _ => k.st2 i x && chkE e k v && (mdE e).from (fm fr) && (isLc e || noComp v)
    | _ => false
  | .par ts es, k, st => match st with
    | .Assign [.Tuple tts n p] (.Tuple vs _ _) _ => k.hot.isNone && chkEs es k vs && okMs (ts.map fun p => fm p.2) es && (chkP2 k ts tts vs || chkP3 k ts tts vs || chkPT k ts tts vs)
    | _ => false
  | .unp is e, k, st => match st with
    | .Assign [.Tuple tts n p] v _ => chkTg k (.tp is) (.Tuple tts n p) && chkE e k v && decide (mdE e ≠ .wk) && noTup v
    | _ => false
  | .aug i o e, k, st => match st with
    | .AugAssign (.Name x _) op v _ => k.st2 i x && chkE e k v && decide (op = opOf o) && decide (o = .add ∨ o = .sub)
    | _ => false
  | .sto i x e, k, st => match st with
    | .Assign [.Subscript (.Name n _) ix _] v _ => k.slot i n && chkE x k ix && chkE e k v && decide (mdE e ≠ .wk) && noSl ix
    | _ => false
  | .augs i x o e, k, st => match st with
    | .AugAssign (.Subscript (.Name n _) ix _) op v _ => k.slot i n && chkE x k ix && chkE e k v && noSl ix && decide (op = opOf o) && decide (o = .add ∨ o = .sub)
    | _ => false
  | .app i e, k, st => match st with
    | .Expr (.Call (.Attribute (.Name n _) a ap) [v] [] cp) _ => decide (a = Str.ofString "append") && k.slot i n && chkE e k v && decide (mdE e ≠ .wk) && noStar v && (ap.endLine == cp.line)
    | _ => false
  | .rem i e, k, st => match st with
    | .Expr (.Call (.Attribute (.Name n _) a ap) [v] [] cp) _ => decide (a = Str.ofString "remove") && k.slot i n && chkE e k v && decide (mdE e ≠ .wk) && noStar v && (ap.endLine == cp.line)
    | _ => false
  | .ins i a b, k, st => match st with
    | .Expr (.Call (.Attribute (.Name n _) m ap) [v, w] [] cp) _ => decide (m = Str.ofString "insert") && k.slot i n && chkE a k v && decide (mdE a ≠ .wk) && chkE b k w && decide (mdE b ≠ .wk) && noStar v && noStar w && (ap.endLine == cp.line)
    | _ => false
  | .sw2 i x j y es, k, st => match st with
    | .Assign [.Tuple [.Subscript (.Name m _) ix _, .Subscript (.Name n _) jx _] _ _] (.Tuple [va, vb] _ _) _ => k.hot.isNone && k.slot i m && k.slot j n && chkE x k ix && chkE y k jx && noSl ix && noSl jx && chkEs es k [va, vb] && okMs [.st, .st] es
    | _ => false
  | .pop i, k, st => match st with
    | .Expr (.Call (.Attribute (.Name n _) a ap) [] [] cp) _ => decide (a = Str.ofString "pop") && k.slot i n && (ap.endLine == cp.line)
    | _ => false
  | .ret e, k, st => match st with
    | .Return (some v) _ => chkE e k v && decide (mdE e ≠ .wk)
    | _ => false
  | .retst i, k, st => match st with
    | .Return (some (.List [.Constant c _ _, .Name x _] _)) _ => (match c with | .int z => decide (z = 0) | _ => false) && k.slot i x
    | _ => false
  | .ife t a b, k, st => match st with
    | .If c x y _ => chkE t k c && tOk t && chkSs a k x && chkSs b k y
    | _ => false
  | .whl t b, k, st => match st with
    | .While c x [] _ => k.hot.isNone && chkE t k c && tOk t && chkSs b k x
    | _ => false
  | .for tg it b, k, st => match st with
    | .For t i x [] _ => k.hot.isNone && chkTg k tg t && chkI it k i && noSet i && (isPk it || seqSt it) && chkSs b k x
    | _ => false
  | .brk, _, st => match st with | .Break _ => true | _ => false
  | .cnt, _, st => match st with | .Continue _ => true | _ => false
  | .pas, _, st => match st with | .Pass _ => true | _ => false
  | .rai x c es, k, st => match st with
    | .Raise (some (.Call (.Name y _) (v :: l) [] _)) none _ => k.hot.isNone && decide (y = x) && decide ((x, c) ∈ k.cls) && k.isGl x && chkEs es k (v :: l) && strong es
    | _ => false
  | .try b x c n u, k, st => match st with
    | .Try body [.ExceptHandler (some (.Name y _)) hn (s0 :: suite) _] [] [] _ => k.hot.isNone && decide (y = x) && decide ((x, c) ∈ k.cls) && k.isGl x && okN x && chkSs b k body && (match n, hn with
      | some i, some nm => decide (k.N[i]? = some nm) && isLoc k nm && chkSs u (hotK k i) (s0 :: suite)
      | none, none => chkSs u (hotK k 1000000) (s0 :: suite)
      | _, _ => false)
    | _ => false
  | .drp e, k, st => match st with
    | .Expr v _ => chkE e k v && noComp v
    | _ => false
def chkSs : ISs → Kx → List Stmt → Bool
  | .nil, _, l => match l with | [] => true | _ => false
  | .cons s r, k, l => match l with | st :: l => chkS s k st && chkSs r k l | _ => false
end
/-- what statements lean on -/
structure Sx (C : Ct) (k : Kx) (X : Cx) : Prop where
  hs : X.stack = X.env :: X.outer
  hf : X.env.frame = some X.env.locals
  bk : X.env.blockKind = .function
  po : k.hot.isNone = true → PassesOwn (model X.prog X.w) X.A X.env X.xe
  ex : ∀ x c, (x, c) ∈ k.cls → (X.mg x = some (.ref (C.clA c))) ∧ (∀ j ∈ C.ok, PySem.W.exmOne C.K (.ref (C.clA j)) (.ref (C.clA c)) = some (exSub j c))
  mkp : ∀ x c, (x, c) ∈ k.cls → c ∈ C.ok ∧ MkPr C X.prog X.K X.mg x c
  rm : k.hot.isNone = true → ∃ j, Room j X.A ∧ 1 ≤ j
section
variable {C : Ct} {cl : Cl} {fu : Nat}
theorem Gx.toE {E E' : En} {k : Kx} {Wx : WX} {X : Cx} (g : Gx C E k Wx X cl) (h : EnOk E E') : Gx C E' k Wx X cl :=
  ⟨g.N, g.nd, g.sc, g.K, g.cal, fun z => h.1.trans (g.xa z), fun z => by
    obtain ⟨a, oe, cls, d, pn, X0, h1, h2, h3, h4⟩ := g.xh z
    exact ⟨a, oe, cls, d, pn, X0, h1, h2, h3, h.1.trans h4⟩, g.xf, g.un, g.bl, g.gl, g.fn, g.tb, g.tk, by unfold TaOk; rw [h.2.2, h.2.1]; exact g.ta, g.lm, g.st⟩
theorem Gx.tr {E : En} {k : Kx} {Wx W : WX} {X : Cx} (g : Gx C E k Wx X cl) (hh : k.hot.isNone = true) {pn : List (Addr × Obj)} {xe : Value → Shared → Prop} (tk : Takes (X.tr pn xe) W) : Gx C E k W (X.tr pn xe) cl :=
  ⟨g.N, g.nd, g.sc, g.K, g.cal, g.xa, fun z => (by rw [hh] at z; cases z), g.xf, g.un, g.bl, g.gl, g.fn, g.tb, tk, g.ta, g.lm, g.st⟩
theorem Sx.tr {k : Kx} {X : Cx} (g : Sx C k X) {pn : List (Addr × Obj)} {xe : Value → Shared → Prop} (po : PassesOwn (model X.prog X.w) X.A X.env xe) : Sx C k (X.tr pn xe) :=
  ⟨g.hs, g.hf, g.bk, fun _ => po, g.ex, g.mkp, g.rm⟩
theorem Gx.suite {E : En} {k : Kx} {Wx : WX} {X : Cx} (g : Gx C E k Wx X cl) (i : Nat) {a : Addr} {oe : Obj} {cls : Value} {d : Option Addr} {pn : List (Addr × Obj)} (hz : Zc cls d oe) (hd : ∃ vs, oe.data = .fields vs) :
    Gx C (E.hot a cls d) (hotK k i) (fun _ _ _ _ => False) (X.suite a ((a, oe) :: pn)) cl :=
  ⟨g.N, g.nd, g.sc, g.K, fun z => (by cases z), fun z => (by cases z), fun _ => ⟨a, oe, cls, d, pn, X, rfl, hz, hd, rfl⟩, g.xf, g.un, g.bl, g.gl, fun i x n h => by
    have h : ([] : List (Str × Nat))[i]? = some (x, n) := h
    simp at h, fun z => (by cases z), fun _ _ x => by
    obtain ⟨_, _, _, _, _, _, _, _, _, _, _, _, _, _, _, _, z⟩ := x
    exact z.elim, g.ta, fun z => (by cases z), g.st⟩
theorem Sx.suite {k : Kx} {X : Cx} (g : Sx C k X) (i : Nat) {a : Addr} {pn : List (Addr × Obj)} : Sx C (hotK k i) (X.suite a pn) :=
  ⟨g.hs, g.hf, g.bk, fun z => (by cases z), fun _ _ z => (by cases z), fun _ _ z => (by cases z), fun z => (by cases z)⟩
theorem Kx.st2_at {E : En} {k : Kx} {Wx : WX} {X : Cx} (g : Gx C E k Wx X cl) {i : Nat} {x : Str} (h : k.st2 i x = true) : X.N.Nodup ∧ X.N[i]? = some x ∧ Loc X.env.scope x ∧ (X.fn x = true ∨ X.env.scope.names.lookup x = some .local) := by
  unfold Kx.st2 at h
  simp only [Bool.and_eq_true, decide_eq_true_eq] at h
  obtain ⟨l1, l2⟩ := g.st x h.2
  exact ⟨by rw [g.N]; exact g.nd, by rw [g.N]; exact h.1, l1, l2⟩
theorem slot_var {E : En} {k : Kx} {Wx : WX} {X : Cx} (g : Gx C E k Wx X cl) {i : Nat} {x : Str} {p : Pos} (h : k.slot i x = true) : PE X (.Name x p) (tVar i) := by
  unfold Kx.slot at h
  simp only [Bool.and_eq_true, decide_eq_true_eq] at h
  exact pe_var (by rw [g.N]; exact h.1.1) (g.vis h.1.2) (okN_d h.2) (okN_c h.2)
theorem isLoc_at {E : En} {k : Kx} {Wx : WX} {X : Cx} (g : Gx C E k Wx X cl) {x : Str} (h : isLoc k x = true) : X.env.scope.names.lookup x = some .local := by
  rw [g.sc]; exact of_decide_eq_true h
theorem sEsM {E : En} : ∀ (es : IEs) (ms : List Md) {k : Kx} {X : Cx} {Wx : WX} {l : List Expr}, Gx C E k Wx X cl → okMs ms es = true → chkEs es k l = true → PA X l (tA C E Wx (fun s => evs cl es s) ms) := fun es ms _ _ _ _ g h1 h2 => sEs es ms g h1 h2
theorem s_pars {E : En} {k : Kx} {X : Cx} {Wx : WX} {ts : List (Nat × Bool)} {es : IEs} {tts vs : List Expr} {n n' : Nat} {p p' sp : Pos} (g : Gx C E k Wx X cl) (sx : Sx C k X) (hh : k.hot.isNone = true) (h1 : chkEs es k vs = true) (h2 : okMs (ts.map fun p => fm p.2) es = true)
    (h3 : (chkP2 k ts tts vs || chkP3 k ts tts vs || chkPT k ts tts vs) = true) : PS X (.Assign [.Tuple tts n p] (.Tuple vs n' p') sp) (tS C E Wx (parS ts (fun s => evs cl es s))) := by
  have ha := sEs es _ g h2 h1
  simp only [Bool.or_eq_true] at h3
  have hN : X.N.Nodup := by rw [g.N]; exact g.nd
  rcases h3 with (h3 | h3) | h3
  · unfold chkP2 at h3
    split at h3
    · simp only [Bool.and_eq_true, decide_eq_true_eq] at h3
      obtain ⟨⟨⟨⟨⟨a1, a2⟩, a3⟩, a4⟩, a5⟩, a6⟩ := h3
      exact s_par2 (g.cal hh) hN (by rw [g.N]; exact a2) (by rw [g.N]; exact a3) a4 (isLoc_at g a5) (isLoc_at g a6) ha (swp_ok sx.bk (by rw [g.sc]; exact a1)) sw_tup
    · cases h3
  · unfold chkP3 at h3
    split at h3
    · simp only [Bool.and_eq_true, decide_eq_true_eq] at h3
      obtain ⟨⟨⟨⟨⟨⟨⟨⟨⟨a1, a2⟩, a3⟩, a4⟩, a5⟩, a6⟩, a7⟩, a8⟩, a9⟩, a10⟩ := h3
      exact s_par3 (g.cal hh) hN (by rw [g.N]; exact a2) (by rw [g.N]; exact a3) (by rw [g.N]; exact a4) a5 a6 a7 (isLoc_at g a8) (isLoc_at g a9) (isLoc_at g a10) ha (swp_ok sx.bk (by rw [g.sc]; exact a1)) sw_tup
    · cases h3
  · unfold chkPT at h3
    simp only [Bool.and_eq_true, decide_eq_true_eq] at h3
    obtain ⟨⟨⟨a1, a2⟩, a3⟩, a4⟩ := h3
    obtain ⟨b1, b2, b3⟩ := pgs_names g (ts.map (·.1)) tts (by rw [List.length_map]; exact a2) a3
    exact s_parT (g.cal hh) g.K b1 (b2.trans a2.symm) b3 ha (by unfold lim; omega) sw_tup (swp_ok sx.bk (by rw [g.sc]; exact a1))
theorem swl_dec {X : Cx} {elt : Expr} {gs : List Comprehension} {sc : Scope} {pos py : Pos} {y : Str} {l : Nat} (hb : X.env.blockKind = .function) :
    swapsWith (.ListComp elt gs sc pos) (some (.Name y py)) l X.env = pure false ∨ (swapsWith (.ListComp elt gs sc pos) (some (.Name y py)) l X.env = pure true ∧ X.env.scope.names.lookup y = some .local) := by
  have key : swapsWith (.ListComp elt gs sc pos) (some (.Name y py)) l X.env = pure (X.env.blockKind == .function && X.env.kindOf y == some .local && py.line == pos.line && !(sc.names.any fun (n, k) => n == y && (k == .local || k == .cell))) := rfl
  rw [key]
  cases q : (X.env.blockKind == .function && X.env.kindOf y == some .local && py.line == pos.line && !(sc.names.any fun (n, k) => n == y && (k == .local || k == .cell))) with
  | false => exact .inl rfl
  | true =>
    refine .inr ⟨rfl, ?_⟩
    simp only [Bool.and_eq_true] at q
    have := q.1.1.2
    rw [beq_iff_eq] at this
    exact this
end
end Vi

/-! V18: the evaluator's run is the program's: statements. -/
namespace Vi
open PySem PySem.Spec PyProof.Rows L2
section
variable {C : Ct} {cl : Cl} {fu : Nat}
set_option maxHeartbeats 4000000 in
mutual
theorem sS : ∀ (i : IS) {E : En} {k : Kx} {X : Cx} {Wx : WX} {st : Stmt}, Gx C E k Wx X cl → Sx C k X → chkS i k st = true → PS X st (tS C E Wx (fun s => exs cl fu i s))
  | .set i fr e, E, k, X, Wx, st, g, sx, h => by
    unfold chkS at h
    split at h
    · rename_i x px v sp
      simp only [Bool.and_eq_true] at h
      obtain ⟨⟨⟨h1, h2⟩, h3⟩, h4⟩ := h
      obtain ⟨a1, a2, a3, a4⟩ := Kx.st2_at g h1
      have plain : swapsWith v (some (.Name x px)) sp.line X.env = pure false → PS X (.Assign [.Name x px] v sp) (tS C E Wx (fun s => exs cl fu (.set i fr e) s)) := fun hs => s_set a1 a2 a3 a4 ((sE e g h2).to h3) hs
      cases hl : isLc e with
      | false =>
        rw [hl, Bool.false_or] at h4
        exact plain (sw_no h4)
      | true =>
        cases e with
        | lc a tg it c own fz =>
          have h2' := h2
          unfold chkE at h2'
          split at h2'
          · rename_i elt t i' ifs n sc pos
            simp only [Bool.and_eq_true, decide_eq_true_eq, List.all_eq_true] at h2'
            obtain ⟨⟨⟨⟨⟨⟨⟨⟨⟨hh, rfl⟩, b1⟩, b2⟩, b3⟩, b4⟩, b5⟩, b6⟩, b7⟩, b8⟩ := h2'
            rcases swl_dec (elt := elt) (gs := [⟨t, i', ifs, 0⟩]) (sc := sc) (pos := pos) (py := px) (y := x) (l := sp.line) sx.bk with q | ⟨q, ql⟩
            · exact plain q
            · have hown : (own.map fun j => (k.N.getD j Str.empty, j)).map (·.2) = own := by
                rw [List.map_map]; exact List.map_id' own
              have hblk : BlkOk X.N X.env.scope sc (own.map fun j => (k.N.getD j Str.empty, j)) := by
                rw [g.N, g.sc]; exact blkOk_by b3
              have := s_setLc (C := C) (E := E) (Wx := Wx) (fr := fr) (fz := fz) (spos := sp) (g.xa hh) (own := own.map fun j => (k.N.getD j Str.empty, j)) (by rw [hown]; exact b5) (g.cal hh) a1 a2 ql q (sI it false (fun z => by cases z) (Wx := Wx) (tg := t) g b1) hblk (fun s H Cc l fp => sTg (g.blk hh s H sc Cc l fp) b4) (fun s H Cc l fp => sC c (g.blk hh s H sc Cc l fp) b8)
                (fun s H Cc l fp => (sE a (g.blk hh s H sc Cc l fp) b6).st b7) (folded_of b2)
              rw [hown] at this
              exact this
          · cases h2'
        | _ => cases hl
    · cases h
  | .par ts es, E, k, X, Wx, st, g, sx, h => by
    unfold chkS at h
    split at h
    · simp only [Bool.and_eq_true] at h
      obtain ⟨⟨⟨h1, h2⟩, h3⟩, h4⟩ := h
      exact s_pars g sx h1 h2 h3 h4
    · cases h
  | .unp is e, E, k, X, Wx, st, g, sx, h => by
    unfold chkS at h
    split at h
    · simp only [Bool.and_eq_true, decide_eq_true_eq] at h
      obtain ⟨⟨⟨h1, h2⟩, h3⟩, h4⟩ := h
      exact s_unp (sTg g h1) ((sE e g h2).st h3) sw_tup (ss_no h4) rfl
    · cases h
  | .aug i o e, E, k, X, Wx, st, g, sx, h => by
    unfold chkS at h
    split at h
    · simp only [Bool.and_eq_true, decide_eq_true_eq] at h
      obtain ⟨⟨⟨h1, h2⟩, rfl⟩, h4⟩ := h
      obtain ⟨a1, a2, a3, a4⟩ := Kx.st2_at g h1
      exact s_aug h4 a1 a2 a3 a4 (sE e g h2).wk
    · cases h
  | .sto i x e, E, k, X, Wx, st, g, sx, h => by
    unfold chkS at h
    split at h
    · simp only [Bool.and_eq_true, decide_eq_true_eq] at h
      obtain ⟨⟨⟨⟨h1, h2⟩, h3⟩, h4⟩, h5⟩ := h
      exact s_sto (slot_var g h1) (sE x g h2).wk ((sE e g h3).st h4) h5 sw_sub ss_sub
    · cases h
  | .augs i x o e, E, k, X, Wx, st, g, sx, h => by
    unfold chkS at h
    split at h
    · simp only [Bool.and_eq_true, decide_eq_true_eq] at h
      obtain ⟨⟨⟨⟨⟨h1, h2⟩, h3⟩, h4⟩, rfl⟩, h6⟩ := h
      exact s_augs h6 (slot_var g h1) (sE x g h2).wk (sE e g h3).wk h4 g.K
    · cases h
  | .app i e, E, k, X, Wx, st, g, sx, h => by
    unfold chkS at h
    split at h
    · simp only [Bool.and_eq_true, decide_eq_true_eq] at h
      obtain ⟨⟨⟨⟨⟨rfl, h2⟩, h3⟩, h4⟩, h5⟩, h6⟩ := h
      exact s_app (slot_var g h2) ((sE e g h3).st h4) h5 h6
    · cases h
  | .rem i e, E, k, X, Wx, st, g, sx, h => by
    unfold chkS at h
    split at h
    · simp only [Bool.and_eq_true, decide_eq_true_eq] at h
      obtain ⟨⟨⟨⟨⟨rfl, h2⟩, h3⟩, h4⟩, h5⟩, h6⟩ := h
      exact s_rem g.un g.K (slot_var g h2) ((sE e g h3).st h4) h5 h6
    · cases h
  | .ins i a b, E, k, X, Wx, st, g, sx, h => by
    unfold chkS at h
    split at h
    · simp only [Bool.and_eq_true, decide_eq_true_eq] at h
      obtain ⟨⟨⟨⟨⟨⟨⟨⟨rfl, h2⟩, h3⟩, h4⟩, h5⟩, h6⟩, h7⟩, h8⟩, h9⟩ := h
      exact s_ins (slot_var g h2) ((sE a g h3).st h4) ((sE b g h5).st h6) h7 h8 h9
    · cases h
  | .sw2 i x j y es, E, k, X, Wx, st, g, sx, h => by
    unfold chkS at h
    split at h
    · simp only [Bool.and_eq_true] at h
      obtain ⟨⟨⟨⟨⟨⟨⟨⟨hh, h1⟩, h2⟩, h3⟩, h4⟩, h5⟩, h6⟩, h7⟩, h8⟩ := h
      exact s_sw2 (g.cal hh) g.K (slot_var g h1) (sE x g h3).wk (slot_var g h2) (sE y g h4).wk h5 h6 (sEs es _ g h8 h7) (swp_ok sx.bk swp_sub) sw_tup
    · cases h
  | .pop i, E, k, X, Wx, st, g, sx, h => by
    unfold chkS at h
    split at h
    · simp only [Bool.and_eq_true, decide_eq_true_eq] at h
      obtain ⟨⟨rfl, h2⟩, h3⟩ := h
      exact s_pop (slot_var g h2) h3
    · cases h
  | .ret e, E, k, X, Wx, st, g, sx, h => by
    unfold chkS at h
    split at h
    · simp only [Bool.and_eq_true, decide_eq_true_eq] at h
      exact s_ret ((sE e g h.1).st h.2)
    · cases h
  | .retst i, E, k, X, Wx, st, g, sx, h => by
    unfold chkS at h
    split at h
    · simp only [Bool.and_eq_true] at h
      obtain ⟨h1, h2⟩ := h
      split at h1
      · rename_i z
        rw [decide_eq_true_eq] at h1
        subst h1
        exact s_retst (slot_var g h2)
      · cases h1
    · cases h
  | .ife t a b, E, k, X, Wx, st, g, sx, h => by
    unfold chkS at h
    split at h
    · simp only [Bool.and_eq_true] at h
      obtain ⟨⟨⟨h1, h2⟩, h3⟩, h4⟩ := h
      exact s_if (sT t g h1 h2) (sSs a g sx h3) (sSs b g sx h4)
    · cases h
  | .whl t b, E, k, X, Wx, st, g, sx, h => by
    unfold chkS at h
    split at h
    · simp only [Bool.and_eq_true] at h
      obtain ⟨⟨⟨hh, h1⟩, h2⟩, h3⟩ := h
      exact s_while (sx.po hh) (sT t g h1 h2) (sSs b g sx h3) fu
    · cases h
  | .for tg it b, E, k, X, Wx, st, g, sx, h => by
    unfold chkS at h
    split at h
    · rename_i t iter body pos
      simp only [Bool.and_eq_true] at h
      obtain ⟨⟨⟨⟨⟨hh, h1⟩, h2⟩, h3⟩, h4⟩, h5⟩ := h
      cases hp : isPk it with
      | false =>
        rw [hp, Bool.false_or] at h4
        have hst : true = true → ∀ a, it = .seq a → mdE a ≠ .wk := fun _ a e => by
          subst e
          exact of_decide_eq_true h4
        have key := s_for (pos := pos) (sx.po hh) (g.cal hh) (sI it true hst (Wx := Wx) (tg := t) g h2) (sTg g h1) (fun E' hE => sSs b (g.toE hE) sx h5) (folded_of h3)
        refine PS.imp key fun Dn σ H ⟨W, s, r, q⟩ => ⟨W, s, r, ?_⟩
        have e1 : ∀ s', isLck it s' = false := fun s' => by
          cases it with
          | seq a => cases a <;> first | rfl | cases hp
          | _ => rfl
        have e2 : ∀ s', lockOf it s' = none := fun s' => by
          cases it with
          | seq a => cases a <;> first | rfl | cases hp
          | _ => rfl
        simp only [exs] at q
        show SC C E Wx Dn (RE.stm (evi cl it s) _)
        cases qe : evi cl it s with
        | stuck => rw [qe] at q; exact q
        | exc e s => rw [qe] at q; exact q
        | ok xs s' =>
          rw [qe] at q
          simp only [RE.stm, e1, e2] at q
          exact q
      | true =>
        cases it with
        | seq a =>
          cases a with
          | pk i =>
            unfold chkI at h2
            unfold chkE at h2
            split at h2
            · exact s_forPk (sx.po hh) (g.cal hh) (slot_var g h2) (sTg g h1) (fun E' hE => sSs b (g.toE hE) sx h5) g.K
            · cases h2
          | _ => cases hp
        | _ => cases hp
    · cases h
  | .brk, E, k, X, Wx, st, g, sx, h => by
    unfold chkS at h
    split at h
    · exact s_brk
    · cases h
  | .cnt, E, k, X, Wx, st, g, sx, h => by
    unfold chkS at h
    split at h
    · exact s_cnt
    · cases h
  | .pas, E, k, X, Wx, st, g, sx, h => by
    unfold chkS at h
    split at h
    · exact s_pas
    · cases h
  | .rai x c es, E, k, X, Wx, st, g, sx, h => by
    unfold chkS at h
    split at h
    · rename_i y py v l p sp
      simp only [Bool.and_eq_true, decide_eq_true_eq] at h
      obtain ⟨⟨⟨⟨⟨hh, rfl⟩, h1⟩, h2⟩, h3⟩, h4⟩ := h
      obtain ⟨m1, m2⟩ := sx.mkp _ c h1
      obtain ⟨j, r1, r2⟩ := sx.rm hh
      cases es with
      | nil => simp [chkEs] at h3
      | cons a r =>
        have h3' := h3
        simp only [chkEs, Bool.and_eq_true] at h3'
        exact s_rai m1 m2 (g.cal hh) r1 r2 g.tk (g.glb h2) (sEs (.cons a r) _ g (okMs_st h4) h3) rep_st (star_of h3'.1.2) (plain_of h3'.2)
    · cases h
  | .try b x c n u, E, k, X, Wx, st, g, sx, h => by
    unfold chkS at h
    split at h
    · rename_i body y py hn s0 suite p1 sp
      simp only [Bool.and_eq_true, decide_eq_true_eq] at h
      obtain ⟨⟨⟨⟨⟨⟨hh, rfl⟩, h1⟩, h2⟩, h3⟩, h4⟩, h5⟩ := h
      obtain ⟨m1, m2⟩ := sx.ex _ c h1
      have hc : Names X y (.ref (C.clA c)) := ⟨g.glb h2, okN_d h3, .inl m1⟩
      split at h5
      · rename_i i nm
        simp only [Bool.and_eq_true, decide_eq_true_eq] at h5
        obtain ⟨⟨b1, b2⟩, b3⟩ := h5
        exact s_try sx.hs sx.hf (by rw [g.N]; exact g.nd) (by rw [g.N]; exact b1) (isLoc_at g b2) hc g.tk g.K m2 (fun W pn xe tk po => sSs b (g.tr hh tk) (sx.tr po) h4) (fun a oe cls d pn hz hd => sSs u (g.suite i hz hd) (sx.suite i) b3)
      · exact s_try0 sx.hs sx.hf hc g.tk g.K m2 (fun W pn xe tk po => sSs b (g.tr hh tk) (sx.tr po) h4) (fun a oe cls d pn hz hd => sSs u (g.suite 1000000 hz hd) (sx.suite 1000000) h5)
      · cases h5
    · cases h
  | .drp e, E, k, X, Wx, st, g, sx, h => by
    unfold chkS at h
    split at h
    · simp only [Bool.and_eq_true] at h
      exact s_drp (sE e g h.1) (sw_no h.2)
    · cases h
theorem sSs : ∀ (i : ISs) {E : En} {k : Kx} {X : Cx} {Wx : WX} {l : List Stmt}, Gx C E k Wx X cl → Sx C k X → chkSs i k l = true → PSs X l (tS C E Wx (fun s => exss cl fu i s))
  | .nil, E, k, X, Wx, l, g, sx, h => by
    cases l with
    | nil => exact s_nil
    | cons _ _ => simp [chkSs] at h
  | .cons a r, E, k, X, Wx, l, g, sx, h => by
    cases l with
    | nil => simp [chkSs] at h
    | cons st l =>
      simp only [chkSs, Bool.and_eq_true] at h
      exact s_cons (sS a g sx h.1) (sSs r g sx h.2)
end
end
end Vi

/-! V19: every def of the text keeps the evaluator's promise, by the depth of calls. -/
namespace Vi
open PySem PySem.Spec PyProof.Rows L2
structure Df where
  x : Str
  st : Stmt
  N : List Str
  ps : List Str
  f : Fn
structure K0 where
  bn : List Str
  gls : List (Str × D)
  cls : List (Str × Nat)
  lams : List Str := []
def kOf (z : K0) (fns : List (Str × Nat)) (d : Df) : Kx := { N := d.N, sc := defScope d.st, st := (defScope d.st).names, bn := z.bn, fns := fns, gls := z.gls, cls := z.cls, hot := none, lam := decide (d.x ∈ z.lams) }
def fnsOf (ds : List Df) : List (Str × Nat) := ds.map fun d => (d.x, d.ps.length)
def scB (N P : List Str) (sc : Scope) : Bool :=
  decide (sc.kind = .function) && !sc.isCoroutine && !sc.isGenerator && decide N.Nodup && decide (N.take P.length = P) && P.all (fun x => decide (sc.names.lookup x = some .local) || decide (sc.names.lookup x = some .cell)) && sc.names.all (fun y => !decide (y.2 = .free))
theorem scB_ok {N P : List Str} {sc : Scope} (h : scB N P sc = true) : FnScope N P sc := by
  unfold scB at h
  simp only [Bool.and_eq_true, Bool.not_eq_true', decide_eq_true_eq, List.all_eq_true, Bool.or_eq_true, decide_eq_false_iff_not] at h
  obtain ⟨⟨⟨⟨⟨⟨h1, h2⟩, h3⟩, h4⟩, h5⟩, h6⟩, h7⟩ := h
  exact ⟨h1, h2, h3, h4, h5, h6, h7⟩
def chkD (z : K0) (fns : List (Str × Nat)) (d : Df) : Bool := scB d.N d.ps (defScope d.st) && decide (d.f.np = d.ps.length) && decide (d.f.nl = d.N.length) && chkSs d.f.body (kOf z fns d) (defBody d.st)
/-- what the top has written -/
structure Pg (P : Program) (K : PySem.W.Frag) (mg : Str → Option Value) (C : Ct) (z : K0) (ds : List Df) : Prop where
  hK : C.K = K
  fn : ∀ (i : Nat) (d : Df), ds[i]? = some d → mg d.x = some (.ref (C.fA i)) ∧ ∃ fd, Fun K d.x d.x d.st (C.fA i) fd ∧ (∀ us : List Value, us.length = d.ps.length → bindArgs fd ⟨us, []⟩ = pure (d.ps.zip us))
  bl : ∀ x, x ∈ z.bn → mg x = none
  gl : ∀ x d, (x, d) ∈ z.gls → ∃ v u, mg x = some u ∧ RelV v u ∧ ∀ W, Rep C W v d
  xf : ∀ c ∈ C.ok, XfC K (C.clA c) ∧ ∀ n ∈ exFlds c, PySem.W.findIn K (.ref (C.clA c)) n = some none
  ex : ∀ x c, (x, c) ∈ z.cls → (mg x = some (.ref (C.clA c))) ∧ (∀ j ∈ C.ok, PySem.W.exmOne C.K (.ref (C.clA j)) (.ref (C.clA c)) = some (exSub j c))
  mkp : ∀ x c, (x, c) ∈ z.cls → c ∈ C.ok → MkPr C P K mg x c
  okc : ∀ x c, (x, c) ∈ z.cls → c ∈ C.ok
/-- the name that a def's lambda bears -/
def lamQ (x : Str) : Str := (x ++ ".<locals>.") ++ "<lambda>"
/-- the tables of the defs that make lambdas -/
def LamsOk (K : PySem.W.Frag) (mg : Str → Option Value) (C : Ct) (z : K0) (ds : List Df) (base : Heap) : Prop := ∀ (i : Nat) (d : Df), ds[i]? = some d → d.x ∈ z.lams → ∃ c P, LamX.TabB base mg c P ∧ (∀ fd, Fun K d.x d.x d.st (C.fA i) fd → fd.code = .ref c) ∧ (P, lamQ d.x) ∈ C.T ∧ ∀ p ∈ C.T, p.1 = P → p.2 = lamQ d.x
theorem callI_tb {fu : Nat} {ds : List Df} {n j : Nat} {as : List D} {r : Rng} (h : ∀ (i : Nat) (d : Df), ds[i]? = some d → d.f.np = d.ps.length) (q : callI fu (ds.map (·.f)) n j as r ≠ .stuck) : ∃ x, (fnsOf ds)[j]? = some (x, as.length) := by
  cases n with
  | zero => exact absurd rfl q
  | succ n =>
    unfold callI at q
    split at q
    · rename_i f hf
      split at q
      · rename_i hl
        rw [List.getElem?_map] at hf
        cases e : ds[j]? with
        | none => rw [e] at hf; cases hf
        | some d =>
          rw [e] at hf
          simp only [Option.map_some, Option.some.injEq] at hf
          subst hf
          refine ⟨d.x, ?_⟩
          unfold fnsOf
          rw [List.getElem?_map, e, hl, h j d e]; rfl
      · exact absurd rfl q
    · exact absurd rfl q
theorem start_get {N : List Str} {vs : List V} {i : Nat} : (L2.start N vs)[i]? = if i < vs.length then (vs[i]?).map some else if i < N.length then some none else none := by
  unfold L2.start
  by_cases h : i < vs.length
  · rw [if_pos h, List.getElem?_append_left (by simpa using h), List.getElem?_map]
  · rw [if_neg h, List.getElem?_append_right (by simpa using Nat.le_of_not_lt h), List.getElem?_replicate]
    simp only [List.length_map]
    by_cases h2 : i < N.length
    · rw [if_pos h2, if_pos (by omega)]
    · rw [if_neg h2, if_neg (by omega)]
theorem StR.init {C : Ct} {W : Wd} {H : Hp} {N : List Str} {vs : List V} {as : List D} {r : Rng} {np nl : Nat} (g : Same W.G H) (rg : RgR W H r) (hr : Reps C W vs as) (h1 : vs.length = np) (h2 : N.length = nl) (h3 : np ≤ nl) :
    StR C { W := W, H := H } W (L2.start N vs) H (startS np nl as r) := by
  have hl : (L2.start N vs).length = nl := by unfold L2.start; simp; omega
  have noOwn : ∀ i, ¬ OwnAt (startS np nl as r) i := fun i ⟨sl, e, ho⟩ => by
    have e : (as.map Slot.val ++ List.replicate (nl - np) Slot.uns)[i]? = some sl := e
    have := List.mem_of_getElem? e
    rcases List.mem_append.mp this with m | m
    · obtain ⟨d, _, rfl⟩ := List.mem_map.mp m; cases ho
    · rw [List.eq_of_mem_replicate m] at ho; cases ho
  refine ⟨Keep.refl W H, fun b h1 h2 => absurd h1 h2, g, rg, ?_, fun i x h => ?_, fun i j a o => absurd o (noOwn i), fun i a o => absurd o (noOwn i), fun p hp => absurd hp (by simp), Le.refl W⟩
  · rw [hl]
    show nl = (as.map Slot.val ++ List.replicate (nl - np) Slot.uns).length
    have := hr.length
    simp; omega
  · have h : (as.map Slot.val ++ List.replicate (nl - np) Slot.uns)[i]? = some x := h
    by_cases hi : i < as.length
    · rw [List.getElem?_append_left (by simpa using hi), List.getElem?_map] at h
      obtain ⟨d, hd, rfl⟩ : ∃ d, as[i]? = some d ∧ Slot.val d = x := by
        cases e : as[i]? with
        | none => rw [e] at h; cases h
        | some d => rw [e] at h; exact ⟨d, rfl, by injection h⟩
      obtain ⟨v, hv, hvd⟩ := Reps.get hr hd
      refine ⟨v, ?_, hvd⟩
      rw [start_get, if_pos (by rw [hr.length]; exact hi), hv]; rfl
    · rw [List.getElem?_append_right (by simpa using Nat.le_of_not_lt hi)] at h
      have := List.eq_of_mem_replicate (List.mem_of_getElem? h)
      subst this
      trivial
section
variable {P : Program} {w : World} {K : PySem.W.Frag} {mg : Str → Option Value} {base : Heap} {C : Ct} {z : K0} {ds : List Df} {fu : Nat}
theorem fn_all (G : Pg P K mg C z ds) (LO : LamsOk K mg C z ds base) (hchk : ∀ (i : Nat) (d : Df), ds[i]? = some d → chkD z (fnsOf ds) d = true) : ∀ (n i : Nat) (d : Df), ds[i]? = some d →
    ∃ fd, FnOk P w K mg base (L2.CX P w) (n + 2) (C.fA i) fd d.ps (spC C (callI fu (ds.map (·.f)) n) i d.ps.length) ∧ Fun K d.x d.x d.st (C.fA i) fd ∧ (∀ us : List Value, us.length = d.ps.length → bindArgs fd ⟨us, []⟩ = pure (d.ps.zip us))
  | 0, i, d, hd => by
    obtain ⟨_, fd, F, hb⟩ := G.fn i d hd
    refine ⟨fd, ⟨fun vs H Q E h => h.1, fun A outer s H args us vs Q E _ _ _ _ h => ?_⟩, F, hb⟩
    obtain ⟨_, _, _, _, _, _, _, _, h⟩ := h
    exact h.elim
  | n + 1, i, d, hd => by
    obtain ⟨_, fd, F, hb⟩ := G.fn i d hd
    have hc := hchk i d hd
    unfold chkD at hc
    simp only [Bool.and_eq_true, decide_eq_true_eq] at hc
    obtain ⟨⟨⟨c1, c2⟩, c3⟩, c4⟩ := hc
    have S := scB_ok c1
    have hpl : d.ps.length ≤ d.N.length := by have := congrArg List.length S.pre; rw [List.length_take] at this; omega
    have F0 := F
    refine ⟨fd, ?_, F, hb⟩
    obtain ⟨oc, od, kV, doc, pm, an, cdv, ct, osl, rfl, lk, hcd⟩ := F.ex
    refine fn_of lk hcd S (fun vs H Q E h => h.1) fun A outer s H vs Q E hr h => ?_
    obtain ⟨hl, W, as, r, ta, g, rg, hrep, h⟩ := h
    have e1 : callI fu (ds.map (·.f)) (n + 1) i as r = outC (exss (callI fu (ds.map (·.f)) n) fu d.f.body (startS d.f.np d.f.nl as r)) := by
      have e2 : (ds.map (·.f))[i]? = some d.f := by rw [List.getElem?_map, hd]; rfl
      unfold callI
      rw [e2]
      exact if_pos (by rw [← hrep.length, hl, c2])
    rw [e1] at h
    have gx : Gx C { W := W, H := H } (kOf z (fnsOf ds) d) (fun cls dx _ H => E cls dx H) (cxOf (L2.CX P w) P w K mg base d.N d.x (defScope d.st) (C.fA i) cdv A outer s H E) (callI fu (ds.map (·.f)) n) :=
      { N := rfl, nd := S.nd, sc := rfl, K := G.hK.symm, cal := fun _ => rfl, xa := fun _ => rfl, xh := fun q => (by cases q), xf := G.xf,
        un := by have := hr.un; show (A.deeper _).units + 65 < cLine; omega
        bl := G.bl, gl := G.gl
        fn := fun j x m hj => by
          have hj : (fnsOf ds)[j]? = some (x, m) := hj
          unfold fnsOf at hj
          rw [List.getElem?_map] at hj
          cases e : ds[j]? with
          | none => rw [e] at hj; cases hj
          | some d' =>
            rw [e] at hj
            simp only [Option.map_some, Option.some.injEq, Prod.mk.injEq] at hj
            obtain ⟨rfl, rfl⟩ := hj
            obtain ⟨q1, fd', F', _⟩ := G.fn j d' e
            obtain ⟨fd2, f1, _, f2⟩ := fn_all G LO hchk n j d' e
            exact ⟨q1, fd2, d'.ps, n + 2, f1, rfl, hr, F'.kp, .all f2⟩
        tb := fun _ j as r q => callI_tb (fun i d hd => by
          have hc := hchk i d hd
          unfold chkD at hc
          simp only [Bool.and_eq_true, decide_eq_true_eq] at hc
          exact hc.1.1.2) q
        tk := takes_of rfl rfl rfl rfl
        ta := ta
        lm := fun q => by
          obtain ⟨c, P', l1, l2, l3, l4⟩ := LO i d hd (of_decide_eq_true q)
          have l2' := l2 _ F0
          exact ⟨c, P', l1, l2', l3, l4, by have := hr.dp; show (A.deeper _).depth + 8 < _; omega⟩
        st := fun x hx => by
          have hx : (decide ((defScope d.st).names.lookup x = some .local) || decide ((defScope d.st).names.lookup x = some .cell)) = true := hx
          simp only [Bool.or_eq_true, decide_eq_true_eq] at hx
          exact ⟨hx, .inl rfl⟩ }
    have sx : Sx C (kOf z (fnsOf ds) d) (cxOf (L2.CX P w) P w K mg base d.N d.x (defScope d.st) (C.fA i) cdv A outer s H E) :=
      { hs := rfl, hf := rfl
        bk := by
          show (if (defScope d.st).kind.isAnnotationScope then ScopeKind.function else (defScope d.st).kind) = ScopeKind.function
          rw [S.kind]; rfl
        po := fun _ => passes_of rfl
        ex := G.ex, mkp := fun x c q => ⟨G.okc x c q, G.mkp x c q (G.okc x c q)⟩
        rm := fun _ => ⟨n + 2, hr, by omega⟩ }
    refine ⟨_, sSs (fu := fu) d.f.body gx sx c4, W, startS d.f.np d.f.nl as r, StR.init g rg hrep (hl.trans c2.symm) c3.symm (by omega), ?_⟩
    show SC C _ _ _ (exss (callI fu (ds.map (·.f)) n) fu d.f.body (startS d.f.np d.f.nl as r))
    cases q : exss (callI fu (ds.map (·.f)) n) fu d.f.body (startS d.f.np d.f.nl as r) with
    | next s' =>
      rw [q] at h
      exact fun W' σ' H' r' => h W' H' .non r'.kp r'.fr r'.gh r'.rg .non
    | ret d s' =>
      rw [q] at h
      exact fun W' σ' H' v r' hv => h W' H' v r'.kp r'.fr r'.gh r'.rg hv
    | exc e s' =>
      rw [q] at h
      exact fun W' σ' H' cls dx r' hx => h W' H' cls dx r'.kp r'.fr r'.gh r'.rg hx
    | brk s' => rw [q] at h; exact h.elim
    | cnt s' => rw [q] at h; exact h.elim
    | stuck => rw [q] at h; exact h.elim
end
end Vi

set_option maxHeartbeats 4000000
/-! V20: an own error of a class over ValueError whose __init__ says super().__init__(a text + word) and keeps word. -/
namespace Vi
namespace ErrX
open PySem PySem.W PySem.Calls PyProof.Rows PySem.HandSPX
def eA (p1 p2 : Pos) : Arguments := { posonlyargs := [], args := [{ arg := "self", annotation := none, pos := p1 }, { arg := "word", annotation := none, pos := p2 }], vararg := none, kwonlyargs := [], kw_defaults := [], kwarg := none, defaults := [] }
def eM (msg : Str) (q4 q5 q6 : Pos) (n4 : Nat) : Expr := .BinOp (.Constant (.str msg) n4 q4) .Add (.Name "word" q5) q6
def eB (msg : Str) (n4 : Nat) (q1 q2 q3 q4 q5 q6 q7 q8 q9 q10 q11 q12 : Pos) : List Stmt :=
  [.Expr (.Call (.Attribute (.Call (.Name "super" q1) [] [] q2) "__init__" q3) [eM msg q4 q5 q6 n4] [] q7) q8, .Assign [.Attribute (.Name "self" q9) "word" q10] (.Name "word" q11) q12]
def eS : Scope := { kind := .function, names := [(PySem.Str.ofString "self", .local), (PySem.Str.ofString "word", .local), (PySem.Str.ofString "__class__", .free), (PySem.Str.ofString "super", .globalImplicit)], isGenerator := false, isCoroutine := false, more := [] }
theorem call_form {o e : Expr} {name : Str} {apos pos : Pos} {env : Env} (hl : (apos.endLine == pos.line) = true) (hs : starEach [e] env = [(false, eval e env)]) :
    eval (.Call (.Attribute o name apos) [e] [] pos) env = (do
      let ov ← attributeBase o name env (eval o env)
      standAt apos.atName
      let (f, first) ← holding [ov] (getMethod ov name (do return (← importBound o env).getD true))
      callWith pos f first (backTo pos (starEach [e] env)) []) := by
  rw [arm_eval_Call]
  have hf : methodCallForm ([e].length + ([] : List Keyword).length) (backTo pos (starEach [e] env)) (backToKw pos (keywordEach [] env)) = true := by rw [hs]; rfl
  have hpos : methodCallPos true o env apos pos = pure pos := by unfold methodCallPos; simp [hl]
  unfold methodCall
  rw [hf, hpos]
  rfl
structure MiT (K : Frag) (mg : Str → Option Value) (P : Program) (C fI : Addr) : Prop where
  gC : mg "Misstep" = some (.ref C)
  cls : ∃ nm q N bs bm sn sub ab col dd k0 k1 k2 k3 k5, K.lookup C = some (excClassObj nm q C N bs bm true sn sub ab col dd k0 k1 k2 k3 k5 "ValueError.__new__") ∧ refsVE bm = true
  sa : findIn K (.ref C) "__setattr__" = some (some (.builtin "object.__setattr__"))
  noN : findIn K (.ref C) "word" = some none
  iC : findIn K (.ref C) "__init__" = some (some (.ref fI))
  tC : typeIn K (.ref fI) = some (.type "function")
  kC : keepIn K (.ref C) = true
  exC : subIn K (.ref C) (.type "BaseException") = some true
  veC : subIn K (.ref C) (.type "ValueError") = some true
  slf : mroIn K C (.ref C) = some true
  tyC : typeIn K (.ref C) = some (.type "type")
  sup : ks_superIn K C C "__init__" = some (some (.builtin "ValueError.__init__"))
  opq : nsIn K cStatics "thirdparty.any" = some none
  nsu : mg "super" = none
  top : (P.main.scope.names.lookup ("super" : Str)).isSome = false
  fn : ∃ (oc : Value) (od : Option Addr) (kV doc pm : Value) (an : Option Addr) (cda cc : Addr) (ct : Value) (osl : Array (Option Value)) (msg : Str) (n4 : Nat) (p1 p2 q1 q2 q3 q4 q5 q6 q7 q8 q9 q10 q11 q12 : Pos),
    K.lookup fI = some ⟨oc, od, .func (ksFn "__init__" "Misstep.__init__" (eA p1 p2) (eB msg n4 q1 q2 q3 q4 q5 q6 q7 q8 q9 q10 q11 q12) eS .none kV doc pm an (.ref cda) ct cc), osl⟩ ∧ codeIn K (.ref cda) "Misstep.__init__" = true ∧ msg.length ≤ 1000 ∧ (q3.endLine == q7.line) = true ∧
      (∃ ccl cdd vs ccs file tf, K.lookup cda = some ⟨ccl, cdd, .fields vs, ccs⟩ ∧ vs[2]? = some (.str file tf) ∧ ((P.main.file : Str) == file) = true) ∧ (∃ cl cld csl, K.lookup cc = some ⟨cl, cld, .cell (some (.ref C)), csl⟩)
structure InitEnd (h h' : Heap) (x C dx : Addr) (v : Value) : Prop where
  keep : ∀ b o, b ≠ x → h.get? b = some o → h'.get? b = some o
  obj : ∃ t1, h'.get? x = some { cls := .ref C, dict := some dx, data := .fields #[.ref t1, .none, .none, .none, .bool false, .none] }
  dbig : h.objs.size ≤ dx
  dne : dx ≠ x
  ns : h'.Ns1 dx (fun y => if y = "word" then some v else none)
section
variable {P : Program} {w : World} {A : Around} {E : Value → Shared → Prop} {R : Result → Shared → Prop} {s : Shared} {K : Frag} {mg : Str → Option Value} {C fI : Addr}
theorem mi_init (T : MiT K mg P C fI) {x t0 : Addr} {wd : Str} {tw : Tok} (X : K.In s.heap) (hg : s.heap.Ns mainGlobals mg) (hb : ∃ mb, s.heap.Ns builtinsNs mb ∧ ∀ x : Str, x ≠ "__name__" → mb x = bootBuiltins x) (hlim : s.heap.NoLimit)
    (hx : s.heap.get? x = some (excO C t0)) (hnx : K.lookup x = none) (hroom : A.depth < recursionLimit) (hw : wd.length ≤ 1000)
    (hq : ∀ h' tk dx, InitEnd s.heap h' x C dx (.str wd tw) → R (.ok (.ret .none)) { s with heap := h', toks := tk }) :
    codeAny (model P w) A (.call (.ref fI) ⟨[.ref x, .str wd tw], []⟩) R s := by
  obtain ⟨oc, od, kV, doc, pm, an, cda, cc, ct, osl, msg, n4, p1, p2, q1, q2, q3, q4, q5, q6, q7, q8, q9, q10, q11, q12, ho, hcd, hmsg, hline, ⟨ccl, cdd, vs, ccs, file, tf, hcode, hvs, hfile⟩, ⟨cl, cld, csl, hcell⟩⟩ := T.fn
  obtain ⟨nm, q, N, bs, bm, sn, sub, ab, col, dd, k0, k1, k2, k3, k5, hC, hbm⟩ := T.cls
  obtain ⟨mb, hb1, hb2⟩ := hb
  have hcl : clsIn K C = some { name := nm, bases := bs, mro := .ref C :: bm, ns := N, qualname := q, hasDict := true, slotNames := sn, subclasses := sub, abstract := ab, collection := col, hasDel := false } := by unfold clsIn; rw [hC] <;> rfl
  refine ks_codeAny_call_defAt (fd := ksFn "__init__" "Misstep.__init__" (eA p1 p2) (eB msg n4 q1 q2 q3 q4 q5 q6 q7 q8 q9 q10 q11 q12) eS .none kV doc pm an (.ref cda) ct cc) (body := eB msg n4 q1 q2 q3 q4 q5 q6 q7 q8 q9 q10 q11 q12) (binds := [("self", .ref x), ("word", .str wd tw)]) hroom (X _ _ ho) rfl hlim (codeRec_of X hcd) rfl
    (BindsTo.of_eq (by first | rfl | with_unfolding_all rfl)) (show ∀ x ∈ eS.names, x.2 ≠ .cell by decide) (by intro y hy; rcases List.mem_cons.mp hy with rfl | hy; exact rfl; rcases List.mem_cons.mp hy with rfl | hy; exact rfl; cases hy) (fun h₁ hns hk₁ => ?_) rfl rfl rfl
  obtain ⟨hp, g, d, tk, os⟩ := s
  have X₁ : K.In h₁ := X.keeps hk₁
  have hx₁ := hk₁ _ _ hx
  have hD1 := X₁ _ _ hC
  show _root_.PySem.wpAt (model P w) _ _ (execs _ (ksEnv "Misstep.__init__" eS hp.objs.size fI (.ref cda) cc)) _ _ _
  refine ks_wpAt_execs_cons (ks_wpAt_Expr_any (ks_wpAt_MethodCall ?_ (call_form hline rfl)))
  refine ks_wpAt_super_base (env := ksEnv "Misstep.__init__" eS hp.objs.size fI (.ref cda) cc) rfl rfl (by decide) rfl (X₁ _ _ ho) rfl rfl rfl (X₁ _ _ hcode) rfl hvs hfile T.top ?_
  refine ks_loadName_global rfl rfl (loadGlobal_builtin (env := ksEnv "Misstep.__init__" eS hp.objs.size fI (.ref cda) cc) (hg.keeps hk₁) T.nsu (hb1.keeps hk₁) ((hb2 _ (by decide +kernel)).trans (by decide +kernel)) ⟨rfl, ?_⟩)
  refine wpAny_loadName_free rfl rfl rfl ⟨_, X₁ _ _ hcell, rfl⟩ ?_
  refine wpAny_loadName_local rfl rfl hns rfl ?_
  refine ks_wpAny_isType_cls hD1 rfl ⟨rfl, ?_⟩
  refine ks_wpAny_call_super hD1 rfl hx₁ rfl (fun c e => by cases e) (looks_mroIn X₁ T.slf) (fun h₂ hso k₂ => ?_)
  have X₂ : K.In h₂ := X₁.keeps k₂
  have hx₂ := k₂ _ _ hx₁
  have hcx : x ≠ C := fun z => by rw [z] at hnx; rw [hnx] at hC; cases hC
  have hI : Looks (model P w) h₂ (isInstance (.ref x) (.type "ValueError")) true := (InstAt.type (od := none) ⟨hx₂, rfl, rfl, trivial⟩).andThen (looks_subIn X₂ T.veC)
  have hsup : alongIn K "__init__" (((.ref C :: bm : List Value).dropWhile (· != .ref C)).drop 1) = some (some (.builtin "ValueError.__init__")) := by
    have := T.sup
    unfold ks_superIn at this
    rw [hcl] at this
    exact this
  refine kxs_getMethod kxs_ValueError hso (looks_opaque X₂ T.opq) (l₀ := .ref C :: bm) ?_ rfl X₂ hsup hI hcx (by decide) ?_
  · exact fun A Q E s k q => wpAny_bind ((looks_clsIn X₂ hcl) A _ E s k (wpAny_pure q))
  have up : ∀ b o, h₂.get? b = some o → (h₂.push (kxs_mw "ValueError.__init__" x)).get? b = some o := fun b o e => Heap.get?_push_of_some _ e
  have hu : (h₂.push (kxs_mw "ValueError.__init__" x)).get? h₂.objs.size = some (kxs_mw "ValueError.__init__" x) := Heap.get?_push_at rfl rfl
  show wpAny (model P w) _ (callWith _ (.ref h₂.objs.size) [] ((false, _) :: []) []) _ _ _
  refine kxs_callWith (i := "ValueError.__init__") (u := h₂.objs.size) (x := x) rfl (evalArgs_plain ?_)
  have hns₃ : (h₂.push (kxs_mw "ValueError.__init__" x)).Ns hp.objs.size (fun y => ([("self", .ref x), ("word", .str wd tw)] : List (Str × Value)).reverse.lookup y) := (hns.keeps k₂).keeps up
  refine spliced_cons (wpAny_BinOp (Constant_str (wpAny_Name (wpAny_loadName_local rfl rfl hns₃ rfl (PySem.SB.add (fun t' tk' => spliced_nil ⟨hu, ?_⟩) ?_)) (by decide))))
  rotate_left
  · rw [sizeLine_eq]; omega
  have hx₃ := up _ _ hx₂
  have X₃ : K.In _ := X₂.keeps up
  have hC₃ := X₃ _ _ hC
  have FB := F.excBase_ValueError
  refine wpAny_call (codeAny_of_tree ?_)
  show wpAny _ (Around.in1 _) (callAny (.ref h₂.objs.size) ⟨[_], []⟩) _ _ _
  simp only [callAny]
  refine wpAny_bind (wpAny_load hu ?_)
  simp only [kxs_mw, show (Value.type "method-wrapper" == Value.type "method" || Value.type "method-wrapper" == Value.type "builtin_function_or_method" || Value.type "method-wrapper" == Value.type "method-wrapper") = true by decide, if_true]
  refine KFB.if_so (by decide) ?_
  refine wpAny_bind (check_bound_init FB.toExcCallFacts hC₃ hx₃ rfl ?_)
  refine wpAny_bind (wpAny_pure (wpAny_pure ?_))
  refine ⟨plainId_quiet FB.init.plain _, codeAny_builtin FB.initEntry ?_⟩
  refine exc_init_tree (cls := .ref C) (t0 := t0) (dv := none) (c2 := .none) (c3 := .none) (b4 := .bool false) hx₃ (by rw [sizeLine_eq]; show 1 ≤ 16777216; decide) (fun h₄ k₄ hx₄ _ => ?_)
  show _root_.PySem.wpAt (model P w) _ _ (execs [_] (ksEnv "Misstep.__init__" eS hp.objs.size fI (.ref cda) cc)) _ _ _
  have xl : hp.objs.size ≠ x := Nat.ne_of_gt (Heap.lt_size hx)
  have hns₄ : h₄.Ns hp.objs.size (fun y => ([("self", .ref x), ("word", .str wd tw)] : List (Str × Value)).reverse.lookup y) := by
    obtain ⟨oL, es, ep, hL, r⟩ := hns₃
    exact ⟨oL, es, ep, k₄ _ _ xl hL, r⟩
  have X₄ : K.In h₄ := fun a o e => k₄ a o (fun z => by rw [z, hnx] at e; cases e) (X₃ a o e)
  refine wpAt_of_wpAny (wpAny_execs_cons (plainObj_wpAny_Assign_Attribute ?_))
  refine wpAny_Name (wpAny_loadName_local rfl rfl hns₄ rfl ?_) (by decide)
  refine wpAny_Name (wpAny_loadName_local rfl rfl hns₄ rfl ?_) (by decide)
  refine set_plain X₄ (od := none) ⟨hx₄, rfl, rfl, trivial⟩ T.sa ?_
  refine exc_osa X₄ hx₄ hcl (show refsVE (.ref C :: bm) = true from hbm) rfl T.noN (fun h₅ tk₅ dx k₅ dn dne hx₅ hn₅ => ?_)
  show wpAny _ _ (execs _ _) _ _ _
  have z : hp.objs.size < h₄.objs.size := hns₄.lt
  exact wpAny_execs_nil (hq h₅ tk₅ dx ⟨fun b o hb e => k₅ b o hb (k₄ b o hb (up _ _ (k₂ _ _ (hk₁ _ _ e)))), ⟨_, hx₅⟩, Nat.le_of_lt (Nat.lt_of_lt_of_le z dn), dne, hn₅⟩)
structure OwnMade (h h' : Heap) (e C d : Addr) (v : Value) : Prop where
  keep : ∀ b o, h.get? b = some o → h'.get? b = some o
  new : h.objs.size ≤ e
  obj : ∃ oe vs, h'.get? e = some oe ∧ oe.cls = .ref C ∧ oe.dict = some d ∧ oe.data = .fields vs ∧ vs[1]? = some .none
  dbig : h.objs.size ≤ d
  dne : d ≠ e
  ns : h'.Ns1 d (fun y => if y = "word" then some v else none)
theorem mi_made (T : MiT K mg P C fI) {wd : Str} {tw : Tok} (X : K.In s.heap) (hg : s.heap.Ns mainGlobals mg) (hb : ∃ mb, s.heap.Ns builtinsNs mb ∧ ∀ x : Str, x ≠ "__name__" → mb x = bootBuiltins x) (hlim : s.heap.NoLimit) (hroom : A.depth + 1 < recursionLimit) (hw : wd.length ≤ 1000)
    (hq : ∀ h' tk e d, OwnMade s.heap h' e C d (.str wd tw) → R (.ok (.ret (.ref e))) { s with heap := h', toks := tk }) :
    codeAny (model P w) A (.call (.ref C) ⟨[.str wd tw], []⟩) R s := by
  obtain ⟨nm, q, N, bs, bm, sn, sub, ab, col, dd, k0, k1, k2, k3, k5, hC, hbm⟩ := T.cls
  obtain ⟨hp, g, dr, tk, os⟩ := s
  have k : ∀ b o, hp.get? b = some o → ((hp.push (kdv_tup [.str wd tw])).push (excO C hp.objs.size)).get? b = some o := fun b o e => Heap.get?_push_of_some _ (Heap.get?_push_of_some _ e)
  have hget : ((hp.push (kdv_tup [.str wd tw])).push (excO C hp.objs.size)).get? (hp.objs.size + 1) = some (excO C hp.objs.size) := by heap_get
  have hnx : K.lookup (hp.objs.size + 1) = none := by
    cases e : K.lookup (hp.objs.size + 1) with
    | none => rfl
    | some o =>
      have z : hp.get? (hp.objs.size + 1) = some o := X _ _ e
      exact absurd (Nat.lt_of_succ_lt (Heap.lt_size z)) (Nat.lt_irrefl _)
  refine call_own F.excBase_ValueError (fun X => refsVE_contains X bm hbm) (X _ _ hC) (looks_findIn X T.iC) (fun self => bind_fn X self T.tC) (by rw [sizeLine_eq]; show 1 ≤ 16777216; decide) ?_
  refine mi_init (s := ⟨(hp.push (kdv_tup [.str wd tw])).push (excO C hp.objs.size), g, dr, tk, os⟩) T (X.keeps k) (hg.keeps k) (let ⟨mb, b1, b2⟩ := hb; ⟨mb, b1.keeps k, b2⟩) (hlim.keeps k) hget hnx ?_ hw fun h' tk' dx ⟨k', ⟨t1, hx⟩, dn, dne, hns⟩ => ?_
  · show A.depth + 1 < recursionLimit
    exact hroom
  · have old : ∀ b o, hp.get? b = some o → h'.get? b = some o := fun b o e => k' b o (Nat.ne_of_lt (Nat.lt_succ_of_lt (Heap.lt_size e))) (k b o e)
    have z : hp.objs.size + 1 + 1 ≤ dx := by
      first
        | (simpa only [Heap.size_push] using dn)
        | exact dn
        | (have q := dn; rw [Heap.size_push, Heap.size_push] at q; exact q)
    exact ⟨rfl, hq h' tk' (hp.objs.size + 1) dx ⟨old, Nat.le_succ _, ⟨_, _, hx, rfl, rfl, rfl, rfl⟩, Nat.le_trans (Nat.le_trans (Nat.le_succ _) (Nat.le_succ _)) z, dne, hns⟩⟩
end
end ErrX
section
open PySem PySem.Spec PyProof.Rows L2
theorem relO_word {v : V} {v' : Value} (r : RelV v v') (f : Str) : RelO (((exFlds 2).zip [v]).lookup f) (if f = "word" then some v' else none) := by
  show RelO (List.lookup f [(("word" : Str), v)]) _
  by_cases hw : f = "word"
  · subst hw
    rw [if_pos rfl]
    have q : List.lookup ("word" : Str) [(("word" : Str), v)] = some v := by simp [List.lookup]
    rw [q]
    exact r
  · rw [if_neg hw]
    have qw : (f == ("word" : Str)) = false := by simpa using hw
    have q2 : List.lookup f [(("word" : Str), v)] = none := by simp [List.lookup, qw]
    rw [q2]
    trivial
/-- Misstep(word) is made as promised -/
theorem mkpr_misstep {C : Ct} {P : Program} {K : PySem.W.Frag} {mg : Str → Option Value} {fI : Addr} (T : ErrX.MiT K mg P (C.clA 2) fI) : MkPr C P K mg "Misstep" 2 := by
  intro X es e ta p pos j hP hK hmg hc hr hj hg ha he hpl
  subst hP hK hmg
  intro pins s σ H Q I h
  refine wpAny_Call_Name_kw (ld_glob I hg T.gC ?_)
  refine PySem.W.callWith_K (h₀ := X.base) I.ok.mod.kin T.kC (thn (ha.run pos pins s σ H _ I h) fun us s1 hh => ?_) he hpl
  obtain ⟨vs, H1, I1, r1, ⟨W, ds, hrep, hok⟩, q1⟩ := hh
  refine ⟨I1.kIn, ?_⟩
  unfold exOk at hok
  split at hok
  · rename_i z hz; cases hz
  · rename_i wd _
    rw [decide_eq_true_eq] at hok
    cases hrep with
    | cons a b =>
      cases b
      cases a
      cases r1 with
      | cons rv rn =>
        cases rn
        obtain ⟨tw, rfl⟩ := rv
        show wpAny _ _ (call (.ref (C.clA 2)) [.str wd tw]) _ _ _
        have hlim := I1.nolimit
        have hgl := I1.ok.mod.glob.keeps I1.bk
        obtain ⟨mb, b1, b2⟩ := I1.ok.mod.blt
        have hbl : ∃ mb, s1.heap.Ns builtinsNs mb ∧ ∀ x : Str, x ≠ "__name__" → mb x = bootBuiltins x := ⟨mb, b1.keeps I1.bk, b2⟩
        obtain ⟨hp, g, dr, tk, os⟩ := s1
        refine wpAny_call (ErrX.mi_made T I1.kIn hgl hbl hlim (by have := hr.dp; omega) hok fun h' tk' e d M => ?_)
        show MkP X pins σ Q (.ref e) ⟨h', g, dr, tk', os⟩
        obtain ⟨oe, fv, hoe, hcl, hd, hdat, h1⟩ := M.obj
        have hns := M.ns
        obtain ⟨G', g1, g2⟩ := restrict h' fun b => decide (b ≠ e)
        have gk : ∀ b, b ≠ e → G'.get? b = h'.get? b := fun b hb => g1 b (decide_eq_true hb)
        have ge : G'.get? e = none := g2 e (by simp)
        have old : ∀ b o, hp.get? b = some o → G'.get? b = some o := fun b o q => (gk b (Nat.ne_of_lt (Nat.lt_of_lt_of_le (Heap.lt_size q) M.new))).trans (M.keep b o q)
        have ob : ObjOk X.prog X.w (upd H1 d (.xd ((exFlds 2).zip [V.str wd]))) G' d (.xd ((exFlds 2).zip [V.str wd])) :=
          ⟨_, hns.at (fun o q => (gk d M.dne).trans q), fun f => relO_word (v := V.str wd) ⟨tw, rfl⟩ f⟩
        have J : Inv X pins σ (upd H1 d (.xd ((exFlds 2).zip [V.str wd]))) ⟨G', g, dr, tk', os⟩ := I1.laid (t' := tk') old M.dbig ob
        refine ⟨e, oe, fv, ⟨G', g, dr, tk', os⟩, _, .ref (C.clA 2), some d, rfl, J, fun b o q => ?_, ge, hoe, ⟨hcl, hd⟩, hdat, h1, ?_, rfl, I1.bare, raises_own T.exC T.tyC, q1 d (I1.hok.fresh M.dbig)⟩
        · by_cases hb : b = e
          · have q' : G'.get? b = some o := q
            rw [hb, ge] at q'; cases q'
          · exact (gk b hb).symm.trans q
        · rw [upd_ne (Ne.symm M.dne)]
          exact I1.hok.fresh M.new
  · rename_i z hz; cases hz
  · cases hok
end
end Vi

/-! V21: the end of a law. -/
namespace Vi
open PySem PySem.Spec PyProof.Rows L2
/-- a def as the top has written it, at f -/
def DefAt (K : PySem.W.Frag) (mg : Str → Option Value) (d : Df) (f : Addr) : Prop := mg d.x = some (.ref f) ∧ ∃ fd, Fun K d.x d.x d.st f fd ∧ ∀ us : List Value, us.length = d.ps.length → bindArgs fd ⟨us, []⟩ = pure (d.ps.zip us)
inductive DefsAt (K : PySem.W.Frag) (mg : Str → Option Value) : List Df → List Addr → Prop
  | nil : DefsAt K mg [] []
  | cons {d : Df} {ds : List Df} {f : Addr} {fs : List Addr} : DefAt K mg d f → DefsAt K mg ds fs → DefsAt K mg (d :: ds) (f :: fs)
theorem DefsAt.at {K : PySem.W.Frag} {mg : Str → Option Value} : ∀ {ds : List Df} {fs : List Addr}, DefsAt K mg ds fs → ∀ (i : Nat) (d : Df), ds[i]? = some d → DefAt K mg d (fs.getD i 0)
  | _, _, .nil, i, d, h => by simp at h
  | _, _, .cons a b, 0, d, h => by
    simp only [List.getElem?_cons_zero, Option.some.injEq] at h
    subst h; exact a
  | _, _, .cons a b, i + 1, d, h => DefsAt.at b i d (by simpa using h)
theorem defAt_mk {K : PySem.W.Frag} {h : Heap} {mg : Str → Option Value} (X : K.In h) (G : h.Ns mainGlobals mg) {d : Df} {x : Str} {st : Stmt} {f : Addr} {oc : Value} {od an : Option Addr} {osl : Array (Option Value)} {kV doc pm cdv ct : Value} (hx : d.x = x) (hst : d.st = st)
    (a : PySem.W.nsIn K mainGlobals x = some (some (.ref f))) (l : K.lookup f = some ⟨oc, od, .func (PySem.W.fnOf x x (defArgs st) (defBody st) (defScope st) .none kV doc pm an cdv ct), osl⟩)
    (c : PySem.W.codeIn K cdv x = true) (k : PySem.W.keepIn K (.ref f) = true) (hb : ∀ (kV doc pm : Value) (an : Option Addr) (cdv ct : Value) (us : List Value), us.length = d.ps.length → bindArgs (PySem.W.fnOf x x (defArgs st) (defBody st) (defScope st) .none kV doc pm an cdv ct) ⟨us, []⟩ = pure (d.ps.zip us)) : DefAt K mg d f := by
  subst hx hst
  exact ⟨PySem.W.mg_of X G a, _, fun_mk l c k, fun us hl => hb _ _ _ _ _ _ us hl⟩
inductive BltsAt (mg : Str → Option Value) : List Str → Prop
  | nil : BltsAt mg []
  | cons {x : Str} {r : List Str} : mg x = none → BltsAt mg r → BltsAt mg (x :: r)
theorem BltsAt.at {mg : Str → Option Value} : ∀ {l : List Str}, BltsAt mg l → ∀ x, x ∈ l → mg x = none
  | _, .nil, x, h => by cases h
  | _, .cons a b, x, h => by
    rcases List.mem_cons.mp h with rfl | h
    · exact a
    · exact BltsAt.at b x h
def GlAt (C : Ct) (mg : Str → Option Value) (x : Str) (d : D) : Prop := ∃ v u, mg x = some u ∧ RelV v u ∧ ∀ W, Rep C W v d
inductive GlsAt (C : Ct) (mg : Str → Option Value) : List (Str × D) → Prop
  | nil : GlsAt C mg []
  | cons {x : Str} {d : D} {r : List (Str × D)} : GlAt C mg x d → GlsAt C mg r → GlsAt C mg ((x, d) :: r)
theorem GlsAt.at {C : Ct} {mg : Str → Option Value} : ∀ {l : List (Str × D)}, GlsAt C mg l → ∀ x d, (x, d) ∈ l → GlAt C mg x d
  | _, .nil, x, d, h => by cases h
  | _, .cons a b, x, d, h => by
    rcases List.mem_cons.mp h with h | h
    · cases h; exact a
    · exact GlsAt.at b x d h
theorem exm_self {K : PySem.W.Frag} {S : Addr} (h1 : PySem.W.subIn K (.ref S) (.type "BaseException") = some true) (h2 : PySem.W.isClsIn K S = true) (h3 : PySem.W.typeIn K (.ref S) = some (.type "type")) (h4 : PySem.W.subIn K (.ref S) (.ref S) = some true) :
    PySem.W.exmOne K (.ref S) (.ref S) = some true := by
  have e1 : (PySem.W.subIn K (.ref S) (.type "BaseException") == some true) = true := by rw [h1] <;> rfl
  have e2 : ((PySem.W.clsIn K S).isSome && PySem.W.typeIn K (.ref S) == some (.type "type")) = true := by
    have h2' : (PySem.W.clsIn K S).isSome = true := h2
    rw [h2', h3] <;> rfl
  show (if (PySem.W.subIn K (.ref S) (.type "BaseException") == some true) = true then (if ((PySem.W.clsIn K S).isSome && PySem.W.typeIn K (.ref S) == some (.type "type")) = true then PySem.W.subIn K (.ref S) (.ref S) else none) else none) = some true
  rw [if_pos e1, if_pos e2]
  exact h4
theorem fun_one {K : PySem.W.Frag} {x q : Str} {st : Stmt} {f : Addr} {fd fd' : FuncData} (a : Fun K x q st f fd) (b : Fun K x q st f fd') : fd = fd' := by
  obtain ⟨_, _, _, _, _, _, _, _, _, _, l1, _⟩ := a.ex
  obtain ⟨_, _, _, _, _, _, _, _, _, _, l2, _⟩ := b.ex
  rw [l1] at l2
  injection l2 with l2
  injection l2 with _ _ l2 _
  injection l2
/-- what the law's def promises of a script -/
def spL (K : PySem.W.Frag) : Sp := fun vs H Q _ => ∃ (a : Addr) (ns : List Int), vs = [.ref a] ∧ ns.length ≤ 63 ∧ SqL K H a (ns.map V.int) ∧ ∀ H', Q (.bl true) H'
def ctT (K : PySem.W.Frag) (fs : List Addr) (aM : Addr) (T : List (Addr × Str)) : Ct := { K := K, fA := fun i => fs.getD i 0, clA := fun _ => aM, ok := [2], T := T }
abbrev ctM (K : PySem.W.Frag) (fs : List Addr) (aM : Addr) : Ct := ctT K fs aM []
/-- the same with tables of code objects -/
def spLT (K : PySem.W.Frag) (T : List (Addr × Str)) : Sp := fun vs H Q _ => ∃ (a : Addr) (ns : List Int), vs = [.ref a] ∧ ns.length ≤ 63 ∧ LamX.Tabs T H ∧ SqL K H a (ns.map V.int) ∧ ∀ H', Q (.bl true) H'
/-- the heap without tables -/
def noTbl (H : Hp) : Hp := fun b => match H b with
  | some (.tbl _) => none
  | o => o
theorem noTbl_same (H : Hp) : Same (noTbl H) H := fun b o h => by
  unfold noTbl at h
  split at h
  · cases h
  · exact h
theorem noTbl_at {H : Hp} {b : Addr} {o : HO} (h : H b = some o) (n : Nt o) : noTbl H b = some o := by
  unfold noTbl
  split
  · rename_i ps e
    rw [h] at e
    injection e with e
    exact absurd e (n ps)
  · exact h
theorem noTbl_sq {K : PySem.W.Frag} {H : Hp} {a : Addr} {xs : List V} (h : SqL K H a xs) : SqL K (noTbl H) a xs := by
  rcases h with (h | ⟨o, h⟩) | h
  · exact .inl (.inl (noTbl_at h (nt_lst _)))
  · exact .inl (.inr ⟨o, noTbl_at h (fun ps z => by cases z)⟩)
  · exact .inr h
theorem law_endT {T0 : List (Addr × Str)} {cs : List (Addr × Addr)} {P : Program} {w : World} {K : PySem.W.Frag} {h : Heap} {mg : Str → Option Value} {fa : Addr} {ds : List Df} {z : K0} {fs : List Addr} {aM fI : Addr} {li : Nat} {dl : Df} {x : Str} (X : K.In h) (G : h.Ns mainGlobals mg) (hfa : mg dl.x = some (.ref fa))
    (D : DefsAt K mg ds fs) (B : BltsAt mg z.bn) (GL : GlsAt (ctT K fs aM T0) mg z.gls) (LO : ∀ base : Heap, (∀ p ∈ cs, LamX.TabB base mg p.1 p.2) → LamsOk K mg (ctT K fs aM T0) z ds base) (hz : z.cls = [(("Misstep" : Str), 2)]) (T : ErrX.MiT K mg P aM fI)
    (ga : PySem.W.findIn K (.ref aM) "__getattribute__" = some (some (.builtin "BaseException.__getattribute__"))) (gg : PySem.W.findIn K (.ref aM) "__getattr__" = some none) (hd : PySem.W.hasDictIn K aM = true) (iC : PySem.W.isClsIn K aM = true) (sC : PySem.W.subIn K (.ref aM) (.ref aM) = some true)
    (hchk : ds.all (chkD z (fnsOf ds)) = true) (hli : ds[li]? = some dl) (hps : dl.ps = [x]) (n fu : Nat) (hlaw : ∀ ns : List Int, ns.length ≤ 63 → ∃ r, callI fu (ds.map (·.f)) n li [.scr ns] none = .ok (.bl true) r) :
    ∃ fd : FuncData, (∀ (s : Shared) (u : Value), BindsTo s fd ⟨[u], []⟩ [(x, u)]) ∧ ∀ base : Heap, K.In base → base.Ns mainGlobals mg → (∀ p ∈ cs, LamX.TabB base mg p.1 p.2) → FnOk P w K mg base (L2.CX P w) (n + 2) fa fd [x] (spLT K T0) := by
  have pg : Pg P K mg (ctT K fs aM T0) z ds :=
    { hK := rfl
      fn := fun i d hd => let ⟨a, fd, F, hb⟩ := D.at i d hd; ⟨a, fd, F, hb⟩
      bl := B.at
      gl := GL.at
      xf := fun c hc => by
        obtain rfl : c = 2 := by simpa [ctT] using hc
        refine ⟨⟨ga, gg, T.exC, hd⟩, fun n hn => ?_⟩
        obtain rfl : n = "word" := by simpa [exFlds] using hn
        exact T.noN
      ex := fun x c hx => by
        rw [hz] at hx
        obtain ⟨rfl, rfl⟩ : x = "Misstep" ∧ c = 2 := by simpa using hx
        refine ⟨T.gC, fun j hj => ?_⟩
        obtain rfl : j = 2 := by simpa [ctT] using hj
        exact exm_self T.exC iC T.tyC sC
      mkp := fun x c hx _ => by
        rw [hz] at hx
        obtain ⟨rfl, rfl⟩ : x = "Misstep" ∧ c = 2 := by simpa using hx
        exact mkpr_misstep (fI := fI) T
      okc := fun x c hx => by
        rw [hz] at hx
        obtain ⟨rfl, rfl⟩ : x = "Misstep" ∧ c = 2 := by simpa using hx
        exact List.mem_singleton.mpr rfl }
  have hc : ∀ (i : Nat) (d : Df), ds[i]? = some d → chkD z (fnsOf ds) d = true := fun i d hd => by
    rw [List.all_eq_true] at hchk
    exact hchk d (List.mem_of_getElem? hd)
  obtain ⟨a0, _⟩ := D.at li dl hli
  have e0 : (ctT K fs aM T0).fA li = fa := by
    have := hfa.symm.trans a0
    injection this with this
    injection this with this
    exact this.symm
  -- the binding is the text's alone
  obtain ⟨_, fd, F, hb⟩ := pg.fn li dl hli
  refine ⟨fd, fun s u => ?_, fun base _ _ hB => ?_⟩
  · have := hb [u] (by rw [hps]; rfl)
    rw [hps] at this
    exact .of_eq this
  · obtain ⟨fd2, f1, F2, _⟩ := fn_all (P := P) (w := w) (base := base) (fu := fu) pg (LO base hB) hc n li dl hli
    obtain rfl := fun_one F F2
    rw [e0, hps] at f1
    refine f1.imp fun vs H Q E hs => ?_
    obtain ⟨a, ns, rfl, hl, ht, hq, k⟩ := hs
    obtain ⟨r, hr⟩ := hlaw ns hl
    refine ⟨rfl, ⟨noTbl H, none, T0⟩, [.scr ns], none, ⟨rfl, ht, fun p hp => ?_⟩, noTbl_same H, rfl, .cons (.scr (noTbl_sq hq)) .nil, ?_⟩
    · obtain ⟨ps, h1, _⟩ := ht p hp
      show noTbl H p.1 = none
      unfold noTbl; rw [h1]
    rw [hr]
    intro W' H' v _ _ _ _ hv
    cases hv
    exact k H'
theorem law_end {P : Program} {w : World} {K : PySem.W.Frag} {h : Heap} {mg : Str → Option Value} {fa : Addr} {ds : List Df} {z : K0} {fs : List Addr} {aM fI : Addr} {li : Nat} {dl : Df} {x : Str} (X : K.In h) (G : h.Ns mainGlobals mg) (hfa : mg dl.x = some (.ref fa))
    (D : DefsAt K mg ds fs) (B : BltsAt mg z.bn) (GL : GlsAt (ctM K fs aM) mg z.gls) (hz : z.cls = [(("Misstep" : Str), 2)]) (hl0 : z.lams = []) (T : ErrX.MiT K mg P aM fI)
    (ga : PySem.W.findIn K (.ref aM) "__getattribute__" = some (some (.builtin "BaseException.__getattribute__"))) (gg : PySem.W.findIn K (.ref aM) "__getattr__" = some none) (hd : PySem.W.hasDictIn K aM = true) (iC : PySem.W.isClsIn K aM = true) (sC : PySem.W.subIn K (.ref aM) (.ref aM) = some true)
    (hchk : ds.all (chkD z (fnsOf ds)) = true) (hli : ds[li]? = some dl) (hps : dl.ps = [x]) (n fu : Nat) (hlaw : ∀ ns : List Int, ns.length ≤ 63 → ∃ r, callI fu (ds.map (·.f)) n li [.scr ns] none = .ok (.bl true) r) :
    ∃ fd : FuncData, (∀ (s : Shared) (u : Value), BindsTo s fd ⟨[u], []⟩ [(x, u)]) ∧ ∀ base : Heap, K.In base → base.Ns mainGlobals mg → FnOk P w K mg base (L2.CX P w) (n + 2) fa fd [x] (spL K) := by
  obtain ⟨fd, h1, h2⟩ := law_endT (T0 := []) (cs := []) X G hfa D B GL (fun base _ i d _ hm => by rw [hl0] at hm; cases hm) hz T ga gg hd iC sC hchk hli hps n fu hlaw
  refine ⟨fd, h1, fun base a b => (h2 base a b fun p hp => by cases hp).imp fun vs H Q E hs => ?_⟩
  obtain ⟨a, ns, e, hl, hq, k⟩ := hs
  exact ⟨a, ns, e, hl, (fun p hp => by cases hp), hq, k⟩
theorem noX {P : Program} (w : World) (H : Hp) (s : Shared) (e : Value) (s' : Shared) (h : L2.CX P w [] H s (fun _ _ _ => False) e s') : False := by
  obtain ⟨_, _, _, _, _, _, _, _, _, _, _, _, z⟩ := h
  exact z.elim
theorem gl_int {K : PySem.W.Frag} {h : Heap} {mg : Str → Option Value} {C : Ct} {x : Str} {n : Int} {tk : Tok} (X : K.In h) (G : h.Ns mainGlobals mg) (b : PySem.W.nsIn K mainGlobals x = some (some (.int n tk))) : GlAt C mg x (.int n) := ⟨.int n, _, PySem.W.mg_of X G b, ⟨_, rfl⟩, fun W => .int n⟩
theorem gl_str {K : PySem.W.Frag} {h : Heap} {mg : Str → Option Value} {C : Ct} {x : Str} {n : Str} {tk : Tok} (X : K.In h) (G : h.Ns mainGlobals mg) (b : PySem.W.nsIn K mainGlobals x = some (some (.str n tk))) : GlAt C mg x (.str n) := ⟨.str n, _, PySem.W.mg_of X G b, ⟨_, rfl⟩, fun W => .str n⟩
/-- plain items of a tuple that the top has made -/
def valD : Value → D → Bool
  | .int i _, .int j => i == j
  | .str i _, .str j => decide (i = j)
  | .bool i, .bl j => i == j
  | .none, .non => true
  | _, _ => false
def valDs : List Value → List D → Bool
  | [], [] => true
  | u :: us, d :: ds => valD u d && valDs us ds
  | _, _ => false
theorem valD_ok {C : Ct} {u : Value} {d : D} (h : valD u d = true) : ∃ v, RelV v u ∧ ∀ W, Rep C W v d := by
  unfold valD at h
  split at h
  · rw [beq_iff_eq] at h; subst h; exact ⟨.int _, ⟨_, rfl⟩, fun W => .int _⟩
  · rw [decide_eq_true_eq] at h; subst h; exact ⟨.str _, ⟨_, rfl⟩, fun W => .str _⟩
  · rw [beq_iff_eq] at h; subst h; exact ⟨.bl _, rfl, fun W => .bl _⟩
  · exact ⟨.non, rfl, fun W => .non⟩
  · cases h
theorem valDs_ok {C : Ct} : ∀ {us : List Value} {ds : List D}, valDs us ds = true → ∃ vs, Vals vs us ∧ ∀ W, Reps C W vs ds
  | [], [], _ => ⟨[], .nil, fun W => .nil⟩
  | u :: us, d :: ds, h => by
    simp only [valDs, Bool.and_eq_true] at h
    obtain ⟨v, h1, h2⟩ := valD_ok (C := C) h.1
    obtain ⟨vs, h3, h4⟩ := valDs_ok (C := C) h.2
    exact ⟨v :: vs, .cons h1 h3, fun W => .cons (h2 W) (h4 W)⟩
  | [], _ :: _, h => by cases h
  | _ :: _, [], h => by cases h
theorem gl_tup {K : PySem.W.Frag} {h : Heap} {mg : Str → Option Value} {C : Ct} {x : Str} {ds : List D} {a : Addr} {o : Obj} {its : Array Value} {n : Nat} (X : K.In h) (G : h.Ns mainGlobals mg) (hK : C.K = K) (b : PySem.W.nsIn K mainGlobals x = some (some (.ref a))) (l : K.lookup a = some o) (hc : o.cls = .type "tuple") (hd : o.data = .seq its n) (hz : its.size ≤ sizeLine) (hv : valDs its.toList ds = true) : GlAt C mg x (.tup ds) := by
  obtain ⟨vs, h1, h2⟩ := valDs_ok (C := C) hv
  exact ⟨.ref a, _, PySem.W.mg_of X G b, rfl, fun W => .tup (.inr ⟨o, its, n, by rw [hK]; exact l, hc, hd, hz, h1⟩) (h2 W)⟩
theorem mit_mk {K : PySem.W.Frag} {h : Heap} {mg : Str → Option Value} {P : Program} {C fI : Addr} {nm q : Str} {N : Addr} {bs bm : List Value} {sn : List Str} {sub : List Value} {ab : Bool} {col : Option Bool} {dd : Option Addr} {k0 k1 k2 k3 k5 : Option Value}
    {oc : Value} {od : Option Addr} {kV doc pm : Value} {an : Option Addr} {cda cc : Addr} {ct : Value} {osl : Array (Option Value)} {msg : Str} {n4 : Nat} {p1 p2 q1 q2 q3 q4 q5 q6 q7 q8 q9 q10 q11 q12 : Pos} {ccl : Value} {cdd : Option Addr} {vs : Array Value} {ccs : Array (Option Value)} {file : Str} {tf : Tok} {cl : Value} {cld : Option Addr} {csl : Array (Option Value)}
    (X : K.In h) (G : h.Ns mainGlobals mg) (gC : PySem.W.nsIn K mainGlobals "Misstep" = some (some (.ref C)))
    (xl : K.lookup C = some (excClassObj nm q C N bs bm true sn sub ab col dd k0 k1 k2 k3 k5 "ValueError.__new__")) (ve : PySem.HandSPX.refsVE bm = true)
    (sa : PySem.W.findIn K (.ref C) "__setattr__" = some (some (.builtin "object.__setattr__"))) (noN : PySem.W.findIn K (.ref C) "word" = some none) (iC : PySem.W.findIn K (.ref C) "__init__" = some (some (.ref fI))) (tC : PySem.W.typeIn K (.ref fI) = some (.type "function"))
    (kC : PySem.W.keepIn K (.ref C) = true) (exC : PySem.W.subIn K (.ref C) (.type "BaseException") = some true) (veC : PySem.W.subIn K (.ref C) (.type "ValueError") = some true) (slf : PySem.W.mroIn K C (.ref C) = some true) (tyC : PySem.W.typeIn K (.ref C) = some (.type "type"))
    (sup : PySem.W.ks_superIn K C C "__init__" = some (some (.builtin "ValueError.__init__"))) (opq : PySem.W.nsIn K PySem.cStatics "thirdparty.any" = some none) (nsu : PySem.W.nsIn K mainGlobals "super" = some none) (top : (P.main.scope.names.lookup ("super" : Str)).isSome = false)
    (lk : K.lookup fI = some ⟨oc, od, .func (PySem.W.ksFn "__init__" "Misstep.__init__" (ErrX.eA p1 p2) (ErrX.eB msg n4 q1 q2 q3 q4 q5 q6 q7 q8 q9 q10 q11 q12) ErrX.eS .none kV doc pm an (.ref cda) ct cc), osl⟩) (cd : PySem.W.codeIn K (.ref cda) "Misstep.__init__" = true) (ms : msg.length ≤ 1000) (ln : (q3.endLine == q7.line) = true)
    (lc : K.lookup cda = some ⟨ccl, cdd, .fields vs, ccs⟩) (fl : vs[2]? = some (.str file tf)) (fe : ((P.main.file : Str) == file) = true) (cel : K.lookup cc = some ⟨cl, cld, .cell (some (.ref C)), csl⟩) : ErrX.MiT K mg P C fI :=
  { gC := PySem.W.mg_of X G gC, cls := ⟨nm, q, N, bs, bm, sn, sub, ab, col, dd, k0, k1, k2, k3, k5, xl, ve⟩, sa := sa, noN := noN, iC := iC, tC := tC, kC := kC, exC := exC, veC := veC, slf := slf, tyC := tyC, sup := sup, opq := opq, nsu := PySem.W.mg_none_of X G nsu, top := top
    fn := ⟨oc, od, kV, doc, pm, an, cda, cc, ct, osl, msg, n4, p1, p2, q1, q2, q3, q4, q5, q6, q7, q8, q9, q10, q11, q12, lk, cd, ms, ln, ⟨ccl, cdd, vs, ccs, file, tf, lc, fl, fe⟩, ⟨cl, cld, csl, cel⟩⟩ }
end Vi

/-! V21L: the end of a law with one def that makes a lambda. -/
namespace Vi
open PySem PySem.Spec PyProof.Rows L2
theorem walk_lam {l : PySem.W.OpenLaw} {most k : Nat} {pr : Program} {lo : List Str} {XP : (Str → Option Value) → Heap → Prop} {YP : World → Heap → Prop} {dr : DefRec} {K : Params → PySem.W.Frag} {CXw : World → CXT} {sx : Str}
    (h1 : l.most = some most) (h2 : most ≤ sizeLine) (h3 : dr.params.defaults = []) (h4 : Room k callerA) (h5 : ∀ (w : World) (h : Heap), YP w h → (K w.params).In h)
    (F : ∀ (w : World) (mg mb : Str → Option Value) (mean : ExcName → Option Value) (fa : Addr) (h : Heap), (K w.params).In h → h.Ns mainGlobals mg → Top pr (PySem.W.looseW pr lo) mean mg mb h → mg dr.name = some (.ref fa) → LamX.LawAtS l w (K w.params) (CXw w) k most sx mg fa h)
    (h6 : ∀ (w : World) (H : Hp) (s : Shared) (e : Value) (s' : Shared), CXw w [] H s (fun _ _ _ => False) e s' → False) :
    PySem.W.WalkO pr lo XP YP l.row.toRowW dr [] (fun f vs => PySem.call f vs) :=
  Att.attach_callB h1 h3 fun w s0 s1 mg mb fa o pm cd doc a vs ns g y e1 e2 e3 e4 e5 e6 e7 e8 e9 => by
    have kx := h5 w _ y
    obtain ⟨fd, cs, sp, t1, t2, t3, t4, t5, t6⟩ := F w mg mb _ fa _ kx g.T.g g.T e4
    have hlen := Nat.le_trans e7 h2
    exact LamX.law_callTs kx g.T.g g.T.b g.T.builtins g.T.nolimit e9 t1 t2 t3 g.T.bmain e5 e6 hlen h4 t6 t4 (fun H p q => t5 H a ns e7 e8 p q) fun H e s' => h6 w H s1 e s'
theorem law_lam {l : PySem.W.OpenLaw} {w : World} {K : PySem.W.Frag} {h : Heap} {mg mb : Str → Option Value} {mean : ExcName → Option Value} {pr : Program} {lo : List Str} {xl : Str} {c P : Addr} {dr : DefRec} {fa : Addr} {ds : List Df} {z : K0} {fs : List Addr} {aM fI : Addr} {li : Nat} {dl : Df} {x : Str} (TP : Top pr lo mean mg mb h) (X : K.In h) (G : h.Ns mainGlobals mg) (hfa : mg dl.x = some (.ref fa))
    (hr : (recsOf pr).find? (fun e => e.name == xl) = some dr) (hta : PySem.W.tabIn K xl = some (c, P)) (hno : K.lookup P = none) (hl0 : z.lams = [xl])
    (D : DefsAt K mg ds fs) (B : BltsAt mg z.bn) (GL : GlsAt (ctT K fs aM [(P, lamQ xl)]) mg z.gls) (hz : z.cls = [(("Misstep" : Str), 2)]) (T : ErrX.MiT K mg l.prog aM fI)
    (ga : PySem.W.findIn K (.ref aM) "__getattribute__" = some (some (.builtin "BaseException.__getattribute__"))) (gg : PySem.W.findIn K (.ref aM) "__getattr__" = some none) (hd : PySem.W.hasDictIn K aM = true) (iC : PySem.W.isClsIn K aM = true) (sC : PySem.W.subIn K (.ref aM) (.ref aM) = some true)
    (hchk : ds.all (chkD z (fnsOf ds)) = true) (hli : ds[li]? = some dl) (hps : dl.ps = [x]) (n fu : Nat) (hlaw : ∀ ns : List Int, ns.length ≤ 63 → ∃ r, callI fu (ds.map (·.f)) n li [.scr ns] none = .ok (.bl true) r) :
    LamX.LawAtS l w K (L2.CX l.prog w) (n + 2) 63 x mg fa h := by
  obtain ⟨hC, hP⟩ := PySem.W.tab_of TP X hr hta
  obtain ⟨fd, hb, hF⟩ := law_endT (P := l.prog) (w := w) (T0 := [(P, lamQ xl)]) (cs := [(c, P)]) X G hfa D B GL (fun base hB i d hd hm => by
    rw [hl0] at hm
    obtain rfl := List.mem_singleton.mp hm
    refine ⟨c, P, hB _ List.mem_cons_self, fun fd F => ?_, List.mem_cons_self, fun p hp _ => by rw [List.mem_singleton.mp hp]⟩
    obtain ⟨hmg, _⟩ := D.at i d hd
    obtain ⟨_, _, _, _, _, _, _, _, _, _, lk, _⟩ := F.ex
    exact PySem.W.law_code X G hta hmg (X _ _ lk) rfl) hz T ga gg hd iC sC hchk hli hps n fu hlaw
  refine ⟨fd, [(c, P)], spLT K [(P, lamQ xl)], fun p hp => ?_, fun p hp => ?_, fun p hp => ?_, hb, fun H a ns hl _ hH hS => ⟨a, ns, rfl, hl, fun p hp => ?_, hS, fun _ => rfl⟩, hF⟩
  · rw [List.mem_singleton.mp hp]; exact hP
  · rw [List.mem_singleton.mp hp]; exact hno
  · rw [List.mem_singleton.mp hp]; exact hC
  · rw [List.mem_singleton.mp hp]; exact LamX.TabS.nil (hH _ List.mem_cons_self)
theorem law_lam2 {l : PySem.W.OpenLaw} {w : World} {K : PySem.W.Frag} {h : Heap} {mg mb : Str → Option Value} {mean : ExcName → Option Value} {pr : Program} {lo : List Str} {xl : Str} {dr : DefRec} {fa : Addr} {ds : List Df} {z : K0} {fs : List Addr} {aM fI : Addr} {li : Nat} {dl : Df} {x : Str} (TP : Top pr lo mean mg mb h) (X : K.In h) (G : h.Ns mainGlobals mg) (hfa : mg dl.x = some (.ref fa))
    (hr : (recsOf pr).find? (fun e => e.name == xl) = some dr) (hta : (PySem.W.tabIn K xl).isSome = true) (hno : K.lookup ((PySem.W.tabIn K xl).getD (0, 0)).2 = none) (hl0 : z.lams = [xl])
    (D : DefsAt K mg ds fs) (B : BltsAt mg z.bn) (GL : GlsAt (ctT K fs aM [(((PySem.W.tabIn K xl).getD (0, 0)).2, lamQ xl)]) mg z.gls) (hz : z.cls = [(("Misstep" : Str), 2)]) (T : ErrX.MiT K mg l.prog aM fI)
    (ga : PySem.W.findIn K (.ref aM) "__getattribute__" = some (some (.builtin "BaseException.__getattribute__"))) (gg : PySem.W.findIn K (.ref aM) "__getattr__" = some none) (hd : PySem.W.hasDictIn K aM = true) (iC : PySem.W.isClsIn K aM = true) (sC : PySem.W.subIn K (.ref aM) (.ref aM) = some true)
    (hchk : ds.all (chkD z (fnsOf ds)) = true) (hli : ds[li]? = some dl) (hps : dl.ps = [x]) (n fu : Nat) (hlaw : ∀ ns : List Int, ns.length ≤ 63 → ∃ r, callI fu (ds.map (·.f)) n li [.scr ns] none = .ok (.bl true) r) :
    LamX.LawAtS l w K (L2.CX l.prog w) (n + 2) 63 x mg fa h :=
  law_lam (c := ((PySem.W.tabIn K xl).getD (0, 0)).1) (P := ((PySem.W.tabIn K xl).getD (0, 0)).2) TP X G hfa hr (by
    cases e : PySem.W.tabIn K xl with
    | none => rw [e] at hta; cases hta
    | some p => rfl) hno hl0 D B GL hz T ga gg hd iC sC hchk hli hps n fu hlaw
end Vi

/-! V22: symbolic evaluation. -/
namespace Vi
section
variable {α β : Type}
@[simp] theorem bind_ok (a : α) (s : S) (f : α → S → RE β) : (RE.ok a s).bind f = f a s := Eq.trans rfl rfl
@[simp] theorem bind_exc (e : Ex) (s : S) (f : α → S → RE β) : (RE.exc e s : RE α).bind f = .exc e s := Eq.trans rfl rfl
@[simp] theorem stm_ok (a : α) (s : S) (f : α → S → RS) : (RE.ok a s).stm f = f a s := Eq.trans rfl rfl
@[simp] theorem stm_exc (e : Ex) (s : S) (f : α → S → RS) : (RE.exc e s : RE α).stm f = .exc e s := Eq.trans rfl rfl
@[simp] theorem opt_some (a : α) (s : S) : RE.opt (some a) s = .ok a s := Eq.trans rfl rfl
end
theorem call_def {fu : Nat} {F : List Fn} {n k : Nat} {args : List D} {r : Rng} {f : Fn} (hf : F[k]? = some f) (hl : args.length = f.np) : callI fu F (n + 1) k args r = outC (exss (callI fu F n) fu f.body (startS f.np f.nl args r)) := by
  unfold callI
  rw [hf]
  exact if_pos hl
/-! ### sizes -/
/-- below 2^k in size -/
def Lt2 (k : Nat) (i : Int) : Prop := i.natAbs < 2 ^ k
theorem Lt2.mono {j k : Nat} {i : Int} (h : Lt2 j i) (hj : j ≤ k) : Lt2 k i := Nat.lt_of_lt_of_le h (Nat.pow_le_pow_right (by decide) hj)
theorem Lt2.add {j k : Nat} {a b : Int} (ha : Lt2 j a) (hb : Lt2 k b) : Lt2 (max j k + 1) (a + b) := by
  have h1 := ha.mono (Nat.le_max_left j k)
  have h2 := hb.mono (Nat.le_max_right j k)
  unfold Lt2 at h1 h2 ⊢
  rw [Nat.pow_succ]
  have := Int.natAbs_add_le a b
  omega
theorem Lt2.neg {k : Nat} {a : Int} (ha : Lt2 k a) : Lt2 k (-a) := by unfold Lt2; rw [Int.natAbs_neg]; exact ha
theorem Lt2.sub {j k : Nat} {a b : Int} (ha : Lt2 j a) (hb : Lt2 k b) : Lt2 (max j k + 1) (a - b) := by
  rw [Int.sub_eq_add_neg]; exact ha.add hb.neg
theorem Lt2.mul {j k : Nat} {a b : Int} (ha : Lt2 j a) (hb : Lt2 k b) : Lt2 (j + k) (a * b) := by
  unfold Lt2 at *
  rw [Int.natAbs_mul, Nat.pow_add]
  exact Nat.mul_lt_mul'' ha hb
theorem Lt2.log {k : Nat} {a : Int} (ha : Lt2 k a) (hk : 0 < k) : a.natAbs.log2 < k := by
  by_cases h : a.natAbs = 0
  · rw [h]; simpa using hk
  · exact (Nat.log2_lt h).mpr ha
theorem mulOk_of {j k : Nat} {a b : Int} (ha : Lt2 j a) (hb : Lt2 k b) (h : j + k < 900000) : mulOk a b = true := by
  unfold mulOk
  have h1 := (ha.mono (Nat.le_succ j)).log (Nat.succ_pos j)
  have h2 := (hb.mono (Nat.le_succ k)).log (Nat.succ_pos k)
  simp only [Bool.or_eq_true, decide_eq_true_eq]
  right
  omega
theorem divOk_of {k : Nat} {b : Int} (hb : Lt2 k b) (hp : 0 < b) (h : k < 9000) : divOk b = true := by
  unfold divOk
  have h2 := (hb.mono (Nat.le_succ k)).log (Nat.succ_pos k)
  simp only [Bool.and_eq_true, decide_eq_true_eq]
  omega
/-! ### the loop of the greatest common divisor -/
theorem gcd_mod {a b : Int} (ha : 0 ≤ a) (hb : 0 ≤ b) : Int.gcd a b = Int.gcd b (a % b) := by
  obtain ⟨m, rfl⟩ := Int.eq_ofNat_of_zero_le ha
  obtain ⟨n, rfl⟩ := Int.eq_ofNat_of_zero_le hb
  show Nat.gcd m n = Nat.gcd n (((m : Int) % (n : Int)).natAbs)
  rw [← Int.natCast_emod, Int.natAbs_natCast, Nat.gcd_comm m n, Nat.gcd_rec n m, Nat.gcd_comm]
theorem gcd_loopS (t : S → RE D) (f : S → RS) (st : Int → Int → S) (ht : ∀ a b : Int, t (st a b) = .ok (.bl (decide (b ≠ 0))) (st a b))
    (hf : ∀ a b : Int, 0 ≤ a → 0 < b → f (st a b) = .next (st b (a % b))) :
    ∀ (k : Nat) (a b : Int) (n : Nat), 0 ≤ a → 0 ≤ b → b.natAbs < 2 ^ k → 2 * k + 1 ≤ n → whlL t f n (st a b) = .next (st (Int.gcd a b) 0)
  | 0, a, b, n, ha, hb, hk, hn => by
    obtain ⟨m, rfl⟩ : ∃ m, n = m + 1 := ⟨n - 1, by omega⟩
    have hb0 : b = 0 := by omega
    subst hb0
    unfold whlL
    rw [ht]
    simp [Int.natAbs_of_nonneg ha]
  | k + 1, a, b, n, ha, hb, hk, hn => by
    obtain ⟨m, rfl⟩ : ∃ m, n = m + 2 := ⟨n - 2, by omega⟩
    by_cases hb0 : b = 0
    · subst hb0
      unfold whlL
      rw [ht]
      simp [Int.natAbs_of_nonneg ha]
    · have hbp : 0 < b := by omega
      have h1 : 0 ≤ a % b := Int.emod_nonneg _ hb0
      have h2 : a % b < b := Int.emod_lt_of_pos _ hbp
      have e1 : Int.gcd a b = Int.gcd b (a % b) := gcd_mod ha hb
      unfold whlL
      rw [ht]
      simp only [stm_ok, hb0, ne_eq, not_false_eq_true, decide_true]
      rw [hf a b ha hbp]
      simp only []
      by_cases hc : a % b = 0
      · unfold whlL
        rw [ht, hc]
        simp only [stm_ok, ne_eq, not_true_eq_false, decide_false]
        rw [e1, hc, Int.gcd_zero_right, Int.natAbs_of_nonneg hb]
      · have hcp : 0 < a % b := by omega
        have h3 : 0 ≤ b % (a % b) := Int.emod_nonneg _ hc
        have h4 : b % (a % b) < a % b := Int.emod_lt_of_pos _ hcp
        have h5 : 2 * (b % (a % b)) ≤ b := by
          have := Int.mul_ediv_add_emod b (a % b)
          have h6 : 1 ≤ b / (a % b) := (Int.le_ediv_iff_mul_le hcp).mpr (by omega)
          have h7 : (a % b) * 1 ≤ (a % b) * (b / (a % b)) := Int.mul_le_mul_of_nonneg_left h6 (by omega)
          omega
        have e2 : Int.gcd b (a % b) = Int.gcd (a % b) (b % (a % b)) := gcd_mod hb h1
        unfold whlL
        rw [ht]
        simp only [stm_ok, hc, ne_eq, not_false_eq_true, decide_true]
        rw [hf b (a % b) hb hcp]
        simp only []
        rw [e1, e2]
        exact gcd_loopS t f st ht hf k _ _ m h1 h3 (by rw [Nat.pow_succ] at hk; omega) (by omega)
theorem gcd_loop (t : S → RE D) (f : S → RS) (r : Rng) (ht : ∀ a b : Int, t ⟨[.val (.int a), .val (.int b)], r⟩ = .ok (.bl (decide (b ≠ 0))) ⟨[.val (.int a), .val (.int b)], r⟩)
    (hf : ∀ a b : Int, 0 ≤ a → 0 < b → f ⟨[.val (.int a), .val (.int b)], r⟩ = .next ⟨[.val (.int b), .val (.int (a % b))], r⟩) (k : Nat) (a b : Int) (n : Nat) (h1 : 0 ≤ a) (h2 : 0 ≤ b) (h3 : b.natAbs < 2 ^ k) (h4 : 2 * k + 1 ≤ n) : whlL t f n ⟨[.val (.int a), .val (.int b)], r⟩ = .next ⟨[.val (.int (Int.gcd a b)), .val (.int 0)], r⟩ :=
  gcd_loopS t f (fun a b => ⟨[.val (.int a), .val (.int b)], r⟩) ht hf k a b n h1 h2 h3 h4
theorem gcd_loop4 (t : S → RE D) (f : S → RS) (x y : Slot) (r : Rng) (ht : ∀ a b : Int, t ⟨[x, y, .val (.int a), .val (.int b)], r⟩ = .ok (.bl (decide (b ≠ 0))) ⟨[x, y, .val (.int a), .val (.int b)], r⟩)
    (hf : ∀ a b : Int, 0 ≤ a → 0 < b → f ⟨[x, y, .val (.int a), .val (.int b)], r⟩ = .next ⟨[x, y, .val (.int b), .val (.int (a % b))], r⟩) (k : Nat) (a b : Int) (n : Nat) (h1 : 0 ≤ a) (h2 : 0 ≤ b) (h3 : b.natAbs < 2 ^ k) (h4 : 2 * k + 1 ≤ n) : whlL t f n ⟨[x, y, .val (.int a), .val (.int b)], r⟩ = .next ⟨[x, y, .val (.int (Int.gcd a b)), .val (.int 0)], r⟩ :=
  gcd_loopS t f (fun a b => ⟨[x, y, .val (.int a), .val (.int b)], r⟩) ht hf k a b n h1 h2 h3 h4
/-! ### equality of plain data -/
mutual
def deq : D → D → Bool
  | .non, .non => true
  | .bl a, .bl b => a == b
  | .bl a, .int j => (if a then 1 else 0) == j
  | .int i, .bl b => i == (if b then 1 else 0)
  | .int i, .int j => i == j
  | .str x, .str y => x == y
  | .lst xs, .lst ys => deqs xs ys
  | .tup xs, .tup ys => deqs xs ys
  | _, _ => false
def deqs : List D → List D → Bool
  | [], [] => true
  | x :: xs, y :: ys => deq x y && deqs xs ys
  | _, _ => false
end
mutual
def dok : Nat → D → Bool
  | _, .non => true
  | _, .bl _ => true
  | _, .int _ => true
  | _, .str x => PySem.PyData.canLay0 (.str x)
  | k + 1, .lst xs => doks k xs
  | k + 1, .tup xs => doks k xs
  | _, _ => false
def doks : Nat → List D → Bool
  | _, [] => true
  | k, x :: xs => dok k x && doks k xs
end
mutual
theorem dok_py : ∀ {k : Nat} {d : D}, dok k d = true → ∃ p, d.py = some p ∧ p.canLay0 = true ∧ p.depth ≤ k
  | k, .non, _ => ⟨.none, by simp only [D.py], by simp only [PySem.PyData.canLay0], by simp only [PySem.PyData.depth]; omega⟩
  | k, .bl b, _ => ⟨.bool b, by simp only [D.py], by simp only [PySem.PyData.canLay0], by simp only [PySem.PyData.depth]; omega⟩
  | k, .int b, _ => ⟨.int b, by simp only [D.py], by simp only [PySem.PyData.canLay0], by simp only [PySem.PyData.depth]; omega⟩
  | k, .str b, h => ⟨.str b, by simp only [D.py], by simpa only [dok] using h, by simp only [PySem.PyData.depth]; omega⟩
  | k + 1, .lst xs, h => by
    simp only [dok] at h
    obtain ⟨ps, h1, h2, h3⟩ := doks_py h
    exact ⟨.list ps, by simp only [D.py, h1], by simpa only [PySem.PyData.canLay0] using h2, by simp only [PySem.PyData.depth]; omega⟩
  | k + 1, .tup xs, h => by
    simp only [dok] at h
    obtain ⟨ps, h1, h2, h3⟩ := doks_py h
    exact ⟨.tuple ps, by simp only [D.py, h1], by simpa only [PySem.PyData.canLay0] using h2, by simp only [PySem.PyData.depth]; omega⟩
  | 0, .lst xs, h => by simp [dok] at h
  | 0, .tup xs, h => by simp [dok] at h
  | k, .scr _, h => by cases k <;> simp [dok] at h
  | k, .tok, h => by cases k <;> simp [dok] at h
  | k, .cel, h => by cases k <;> simp [dok] at h
  | k, .fn _, h => by cases k <;> simp [dok] at h
theorem doks_py : ∀ {k : Nat} {ds : List D}, doks k ds = true → ∃ ps, D.pys ds = some ps ∧ PySem.PyData.canLayAll0 ps = true ∧ PySem.PyData.depthAll ps ≤ k
  | k, [], _ => ⟨[], by simp only [D.pys], by simp only [PySem.PyData.canLayAll0], by simp only [PySem.PyData.depthAll]; omega⟩
  | k, x :: xs, h => by
    simp only [doks, Bool.and_eq_true] at h
    obtain ⟨p, a1, a2, a3⟩ := dok_py h.1
    obtain ⟨ps, h1, h2, h3⟩ := doks_py h.2
    exact ⟨p :: ps, by simp only [D.pys, a1, h1], by simp only [PySem.PyData.canLayAll0, a2, h2, Bool.and_self], by simp only [PySem.PyData.depthAll]; omega⟩
end
mutual
theorem deq_py : ∀ {x y : D} {p q : PySem.PyData}, x.py = some p → y.py = some q → PySem.PyData.eqv p q = deq x y
  | x, y, p, q, h1, h2 => by
    cases x with
    | lst xs =>
      simp only [D.py] at h1
      cases e : D.pys xs with
      | none => rw [e] at h1; cases h1
      | some ps =>
        rw [e] at h1; injection h1 with h1; subst h1
        cases y with
        | lst ys =>
          simp only [D.py] at h2
          cases e2 : D.pys ys with
          | none => rw [e2] at h2; cases h2
          | some qs =>
            rw [e2] at h2; injection h2 with h2; subst h2
            simp only [PySem.PyData.eqv, deq]
            exact deqs_py e e2
        | tup ys =>
          simp only [D.py] at h2
          cases e2 : D.pys ys with
          | none => rw [e2] at h2; cases h2
          | some qs => rw [e2] at h2; injection h2 with h2; subst h2; simp only [PySem.PyData.eqv, deq]
        | _ => simp only [D.py, Option.some.injEq, reduceCtorEq] at h2 <;> (subst h2; simp only [PySem.PyData.eqv, deq])
    | tup xs =>
      simp only [D.py] at h1
      cases e : D.pys xs with
      | none => rw [e] at h1; cases h1
      | some ps =>
        rw [e] at h1; injection h1 with h1; subst h1
        cases y with
        | tup ys =>
          simp only [D.py] at h2
          cases e2 : D.pys ys with
          | none => rw [e2] at h2; cases h2
          | some qs =>
            rw [e2] at h2; injection h2 with h2; subst h2
            simp only [PySem.PyData.eqv, deq]
            exact deqs_py e e2
        | lst ys =>
          simp only [D.py] at h2
          cases e2 : D.pys ys with
          | none => rw [e2] at h2; cases h2
          | some qs => rw [e2] at h2; injection h2 with h2; subst h2; simp only [PySem.PyData.eqv, deq]
        | _ => simp only [D.py, Option.some.injEq, reduceCtorEq] at h2 <;> (subst h2; simp only [PySem.PyData.eqv, deq])
    | non =>
      simp only [D.py, Option.some.injEq] at h1; subst h1
      cases y with
      | lst ys =>
        simp only [D.py] at h2
        cases e2 : D.pys ys with
        | none => rw [e2] at h2; cases h2
        | some qs => rw [e2] at h2; injection h2 with h2; subst h2; simp only [PySem.PyData.eqv, deq]
      | tup ys =>
        simp only [D.py] at h2
        cases e2 : D.pys ys with
        | none => rw [e2] at h2; cases h2
        | some qs => rw [e2] at h2; injection h2 with h2; subst h2; simp only [PySem.PyData.eqv, deq]
      | _ => simp only [D.py, Option.some.injEq, reduceCtorEq] at h2 <;> (subst h2; simp only [PySem.PyData.eqv, deq])
    | bl b =>
      simp only [D.py, Option.some.injEq] at h1; subst h1
      cases y with
      | lst ys =>
        simp only [D.py] at h2
        cases e2 : D.pys ys with
        | none => rw [e2] at h2; cases h2
        | some qs => rw [e2] at h2; injection h2 with h2; subst h2; simp only [PySem.PyData.eqv, deq]
      | tup ys =>
        simp only [D.py] at h2
        cases e2 : D.pys ys with
        | none => rw [e2] at h2; cases h2
        | some qs => rw [e2] at h2; injection h2 with h2; subst h2; simp only [PySem.PyData.eqv, deq]
      | _ => simp only [D.py, Option.some.injEq, reduceCtorEq] at h2 <;> (subst h2; simp only [PySem.PyData.eqv, deq])
    | int b =>
      simp only [D.py, Option.some.injEq] at h1; subst h1
      cases y with
      | lst ys =>
        simp only [D.py] at h2
        cases e2 : D.pys ys with
        | none => rw [e2] at h2; cases h2
        | some qs => rw [e2] at h2; injection h2 with h2; subst h2; simp only [PySem.PyData.eqv, deq]
      | tup ys =>
        simp only [D.py] at h2
        cases e2 : D.pys ys with
        | none => rw [e2] at h2; cases h2
        | some qs => rw [e2] at h2; injection h2 with h2; subst h2; simp only [PySem.PyData.eqv, deq]
      | _ => simp only [D.py, Option.some.injEq, reduceCtorEq] at h2 <;> (subst h2; simp only [PySem.PyData.eqv, deq])
    | str b =>
      simp only [D.py, Option.some.injEq] at h1; subst h1
      cases y with
      | lst ys =>
        simp only [D.py] at h2
        cases e2 : D.pys ys with
        | none => rw [e2] at h2; cases h2
        | some qs => rw [e2] at h2; injection h2 with h2; subst h2; simp only [PySem.PyData.eqv, deq]
      | tup ys =>
        simp only [D.py] at h2
        cases e2 : D.pys ys with
        | none => rw [e2] at h2; cases h2
        | some qs => rw [e2] at h2; injection h2 with h2; subst h2; simp only [PySem.PyData.eqv, deq]
      | _ => simp only [D.py, Option.some.injEq, reduceCtorEq] at h2 <;> (subst h2; simp only [PySem.PyData.eqv, deq])
    | _ => simp [D.py] at h1
theorem deqs_py : ∀ {xs ys : List D} {ps qs : List PySem.PyData}, D.pys xs = some ps → D.pys ys = some qs → PySem.PyData.eqvAll ps qs = deqs xs ys
  | [], [], ps, qs, h1, h2 => by
    simp only [D.pys, Option.some.injEq] at h1 h2; subst h1 h2; simp only [PySem.PyData.eqvAll, deqs]
  | [], y :: ys, ps, qs, h1, h2 => by
    simp only [D.pys, Option.some.injEq] at h1; subst h1
    simp only [D.pys] at h2
    split at h2
    · split at h2
      · injection h2 with h2; subst h2; simp only [PySem.PyData.eqvAll, deqs]
      · cases h2
    · cases h2
  | x :: xs, [], ps, qs, h1, h2 => by
    simp only [D.pys, Option.some.injEq] at h2; subst h2
    simp only [D.pys] at h1
    split at h1
    · split at h1
      · injection h1 with h1; subst h1; simp only [PySem.PyData.eqvAll, deqs]
      · cases h1
    · cases h1
  | x :: xs, y :: ys, ps, qs, h1, h2 => by
    simp only [D.pys] at h1 h2
    split at h1
    · rename_i p e1
      split at h1
      · rename_i ps' e2
        injection h1 with h1; subst h1
        split at h2
        · rename_i q e3
          split at h2
          · rename_i qs' e4
            injection h2 with h2; subst h2
            simp only [PySem.PyData.eqvAll, deqs]
            rw [deq_py e1 e3, deqs_py e2 e4]
          · cases h2
        · cases h2
      · cases h1
    · cases h1
end
theorem eqD_of {x y : D} (hx : dok 64 x = true) (hy : dok 64 y = true) : eqD x y = some (deq x y) := by
  obtain ⟨p, a1, a2, a3⟩ := dok_py hx
  obtain ⟨q, b1, b2, b3⟩ := dok_py hy
  unfold eqD
  simp only [a1, b1]
  rw [if_pos (by unfold PySem.SeqAt.shaped; simp [a2, b2, a3, b3]), deq_py a1 b1]
@[simp] theorem rdS_at {i : Nat} {sl : List Slot} {r : Rng} {d : D} (h : sl[i]? = some (.val d)) : rdS i ⟨sl, r⟩ = .ok d ⟨sl, r⟩ := by
  unfold rdS; simp only [h]
/-! ### parts -/
def PR (x : Rat) : D := .tup [.int x.num, .int (x.den : Int)]
@[simp] theorem dok_PR (x : Rat) (k : Nat) : dok (k + 1) (PR x) = true := by simp [PR, dok, doks]
@[simp] theorem deq_PR (x y : Rat) : deq (PR x) (PR y) = decide (x = y) := by
  simp only [PR, deq, deqs, Bool.and_true]
  by_cases h : x = y
  · subst h; simp
  · simp only [h, decide_false, Bool.and_eq_false_iff, beq_eq_false_iff_ne, ne_eq]
    by_cases h1 : x.num = y.num
    · right
      intro h2
      exact h (Rat.ext h1 (by omega))
    · exact .inl h1
@[simp] theorem doks_map {α : Type} (f : α → D) (k : Nat) (h : ∀ x, dok k (f x) = true) (xs : List α) : doks k (xs.map f) = true := by
  induction xs with
  | nil => simp [doks]
  | cons x xs ih => simp [doks, h, ih]
@[simp] theorem deqs_PR (xs ys : List Rat) : deqs (xs.map PR) (ys.map PR) = decide (xs = ys) := by
  induction xs generalizing ys with
  | nil => cases ys <;> simp [deqs]
  | cons x xs ih =>
    cases ys with
    | nil => simp [deqs]
    | cons y ys =>
      simp only [List.map_cons, deqs, deq_PR, ih]
      by_cases h : x = y <;> by_cases h2 : xs = ys <;> simp [h, h2]
/-! ### steps -/
section
variable {cl : Cl} {fu : Nat}
theorem exss_nx {st : IS} {r : ISs} {s s' : S} (h : exs cl fu st s = .next s') : exss cl fu (.cons st r) s = exss cl fu r s' := by
  simp only [exss, h]
theorem exss_rt {st : IS} {r : ISs} {s s' : S} {d : D} (h : exs cl fu st s = .ret d s') : exss cl fu (.cons st r) s = .ret d s' := by
  simp only [exss, h]
theorem exss_xc {st : IS} {r : ISs} {s s' : S} {e : Ex} (h : exs cl fu st s = .exc e s') : exss cl fu (.cons st r) s = .exc e s' := by
  simp only [exss, h]
theorem forL_inv (f : D → S → RS) (I : Nat → S → Prop) : ∀ (xs : List D) (j : Nat) (s : S), I j s → (∀ (i : Nat) (s : S) (x : D), xs[i]? = some x → I (j + i) s → ∃ s', (f x s = .next s' ∨ f x s = .cnt s') ∧ I (j + i + 1) s') → ∃ s', forL f xs s = .next s' ∧ I (j + xs.length) s'
  | [], j, s, h0, _ => ⟨s, rfl, h0⟩
  | x :: xs, j, s, h0, hs => by
    obtain ⟨s1, e1, h1⟩ := hs 0 s x rfl h0
    obtain ⟨s2, e2, h2⟩ := forL_inv f I xs (j + 1) s1 h1 fun i s y hy hi => by
      obtain ⟨s', a, b⟩ := hs (i + 1) s y (by simpa using hy) (by rw [show j + (i + 1) = j + 1 + i by omega]; exact hi)
      exact ⟨s', a, by rw [show j + 1 + i + 1 = j + (i + 1) + 1 by omega]; exact b⟩
    refine ⟨s2, ?_, by rw [List.length_cons, show j + (xs.length + 1) = j + 1 + xs.length by omega]; exact h2⟩
    unfold forL
    rcases e1 with e1 | e1 <;> rw [e1] <;> exact e2
/-- a slot that a loop's name may take -/
def Fre (o : Slot) : Prop := o = .uns ∨ ∃ d, o = .val d
theorem Fre.uns : Fre .uns := .inl rfl
theorem Fre.val (d : D) : Fre (.val d) := .inr ⟨d, rfl⟩
theorem Fre.nl {o : Slot} (h : Fre o) : (match (some o : Option Slot) with | some (.lck _) => false | _ => true) = true := by
  rcases h with rfl | ⟨d, rfl⟩ <;> rfl
/-- a for whose every turn goes on -/
theorem for_inv {tg : Tg} {it : II} {b : ISs} {s0 s1 : S} {xs : List D} (I : Nat → S → Prop) (he : evi cl it s0 = .ok xs s1) (h1 : isLck it s1 = false) (h2 : lockOf it s1 = none) (h0 : I 0 s1)
    (hs : ∀ (i : Nat) (s : S) (x : D), xs[i]? = some x → I i s → ∃ sl s', bindTg tg x s.sl = some sl ∧ (exss cl fu b { s with sl := sl } = .next s' ∨ exss cl fu b { s with sl := sl } = .cnt s') ∧ I (i + 1) s') : ∃ s', exs cl fu (.for tg it b) s0 = .next s' ∧ I xs.length s' := by
  obtain ⟨s', e, h⟩ := forL_inv (fun x s => match bindTg tg x s.sl with | some sl => exss cl fu b { s with sl := sl } | none => .stuck) I xs 0 s1 h0 fun i s x hx hi => by
    rw [Nat.zero_add] at hi ⊢
    obtain ⟨sl, s', a1, a2, a3⟩ := hs i s x hx hi
    exact ⟨s', by simp only [a1]; exact a2, a3⟩
  rw [Nat.zero_add] at h
  refine ⟨s', ?_, h⟩
  simp only [exs, he, stm_ok, h1, h2, Bool.false_eq_true, if_false]
  exact congrArg (RS.unlk none) e
theorem evi_rng1 {a : IE} {s s' : S} {n : Int} (h : ev cl a s = .ok (.int n) s') (hs : small62 n = true) : evi cl (.rng1 a) s = .ok (rngL 0 n) s' := by
  simp only [evi, h, bind_ok]
  exact if_pos hs
theorem evi_rng2 {a b : IE} {s s1 s2 : S} {m n : Int} (h1 : ev cl a s = .ok (.int m) s1) (h2 : ev cl b s1 = .ok (.int n) s2) (hm : small62 m = true) (hn : small62 n = true) : evi cl (.rng2 a b) s = .ok (rngL m n) s2 := by
  simp only [evi, h1, h2, bind_ok]
  exact if_pos (by rw [hm, hn]; rfl)
theorem evi_seqL {a : IE} {s s' : S} {xs : List D} (h : ev cl a s = .ok (.lst xs) s') : evi cl (.seq a) s = .ok xs s' := by
  simp only [evi, h, bind_ok, itemsD, opt_some]
theorem evi_seqT {a : IE} {s s' : S} {xs : List D} (h : ev cl a s = .ok (.tup xs) s') : evi cl (.seq a) s = .ok xs s' := by
  simp only [evi, h, bind_ok, itemsD, opt_some]
theorem ev_lc {e : IE} {tg : Tg} {it : II} {c : IO} {own fz : List Nat} {s s1 s2 : S} {xs ds : List D} {sl : List Slot} (hi : evi cl it (frzS fz s) = .ok xs s1) (hw : wipeS own (s1.sl.map Slot.lock) = some sl)
    (hc : compL (compF (evc cl c) (fun s => ev cl e s) tg sl) xs s1.rg [] = .ok ds s2) : ev cl (.lc e tg it c own fz) s = .ok (.lst ds) { s1 with rg := s2.rg } := by
  simp only [ev, hi, bind_ok, compR, hw, hc]
theorem compL_map {f : D → Rng → RE (Option D)} {g : D → D} {r : Rng} : ∀ (xs acc : List D), (∀ x ∈ xs, ∃ sl, f x r = .ok (some (g x)) ⟨sl, r⟩) → acc.length + xs.length ≤ 1000000 → compL f xs r acc = .ok (acc ++ xs.map g) ⟨[], r⟩
  | [], acc, _, _ => by simp [compL]
  | x :: xs, acc, h, hl => by
    obtain ⟨sl, e⟩ := h x List.mem_cons_self
    rw [List.length_cons] at hl
    unfold compL
    rw [e]
    simp only []
    rw [if_pos (show acc.length < lim by unfold lim; omega), compL_map xs (acc ++ [g x]) (fun y hy => h y (List.mem_cons_of_mem _ hy)) (by simp; omega)]
    simp
/-- items by turns, the draws carried -/
def drawL {α : Type} (g : D → α → D × α) : List D → α → List D × α
  | [], q => ([], q)
  | x :: xs, q => ((g x q).1 :: (drawL g xs (g x q).2).1, (drawL g xs (g x q).2).2)
theorem compL_draw {f : D → Rng → RE (Option D)} {g : D → (Int × List Int) → D × (Int × List Int)} (ok : Int × List Int → Prop) (hg : ∀ x q, ok q → ok (g x q).2) : ∀ (xs acc : List D) (q : Int × List Int), ok q → (∀ x ∈ xs, ∀ q, ok q → ∃ sl, f x (some q) = .ok (some (g x q).1) ⟨sl, some (g x q).2⟩) → acc.length + xs.length ≤ 1000000 →
    compL f xs (some q) acc = .ok (acc ++ (drawL g xs q).1) ⟨[], some (drawL g xs q).2⟩
  | [], acc, q, _, _, _ => by simp [compL, drawL]
  | x :: xs, acc, q, hq, h, hl => by
    obtain ⟨sl, e⟩ := h x List.mem_cons_self q hq
    rw [List.length_cons] at hl
    unfold compL
    rw [e]
    simp only []
    rw [if_pos (show acc.length < lim by unfold lim; omega), compL_draw ok hg xs (acc ++ [(g x q).1]) (g x q).2 (hg x q hq) (fun y hy => h y (List.mem_cons_of_mem _ hy)) (by simp; omega)]
    simp [drawL]
end
end Vi

/-! V23: loops and comprehensions by turns. -/
namespace Vi
open PySem
section
variable {cl : Cl} {fu : Nat}
theorem bindNm {sl : List Slot} {ix : Nat} {o : Slot} {d : D} (h : sl[ix]? = some o) (ho : Fre o) : bindTg (.nm ix) d sl = some (sl.set ix (.val d)) := by
  have : nlck sl ix = true := by
    unfold nlck
    rw [h]
    rcases ho with rfl | ⟨d, rfl⟩ <;> rfl
  simp only [bindTg, this, if_true]
theorem rngAt {q i : Nat} {d : D} (h : (rngL 0 (q : Int))[i]? = some d) : d = .int (i : Int) ∧ i < q := by
  unfold rngL at h
  rw [List.getElem?_map] at h
  cases e : (List.range ((q : Int) - 0).toNat)[i]? with
  | none => rw [e] at h; cases h
  | some j =>
    rw [e] at h
    simp only [Option.map_some, Option.some.injEq] at h
    obtain ⟨h1, h2⟩ := List.getElem?_eq_some_iff.mp e
    rw [List.getElem_range] at h2
    subst h2
    rw [List.length_range] at h1
    refine ⟨by rw [← h]; simp, by omega⟩
theorem rngLen (q : Nat) : (rngL 0 (q : Int)).length = q := by simp [rngL]
theorem rngMap (n : Nat) : rngL 0 (n : Int) = (List.range n).map fun (i : Nat) => D.int (i : Int) := by simp [rngL]
theorem small_of {n : Nat} (h : n < 1000000) : small62 (n : Int) = true := by
  unfold small62
  simp only [Bool.and_eq_true, decide_eq_true_eq]
  omega
/-- a for over items -/
theorem for_seq {ix : Nat} {it : II} {b : ISs} {xs : List D} {r : Rng} {s0 : S} {o0 : Slot} (F : Nat → Slot → List Slot) (ho0 : Fre o0) (h0 : s0 = ⟨F 0 o0, r⟩) (he : evi cl it s0 = .ok xs s0) (h1 : isLck it s0 = false) (h2 : lockOf it s0 = none)
    (hF : ∀ i o, (F i o)[ix]? = some o) (hset : ∀ i o d, (F i o).set ix d = F i d)
    (hs : ∀ (i : Nat) (x : D), xs[i]? = some x → exss cl fu b ⟨F i (.val x), r⟩ = .next ⟨F (i + 1) (.val x), r⟩) :
    ∃ o, Fre o ∧ exs cl fu (.for (.nm ix) it b) s0 = .next ⟨F xs.length o, r⟩ := by
  subst h0
  obtain ⟨s', e, o, ho, rfl⟩ := for_inv (cl := cl) (fu := fu) (tg := .nm ix) (b := b) (fun i s => ∃ o, Fre o ∧ s = ⟨F i o, r⟩) he h1 h2 ⟨o0, ho0, rfl⟩ (by
    rintro i s x hx ⟨o, ho, rfl⟩
    refine ⟨_, _, bindNm (hF i o) ho, .inl ?_, ⟨.val x, .val _, rfl⟩⟩
    rw [hset]
    exact hs i x hx)
  exact ⟨o, ho, e⟩
/-- a for over a range -/
theorem for_rng {ix q : Nat} {a : IE} {b : ISs} {r : Rng} {s0 : S} {o0 : Slot} (F : Nat → Slot → List Slot) (ho0 : Fre o0) (h0 : s0 = ⟨F 0 o0, r⟩) (ha : ev cl a s0 = .ok (.int (q : Int)) s0) (hq : q < 1000000)
    (hF : ∀ i o, (F i o)[ix]? = some o) (hset : ∀ i o d, (F i o).set ix d = F i d)
    (hs : ∀ i : Nat, i < q → exss cl fu b ⟨F i (.val (.int (i : Int))), r⟩ = .next ⟨F (i + 1) (.val (.int (i : Int))), r⟩) :
    ∃ o, Fre o ∧ exs cl fu (.for (.nm ix) (.rng1 a) b) s0 = .next ⟨F q o, r⟩ := by
  obtain ⟨o, ho, e⟩ := for_seq (cl := cl) (fu := fu) (ix := ix) (b := b) F ho0 h0 (evi_rng1 ha (small_of hq)) rfl rfl hF hset (by
    intro i x hx
    obtain ⟨rfl, hi⟩ := rngAt hx
    exact hs i hi)
  exact ⟨o, ho, by rw [e, rngLen]⟩
/-- a comprehension over a range, no draws -/
theorem lc_rng {ix q : Nat} {e a : IE} {own fz : List Nat} {sl sl' : List Slot} {r : Rng} (G : Nat → D) (ha : ev cl a ⟨sl, r⟩ = .ok (.int (q : Int)) ⟨sl, r⟩) (hq : q < 1000000) (hz : frzS fz ⟨sl, r⟩ = ⟨sl, r⟩) (hw : wipeS own (sl.map Slot.lock) = some sl') (hn : nlck sl' ix = true)
    (he : ∀ i : Nat, i < q → ∃ sl2, ev cl e ⟨sl'.set ix (.val (.int (i : Int))), r⟩ = .ok (G i) ⟨sl2, r⟩) :
    ev cl (.lc e (.nm ix) (.rng1 a) .none own fz) ⟨sl, r⟩ = .ok (.lst ((List.range q).map G)) ⟨sl, r⟩ := by
  refine ev_lc (s1 := ⟨sl, r⟩) (s2 := ⟨[], r⟩) (xs := rngL 0 (q : Int)) (by rw [hz]; exact evi_rng1 ha (small_of hq)) hw ?_
  have := compL_map (f := compF (evc cl .none) (fun s => ev cl e s) (.nm ix) sl') (g := fun d => match d with | .int i => G i.toNat | d => d) (r := r) (rngL 0 (q : Int)) [] (fun x hx' => by
    rw [rngMap] at hx'
    obtain ⟨i, hi, rfl⟩ := List.mem_map.mp hx'
    rw [List.mem_range] at hi
    obtain ⟨sl2, e2⟩ := he i hi
    refine ⟨sl2, ?_⟩
    simp only [compF, bindTg, hn, if_true, evc, e2, bind_ok, Int.toNat_natCast]) (by simp [rngL]; omega)
  rw [this, rngMap]
  simp [List.map_map, Function.comp_def]
/-- a comprehension over a range that draws -/
theorem compL_drawE {α : Type} {f : D → Rng → RE (Option D)} (W : α → D) (P : α → Prop) (ok : Int × List Int → Prop) : ∀ (xs acc : List D) (q : Int × List Int), ok q → (∀ x ∈ xs, ∀ q, ok q → ∃ (v : α) (q' : Int × List Int) (sl : List Slot), ok q' ∧ P v ∧ f x (some q) = .ok (some (W v)) ⟨sl, some q'⟩) → acc.length + xs.length ≤ 1000000 →
    ∃ (vs : List α) (q' : Int × List Int), ok q' ∧ vs.length = xs.length ∧ (∀ v ∈ vs, P v) ∧ compL f xs (some q) acc = .ok (acc ++ vs.map W) ⟨[], some q'⟩
  | [], acc, q, hq, _, _ => ⟨[], q, hq, rfl, by simp, by simp [compL]⟩
  | x :: xs, acc, q, hq, h, hl => by
    obtain ⟨v, q1, sl, hq1, hv, e⟩ := h x List.mem_cons_self q hq
    rw [List.length_cons] at hl
    obtain ⟨vs, q2, hq2, a1, a2, a3⟩ := compL_drawE W P ok xs (acc ++ [W v]) q1 hq1 (fun y hy => h y (List.mem_cons_of_mem _ hy)) (by simp; omega)
    refine ⟨v :: vs, q2, hq2, by simp [a1], by simpa using ⟨hv, a2⟩, ?_⟩
    unfold compL
    rw [e]
    simp only []
    rw [if_pos (show acc.length < lim by unfold lim; omega), a3]
    simp
theorem lc_draw {α : Type} {ix n : Nat} {e a : IE} {own fz : List Nat} {sl sl' : List Slot} {q : Int × List Int} (W : α → D) (P : α → Prop) (ok : Int × List Int → Prop) (ha : ev cl a ⟨sl, some q⟩ = .ok (.int (n : Int)) ⟨sl, some q⟩) (hn1 : n < 1000000) (hz : frzS fz ⟨sl, some q⟩ = ⟨sl, some q⟩) (hw : wipeS own (sl.map Slot.lock) = some sl') (hn : nlck sl' ix = true)
    (hq : ok q) (he : ∀ i : Nat, i < n → ∀ q, ok q → ∃ (v : α) (q' : Int × List Int) (sl2 : List Slot), ok q' ∧ P v ∧ ev cl e ⟨sl'.set ix (.val (.int (i : Int))), some q⟩ = .ok (W v) ⟨sl2, some q'⟩) :
    ∃ (vs : List α) (q' : Int × List Int), ok q' ∧ vs.length = n ∧ (∀ v ∈ vs, P v) ∧ ev cl (.lc e (.nm ix) (.rng1 a) .none own fz) ⟨sl, some q⟩ = .ok (.lst (vs.map W)) ⟨sl, some q'⟩ := by
  obtain ⟨vs, q', a1, a2, a3, a4⟩ := compL_drawE (f := compF (evc cl .none) (fun s => ev cl e s) (.nm ix) sl') W P ok (rngL 0 (n : Int)) [] q hq (fun x hx' q hq => by
    rw [rngMap] at hx'
    obtain ⟨i, hi, rfl⟩ := List.mem_map.mp hx'
    rw [List.mem_range] at hi
    obtain ⟨v, q', sl2, h1, h2, e2⟩ := he i hi q hq
    refine ⟨v, q', sl2, h1, h2, ?_⟩
    simp only [compF, bindTg, hn, if_true, evc, e2, bind_ok]) (by simp [rngL]; omega)
  refine ⟨vs, q', a1, by rw [a2, rngLen], a3, ?_⟩
  have := ev_lc (cl := cl) (e := e) (tg := .nm ix) (it := .rng1 a) (c := .none) (own := own) (fz := fz) (s := ⟨sl, some q⟩) (s1 := ⟨sl, some q⟩) (s2 := ⟨[], some q'⟩) (xs := rngL 0 (n : Int)) (by rw [hz]; exact evi_rng1 ha (small_of hn1)) hw a4
  simpa using this
end
end Vi

/-! V24: the evaluator by continuations, for simp. -/
namespace Vi
open PySem
section
variable {cl : Cl} {fu : Nat} {sl : List Slot} {r : Rng} {s : S}
def RS.seq : RS → (S → RS) → RS
  | .next s, f => f s
  | x, _ => x
@[simp] theorem seq_next (s : S) (f : S → RS) : (RS.next s).seq f = f s := Eq.trans rfl rfl
@[simp] theorem seq_ret (d : D) (s : S) (f : S → RS) : (RS.ret d s).seq f = .ret d s := Eq.trans rfl rfl
@[simp] theorem seq_exc (e : Ex) (s : S) (f : S → RS) : (RS.exc e s).seq f = .exc e s := Eq.trans rfl rfl
@[simp] theorem seq_brk (s : S) (f : S → RS) : (RS.brk s).seq f = .brk s := Eq.trans rfl rfl
@[simp] theorem seq_cnt (s : S) (f : S → RS) : (RS.cnt s).seq f = .cnt s := Eq.trans rfl rfl
def RC.re (sl : List Slot) : RC → RE D
  | .ok d r => .ok d ⟨sl, r⟩
  | .exc e r => .exc e ⟨sl, r⟩
  | .stuck => .stuck
@[simp] theorem re_ok (d : D) (r : Rng) : (RC.ok d r).re sl = .ok d ⟨sl, r⟩ := Eq.trans rfl rfl
@[simp] theorem re_exc (d : Ex) (r : Rng) : (RC.exc d r).re sl = .exc d ⟨sl, r⟩ := Eq.trans rfl rfl
@[simp] theorem lock_v (d : D) : (Slot.val d).lock = .val d := rfl
@[simp] theorem lock_u : Slot.uns.lock = .uns := rfl
@[simp] theorem lock_o (xs : List D) : (Slot.own xs).lock = .lck xs := rfl
@[simp] theorem lock_l (xs : List D) : (Slot.lck xs).lock = .lck xs := rfl
theorem Fre.lock {o : Slot} (h : Fre o) : o.lock = o := by rcases h with rfl | ⟨d, rfl⟩ <;> rfl
/-! ### reads -/
theorem rdS_own {i : Nat} {xs : List D} (h : sl[i]? = some (.own xs)) : rdS i ⟨sl, r⟩ = .ok (.lst xs) ⟨sl.set i (.val (.lst xs)), r⟩ := by
  unfold rdS; simp only [h]
theorem pkS_val {i : Nat} {d : D} (h : sl[i]? = some (.val d)) : pkS i ⟨sl, r⟩ = .ok d ⟨sl, r⟩ := by
  unfold pkS; simp only [h]
theorem pkS_own {i : Nat} {xs : List D} (h : sl[i]? = some (.own xs)) : pkS i ⟨sl, r⟩ = .ok (.lst xs) ⟨sl, r⟩ := by
  unfold pkS; simp only [h]
theorem pkS_lck {i : Nat} {xs : List D} (h : sl[i]? = some (.lck xs)) : pkS i ⟨sl, r⟩ = .ok (.lst xs) ⟨sl, r⟩ := by
  unfold pkS; simp only [h]
@[simp] theorem xv {i : Nat} {d : D} (h : sl[i]? = some (.val d)) : ev cl (.var i) ⟨sl, r⟩ = .ok d ⟨sl, r⟩ := by
  rw [ev]; exact rdS_at h
@[simp] theorem xvo {i : Nat} {xs : List D} (h : sl[i]? = some (.own xs)) : ev cl (.var i) ⟨sl, r⟩ = .ok (.lst xs) ⟨sl.set i (.val (.lst xs)), r⟩ := by
  rw [ev]; exact rdS_own h
@[simp] theorem xp {i : Nat} {d : D} (h : sl[i]? = some (.val d)) : ev cl (.pk i) ⟨sl, r⟩ = .ok d ⟨sl, r⟩ := by
  rw [ev]; exact pkS_val h
@[simp] theorem xpo {i : Nat} {xs : List D} (h : sl[i]? = some (.own xs)) : ev cl (.pk i) ⟨sl, r⟩ = .ok (.lst xs) ⟨sl, r⟩ := by
  rw [ev]; exact pkS_own h
@[simp] theorem xpl {i : Nat} {xs : List D} (h : sl[i]? = some (.lck xs)) : ev cl (.pk i) ⟨sl, r⟩ = .ok (.lst xs) ⟨sl, r⟩ := by
  rw [ev]; exact pkS_lck h
@[simp] theorem xcst (d : D) : ev cl (.cst d) s = .ok d s := by rw [ev]
@[simp] theorem xglb (x : Str) (d : D) : ev cl (.glb x d) s = .ok d s := by rw [ev]
@[simp] theorem xfnr (x : Str) (k : Nat) : ev cl (.fnr x k) s = .ok (.fn k) s := by rw [ev]
/-! ### two operands -/
def k2b {β : Type} (F : D → D → S → RE β) (x y : D) (s : S) : RE β := F x y s
def k2a {β : Type} (cl : Cl) (F : D → D → S → RE β) (b : IE) (x : D) (s : S) : RE β := (ev cl b s).bind (k2b F x)
@[simp] theorem k2a_ (F : D → D → S → RE D) (b : IE) (x : D) : k2a cl F b x s = (ev cl b s).bind (k2b F x) := by unfold k2a; exact Eq.trans rfl rfl
def kbin (o : BOp) (x y : D) (s : S) : RE D := .opt (binD o x y) s
def kcmp (o : COp) (x y : D) (s : S) : RE D := .opt ((cmpD o x y).map .bl) s
def kix (x y : D) (s : S) : RE D := .opt (ixD x y s.rg) s
@[simp] theorem xbin (o : BOp) (a b : IE) : ev cl (.bin o a b) s = (ev cl a s).bind (k2a cl (kbin o) b) := by rw [ev]; exact Eq.trans rfl rfl
@[simp] theorem xcmp (o : COp) (a b : IE) : ev cl (.cmp o a b) s = (ev cl a s).bind (k2a cl (kcmp o) b) := by rw [ev]; exact Eq.trans rfl rfl
@[simp] theorem xix (a b : IE) : ev cl (.ix a b) s = (ev cl a s).bind (k2a cl kix b) := by rw [ev]; exact Eq.trans rfl rfl
@[simp] theorem kbin_ (o : BOp) (x y : D) : k2b (kbin o) x y s = .opt (binD o x y) s := by unfold k2b kbin; exact Eq.trans rfl rfl
@[simp] theorem kcmp_ (o : COp) (x y : D) : k2b (kcmp o) x y s = .opt ((cmpD o x y).map .bl) s := by unfold k2b kcmp; exact Eq.trans rfl rfl
@[simp] theorem kix_ (x y : D) : k2b kix x y s = .opt (ixD x y s.rg) s := by unfold k2b kix; exact Eq.trans rfl rfl
def kneg (x : D) (s : S) : RE D := .opt (negD x) s
@[simp] theorem xneg (a : IE) : ev cl (.neg a) s = (ev cl a s).bind kneg := by rw [ev]; exact Eq.trans rfl rfl
@[simp] theorem kneg_ (i : Int) : kneg (.int i) s = .ok (.int (-i)) s := by unfold kneg negD; exact Eq.trans rfl rfl
def krev (x : D) (s : S) : RE D := .opt (revD x) s
@[simp] theorem xrev (a : IE) : ev cl (.rev a) s = (ev cl a s).bind krev := by rw [ev]; exact Eq.trans rfl rfl
@[simp] theorem krev_ (xs : List D) : krev (.lst xs) s = .ok (.lst xs.reverse) s := by unfold krev revD; exact Eq.trans rfl rfl
/-! ### branches -/
def kand (cl : Cl) (b : IE) (x : D) (s : S) : RE D := match x with
  | .bl true => ev cl b s
  | .bl false => .ok (.bl false) s
  | _ => .stuck
def kor (cl : Cl) (b : IE) (x : D) (s : S) : RE D := match x with
  | .bl true => .ok (.bl true) s
  | .bl false => ev cl b s
  | _ => .stuck
def knot (x : D) (s : S) : RE D := match x with
  | .bl b => .ok (.bl (!b)) s
  | _ => .stuck
def kife (cl : Cl) (a b : IE) (x : D) (s : S) : RE D := match x with
  | .bl true => ev cl a s
  | .bl false => ev cl b s
  | _ => .stuck
@[simp] theorem xand (a b : IE) : ev cl (.and a b) s = (ev cl a s).bind (kand cl b) := by rw [ev]; exact Eq.trans rfl rfl
@[simp] theorem xor_ (a b : IE) : ev cl (.or a b) s = (ev cl a s).bind (kor cl b) := by rw [ev]; exact Eq.trans rfl rfl
@[simp] theorem xnot (a : IE) : ev cl (.not a) s = (ev cl a s).bind knot := by rw [ev]; exact Eq.trans rfl rfl
@[simp] theorem xife (t a b : IE) : ev cl (.ife t a b) s = (ev cl t s).bind (kife cl a b) := by rw [ev]; exact Eq.trans rfl rfl
@[simp] theorem kand_t (b : IE) : kand cl b (.bl true) s = ev cl b s := by unfold kand; exact Eq.trans rfl rfl
@[simp] theorem kand_f (b : IE) : kand cl b (.bl false) s = .ok (.bl false) s := by unfold kand; exact Eq.trans rfl rfl
@[simp] theorem kor_t (b : IE) : kor cl b (.bl true) s = .ok (.bl true) s := by unfold kor; exact Eq.trans rfl rfl
@[simp] theorem kor_f (b : IE) : kor cl b (.bl false) s = ev cl b s := by unfold kor; exact Eq.trans rfl rfl
@[simp] theorem knot_ (b : Bool) : knot (.bl b) s = .ok (.bl (!b)) s := by unfold knot; exact Eq.trans rfl rfl
@[simp] theorem kife_t (a b : IE) : kife cl a b (.bl true) s = ev cl a s := by unfold kife; exact Eq.trans rfl rfl
@[simp] theorem kife_f (a b : IE) : kife cl a b (.bl false) s = ev cl b s := by unfold kife; exact Eq.trans rfl rfl
/-! ### rows -/
def kcons2 (x : D) (xs : List D) (s : S) : RE (List D) := .ok (x :: xs) s
def kcons (cl : Cl) (r : IEs) (x : D) (s : S) : RE (List D) := (evs cl r s).bind (kcons2 x)
@[simp] theorem kcons2_ (x : D) (xs : List D) : kcons2 x xs s = .ok (x :: xs) s := by unfold kcons2; exact Eq.trans rfl rfl
@[simp] theorem kcons_ (r : IEs) (x : D) : kcons cl r x s = (evs cl r s).bind (kcons2 x) := by unfold kcons; exact Eq.trans rfl rfl
@[simp] theorem xnil : evs cl .nil s = .ok [] s := by rw [evs]
@[simp] theorem xcons (e : IE) (r : IEs) : evs cl (.cons e r) s = (ev cl e s).bind (kcons cl r) := by rw [evs]; exact Eq.trans rfl rfl
def ktup (xs : List D) (s : S) : RE D := if xs.length ≤ lim then .ok (.tup xs) s else .stuck
def klst (xs : List D) (s : S) : RE D := if xs.length ≤ lim then .ok (.lst xs) s else .stuck
@[simp] theorem xtup (es : IEs) : ev cl (.tup es) s = (evs cl es s).bind ktup := by rw [ev]; exact Eq.trans rfl rfl
@[simp] theorem xlst (es : IEs) : ev cl (.lst es) s = (evs cl es s).bind klst := by rw [ev]; exact Eq.trans rfl rfl
@[simp] theorem ktup_ {xs : List D} (h : xs.length ≤ 1000000) : ktup xs s = .ok (.tup xs) s := by unfold ktup; exact if_pos h
@[simp] theorem klst_ {xs : List D} (h : xs.length ≤ 1000000) : klst xs s = .ok (.lst xs) s := by unfold klst; exact if_pos h
def kblt (b : Blt) (xs : List D) (s : S) : RE D := .opt (bltD b xs s.rg) s
@[simp] theorem xblt (b : Blt) (es : IEs) : ev cl (.blt b es) s = (evs cl es s).bind (kblt b) := by rw [ev]; exact Eq.trans rfl rfl
@[simp] theorem kblt_ (b : Blt) (xs : List D) : kblt b xs s = .opt (bltD b xs s.rg) s := by unfold kblt; exact Eq.trans rfl rfl
def kspS (o : Spc) (xs : List D) (s : S) : RE D := .opt (spD o xs s.rg) s
@[simp] theorem xsp (o : Spc) (es : IEs) : ev cl (.sp o es) s = (evs cl es s).bind (kspS o) := by rw [ev]; exact Eq.trans rfl rfl
@[simp] theorem kspS_ (o : Spc) (xs : List D) : kspS o xs s = .opt (spD o xs s.rg) s := by unfold kspS; exact Eq.trans rfl rfl
def kcall (cl : Cl) (k : Nat) (xs : List D) (s : S) : RE D := (cl k xs s.rg).re s.sl
@[simp] theorem xcall (x : Str) (k : Nat) (es : IEs) : ev cl (.call x k es) s = (evs cl es s).bind (kcall cl k) := by
  rw [ev]
  refine congrArg (RE.bind (evs cl es s)) ?_
  funext xs s
  unfold kcall RC.re
  cases cl k xs s.rg <;> rfl
@[simp] theorem kcall_ (k : Nat) (xs : List D) : kcall cl k xs ⟨sl, r⟩ = (cl k xs r).re sl := by unfold kcall; exact Eq.trans rfl rfl
def RC.reL (sl : List Slot) : RC → RE D
  | .ok d r => if flat d then .ok d ⟨sl, r⟩ else .stuck
  | .exc e r => if flats e.fs then .exc e ⟨sl, r⟩ else .stuck
  | .stuck => .stuck
theorem reL_ok {d : D} (h : flat d = true) : (RC.ok d r).reL sl = .ok d ⟨sl, r⟩ := by unfold RC.reL; exact if_pos h
@[simp] theorem reL_int (i : Int) : (RC.ok (.int i) r).reL sl = .ok (.int i) ⟨sl, r⟩ := reL_ok (by simp [flat])
@[simp] theorem reL_bl (i : Bool) : (RC.ok (.bl i) r).reL sl = .ok (.bl i) ⟨sl, r⟩ := reL_ok (by simp [flat])
@[simp] theorem reL_non : (RC.ok .non r).reL sl = .ok .non ⟨sl, r⟩ := reL_ok (by simp [flat])
@[simp] theorem reL_str (i : Str) : (RC.ok (.str i) r).reL sl = .ok (.str i) ⟨sl, r⟩ := reL_ok (by simp [flat])
@[simp] theorem reL_PR (x : Rat) : (RC.ok (PR x) r).reL sl = .ok (PR x) ⟨sl, r⟩ := reL_ok (by simp [PR, flat, flats])
def klend (cl : Cl) (k : Nat) (xs : List D) (s : S) : RE D := (cl k xs s.rg).reL s.sl
@[simp] theorem xlend (x : Str) (k : Nat) (es : IEs) : ev cl (.lend x k es) s = (evs cl es s).bind (klend cl k) := by
  rw [ev]
  refine congrArg (RE.bind (evs cl es s)) ?_
  funext xs s
  unfold klend RC.reL
  cases cl k xs s.rg <;> rfl
@[simp] theorem klend_ (k : Nat) (xs : List D) : klend cl k xs ⟨sl, r⟩ = (cl k xs r).reL sl := by unfold klend; exact Eq.trans rfl rfl
/-! slices -/
def ksl3 (x : D) (l : Option Int) (h : Option Int) (s : S) : RE D := .opt (cutD x l h) s
def ksl2 (cl : Cl) (hi : IO) (x : D) (l : Option Int) (s : S) : RE D := (evo cl hi s).bind (ksl3 x l)
def ksl1 (cl : Cl) (lo hi : IO) (x : D) (s : S) : RE D := (evo cl lo s).bind (ksl2 cl hi x)
@[simp] theorem xsl (a : IE) (lo hi : IO) : ev cl (.sl a lo hi) s = (ev cl a s).bind (ksl1 cl lo hi) := by rw [ev]; exact Eq.trans rfl rfl
@[simp] theorem ksl1_ (lo hi : IO) (x : D) : ksl1 cl lo hi x s = (evo cl lo s).bind (ksl2 cl hi x) := by unfold ksl1; exact Eq.trans rfl rfl
@[simp] theorem ksl2_ (hi : IO) (x : D) (l : Option Int) : ksl2 cl hi x l s = (evo cl hi s).bind (ksl3 x l) := by unfold ksl2; exact Eq.trans rfl rfl
@[simp] theorem ksl3_ (x : D) (l h : Option Int) : ksl3 x l h s = .opt (cutD x l h) s := by unfold ksl3; exact Eq.trans rfl rfl
def kevo (x : D) (s : S) : RE (Option Int) := match x with
  | .int i => .ok (some i) s
  | _ => .stuck
@[simp] theorem xevn : evo cl .none s = .ok none s := by rw [evo]
@[simp] theorem xevs (e : IE) : evo cl (.some e) s = (ev cl e s).bind kevo := by rw [evo]; exact Eq.trans rfl rfl
@[simp] theorem kevo_ (i : Int) : kevo (.int i) s = .ok (some i) s := by unfold kevo; exact Eq.trans rfl rfl
/-! chains -/
def kchn3 (o : COp) (y z : D) (s : S) : RE D := .opt ((cmpD o y z).map .bl) s
def kchn2 (cl : Cl) (o o' : COp) (c : IE) (x y : D) (s : S) : RE D := match cmpD o x y with
  | some true => (ev cl c s).bind (kchn3 o' y)
  | some false => .ok (.bl false) s
  | none => .stuck
def kchn1 (cl : Cl) (o o' : COp) (b c : IE) (x : D) (s : S) : RE D := (ev cl b s).bind (kchn2 cl o o' c x)
@[simp] theorem xchn (o o' : COp) (a b c : IE) : ev cl (.chn o o' a b c) s = (ev cl a s).bind (kchn1 cl o o' b c) := by rw [ev]; exact Eq.trans rfl rfl
@[simp] theorem kchn1_ (o o' : COp) (b c : IE) (x : D) : kchn1 cl o o' b c x s = (ev cl b s).bind (kchn2 cl o o' c x) := by unfold kchn1; exact Eq.trans rfl rfl
@[simp] theorem kchn2_t {o o' : COp} {c : IE} {x y : D} (h : cmpD o x y = some true) : kchn2 cl o o' c x y s = (ev cl c s).bind (kchn3 o' y) := by unfold kchn2; rw [h]
@[simp] theorem kchn2_f {o o' : COp} {c : IE} {x y : D} (h : cmpD o x y = some false) : kchn2 cl o o' c x y s = .ok (.bl false) s := by unfold kchn2; rw [h]
@[simp] theorem kchn3_ (o : COp) (y z : D) : kchn3 o y z s = .opt ((cmpD o y z).map .bl) s := by unfold kchn3; exact Eq.trans rfl rfl
/-! ### statements -/
@[simp] theorem xsnil : exss cl fu .nil s = .next s := by rw [exss]
@[simp] theorem xscons (st : IS) (q : ISs) : exss cl fu (.cons st q) s = (exs cl fu st s).seq (exss cl fu q) := by
  rw [exss]
  unfold RS.seq
  cases exs cl fu st s <;> rfl
def ksetS (i : Nat) (fr : Bool) (d : D) (s : S) : RS := if nlck s.sl i then .next { s with sl := s.sl.set i (slotOf fr d) } else .stuck
@[simp] theorem xset (i : Nat) (fr : Bool) (e : IE) : exs cl fu (.set i fr e) s = (ev cl e s).stm (ksetS i fr) := by rw [exs]; exact Eq.trans rfl rfl
theorem kset0 {i : Nat} {fr : Bool} {d : D} (h : nlck sl i = true) : ksetS i fr d ⟨sl, r⟩ = .next ⟨sl.set i (slotOf fr d), r⟩ := by unfold ksetS; exact if_pos h
@[simp] theorem kset_u {i : Nat} {fr : Bool} {d : D} (h : sl[i]? = some .uns) : ksetS i fr d ⟨sl, r⟩ = .next ⟨sl.set i (slotOf fr d), r⟩ := kset0 (by unfold nlck; rw [h])
@[simp] theorem kset_v {i : Nat} {fr : Bool} {d x : D} (h : sl[i]? = some (.val x)) : ksetS i fr d ⟨sl, r⟩ = .next ⟨sl.set i (slotOf fr d), r⟩ := kset0 (by unfold nlck; rw [h])
@[simp] theorem kset_o {i : Nat} {fr : Bool} {d : D} {x : List D} (h : sl[i]? = some (.own x)) : ksetS i fr d ⟨sl, r⟩ = .next ⟨sl.set i (slotOf fr d), r⟩ := kset0 (by unfold nlck; rw [h])
@[simp] theorem sof_f (d : D) : slotOf false d = .val d := by unfold slotOf; exact Eq.trans rfl rfl
@[simp] theorem sof_l (xs : List D) : slotOf true (.lst xs) = .own xs := by unfold slotOf; exact Eq.trans rfl rfl
def kparS (ts : List (Nat × Bool)) (ds : List D) (s : S) : RS := if ts.length = ds.length ∧ ts.all (fun p => nlck s.sl p.1) = true then .next { s with sl := (ts.zip ds).foldl (fun l p => l.set p.1.1 (slotOf p.1.2 p.2)) s.sl } else .stuck
@[simp] theorem xpar (ts : List (Nat × Bool)) (es : IEs) : exs cl fu (.par ts es) s = (evs cl es s).stm (kparS ts) := by rw [exs]; exact Eq.trans rfl rfl
@[simp] theorem kpar_ {ts : List (Nat × Bool)} {ds : List D} (h : ts.length = ds.length) (h2 : ts.all (fun p => nlck sl p.1) = true) : kparS ts ds ⟨sl, r⟩ = .next ⟨(ts.zip ds).foldl (fun l p => l.set p.1.1 (slotOf p.1.2 p.2)) sl, r⟩ := by unfold kparS; exact if_pos ⟨h, h2⟩
@[simp] theorem nlck_u {i : Nat} (h : sl[i]? = some .uns) : nlck sl i = true := by unfold nlck; rw [h]
@[simp] theorem nlck_v {i : Nat} {d : D} (h : sl[i]? = some (.val d)) : nlck sl i = true := by unfold nlck; rw [h]
@[simp] theorem nlck_o {i : Nat} {d : List D} (h : sl[i]? = some (.own d)) : nlck sl i = true := by unfold nlck; rw [h]
@[simp] theorem nlck_s {x : Slot} {l : List Slot} {i : Nat} : nlck (x :: l) (i + 1) = nlck l i := by unfold nlck; rw [List.getElem?_cons_succ]
@[simp] theorem nlck_zu {l : List Slot} : nlck (.uns :: l) 0 = true := nlck_u rfl
@[simp] theorem nlck_zv {l : List Slot} {d : D} : nlck (.val d :: l) 0 = true := nlck_v rfl
@[simp] theorem nlck_zo {l : List Slot} {d : List D} : nlck (.own d :: l) 0 = true := nlck_o rfl
@[simp] theorem outC_next : outC (.next s) = .ok .non s.rg := by unfold outC; exact Eq.trans rfl rfl
@[simp] theorem outC_ret (d : D) : outC (.ret d s) = .ok d s.rg := by unfold outC; exact Eq.trans rfl rfl
@[simp] theorem outC_exc (d : Ex) : outC (.exc d s) = .exc d s.rg := by unfold outC; exact Eq.trans rfl rfl
def kunpS (is : List Nat) (d : D) (s : S) : RS := match bindTg (.tp is) d s.sl with | some sl => .next { s with sl := sl } | none => .stuck
@[simp] theorem xunp (is : List Nat) (e : IE) : exs cl fu (.unp is e) s = (ev cl e s).stm (kunpS is) := by rw [exs]; exact Eq.trans rfl rfl
@[simp] theorem kunp_ {is : List Nat} {ds : List D} (h : is.length = ds.length) (h2 : is.all (nlck sl) = true) : kunpS is (.tup ds) ⟨sl, r⟩ = .next ⟨(is.zip ds).foldl (fun l p => l.set p.1 (.val p.2)) sl, r⟩ := by
  unfold kunpS bindTg
  simp only [h, h2, and_self, if_true]
def kifeS (cl : Cl) (fu : Nat) (a b : ISs) (x : D) (s : S) : RS := match x with
  | .bl true => exss cl fu a s
  | .bl false => exss cl fu b s
  | _ => .stuck
@[simp] theorem xifs (t : IE) (a b : ISs) : exs cl fu (.ife t a b) s = (ev cl t s).stm (kifeS cl fu a b) := by rw [exs]; exact Eq.trans rfl rfl
@[simp] theorem kifs_t (a b : ISs) : kifeS cl fu a b (.bl true) s = exss cl fu a s := by unfold kifeS; exact Eq.trans rfl rfl
@[simp] theorem kifs_f (a b : ISs) : kifeS cl fu a b (.bl false) s = exss cl fu b s := by unfold kifeS; exact Eq.trans rfl rfl
def kretS (d : D) (s : S) : RS := .ret d s
@[simp] theorem xret (e : IE) : exs cl fu (.ret e) s = (ev cl e s).stm kretS := by rw [exs]; exact Eq.trans rfl rfl
@[simp] theorem kret_ (d : D) : kretS d s = .ret d s := by unfold kretS; exact Eq.trans rfl rfl
def kdrpS (d : D) (s : S) : RS := .next s
@[simp] theorem xdrp (e : IE) : exs cl fu (.drp e) s = (ev cl e s).stm kdrpS := by rw [exs]; exact Eq.trans rfl rfl
@[simp] theorem kdrp_ (d : D) : kdrpS d s = .next s := by unfold kdrpS; exact Eq.trans rfl rfl
def kraiS (c : Nat) (xs : List D) (s : S) : RS := if exOk c xs then .exc ⟨c, xs⟩ s else .stuck
@[simp] theorem xrai (x : Str) (c : Nat) (es : IEs) : exs cl fu (.rai x c es) s = (evs cl es s).stm (kraiS c) := by rw [exs]; exact Eq.trans rfl rfl
@[simp] theorem krai_ {c : Nat} {xs : List D} (h : exOk c xs = true) : kraiS c xs s = .exc ⟨c, xs⟩ s := by unfold kraiS; exact if_pos h
@[simp] theorem xbrk : exs cl fu .brk s = .brk s := by rw [exs]
@[simp] theorem xcnt : exs cl fu .cnt s = .cnt s := by rw [exs]
@[simp] theorem xpas : exs cl fu .pas s = .next s := by rw [exs]
def kappS (i : Nat) (d : D) (s : S) : RS := match s.sl[i]? with
  | some (.own xs) => if xs.length < lim then .next { s with sl := s.sl.set i (.own (xs ++ [d])) } else .stuck
  | _ => .stuck
@[simp] theorem xapp {i : Nat} {e : IE} {xs : List D} (h : sl[i]? = some (.own xs)) : exs cl fu (.app i e) ⟨sl, r⟩ = (ev cl e ⟨sl, r⟩).stm (kappS i) := by
  rw [exs]
  simp only [h]
  exact Eq.trans rfl rfl
@[simp] theorem kapp_ {i : Nat} {d : D} {xs : List D} (h : sl[i]? = some (.own xs)) (h2 : xs.length < 1000000) : kappS i d ⟨sl, r⟩ = .next ⟨sl.set i (.own (xs ++ [d])), r⟩ := by
  unfold kappS
  simp only [h]
  exact if_pos h2
def kremS (i : Nat) (d : D) (s : S) : RS := match s.sl[i]? with
  | some (.own xs) => (match remD xs d with
    | some ys => .next { s with sl := s.sl.set i (.own ys) }
    | none => .stuck)
  | _ => .stuck
theorem xrem {i : Nat} {e : IE} {xs : List D} (h : sl[i]? = some (.own xs)) : exs cl fu (.rem i e) ⟨sl, r⟩ = (ev cl e ⟨sl, r⟩).stm (kremS i) := by
  rw [exs]
  simp only [h]
  exact Eq.trans rfl rfl
theorem krem_ {i : Nat} {d : D} {xs ys : List D} (h : sl[i]? = some (.own xs)) (h2 : remD xs d = some ys) : kremS i d ⟨sl, r⟩ = .next ⟨sl.set i (.own ys), r⟩ := by
  unfold kremS
  simp only [h, h2]
def kinsS (i : Nat) (b : IE) (c : D) (s : S) : RS := (ev cl b s).stm fun d s => match s.sl[i]? with
  | some (.own xs) => (match insD xs c d with
    | some ys => .next { s with sl := s.sl.set i (.own ys) }
    | none => .stuck)
  | _ => .stuck
def kinsT (i : Nat) (c : D) (d : D) (s : S) : RS := match s.sl[i]? with
  | some (.own xs) => (match insD xs c d with
    | some ys => .next { s with sl := s.sl.set i (.own ys) }
    | none => .stuck)
  | _ => .stuck
@[simp] theorem xins {i : Nat} {a b : IE} {xs : List D} (h : sl[i]? = some (.own xs)) : exs cl fu (.ins i a b) ⟨sl, r⟩ = (ev cl a ⟨sl, r⟩).stm (kinsS (cl := cl) i b) := by
  rw [exs]
  simp only [h]
  exact Eq.trans rfl rfl
@[simp] theorem kins_ {i : Nat} {b : IE} {c : D} {s : S} : kinsS (cl := cl) i b c s = (ev cl b s).stm (kinsT i c) := Eq.trans rfl rfl
theorem kinsT_ {i : Nat} {c d : D} {xs ys : List D} (h : sl[i]? = some (.own xs)) (h2 : insD xs c d = some ys) : kinsT i c d ⟨sl, r⟩ = .next ⟨sl.set i (.own ys), r⟩ := by
  unfold kinsT
  simp only [h, h2]
def kaugS (i : Nat) (o : BOp) (x y : D) (s : S) : RS := match augD o x y with
  | some z => if nlck s.sl i then .next { s with sl := s.sl.set i (.val z) } else .stuck
  | none => .stuck
@[simp] theorem xaug {i : Nat} {o : BOp} {e : IE} {x : D} (h : sl[i]? = some (.val x)) : exs cl fu (.aug i o e) ⟨sl, r⟩ = (ev cl e ⟨sl, r⟩).stm (kaugS i o x) := by
  rw [exs]
  simp only [h]
  exact Eq.trans rfl rfl
@[simp] theorem kaug_ {i : Nat} {o : BOp} {x y z d : D} (h : augD o x y = some z) (h2 : sl[i]? = some (.val d)) : kaugS i o x y ⟨sl, r⟩ = .next ⟨sl.set i (.val z), r⟩ := by
  unfold kaugS
  simp only [h]
  exact if_pos (nlck_v h2)
/-! ### loops whose end is told -/
def lastO : Nat → Slot → Slot
  | 0, o => o
  | n + 1, _ => .val (.int (n : Int))
def lastS (xs : List D) (o : Slot) : Slot := match xs.getLast? with
  | some x => .val x
  | none => o
theorem lastO_fre {n : Nat} {o : Slot} (h : Fre o) : Fre (lastO n o) := by
  cases n with
  | zero => exact h
  | succ n => exact .val _
theorem lastS_fre {xs : List D} {o : Slot} (h : Fre o) : Fre (lastS xs o) := by
  unfold lastS
  split
  · exact .val _
  · exact h
theorem nlck_zf {l : List Slot} {o : Slot} (h : Fre o) : nlck (o :: l) 0 = true := by rcases h with rfl | ⟨d, rfl⟩ <;> rfl
@[simp] theorem nlck_lO {l : List Slot} {n : Nat} : nlck (lastO n .uns :: l) 0 = true := nlck_zf (lastO_fre .uns)
@[simp] theorem nlck_lS {l : List Slot} {xs : List D} : nlck (lastS xs .uns :: l) 0 = true := nlck_zf (lastS_fre .uns)
@[simp] theorem lock_lO {n : Nat} : (lastO n .uns).lock = lastO n .uns := (lastO_fre .uns).lock
@[simp] theorem lock_lS {xs : List D} : (lastS xs .uns).lock = lastS xs .uns := (lastS_fre .uns).lock
theorem forS {ix : Nat} {it : II} {b : ISs} {xs : List D} {r : Rng} {s0 : S} {o0 : Slot} (F : Nat → Slot → List Slot) (ho0 : Fre o0) (h0 : s0 = ⟨F 0 o0, r⟩) (he : evi cl it s0 = .ok xs s0) (h1 : isLck it s0 = false) (h2 : lockOf it s0 = none)
    (hF : ∀ i o, (F i o)[ix]? = some o) (hset : ∀ i o d, (F i o).set ix d = F i d)
    (hs : ∀ (i : Nat) (x : D), xs[i]? = some x → exss cl fu b ⟨F i (.val x), r⟩ = .next ⟨F (i + 1) (.val x), r⟩) :
    exs cl fu (.for (.nm ix) it b) s0 = .next ⟨F xs.length (lastS xs o0), r⟩ := by
  subst h0
  obtain ⟨s', e, rfl⟩ := for_inv (cl := cl) (fu := fu) (tg := .nm ix) (b := b) (fun i s => s = ⟨F i (lastS (xs.take i) o0), r⟩) he h1 h2 rfl (by
    rintro i s x hx rfl
    refine ⟨_, ⟨F (i + 1) (.val x), r⟩, bindNm (hF i _) (lastS_fre ho0), .inl ?_, ?_⟩
    · rw [hset]
      exact hs i x hx
    · rw [List.take_add_one, hx]
      unfold lastS
      simp)
  rw [e, List.take_length]
theorem forR {ix q : Nat} {a : IE} {b : ISs} {r : Rng} {s0 : S} {o0 : Slot} (F : Nat → Slot → List Slot) (ho0 : Fre o0) (h0 : s0 = ⟨F 0 o0, r⟩) (ha : ev cl a s0 = .ok (.int (q : Int)) s0) (hq : q < 1000000)
    (hF : ∀ i o, (F i o)[ix]? = some o) (hset : ∀ i o d, (F i o).set ix d = F i d)
    (hs : ∀ i : Nat, i < q → exss cl fu b ⟨F i (.val (.int (i : Int))), r⟩ = .next ⟨F (i + 1) (.val (.int (i : Int))), r⟩) :
    exs cl fu (.for (.nm ix) (.rng1 a) b) s0 = .next ⟨F q (lastO q o0), r⟩ := by
  subst h0
  obtain ⟨s', e, rfl⟩ := for_inv (cl := cl) (fu := fu) (tg := .nm ix) (b := b) (fun i s => s = ⟨F i (lastO i o0), r⟩) (evi_rng1 ha (small_of hq)) rfl rfl rfl (by
    rintro i s x hx rfl
    obtain ⟨rfl, hi⟩ := rngAt hx
    refine ⟨_, ⟨F (i + 1) (.val (.int (i : Int))), r⟩, bindNm (hF i _) (lastO_fre ho0), .inl ?_, ?_⟩
    · rw [hset]
      exact hs i hi
    · rfl)
  rw [e, rngLen]
end
end Vi

/-! V25: parts, sizes, sums, draws: no program in sight. -/
namespace Vi
open PySem
theorem eqI (i j : Int) : eqD (.int i) (.int j) = some (decide (i = j)) := by
  rw [eqD_of (by simp [dok]) (by simp [dok])]
  simp only [deq, Option.some.injEq]
  by_cases h : i = j <;> simp [h]
/-- sizes of parts -/
def Sz (k : Nat) (x : Rat) : Prop := Lt2 k x.num ∧ Lt2 k (x.den : Int)
theorem Sz.mono {j k : Nat} {x : Rat} (h : Sz j x) (hj : j ≤ k) : Sz k x := ⟨h.1.mono hj, h.2.mono hj⟩
theorem sz_divInt {k : Nat} {a b : Int} (h0 : 0 < b) (ha : Lt2 k a) (hb : Lt2 k b) : Sz k (Rat.divInt a b) := by
  have hb0 : b ≠ 0 := by omega
  unfold Sz Lt2 at *
  rw [Rat.num_divInt, Rat.den_divInt, if_neg hb0, Int.sign_eq_one_of_pos h0, Int.one_mul]
  refine ⟨Nat.lt_of_le_of_lt ?_ ha, Nat.lt_of_le_of_lt ?_ hb⟩
  · rw [Int.natAbs_ediv_of_dvd (Int.gcd_dvd_right b a)]
    exact Nat.div_le_self _ _
  · rw [Int.natAbs_natCast]
    exact Nat.div_le_self _ _
theorem den_pos' (x : Rat) : (0 : Int) < x.den := by have := x.den_pos; omega
theorem add_eq (x y : Rat) : Rat.divInt (x.num * y.den + y.num * x.den) (x.den * y.den) = x + y := by
  rw [Rat.add_def', ← Rat.divInt_ofNat]; simp
theorem sub_eq (x y : Rat) : Rat.divInt (x.num * y.den - y.num * x.den) (x.den * y.den) = x - y := by
  rw [Rat.sub_def', ← Rat.divInt_ofNat]; simp
theorem mul_eq (x y : Rat) : Rat.divInt (x.num * y.num) (x.den * y.den) = x * y := by
  rw [Rat.mul_def', ← Rat.divInt_ofNat]; simp
theorem den_mul_pos (x y : Rat) : (0 : Int) < x.den * y.den := Int.mul_pos (den_pos' x) (den_pos' y)
theorem Sz.add {j k : Nat} {x y : Rat} (hx : Sz j x) (hy : Sz k y) : Sz (j + k + 1) (x + y) := by
  rw [← add_eq]
  refine sz_divInt (den_mul_pos x y) ?_ ((hx.2.mul hy.2).mono (by omega))
  have := (hx.1.mul hy.2).add (hy.1.mul hx.2)
  exact this.mono (by omega)
theorem Sz.sub {j k : Nat} {x y : Rat} (hx : Sz j x) (hy : Sz k y) : Sz (j + k + 1) (x - y) := by
  rw [← sub_eq]
  refine sz_divInt (den_mul_pos x y) ?_ ((hx.2.mul hy.2).mono (by omega))
  have := (hx.1.mul hy.2).sub (hy.1.mul hx.2)
  exact this.mono (by omega)
theorem Sz.mul {j k : Nat} {x y : Rat} (hx : Sz j x) (hy : Sz k y) : Sz (j + k) (x * y) := by
  rw [← mul_eq]
  exact sz_divInt (den_mul_pos x y) (hx.1.mul hy.1) (hx.2.mul hy.2)
theorem num_pos' {y : Rat} (h : 0 < y) : 0 < y.num := by
  have h1 : 0 ≤ y.num := Rat.num_nonneg.mpr (Rat.le_of_lt h)
  have h2 : y.num ≠ 0 := fun z => by rw [Rat.num_eq_zero] at z; subst z; exact absurd h (by decide)
  omega
theorem div_eq (x y : Rat) : Rat.divInt (x.num * y.den) (x.den * y.num) = x / y := by
  rw [Rat.div_def, Rat.inv_def, ← Rat.divInt_mul_divInt, Rat.num_divInt_den]
theorem Sz.div {j k : Nat} {x y : Rat} (hx : Sz j x) (hy : Sz k y) (h : 0 < y) : Sz (j + k) (x / y) := by
  rw [← div_eq]
  exact sz_divInt (Int.mul_pos (den_pos' x) (num_pos' h)) (hx.1.mul hy.2) (hx.2.mul hy.1)
theorem pr01 : D.tup [.int 0, .int 1] = PR 0 := Eq.trans rfl rfl
theorem pr11 : D.tup [.int 1, .int 1] = PR 1 := Eq.trans rfl rfl
theorem sz01 : Sz 1 0 := by constructor <;> (unfold Lt2; decide)
theorem sz11 : Sz 1 1 := by constructor <;> (unfold Lt2; decide)
/-- sums -/
def sumR (xs : List Rat) : Rat := xs.foldl (· + ·) 0
theorem sumR_snoc (xs : List Rat) (x : Rat) : sumR (xs ++ [x]) = sumR xs + x := by simp [sumR]
theorem take_snoc {α : Type} {xs : List α} {i : Nat} {x : α} (h : xs[i]? = some x) : xs.take (i + 1) = xs.take i ++ [x] := by
  rw [List.take_add_one, h]; rfl
theorem Sz.sum {k : Nat} : ∀ (n : Nat) {xs : List Rat}, xs.length ≤ n → (∀ x ∈ xs, Sz k x) → Sz (n * (k + 1) + 1) (sumR xs)
  | n, xs, hn, h => by
    induction n generalizing xs with
    | zero =>
      have : xs = [] := List.length_eq_zero_iff.mp (by omega)
      subst this; exact sz01.mono (by omega)
    | succ n ih =>
      by_cases hl : xs = []
      · subst hl; exact sz01.mono (by omega)
      · rw [← List.dropLast_concat_getLast hl, sumR_snoc]
        have h1 := ih (xs := xs.dropLast) (by rw [List.length_dropLast]; omega) (fun x hx => h x (List.dropLast_subset xs hx))
        have h2 := h _ (List.getLast_mem hl)
        exact (h1.add h2).mono (by rw [Nat.add_mul]; omega)
theorem Sz.pow {k : Nat} {x : Rat} (hx : Sz k x) : ∀ n : Nat, Sz (k * n + 1) (x ^ n)
  | 0 => by rw [Rat.pow_zero]; exact sz11.mono (by omega)
  | n + 1 => by
    rw [Rat.pow_succ]
    exact ((Sz.pow hx n).mul hx).mono (by rw [Nat.mul_add]; omega)
theorem rng0 {n : Nat} {i : Nat} {d : D} (h : (rngL 0 (n : Int))[i]? = some d) : d = .int (i : Int) ∧ i < n := by
  unfold rngL at h
  rw [List.getElem?_map] at h
  cases e : (List.range ((n : Int) - 0).toNat)[i]? with
  | none => rw [e] at h; cases h
  | some j =>
    rw [e] at h
    simp only [Option.map_some, Option.some.injEq] at h
    have e1 := List.getElem?_eq_some_iff.mp e
    obtain ⟨h1, h2⟩ := e1
    rw [List.getElem_range] at h2
    subst h2
    rw [List.length_range] at h1
    refine ⟨by rw [← h]; simp, by omega⟩
theorem rng0_len (n : Nat) : (rngL 0 (n : Int)).length = n := by simp [rngL]
theorem bind3 {x : D} {a b c : D} {o : Slot} (ho : Fre o) : bindTg (.nm 3) x [.val a, .val b, .val c, o] = some [.val a, .val b, .val c, .val x] := by
  rcases ho with rfl | ⟨d, rfl⟩ <;> rfl
/-- the draws' state -/
structure OkR (q : Int × List Int) : Prop where
  ne : q.2 ≠ []
  p0 : 0 ≤ q.1
def takeF (most : Int) (q : Int × List Int) : Int × (Int × List Int) :=
  if most < 2 then (0, q) else
  let at_ := (q.1 % q.2.length).toNat
  let cell := q.2.getD at_ 0
  if 1000000000000000000 ≤ cell then (cell % most, (q.1, q.2.set at_ (cell / most)))
  else
    let s1 := (cell * 48271 + (q.1 + 1) * 69621) % 2147483647
    let s2 := (s1 * 16807 + (q.1 + 1) * 7919) % 1000000007
    ((s2 / 7) % most, (q.1 + 1, q.2))
theorem takeF_ok {most : Int} {q : Int × List Int} (h : OkR q) : OkR (takeF most q).2 := by
  unfold takeF
  split
  · exact h
  · simp only []
    split
    · exact ⟨by simpa using h.ne, h.p0⟩
    · exact ⟨h.ne, by have := h.p0; show 0 ≤ q.1 + 1; omega⟩
theorem takeF_lo {most : Int} {q : Int × List Int} : 0 ≤ (takeF most q).1 := by
  unfold takeF
  split
  · exact Int.le_refl 0
  · simp only []
    split <;> exact Int.emod_nonneg _ (by omega)
theorem takeF_hi {most : Int} {q : Int × List Int} (h : 1 ≤ most) : (takeF most q).1 < most := by
  unfold takeF
  split
  · show 0 < most; omega
  · simp only []
    split <;> exact Int.emod_lt_of_pos _ (by omega)
theorem mulC {i j : Int} (h : j.natAbs < 2 ^ 64) : mulOk i j = true := by
  unfold mulOk
  simp only [Bool.or_eq_true, decide_eq_true_eq]
  exact .inl (.inr h)
def fracF (most : Int) (q : Int × List Int) : Rat × (Int × List Int) :=
  let t1 := takeF (2 * most + 1) q
  let t2 := takeF 3 t1.2
  (Rat.divInt (t1.1 - most) (1 + t2.1), t2.2)
def aboveF (most : Int) (q : Int × List Int) : Rat × (Int × List Int) :=
  let t1 := takeF most q
  let t2 := takeF 3 t1.2
  (Rat.divInt (1 + t1.1) (1 + t2.1), t2.2)
def rateF (q : Int × List Int) : Rat × (Int × List Int) :=
  let t1 := takeF 6 q
  let t2 := takeF 9 t1.2
  (Rat.divInt t1.1 (4 + t2.1), t2.2)
theorem lt2_of {i : Int} {k : Nat} (h1 : -(2 ^ k : Nat) < i) (h2 : i < (2 ^ k : Nat)) : Lt2 k i := by unfold Lt2; omega
theorem fracF_ok {most : Int} {q : Int × List Int} (h : OkR q) : OkR (fracF most q).2 := takeF_ok (takeF_ok h)
theorem aboveF_ok {most : Int} {q : Int × List Int} (h : OkR q) : OkR (aboveF most q).2 := takeF_ok (takeF_ok h)
theorem rateF_ok {q : Int × List Int} (h : OkR q) : OkR (rateF q).2 := takeF_ok (takeF_ok h)
abbrev wd (s : String) : D := .str (Str.ofString s)
/-- the error of a word -/
def er (s : String) : Ex := ⟨2, [.str (Str.ofString s)]⟩
def stateF (ns : List Int) : Int × List Int := (0, if ns = [] then [0] else ns.map fun i => if i < 0 then -i else i)
theorem stateF_ok (ns : List Int) : OkR (stateF ns) := by
  constructor
  · unfold stateF
    by_cases h : ns = [] <;> simp [h]
  · exact Int.le_refl 0
theorem intsD_map (ns : List Int) : intsD (ns.map D.int) = some ns := by
  induction ns with
  | nil => rfl
  | cons x xs ih => simp only [List.map_cons, intsD, ih]
theorem sz11' {k : Nat} (h : 1 ≤ k) : Sz k 1 := sz11.mono h
theorem szN (q : Nat) {k : Nat} (h : q < 2 ^ k) : Sz (k + 1) (q : Rat) := by
  constructor
  · unfold Lt2
    rw [Rat.num_natCast, Int.natAbs_natCast, Nat.pow_succ]; omega
  · unfold Lt2
    rw [Rat.den_natCast]
    have := Nat.one_lt_two_pow (n := k + 1) (by omega)
    simpa using this
theorem prN (q : Nat) : D.tup [.int (q : Int), .int 1] = PR (q : Rat) := by simp [PR]
def rowW (p x : Rat) (q : Nat) : Rat := if x = 0 then p * q else p * ((1 - (1 / (1 + x)) ^ q) / x)
def rowG (p x : Rat) (q : Nat) : Rat := if x = 0 then p * q else p * (((1 + x) ^ q - 1) / x)
theorem ixPR0 (x : Rat) (r : Rng) : ixD (PR x) (.int 0) r = some (.int x.num) := by simp [PR, ixD, ixL]
theorem num0 (x : Rat) : x.num = 0 ↔ x = 0 := Rat.num_eq_zero
/-- the product of the rates, each and one -/
def prodR (xs : List Rat) : Rat := xs.foldl (fun a x => a * (1 + x)) 1
theorem prodR_snoc (xs : List Rat) (x : Rat) : prodR (xs ++ [x]) = prodR xs * (1 + x) := by simp [prodR]
theorem Sz.prod {k : Nat} : ∀ (n : Nat) {xs : List Rat}, xs.length ≤ n → (∀ x ∈ xs, Sz k x) → Sz (n * (k + 2) + 1) (prodR xs)
  | n, xs, hn, h => by
    induction n generalizing xs with
    | zero =>
      have : xs = [] := List.length_eq_zero_iff.mp (by omega)
      subst this; exact sz11.mono (by omega)
    | succ n ih =>
      by_cases hl : xs = []
      · subst hl; exact sz11.mono (by omega)
      · rw [← List.dropLast_concat_getLast hl, prodR_snoc]
        have h1 := ih (xs := xs.dropLast) (by rw [List.length_dropLast]; omega) (fun x hx => h x (List.dropLast_subset xs hx))
        have h2 := h _ (List.getLast_mem hl)
        exact (h1.mul (sz11.add h2)).mono (by rw [Nat.add_mul]; omega)
theorem ixPR1 (x : Rat) (r : Rng) : ixD (PR x) (.int 1) r = some (.int (x.den : Int)) := by simp [PR, ixD, ixL]
theorem prNeg (x : Rat) : D.tup [.int (-x.num), .int (x.den : Int)] = PR (-x) := by simp [PR]
theorem numle {x : Rat} (h : 0 < x) : ¬ x.num ≤ 0 := by have := num_pos' h; omega
theorem numle' {x : Rat} (h : ¬ 0 < x) : x.num ≤ 0 := by
  have : ¬ 0 < x.num := fun z => h (by
    have h1 : 0 ≤ x := Rat.num_nonneg.mp (by omega)
    have h2 : x ≠ 0 := fun e => by subst e; exact absurd z (by decide)
    grind)
  omega
def dotL (xs ys : List Rat) : List Rat := (List.range xs.length).map fun i => xs.getD i 0 * ys.getD i 0
theorem ixLst {xs : List Rat} {i : Nat} (h : i < xs.length) (r : Rng) : ixD (.lst (xs.map PR)) (.int (i : Int)) r = some (PR (xs.getD i 0)) := by
  have h1 : (0 : Int) ≤ (i : Int) := by omega
  have h2 : (i : Int) < ((xs.map PR).length : Int) := by rw [List.length_map]; omega
  unfold ixD ixL
  simp only [h1, h2, if_true, Int.toNat_natCast, List.getElem?_map, List.getElem?_eq_getElem h, Option.map_some, List.getD_eq_getElem?_getD, Option.getD_some]
theorem ev_call1 {cl : Cl} {x : Str} {k : Nat} {e : IE} {s s1 : S} {d v : D} {r' : Rng} (h : ev cl e s = .ok d s1) (hc : cl k [d] s1.rg = .ok v r') : ev cl (.call x k (.cons e .nil)) s = .ok v { s1 with rg := r' } := by
  simp only [ev, evs, h, bind_ok, hc]
theorem rngL0 (n : Nat) : rngL 0 (n : Int) = (List.range n).map fun (i : Nat) => D.int (i : Int) := by simp [rngL]
/-! sums over ranges -/
def gsum (f : Nat → Rat) : Nat → Rat
  | 0 => 0
  | n + 1 => gsum f n + f n
theorem sumR_range (f : Nat → Rat) (n : Nat) : sumR ((List.range n).map f) = gsum f n := by
  induction n with
  | zero => rfl
  | succ n ih => rw [List.range_succ, List.map_append, List.map_singleton, sumR_snoc, ih]; rfl
theorem Sz.gsum {f : Nat → Rat} {k : Nat} : ∀ n : Nat, (∀ i, i < n → Sz k (f i)) → Sz (n * (k + 1) + 1) (gsum f n)
  | 0, _ => sz01.mono (by omega)
  | n + 1, h => ((Sz.gsum n fun i hi => h i (by omega)).add (h n (by omega))).mono (by rw [Nat.add_mul]; omega)
/-! rows that rise -/
def riseT (p x y : Rat) (k : Nat) : Rat := p * (1 + y) ^ k * (1 / (1 + x)) ^ (k + 1)
theorem sz_st {x : Rat} {k : Nat} (hx : Sz k x) (c : -1 < x) : Sz (k + 3) (1 / (1 + x)) := (sz11.div (sz11.add hx) (by grind)).mono (by omega)
theorem sz_up {y : Rat} {k : Nat} (hy : Sz k y) : Sz (k + 2) (1 + y) := (sz11.add hy).mono (by omega)
theorem mul_le8 {a k : Nat} (h : k ≤ 8) : a * k ≤ a * 8 := Nat.mul_le_mul_left a h
theorem sz_riseT {p x y : Rat} (hp : Sz 12 p) (hx : Sz 12 x) (hy : Sz 12 y) (c : -1 < x) {k : Nat} (hk : k < 8) : Sz 262 (riseT p x y k) :=
  ((hp.mul (Sz.pow (sz_up hy) k)).mul (Sz.pow (sz_st hx c) (k + 1))).mono (by
    have : k ≤ 7 := by omega
    omega)
/-! along -/
def alongN (ps xs : List Rat) : Nat → Rat
  | 0 => 0
  | i + 1 => (alongN ps xs i + ps.getD i 0) * (1 + xs.getD i 0)
theorem sz_along {ps xs : List Rat} {n : Nat} (hp : ∀ i, i < n → Sz 12 (ps.getD i 0)) (hx : ∀ i, i < n → Sz 12 (xs.getD i 0)) : ∀ i, i ≤ n → Sz (i * 27 + 1) (alongN ps xs i)
  | 0, _ => sz01
  | i + 1, h => (((sz_along hp hx i (by omega)).add (hp i (by omega))).mul (sz_up (hx i (by omega)))).mono (by omega)
theorem getD_of {P : Rat → Prop} {xs : List Rat} (h : ∀ x ∈ xs, P x) {i : Nat} (hi : i < xs.length) : P (xs.getD i 0) :=
  h _ (by rw [List.getD_eq_getElem?_getD, List.getElem?_eq_getElem hi]; exact List.getElem_mem hi)
def dueL (ps xs : List Rat) (n : Nat) : List Rat := (List.range n).map fun i => alongN ps xs (i + 1)
theorem dueL_succ (ps xs : List Rat) (n : Nat) : dueL ps xs (n + 1) = dueL ps xs n ++ [alongN ps xs (n + 1)] := by simp [dueL, List.range_succ]
theorem cz : ((0 : Nat) : Rat) = 0 := rfl
theorem co : ((1 : Nat) : Rat) = 1 := rfl
theorem pow_nonneg' {x : Rat} (h : 0 ≤ x) (n : Nat) : 0 ≤ x ^ n := Rat.pow_nonneg h
theorem bern {x : Rat} (h : 0 ≤ x) : ∀ n : Nat, 1 + x * (n : Rat) ≤ (1 + x) ^ n
  | 0 => by rw [Rat.pow_zero, cz]; grind
  | n + 1 => by
    have ih := bern h n
    have h0 : (0 : Rat) ≤ (n : Rat) := Rat.natCast_nonneg
    rw [Rat.pow_succ, Rat.natCast_add, co]
    have h1 : (1 + x * (n : Rat)) * (1 + x) ≤ (1 + x) ^ n * (1 + x) := Rat.mul_le_mul_of_nonneg_right ih (by grind)
    have h2 : 0 ≤ x * (n : Rat) * x := Rat.mul_nonneg (Rat.mul_nonneg h h0) h
    grind
theorem bern_lt {p x : Rat} (h : 0 ≤ x) (hp : 0 < p) (n : Nat) : ¬ p * (1 + x) ^ n < p + p * (x * (n : Rat)) := by
  have h1 := Rat.mul_le_mul_of_nonneg_left (bern h n) (Rat.le_of_lt hp)
  grind
theorem geo_up (p x : Rat) : ∀ n : Nat, gsum (fun k => p * (1 + x) ^ k) n * x = p * ((1 + x) ^ n - 1)
  | 0 => by simp only [gsum, Rat.pow_zero]; grind
  | n + 1 => by
    have ih := geo_up p x n
    simp only [gsum, Rat.pow_succ]
    grind
theorem st_mul {x : Rat} (c : -1 < x) : (1 / (1 + x)) * (1 + x) = 1 := by
  have h : 1 + x ≠ 0 := by grind
  grind
theorem geo_dn {p x : Rat} (c : -1 < x) : ∀ n : Nat, gsum (fun k => p * (1 / (1 + x)) ^ (k + 1)) n * x = p * (1 - (1 / (1 + x)) ^ n)
  | 0 => by simp only [gsum, Rat.pow_zero]; grind
  | n + 1 => by
    have ih := geo_dn (p := p) c n
    have hs := st_mul c
    simp only [gsum]
    generalize (1 / (1 + x)) = s at *
    simp only [Rat.pow_succ] at *
    grind
theorem one_pow (n : Nat) : (1 : Rat) ^ n = 1 := by
  induction n with
  | zero => exact Rat.pow_zero _
  | succ n ih => rw [Rat.pow_succ, ih]; decide +kernel
theorem gsum_congr {f g : Nat → Rat} {n : Nat} (h : ∀ i, i < n → f i = g i) : gsum f n = gsum g n := by
  induction n with
  | zero => rfl
  | succ n ih => simp only [gsum]; rw [ih fun i hi => h i (by omega), h n (by omega)]
theorem gsum_const (p : Rat) (n : Nat) : gsum (fun _ => p) n = p * (n : Rat) := by
  induction n with
  | zero => simp only [gsum, cz]; grind
  | succ n ih => simp only [gsum, ih, Rat.natCast_add, co]; grind
theorem rowG_eq (p x : Rat) (q : Nat) : gsum (fun k => p * (1 + x) ^ k) q = rowG p x q := by
  unfold rowG
  split
  · rename_i h; subst h
    rw [← gsum_const]
    refine gsum_congr fun i _ => ?_
    rw [show (1 + 0 : Rat) = 1 by grind, one_pow]; grind
  · have := geo_up p x q
    grind
theorem rowW_eq {p x : Rat} (c : -1 < x) (q : Nat) : gsum (fun k => p * (1 / (1 + x)) ^ (k + 1)) q = rowW p x q := by
  unfold rowW
  split
  · rename_i h; subst h
    rw [← gsum_const]
    refine gsum_congr fun i _ => ?_
    rw [show (1 / (1 + 0) : Rat) = 1 by decide +kernel, one_pow]; grind
  · have := geo_dn (p := p) c q
    grind
theorem st_pow {x : Rat} (c : -1 < x) : ∀ n : Nat, (1 / (1 + x)) ^ n * (1 + x) ^ n = 1
  | 0 => by rw [Rat.pow_zero, Rat.pow_zero]; decide +kernel
  | n + 1 => by
    have ih := st_pow c n
    have hs := st_mul c
    generalize (1 / (1 + x)) = s at *
    rw [Rat.pow_succ, Rat.pow_succ]
    grind
theorem pow_pos {x : Rat} (c : -1 < x) (n : Nat) : 0 < (1 + x) ^ n := Rat.pow_pos (by grind)
theorem now_row {p x : Rat} (c : -1 < x) (q : Nat) : rowG p x q / (1 + x) ^ q = rowW p x q := by
  have h := st_pow c q
  have h0 := pow_pos c q
  unfold rowG rowW
  split
  · rename_i h; subst h
    rw [show (1 + 0 : Rat) = 1 by grind, one_pow]; grind
  · generalize (1 / (1 + x)) ^ q = a at *
    generalize (1 + x) ^ q = b at *
    have : b ≠ 0 := by grind
    grind
theorem ever_row {p x : Rat} (c : 0 < x) (q : Nat) : rowW p x q + (p / x) / (1 + x) ^ q = p / x := by
  have h := st_pow (show -1 < x by grind) q
  have h0 := pow_pos (show -1 < x by grind) q
  unfold rowW
  rw [if_neg (by grind)]
  generalize (1 / (1 + x)) ^ q = a at *
  generalize (1 + x) ^ q = b at *
  have : b ≠ 0 := by grind
  have : x ≠ 0 := by grind
  grind
theorem div_mul' {a b : Rat} (h : 0 < b) : a / b * b = a := by
  have : b ≠ 0 := by grind
  grind
theorem mul_div' {a b : Rat} (h : 0 < b) : a * b / b = a := by
  have : b ≠ 0 := by grind
  grind
theorem rowG_mul (p x : Rat) (q : Nat) : rowG p x q = p * rowG 1 x q := by
  unfold rowG
  split <;> grind
theorem rowG_pos {x : Rat} (c : 0 ≤ x) {q : Nat} (h : 0 < q) : 0 < rowG 1 x q := by
  rw [← rowG_eq]
  obtain ⟨n, rfl⟩ : ∃ n, q = n + 1 := ⟨q - 1, by omega⟩
  have h1 : ∀ n, 0 ≤ gsum (fun k => 1 * (1 + x) ^ k) n := by
    intro n
    induction n with
    | zero => exact Rat.le_refl
    | succ n ih =>
      have := pow_pos (show -1 < x by grind) n
      simp only [gsum]; grind
  have h2 := h1 n
  have := pow_pos (show -1 < x by grind) n
  simp only [gsum]; grind
theorem pow_lt {x y : Rat} (h0 : 0 < x) (h : x < y) : ∀ {n : Nat}, 0 < n → x ^ n < y ^ n
  | 0, hn => absurd hn (by decide)
  | 1, _ => by rw [Rat.pow_succ, Rat.pow_succ, Rat.pow_zero, Rat.pow_zero]; grind
  | n + 2, _ => by
    have ih := pow_lt h0 h (n := n + 1) (by omega)
    rw [Rat.pow_succ x, Rat.pow_succ y]
    have hy : 0 < y ^ (n + 1) := Rat.pow_pos (by grind)
    have h1 : x ^ (n + 1) * x ≤ y ^ (n + 1) * x := Rat.mul_le_mul_of_nonneg_right (Rat.le_of_lt ih) (Rat.le_of_lt h0)
    have h2 : y ^ (n + 1) * x < y ^ (n + 1) * y := Rat.mul_lt_mul_of_pos_left h hy
    grind
theorem are_ne {x : Rat} (c : 0 ≤ x) {q : Nat} (h : 0 < q) : ¬ ((1 + x) ^ q - 1 = (1 + (x + 1 / 7)) ^ q - 1) := by
  have := pow_lt (x := 1 + x) (y := 1 + (x + 1 / 7)) (by grind) (by grind) h
  grind
theorem year_one (x : Rat) (q : Nat) : (1 + x) ^ q - 1 = (1 + ((1 + x) ^ q - 1)) ^ 1 - 1 := by
  rw [Rat.pow_succ, Rat.pow_zero]; grind
theorem real_id {x y : Rat} (c : 0 ≤ y) : (1 + ((1 + x) / (1 + y) - 1)) * (1 + y) = 1 + x := by
  have : 1 + y ≠ 0 := by grind
  grind
theorem least (P : Nat → Prop) [DecidablePred P] : ∀ n, P n → ∃ d, d ≤ n ∧ P d ∧ ∀ e, e < d → ¬ P e
  | 0, h => ⟨0, by omega, h, fun e he => absurd he (by omega)⟩
  | n + 1, h => by
    by_cases c : ∃ m, m ≤ n ∧ P m
    · obtain ⟨m, hm, hp⟩ := c
      obtain ⟨d, h1, h2, h3⟩ := least P m hp
      exact ⟨d, by omega, h2, h3⟩
    · exact ⟨n + 1, by omega, h, fun e he hp => c ⟨e, by omega, hp⟩⟩
termination_by n => n
theorem reach {s g y : Rat} (hs : 1 / 3 ≤ s) (hg : g ≤ 9) (hy : 1 / 2 ≤ y) : ¬ s * (1 + y) ^ 9 < g := by
  have h1 : (3 / 2 : Rat) ^ 9 ≤ (1 + y) ^ 9 := by
    by_cases h : (3 / 2 : Rat) < 1 + y
    · exact Rat.le_of_lt (pow_lt (by decide +kernel) h (by decide))
    · have : (1 + y : Rat) = 3 / 2 := by grind
      rw [this]; exact Rat.le_refl
  have h2 : (27 : Rat) ≤ (3 / 2 : Rat) ^ 9 := by decide +kernel
  have h3 : (1 / 3 : Rat) * 27 ≤ s * 27 := Rat.mul_le_mul_of_nonneg_right hs (by decide +kernel)
  have h4 : s * 27 ≤ s * (1 + y) ^ 9 := Rat.mul_le_mul_of_nonneg_left (by grind) (by grind)
  grind
instance decLt2 {k : Nat} {i : Int} : Decidable (Lt2 k i) := inferInstanceAs (Decidable (i.natAbs < 2 ^ k))
theorem divInt_nonneg {a b : Int} (ha : 0 ≤ a) (hb : 0 < b) : 0 ≤ Rat.divInt a b := by
  rw [Rat.divInt_nonneg_iff_of_pos_right hb]
  exact ha
theorem eqPR (x y : Rat) : eqD (PR x) (PR y) = some (decide (x = y)) := by rw [eqD_of (dok_PR _ 63) (dok_PR _ 63), deq_PR]
theorem binPR (f : Bool) (x : Rat) : slotOf f (PR x) = .val (PR x) := by cases f <;> rfl
def w23 : Rat := ⟨2, 3, by decide, by decide⟩
def wbad : Rat := ⟨-5, 4, by decide, by decide⟩
def rngM (f : Nat → Rat) (q : Nat) : List Rat := (List.range q).map f
theorem rngM_sum (f : Nat → Rat) (q : Nat) : sumR (rngM f q) = gsum f q := sumR_range f q
theorem rngM_len (f : Nat → Rat) (q : Nat) : (rngM f q).length = q := by simp [rngM]
theorem rngM_mem {P : Rat → Prop} {f : Nat → Rat} {q : Nat} (h : ∀ i, i < q → P (f i)) : ∀ x ∈ rngM f q, P x := by
  intro x hx
  obtain ⟨i, hi, rfl⟩ := List.mem_map.mp hx
  rw [List.mem_range] at hi
  exact h i hi
theorem rngM_PR (f : Nat → Rat) (q : Nat) : (List.range q).map (fun i => PR (f i)) = (rngM f q).map PR := by simp [rngM, Function.comp_def]
theorem prodR_rep (x : Rat) : ∀ q : Nat, prodR (List.replicate q x) = (1 + x) ^ q
  | 0 => by rw [Rat.pow_zero]; rfl
  | q + 1 => by
    rw [List.replicate_succ', prodR_snoc, prodR_rep x q, Rat.pow_succ]
theorem eqL (xs ys : List Rat) : eqD (.lst (xs.map PR)) (.lst (ys.map PR)) = some (decide (xs = ys)) := by
  rw [eqD_of (by simp only [dok]; exact doks_map PR 63 (fun x => dok_PR x 62) xs) (by simp only [dok]; exact doks_map PR 63 (fun x => dok_PR x 62) ys)]
  simp only [deq, deqs_PR]
theorem prm1 : D.tup [.int (-1), .int 1] = PR (-1) := Eq.trans rfl rfl
theorem szm1 : Sz 2 (-1 : Rat) := by constructor <;> decide
theorem mulRep (x : Rat) {q : Nat} (h : q < 1000000) : binD .mul (.lst [PR x]) (.int (q : Int)) = some (.lst ((List.replicate q x).map PR)) := by
  unfold binD
  simp only [List.length_singleton, Nat.one_mul, Int.toNat_natCast, lim]
  rw [if_pos (by omega)]
  congr 2
  induction q with
  | zero => rfl
  | succ q ih => rw [List.replicate_succ, List.flatten_cons, ih (by omega), List.replicate_succ, List.map_cons]; rfl
theorem sumR_pos {xs : List Rat} (hl : 0 < xs.length) (h : ∀ x ∈ xs, 0 < x) : 0 < sumR xs := by
  have key : ∀ (xs : List Rat), (∀ x ∈ xs, 0 < x) → ∀ a : Rat, 0 ≤ a → (0 < a ∨ 0 < xs.length) → 0 < xs.foldl (· + ·) a := by
    intro xs
    induction xs with
    | nil => intro _ a _ h; rcases h with h | h; exact h; exact absurd h (by decide)
    | cons x xs ih =>
      intro h a ha _
      have hx := h x List.mem_cons_self
      exact ih (fun y hy => h y (List.mem_cons_of_mem _ hy)) (a + x) (by grind) (.inl (by grind))
  exact key xs h 0 Rat.le_refl (.inr hl)
def w17 : Rat := ⟨1, 7, by decide, by decide⟩
theorem p17 : D.tup [.int 1, .int 7] = PR w17 := Eq.trans rfl rfl
theorem dok_str (s : String) (k : Nat) (h : PySem.PyData.canLay0 (.str (Str.ofString s)) = true) : dok k (.str (Str.ofString s)) = true := by cases k <;> exact h
mutual
theorem deq_refl : ∀ {k : Nat} {d : D}, dok k d = true → deq d d = true
  | k, .non, _ => by simp [deq]
  | k, .bl b, _ => by simp [deq]
  | k, .int b, _ => by simp [deq]
  | k, .str b, h => by simp [deq]
  | k + 1, .lst xs, h => by
    simp only [dok] at h
    simp only [deq]
    exact deqs_refl h
  | k + 1, .tup xs, h => by
    simp only [dok] at h
    simp only [deq]
    exact deqs_refl h
  | 0, .lst xs, h => by simp [dok] at h
  | 0, .tup xs, h => by simp [dok] at h
  | k, .scr _, h => by cases k <;> simp [dok] at h
  | k, .tok, h => by cases k <;> simp [dok] at h
  | k, .cel, h => by cases k <;> simp [dok] at h
  | k, .fn _, h => by cases k <;> simp [dok] at h
theorem deqs_refl : ∀ {k : Nat} {ds : List D}, doks k ds = true → deqs ds ds = true
  | k, [], _ => by simp [deqs]
  | k, x :: xs, h => by
    simp only [doks, Bool.and_eq_true] at h
    simp [deqs, deq_refl h.1, deqs_refl h.2]
end
theorem eqD_refl {d : D} (h : dok 64 d = true) : eqD d d = some true := by rw [eqD_of h h, deq_refl h]
theorem Sz.neg {k : Nat} {x : Rat} (h : Sz k x) : Sz k (-x) := by
  unfold Sz at *
  exact ⟨by rw [Rat.neg_num]; exact h.1.neg, by rw [Rat.neg_den]; exact h.2⟩
theorem prZ (i : Int) : D.tup [.int i, .int 1] = PR (i : Rat) := by simp [PR]
theorem szZ {i : Int} {k : Nat} (h : Lt2 k i) (h0 : 1 ≤ k) : Sz k (i : Rat) := by
  constructor
  · rw [Rat.num_intCast]; exact h
  · rw [Rat.den_intCast]
    unfold Lt2
    have := Nat.one_lt_two_pow (n := k) (by omega)
    simpa using this
def maxT (x : Rat) (xs : List Rat) (i : Nat) : Rat := ((x :: xs).take i).foldl (fun a y => if a < y then y else a) x
def minT (x : Rat) (xs : List Rat) (i : Nat) : Rat := ((x :: xs).take i).foldl (fun a y => if y < a then y else a) x
def maxR (x : Rat) (xs : List Rat) : Rat := (x :: xs).foldl (fun a y => if a < y then y else a) x
def minR (x : Rat) (xs : List Rat) : Rat := (x :: xs).foldl (fun a y => if y < a then y else a) x
theorem maxT_len (x : Rat) (xs : List Rat) : maxT x xs (x :: xs).length = maxR x xs := by unfold maxT maxR; rw [List.take_length]
theorem minT_len (x : Rat) (xs : List Rat) : minT x xs (x :: xs).length = minR x xs := by unfold minT minR; rw [List.take_length]
theorem maxT_succ {x : Rat} {xs : List Rat} {i : Nat} {y : Rat} (h : (x :: xs)[i]? = some y) : maxT x xs (i + 1) = if maxT x xs i < y then y else maxT x xs i := by
  unfold maxT; rw [take_snoc h, List.foldl_append]; rfl
theorem minT_succ {x : Rat} {xs : List Rat} {i : Nat} {y : Rat} (h : (x :: xs)[i]? = some y) : minT x xs (i + 1) = if y < minT x xs i then y else minT x xs i := by
  unfold minT; rw [take_snoc h, List.foldl_append]; rfl
theorem fold_sz {f : Rat → Rat → Rat} {k : Nat} (hf : ∀ a b, Sz k a → Sz k b → Sz k (f a b)) : ∀ (ys : List Rat) (a : Rat), Sz k a → (∀ y ∈ ys, Sz k y) → Sz k (ys.foldl f a)
  | [], a, ha, _ => ha
  | y :: ys, a, ha, h => fold_sz hf ys _ (hf a y ha (h y List.mem_cons_self)) fun z hz => h z (List.mem_cons_of_mem _ hz)
theorem maxT_sz {x : Rat} {xs : List Rat} {k : Nat} (h : ∀ y ∈ x :: xs, Sz k y) (i : Nat) : Sz k (maxT x xs i) :=
  fold_sz (fun a b ha hb => by split <;> assumption) _ _ (h x List.mem_cons_self) fun y hy => h y (List.mem_of_mem_take hy)
theorem minT_sz {x : Rat} {xs : List Rat} {k : Nat} (h : ∀ y ∈ x :: xs, Sz k y) (i : Nat) : Sz k (minT x xs i) :=
  fold_sz (fun a b ha hb => by split <;> assumption) _ _ (h x List.mem_cons_self) fun y hy => h y (List.mem_of_mem_take hy)
/-! ### operations on values, for simp -/
theorem bAdd (i j : Int) : binD .add (.int i) (.int j) = some (.int (i + j)) := Eq.trans rfl rfl
theorem bSub (i j : Int) : binD .sub (.int i) (.int j) = some (.int (i - j)) := Eq.trans rfl rfl
theorem bMul {i j : Int} (h : mulOk i j = true) : binD .mul (.int i) (.int j) = some (.int (i * j)) := by unfold binD; exact if_pos h
theorem bDiv {i j : Int} (h : divOk j = true) : binD .fdiv (.int i) (.int j) = some (.int (i / j)) := by unfold binD; exact if_pos h
theorem bApp {xs ys : List D} (h : xs.length + ys.length ≤ 1000000) : binD .add (.lst xs) (.lst ys) = some (.lst (xs ++ ys)) := by unfold binD; exact if_pos h
def rep (q : Nat) (v : Rat) : List Rat := List.replicate q v
theorem bRep (v : Rat) {q : Nat} (h : q < 1000000) : binD .mul (.lst [PR v]) (.int (q : Int)) = some (.lst ((rep q v).map PR)) := mulRep v h
theorem rep_len (q : Nat) (v : Rat) : (rep q v).length = q := List.length_replicate
theorem rep_mem {q : Nat} {v x : Rat} (h : x ∈ rep q v) : x = v := List.eq_of_mem_replicate h
theorem rep_sum (v : Rat) : ∀ q : Nat, sumR (rep q v) = v * (q : Rat)
  | 0 => by show (0 : Rat) = _; rw [cz]; grind
  | q + 1 => by
    unfold rep
    rw [List.replicate_succ', sumR_snoc, show sumR (List.replicate q v) = _ from rep_sum v q, Rat.natCast_add, co]; grind
theorem bools_map {α : Type} (f : α → Bool) (xs : List α) : bools (xs.map fun x => D.bl (f x)) = some (xs.map f) := by
  induction xs with
  | nil => rfl
  | cons x xs ih => simp only [List.map_cons, bools, ih]
theorem any_map {α : Type} (f : α → Bool) (xs : List α) (r : Rng) : bltD .any [.lst (xs.map fun x => D.bl (f x))] r = some (.bl (xs.any f)) := by
  unfold bltD
  simp only [bools_map]
  simp [List.any_map, Function.comp_def]
theorem all_map {α : Type} (f : α → Bool) (xs : List α) (r : Rng) : bltD .all [.lst (xs.map fun x => D.bl (f x))] r = some (.bl (xs.all f)) := by
  unfold bltD
  simp only [bools_map]
  simp [List.all_map, Function.comp_def]
theorem kunp_of {is : List Nat} {d : D} {ds : List D} {sl : List Slot} {r : Rng} (e : d = .tup ds) (h : is.length = ds.length) (h2 : is.all (nlck sl) = true) : kunpS is d ⟨sl, r⟩ = .next ⟨(is.zip ds).foldl (fun l p => l.set p.1 (.val p.2)) sl, r⟩ := by
  subst e; exact kunp_ h h2
theorem numlt0 {x : Rat} (h : 0 ≤ x) : ¬ x.num < 0 := by
  have := Rat.num_nonneg.mpr h
  omega
theorem numlt0' {x : Rat} (h : ¬ 0 ≤ x) : x.num < 0 := by
  have : ¬ 0 ≤ x.num := fun z => h (Rat.num_nonneg.mp z)
  omega
def prevS (g : Nat → D) : Nat → Slot
  | 0 => .uns
  | k + 1 => .val (g k)
theorem prevS_fre (g : Nat → D) (i : Nat) : Fre (prevS g i) := by
  cases i with
  | zero => exact .uns
  | succ k => exact .val _
theorem nlck_pS {l : List Slot} {g : Nat → D} {i : Nat} : nlck (prevS g i :: l) 0 = true := nlck_zf (prevS_fre g i)
theorem prevS_s (g : Nat → D) (i : Nat) : prevS g (i + 1) = .val (g i) := rfl
theorem rngM_succ (g : Nat → Rat) (n : Nat) : rngM g (n + 1) = rngM g n ++ [g n] := by simp [rngM, List.range_succ]
theorem rngM_congr {f g : Nat → Rat} {n : Nat} (h : ∀ i, i < n → f i = g i) : rngM f n = rngM g n := by
  unfold rngM
  exact List.map_congr_left fun i hi => h i (List.mem_range.mp hi)
theorem rngM_getD {g : Nat → Rat} {n i : Nat} (h : i < n) : (rngM g n).getD i 0 = g i := by
  rw [List.getD_eq_getElem?_getD, List.getElem?_eq_getElem (by rw [rngM_len]; exact h)]
  simp [rngM]
theorem ixRng {g : Nat → Rat} {n i : Nat} (h : i < n) (r : Rng) : ixD (.lst ((rngM g n).map PR)) (.int (i : Int)) r = some (PR (g i)) := by
  rw [ixLst (by rw [rngM_len]; exact h), rngM_getD h]
theorem ixLast (xs : List Rat) (y : Rat) (r : Rng) : ixD (.lst ((xs ++ [y]).map PR)) (.int (-1)) r = some (PR y) := by
  have h1 : ¬ (0 : Int) ≤ -1 := by decide
  have h2 : -(((xs ++ [y]).map PR).length : Int) ≤ -1 := by simp; omega
  unfold ixD ixL
  simp only [h1, h2, if_true, if_false]
  have e : (-1 + (((xs ++ [y]).map PR).length : Int)).toNat = xs.length := by simp; omega
  rw [e, List.map_append, List.getElem?_append_right (by simp)]
  simp
theorem maxR2 (a b : Rat) : maxR a [b] = if a < b then b else a := by
  unfold maxR
  simp only [List.foldl_cons, List.foldl_nil]
  rw [show (if a < a then a else a) = a by split <;> rfl]
theorem minR2 (a b : Rat) : minR a [b] = if b < a then b else a := by
  unfold minR
  simp only [List.foldl_cons, List.foldl_nil]
  rw [show (if a < a then a else a) = a by split <;> rfl]
theorem tele (f : Nat → Rat) (n : Nat) : gsum (fun i => f i - f (i + 1)) n = f 0 - f n := by
  induction n with
  | zero => simp only [gsum]; grind
  | succ n ih => simp only [gsum, ih]; grind
def tk (k : Nat) (xs : List Rat) : List Rat := xs.take k
theorem cutT (xs : List Rat) (k : Nat) : cutD (.lst (xs.map PR)) none (some (k : Int)) = some (.lst ((tk k xs).map PR)) := by
  have h : ¬ ((k : Int) < 0) := by omega
  unfold cutD cutL cutIx tk
  simp only [h, if_false, List.drop_zero, Nat.sub_zero, Int.toNat_natCast, List.map_take]
  congr 2
  by_cases c : k ≤ (xs.map PR).length
  · rw [Nat.min_eq_left c]
  · rw [Nat.min_eq_right (by omega), List.take_of_length_le (Nat.le_refl _), List.take_of_length_le (by omega)]
theorem tk_len {k : Nat} {xs : List Rat} : (tk k xs).length ≤ xs.length := by unfold tk; rw [List.length_take]; omega
theorem tk_mem {k : Nat} {xs : List Rat} {x : Rat} (h : x ∈ tk k xs) : x ∈ xs := List.mem_of_mem_take h
theorem tk_all (xs : List Rat) : tk xs.length xs = xs := List.take_length
theorem sumR_app (xs ys : List Rat) : sumR (xs ++ ys) = sumR xs + sumR ys := by
  have key : ∀ (ys : List Rat) (a : Rat), ys.foldl (· + ·) a = a + ys.foldl (· + ·) 0 := by
    intro ys
    induction ys with
    | nil => intro a; show a = a + 0; grind
    | cons y ys ih => intro a; simp only [List.foldl_cons]; rw [ih (a + y), ih (0 + y)]; grind
  unfold sumR
  rw [List.foldl_append, key ys (xs.foldl _ _)]
theorem sumR_nn {xs : List Rat} (h : ∀ x ∈ xs, 0 ≤ x) : 0 ≤ sumR xs := by
  have key : ∀ (xs : List Rat), (∀ x ∈ xs, 0 ≤ x) → ∀ a : Rat, 0 ≤ a → 0 ≤ xs.foldl (· + ·) a := by
    intro xs
    induction xs with
    | nil => intro _ a h; exact h
    | cons x xs ih => intro h a ha; exact ih (fun y hy => h y (List.mem_cons_of_mem _ hy)) (a + x) (by have := h x List.mem_cons_self; grind)
  exact key xs h 0 Rat.le_refl
theorem sumR_tk_le {xs : List Rat} (h : ∀ x ∈ xs, 0 ≤ x) (k : Nat) : sumR (tk k xs) ≤ sumR xs := by
  have e : sumR xs = sumR (xs.take k) + sumR (xs.drop k) := by rw [← sumR_app, List.take_append_drop]
  have h2 := sumR_nn (xs := xs.drop k) fun x hx => h x (List.mem_of_mem_drop hx)
  show sumR (xs.take k) ≤ _
  grind
theorem sumR_map_mul (g : Rat) (us : List Rat) : sumR (us.map fun u => g * u) = g * sumR us := by
  have key : ∀ (us : List Rat) (a : Rat), (us.map fun u => g * u).foldl (· + ·) (g * a) = g * us.foldl (· + ·) a := by
    intro us
    induction us with
    | nil => intro a; rfl
    | cons u us ih => intro a; simp only [List.map_cons, List.foldl_cons]; rw [← ih (a + u)]; congr 1; grind
  have := key us 0
  rw [show g * (0 : Rat) = 0 by grind] at this
  exact this
/-! stores -/
section
variable {cl : Cl} {fu : Nat} {sl : List Slot} {r : Rng} {s : S}
def kstoS2 (i : Nat) (d y : D) (s : S) : RS := storeIx i y d s
def kstoS (cl : Cl) (i : Nat) (x : IE) (d : D) (s : S) : RS := if stoOk s.sl i then (ev cl x s).stm (kstoS2 i d) else .stuck
theorem xsto (i : Nat) (x e : IE) : exs cl fu (.sto i x e) s = (ev cl e s).stm (kstoS cl i x) := by rw [exs]; exact Eq.trans rfl rfl
theorem ksto_ {i : Nat} {x : IE} {d : D} {xs : List D} (h : sl[i]? = some (.own xs)) : kstoS cl i x d ⟨sl, r⟩ = (ev cl x ⟨sl, r⟩).stm (kstoS2 i d) := by
  unfold kstoS
  exact if_pos (by unfold stoOk; simp only [h])
def ksw4 (j : Nat) (e l : D) (s : S) : RS := storeIx j l e s
def ksw3 (cl : Cl) (j : Nat) (y : IE) (e : D) (r : RS) : RS := match r with
  | .next s => if stoOk s.sl j then (ev cl y s).stm (ksw4 j e) else .stuck
  | _ => .stuck
def ksw2 (cl : Cl) (i j : Nat) (y : IE) (d e k : D) (s : S) : RS := ksw3 cl j y e (storeIx i k d s)
def ksw1 (cl : Cl) (i : Nat) (x : IE) (j : Nat) (y : IE) (ds : List D) (s : S) : RS := match ds with
  | [d, e] => if stoOk s.sl i then (ev cl x s).stm (ksw2 cl i j y d e) else .stuck
  | _ => .stuck
theorem xsw2 (i : Nat) (x : IE) (j : Nat) (y : IE) (es : IEs) : exs cl fu (.sw2 i x j y es) s = (evs cl es s).stm (ksw1 cl i x j y) := by
  rw [exs]
  refine congrArg (RE.stm (evs cl es s)) ?_
  funext ds s
  match ds with
  | [] => rfl
  | [_] => rfl
  | _ :: _ :: _ :: _ => rfl
  | [d, e] =>
    show (if stoOk s.sl i then _ else _) = (if stoOk s.sl i then _ else _)
    refine congrArg (fun z => if stoOk s.sl i = true then z else RS.stuck) ?_
    refine congrArg (RE.stm _) ?_
    funext k s
    unfold ksw2 ksw3
    cases storeIx i k d s <;> rfl
theorem ksw1_ {i : Nat} {x : IE} {j : Nat} {y : IE} {d e : D} {xs : List D} (h : sl[i]? = some (.own xs)) : ksw1 cl i x j y [d, e] ⟨sl, r⟩ = (ev cl x ⟨sl, r⟩).stm (ksw2 cl i j y d e) := by
  unfold ksw1
  exact if_pos (by unfold stoOk; rw [h])
theorem ksw2_ {i : Nat} {j : Nat} {y : IE} {d e : D} {n : Nat} {xs : List D} (h : sl[i]? = some (.own xs)) (hn : n < xs.length) : ksw2 cl i j y d e (.int (n : Int)) ⟨sl, r⟩ = ksw3 cl j y e (.next ⟨sl.set i (.own (xs.set n d)), r⟩) := by
  unfold ksw2 storeIx setAt
  simp [h, hn]
theorem ksw3_ {j : Nat} {y : IE} {e : D} {xs : List D} (h : sl[j]? = some (.own xs)) : ksw3 cl j y e (.next ⟨sl, r⟩) = (ev cl y ⟨sl, r⟩).stm (ksw4 j e) := by
  unfold ksw3
  exact if_pos (by unfold stoOk; rw [h])
theorem ksw4_ {j : Nat} {e : D} {n : Nat} {xs : List D} (h : sl[j]? = some (.own xs)) (hn : n < xs.length) : ksw4 j e (.int (n : Int)) ⟨sl, r⟩ = .next ⟨sl.set j (.own (xs.set n e)), r⟩ := by
  unfold ksw4 storeIx setAt
  simp [h, hn]
theorem ksto2_ {i : Nat} {d : D} {j : Nat} {xs : List D} (h : sl[i]? = some (.own xs)) (hj : j < xs.length) : kstoS2 i d (.int (j : Int)) ⟨sl, r⟩ = .next ⟨sl.set i (.own (xs.set j d)), r⟩ := by
  unfold kstoS2 storeIx setAt
  have h1 : (0 : Int) ≤ (j : Int) := by omega
  have h2 : (j : Int) < xs.length := by omega
  simp only [h, h1, h2, if_true, Int.toNat_natCast]
end
def upd (g : Nat → Rat) (j : Nat) (v : Rat) (t : Nat) : Rat := if t = j then v else g t
theorem rngM_set (g : Nat → Rat) (q j : Nat) (v : Rat) : ((rngM g q).map PR).set j (PR v) = (rngM (upd g j v) q).map PR := by
  apply List.ext_getElem?
  intro t
  rw [List.getElem?_set, List.getElem?_map, List.getElem?_map]
  unfold rngM
  rw [List.getElem?_map, List.getElem?_map, List.length_map, List.length_map, List.length_range]
  by_cases c : t < q
  · rw [List.getElem?_range c]
    by_cases c2 : j = t
    · subst c2
      simp [c, upd]
    · have : t ≠ j := fun z => c2 z.symm
      simp [c2, upd, this]
  · rw [List.getElem?_eq_none (by simpa using c)]
    by_cases c2 : j = t
    · subst c2; simp [c]
    · simp [c2]
def prevO (o : Slot) (g : Nat → D) : Nat → Slot
  | 0 => o
  | k + 1 => .val (g k)
theorem prevO_fre {o : Slot} (h : Fre o) (g : Nat → D) (i : Nat) : Fre (prevO o g i) := by
  cases i with
  | zero => exact h
  | succ k => exact .val _
theorem prevO_s (o : Slot) (g : Nat → D) (i : Nat) : prevO o g (i + 1) = .val (g i) := rfl
theorem ixRng0 {g : Nat → Rat} {n : Nat} (h : 0 < n) (r : Rng) : ixD (.lst ((rngM g n).map PR)) (.int 0) r = some (PR (g 0)) := ixRng (i := 0) h r
theorem ixRep0 {q : Nat} (h : 0 < q) (v : Rat) (r : Rng) : ixD (.lst ((rep q v).map PR)) (.int 0) r = some (PR v) := by
  obtain ⟨n, rfl⟩ : ∃ n, q = n + 1 := ⟨q - 1, by omega⟩
  simp [rep, List.replicate_succ, ixD, ixL]
/-! ### loops and comprehensions over mapped items -/
section
variable {cl : Cl} {fu : Nat}
theorem forM {α : Type} (W : α → D) {ix : Nat} {it : II} {b : ISs} {xs : List α} {r : Rng} {s0 : S} {o0 : Slot} (F : Nat → Slot → List Slot) (ho0 : Fre o0) (h0 : s0 = ⟨F 0 o0, r⟩) (he : evi cl it s0 = .ok (xs.map W) s0) (h1 : isLck it s0 = false) (h2 : lockOf it s0 = none)
    (hF : ∀ i o, (F i o)[ix]? = some o) (hset : ∀ i o d, (F i o).set ix d = F i d)
    (hs : ∀ (i : Nat) (y : α), xs[i]? = some y → exss cl fu b ⟨F i (.val (W y)), r⟩ = .next ⟨F (i + 1) (.val (W y)), r⟩) :
    exs cl fu (.for (.nm ix) it b) s0 = .next ⟨F xs.length (lastS (xs.map W) o0), r⟩ := by
  have := forS (cl := cl) (fu := fu) (ix := ix) (b := b) F ho0 h0 he h1 h2 hF hset (by
    intro i x hx
    rw [List.getElem?_map] at hx
    cases hq : xs[i]? with
    | none => rw [hq] at hx; cases hx
    | some y =>
      rw [hq] at hx
      simp only [Option.map_some, Option.some.injEq] at hx
      subst hx
      exact hs i y hq)
  rw [this, List.length_map]
theorem lcG {α : Type} {W G : α → D} {B : α → List Slot} {tg : Tg} {it : II} {e : IE} {own fz : List Nat} {xs : List α} {sl sl' : List Slot} {r : Rng} (ha : evi cl it ⟨sl, r⟩ = .ok (xs.map W) ⟨sl, r⟩) (hz : frzS fz ⟨sl, r⟩ = ⟨sl, r⟩) (hw : wipeS own (sl.map Slot.lock) = some sl') (hb : ∀ y ∈ xs, bindTg tg (W y) sl' = some (B y)) (hl : xs.length ≤ 1000000)
    (he : ∀ y ∈ xs, ∃ sl2, ev cl e ⟨B y, r⟩ = .ok (G y) ⟨sl2, r⟩) : ev cl (.lc e tg it .none own fz) ⟨sl, r⟩ = .ok (.lst (xs.map G)) ⟨sl, r⟩ := by
  refine ev_lc (s1 := ⟨sl, r⟩) (s2 := ⟨[], r⟩) (xs := xs.map W) (by rw [hz]; exact ha) hw ?_
  have key : ∀ (ys : List α) (acc : List D), (∀ y ∈ ys, y ∈ xs) → acc.length + ys.length ≤ 1000000 → compL (compF (evc cl .none) (fun s => ev cl e s) tg sl') (ys.map W) r acc = .ok (acc ++ ys.map G) ⟨[], r⟩ := by
    intro ys
    induction ys with
    | nil => intro acc _ _; simp [compL]
    | cons y ys ih =>
      intro acc hm ha
      obtain ⟨sl2, e2⟩ := he y (hm y List.mem_cons_self)
      rw [List.length_cons] at ha
      rw [List.map_cons]
      unfold compL
      have e3 : compF (evc cl .none) (fun s => ev cl e s) tg sl' (W y) r = .ok (some (G y)) ⟨sl2, r⟩ := by
        simp only [compF, hb y (hm y List.mem_cons_self), evc, e2, bind_ok]
      rw [e3]
      simp only []
      rw [if_pos (show acc.length < lim by unfold lim; omega), ih (acc ++ [G y]) (fun z hz => hm z (List.mem_cons_of_mem _ hz)) (by simp; omega)]
      simp
  simpa using key xs [] (fun y hy => hy) (by simpa using hl)
theorem lcF {α : Type} {W G : α → D} {B : α → List Slot} {tg : Tg} {it : II} {e c : IE} {own fz : List Nat} {xs : List α} {sl sl' : List Slot} {r : Rng} (p : α → Bool) (ha : evi cl it ⟨sl, r⟩ = .ok (xs.map W) ⟨sl, r⟩) (hz : frzS fz ⟨sl, r⟩ = ⟨sl, r⟩) (hw : wipeS own (sl.map Slot.lock) = some sl') (hb : ∀ y ∈ xs, bindTg tg (W y) sl' = some (B y)) (hl : xs.length ≤ 1000000)
    (hc : ∀ y ∈ xs, ev cl c ⟨B y, r⟩ = .ok (.bl (p y)) ⟨B y, r⟩) (he : ∀ y ∈ xs, ∃ sl2, ev cl e ⟨B y, r⟩ = .ok (G y) ⟨sl2, r⟩) : ev cl (.lc e tg it (.some c) own fz) ⟨sl, r⟩ = .ok (.lst ((xs.filter p).map G)) ⟨sl, r⟩ := by
  refine ev_lc (s1 := ⟨sl, r⟩) (s2 := ⟨[], r⟩) (xs := xs.map W) (by rw [hz]; exact ha) hw ?_
  have key : ∀ (ys : List α) (acc : List D), (∀ y ∈ ys, y ∈ xs) → acc.length + ys.length ≤ 1000000 → compL (compF (evc cl (.some c)) (fun s => ev cl e s) tg sl') (ys.map W) r acc = .ok (acc ++ (ys.filter p).map G) ⟨[], r⟩ := by
    intro ys
    induction ys with
    | nil => intro acc _ _; simp [compL]
    | cons y ys ih =>
      intro acc hm ha
      have hy := hm y List.mem_cons_self
      obtain ⟨sl2, e2⟩ := he y hy
      rw [List.length_cons] at ha
      rw [List.map_cons]
      unfold compL
      cases hp : p y with
      | true =>
        have e3 : compF (evc cl (.some c)) (fun s => ev cl e s) tg sl' (W y) r = .ok (some (G y)) ⟨sl2, r⟩ := by
          simp only [compF, hb y hy, evc, hc y hy, hp, bind_ok, e2]
        rw [e3]
        simp only []
        rw [if_pos (show acc.length < lim by unfold lim; omega), ih (acc ++ [G y]) (fun z hz => hm z (List.mem_cons_of_mem _ hz)) (by simp; omega)]
        simp [List.filter_cons, hp]
      | false =>
        have e3 : compF (evc cl (.some c)) (fun s => ev cl e s) tg sl' (W y) r = .ok none ⟨B y, r⟩ := by
          simp only [compF, hb y hy, evc, hc y hy, hp, bind_ok]
        rw [e3]
        simp only []
        rw [ih acc (fun z hz => hm z (List.mem_cons_of_mem _ hz)) (by omega)]
        simp [List.filter_cons, hp]
  simpa using key xs [] (fun y hy => hy) (by simpa using hl)
end
/-! draws that know their turn -/
theorem compL_drawI {α : Type} [Inhabited α] {f : D → Rng → RE (Option D)} (W : Nat → α → D) (P : Nat → α → Prop) (ok : Int × List Int → Prop) : ∀ (is : List Nat) (acc : List D) (q : Int × List Int), is.Nodup → ok q → (∀ i ∈ is, ∀ q, ok q → ∃ (v : α) (q' : Int × List Int) (sl : List Slot), ok q' ∧ P i v ∧ f (.int (i : Int)) (some q) = .ok (some (W i v)) ⟨sl, some q'⟩) → acc.length + is.length ≤ 1000000 →
    ∃ (g : Nat → α) (q' : Int × List Int), ok q' ∧ (∀ i ∈ is, P i (g i)) ∧ compL f (is.map fun (i : Nat) => .int (i : Int)) (some q) acc = .ok (acc ++ is.map fun i => W i (g i)) ⟨[], some q'⟩
  | [], acc, q, _, hq, _, _ => ⟨fun _ => default, q, hq, by simp, by simp [compL]⟩
  | i :: is, acc, q, hd, hq, h, hl => by
    obtain ⟨v, q1, sl, hq1, hv, e⟩ := h i List.mem_cons_self q hq
    rw [List.length_cons] at hl
    rw [List.nodup_cons] at hd
    obtain ⟨g, q2, hq2, a2, a3⟩ := compL_drawI W P ok is (acc ++ [W i v]) q1 hd.2 hq1 (fun y hy => h y (List.mem_cons_of_mem _ hy)) (by simp; omega)
    refine ⟨fun j => if j = i then v else g j, q2, hq2, fun j hj => ?_, ?_⟩
    · by_cases c : j = i
      · subst c; simpa using hv
      · simp only [c, if_false]
        exact a2 j ((List.mem_cons.mp hj).resolve_left c)
    · rw [List.map_cons]
      unfold compL
      rw [e]
      simp only []
      rw [if_pos (show acc.length < lim by unfold lim; omega), a3]
      have : (is.map fun j => W j (g j)) = is.map fun j => W j (if j = i then v else g j) := List.map_congr_left fun j hj => by
        rw [if_neg (fun z : j = i => hd.1 (by rw [← z]; exact hj))]
      simp [this]
theorem lc_drawI {α : Type} [Inhabited α] {cl : Cl} {ix n : Nat} {e a : IE} {own fz : List Nat} {sl sl' : List Slot} {q q1 : Int × List Int} (W : Nat → α → D) (P : Nat → α → Prop) (ok : Int × List Int → Prop) (ha : ev cl a ⟨sl, some q⟩ = .ok (.int (n : Int)) ⟨sl, some q1⟩) (hn1 : n < 1000000) (hz : frzS fz ⟨sl, some q⟩ = ⟨sl, some q⟩) (hw : wipeS own (sl.map Slot.lock) = some sl') (hn : nlck sl' ix = true)
    (hq : ok q1) (he : ∀ i : Nat, i < n → ∀ q, ok q → ∃ (v : α) (q' : Int × List Int) (sl2 : List Slot), ok q' ∧ P i v ∧ ev cl e ⟨sl'.set ix (.val (.int (i : Int))), some q⟩ = .ok (W i v) ⟨sl2, some q'⟩) :
    ∃ (g : Nat → α) (q' : Int × List Int), ok q' ∧ (∀ i, i < n → P i (g i)) ∧ ev cl (.lc e (.nm ix) (.rng1 a) .none own fz) ⟨sl, some q⟩ = .ok (.lst ((List.range n).map fun i => W i (g i))) ⟨sl, some q'⟩ := by
  obtain ⟨g, q', a1, a2, a3⟩ := compL_drawI (f := compF (evc cl .none) (fun s => ev cl e s) (.nm ix) sl') W P ok (List.range n) [] q1 List.nodup_range hq (fun i hi q hq => by
    obtain ⟨v, q', sl2, h1, h2, e2⟩ := he i (List.mem_range.mp hi) q hq
    refine ⟨v, q', sl2, h1, h2, ?_⟩
    simp only [compF, bindTg, hn, if_true, evc, e2, bind_ok]) (by simp; omega)
  refine ⟨g, q', a1, fun i hi => a2 i (List.mem_range.mpr hi), ?_⟩
  have := ev_lc (cl := cl) (e := e) (tg := .nm ix) (it := .rng1 a) (c := .none) (own := own) (fz := fz) (s := ⟨sl, some q⟩) (s1 := ⟨sl, some q1⟩) (s2 := ⟨[], some q'⟩) (xs := rngL 0 (n : Int)) (by rw [hz]; exact evi_rng1 ha (small_of hn1)) hw (by rw [rngMap]; exact a3)
  simpa using this
theorem gs_add (f g : Nat → Rat) (n : Nat) : gsum (fun k => f k + g k) n = gsum f n + gsum g n := by
  induction n with
  | zero => simp only [gsum]; grind
  | succ n ih => simp only [gsum, ih]; grind
theorem gs_sub (f g : Nat → Rat) (n : Nat) : gsum (fun k => f k - g k) n = gsum f n - gsum g n := by
  induction n with
  | zero => simp only [gsum]; grind
  | succ n ih => simp only [gsum, ih]; grind
theorem gs_mul (c : Rat) (f : Nat → Rat) (n : Nat) : gsum (fun k => c * f k) n = c * gsum f n := by
  induction n with
  | zero => simp only [gsum]; grind
  | succ n ih => simp only [gsum, ih]; grind
theorem gs_nn {f : Nat → Rat} {n : Nat} (h : ∀ i, i < n → 0 ≤ f i) : 0 ≤ gsum f n := by
  induction n with
  | zero => simp only [gsum]; grind
  | succ n ih =>
    have := ih fun i hi => h i (by omega)
    have := h n (by omega)
    simp only [gsum]; grind
end Vi

/-! V26: comprehensions over slots that are known by their places only. -/
namespace Vi
open PySem
def free (sl : List Slot) (i : Nat) : Bool := match sl[i]? with
  | some .uns => true
  | some (.val _) => true
  | _ => false
@[simp] theorem free_s {x : Slot} {l : List Slot} {i : Nat} : free (x :: l) (i + 1) = free l i := by unfold free; rw [List.getElem?_cons_succ]
@[simp] theorem free_u {l : List Slot} : free (.uns :: l) 0 = true := rfl
@[simp] theorem free_v {l : List Slot} {d : D} : free (.val d :: l) 0 = true := rfl
theorem free_f {l : List Slot} {o : Slot} (h : Fre o) : free (o :: l) 0 = true := by rcases h with rfl | ⟨d, rfl⟩ <;> rfl
@[simp] theorem free_lO {l : List Slot} {n : Nat} : free (lastO n .uns :: l) 0 = true := free_f (lastO_fre .uns)
@[simp] theorem free_lS {l : List Slot} {xs : List D} : free (lastS xs .uns :: l) 0 = true := free_f (lastS_fre .uns)
@[simp] theorem free_pS {l : List Slot} {g : Nat → D} {i : Nat} : free (prevS g i :: l) 0 = true := free_f (prevS_fre g i)
theorem free_fre {sl : List Slot} {i : Nat} (h : free sl i = true) : ∃ o, Fre o ∧ sl[i]? = some o := by
  unfold free at h
  split at h
  · rename_i e; exact ⟨_, .uns, e⟩
  · rename_i d e; exact ⟨_, .val d, e⟩
  · cases h
structure Sub (ix : Nat) (sl sl2 : List Slot) : Prop where
  v : ∀ {j : Nat} {d : D}, sl[j]? = some (.val d) → j ≠ ix → sl2[j]? = some (.val d)
  o : ∀ {j : Nat} {xs : List D}, sl[j]? = some (.own xs) → j ≠ ix → sl2[j]? = some (.lck xs)
  l : ∀ {j : Nat} {xs : List D}, sl[j]? = some (.lck xs) → j ≠ ix → sl2[j]? = some (.lck xs)
  f : ∀ {j : Nat}, free sl j = true → j ≠ ix → free sl2 j = true
theorem sub_mk {sl : List Slot} {ix : Nat} {x y : Slot} : Sub ix sl (((sl.map Slot.lock).set ix x).set ix y) := by
  have key : ∀ j, j ≠ ix → (((sl.map Slot.lock).set ix x).set ix y)[j]? = (sl[j]?).map Slot.lock := fun j h => by
    rw [List.getElem?_set_ne (Ne.symm h), List.getElem?_set_ne (Ne.symm h), List.getElem?_map]
  refine ⟨fun h n => by rw [key _ n, h]; rfl, fun h n => by rw [key _ n, h]; rfl, fun h n => by rw [key _ n, h]; rfl, fun {j} h n => ?_⟩
  obtain ⟨o, ho, e⟩ := free_fre h
  unfold free
  rw [key j n, e]
  rcases ho with rfl | ⟨d, rfl⟩ <;> rfl
theorem at_ix {sl : List Slot} {ix : Nat} {x y : Slot} (h : free sl ix = true) : (((sl.map Slot.lock).set ix x).set ix y)[ix]? = some y := by
  obtain ⟨o, _, e⟩ := free_fre h
  have := (List.getElem?_eq_some_iff.mp e).1
  rw [List.getElem?_set_self (by simpa using this)]
theorem wipe1 {sl : List Slot} {ix : Nat} (h : free sl ix = true) : wipeS [ix] (sl.map Slot.lock) = some ((sl.map Slot.lock).set ix .uns) := by
  obtain ⟨o, ho, e⟩ := free_fre h
  have e2 : (sl.map Slot.lock)[ix]? = some o := by rw [List.getElem?_map, e]; rcases ho with rfl | ⟨d, rfl⟩ <;> rfl
  unfold wipeS
  rw [e2]
  rcases ho with rfl | ⟨d, rfl⟩ <;> rfl
theorem nlck1 {sl : List Slot} {ix : Nat} (h : free sl ix = true) : nlck ((sl.map Slot.lock).set ix .uns) ix = true := by
  obtain ⟨o, _, e⟩ := free_fre h
  have := (List.getElem?_eq_some_iff.mp e).1
  unfold nlck
  rw [List.getElem?_set_self (by simpa using this)]
theorem bind1 {sl : List Slot} {ix : Nat} {d : D} (h : free sl ix = true) : bindTg (.nm ix) d ((sl.map Slot.lock).set ix .uns) = some (((sl.map Slot.lock).set ix .uns).set ix (.val d)) := by
  unfold bindTg
  exact if_pos (nlck1 h)
section
variable {cl : Cl} {ix n : Nat} {e a c : IE} {it : II} {sl : List Slot} {r : Rng}
/-- [e for i in range(n)] -/
theorem lcR (G : Nat → D) (hf : free sl ix = true) (ha : ev cl a ⟨sl, r⟩ = .ok (.int (n : Int)) ⟨sl, r⟩) (hn : n < 1000000)
    (he : ∀ i : Nat, i < n → ∀ sl2, Sub ix sl sl2 → sl2[ix]? = some (.val (.int (i : Int))) → ∃ sl3, ev cl e ⟨sl2, r⟩ = .ok (G i) ⟨sl3, r⟩) :
    ev cl (.lc e (.nm ix) (.rng1 a) .none [ix] []) ⟨sl, r⟩ = .ok (.lst ((List.range n).map G)) ⟨sl, r⟩ :=
  lc_rng G ha hn rfl (wipe1 hf) (nlck1 hf) fun i hi => he i hi _ sub_mk (at_ix hf)
/-- [e for i in range(n) if c] -/
theorem lcRF (p : Nat → Bool) (G : Nat → D) (hf : free sl ix = true) (ha : ev cl a ⟨sl, r⟩ = .ok (.int (n : Int)) ⟨sl, r⟩) (hn : n < 1000000)
    (hc : ∀ i : Nat, i < n → ∀ sl2, Sub ix sl sl2 → sl2[ix]? = some (.val (.int (i : Int))) → ev cl c ⟨sl2, r⟩ = .ok (.bl (p i)) ⟨sl2, r⟩)
    (he : ∀ i : Nat, i < n → ∀ sl2, Sub ix sl sl2 → sl2[ix]? = some (.val (.int (i : Int))) → ∃ sl3, ev cl e ⟨sl2, r⟩ = .ok (G i) ⟨sl3, r⟩) :
    ev cl (.lc e (.nm ix) (.rng1 a) (.some c) [ix] []) ⟨sl, r⟩ = .ok (.lst (((List.range n).filter p).map G)) ⟨sl, r⟩ :=
  lcF (W := fun i : Nat => D.int (i : Int)) (G := G) (xs := List.range n) (B := fun i => ((sl.map Slot.lock).set ix .uns).set ix (.val (.int (i : Int)))) p (by rw [← rngMap]; exact evi_rng1 ha (small_of hn)) rfl (wipe1 hf) (fun i _ => bind1 hf) (by rw [List.length_range]; omega) (fun i hi => hc i (List.mem_range.mp hi) _ sub_mk (at_ix hf)) (fun i hi => he i (List.mem_range.mp hi) _ sub_mk (at_ix hf))
/-- [e for y in xs] -/
theorem lcS {α : Type} {W : α → D} {xs : List α} (G : α → D) (hf : free sl ix = true) (ha : evi cl it ⟨sl, r⟩ = .ok (xs.map W) ⟨sl, r⟩) (hl : xs.length ≤ 1000000)
    (he : ∀ y ∈ xs, ∀ sl2, Sub ix sl sl2 → sl2[ix]? = some (.val (W y)) → ∃ sl3, ev cl e ⟨sl2, r⟩ = .ok (G y) ⟨sl3, r⟩) :
    ev cl (.lc e (.nm ix) it .none [ix] []) ⟨sl, r⟩ = .ok (.lst (xs.map G)) ⟨sl, r⟩ :=
  lcG (W := W) (G := G) (xs := xs) (B := fun y => ((sl.map Slot.lock).set ix .uns).set ix (.val (W y))) ha rfl (wipe1 hf) (fun y _ => bind1 hf) hl (fun y hy => he y hy _ sub_mk (at_ix hf))
/-- [e for y in xs if c] -/
theorem lcSF {α : Type} {W : α → D} {xs : List α} (p : α → Bool) (G : α → D) (hf : free sl ix = true) (ha : evi cl it ⟨sl, r⟩ = .ok (xs.map W) ⟨sl, r⟩) (hl : xs.length ≤ 1000000)
    (hc : ∀ y ∈ xs, ∀ sl2, Sub ix sl sl2 → sl2[ix]? = some (.val (W y)) → ev cl c ⟨sl2, r⟩ = .ok (.bl (p y)) ⟨sl2, r⟩)
    (he : ∀ y ∈ xs, ∀ sl2, Sub ix sl sl2 → sl2[ix]? = some (.val (W y)) → ∃ sl3, ev cl e ⟨sl2, r⟩ = .ok (G y) ⟨sl3, r⟩) :
    ev cl (.lc e (.nm ix) it (.some c) [ix] []) ⟨sl, r⟩ = .ok (.lst ((xs.filter p).map G)) ⟨sl, r⟩ :=
  lcF (W := W) (G := G) (xs := xs) (B := fun y => ((sl.map Slot.lock).set ix .uns).set ix (.val (W y))) p ha rfl (wipe1 hf) (fun y _ => bind1 hf) hl (fun y hy => hc y hy _ sub_mk (at_ix hf)) (fun y hy => he y hy _ sub_mk (at_ix hf))
/-- [draws for i in range(n)] -/
theorem lcD {α : Type} [Inhabited α] {q q1 : Int × List Int} (W : Nat → α → D) (P : Nat → α → Prop) (hf : free sl ix = true) (ha : ev cl a ⟨sl, some q⟩ = .ok (.int (n : Int)) ⟨sl, some q1⟩) (hn : n < 1000000) (hq : OkR q1)
    (he : ∀ i : Nat, i < n → ∀ q, OkR q → ∀ sl2, Sub ix sl sl2 → sl2[ix]? = some (.val (.int (i : Int))) → ∃ (v : α) (q' : Int × List Int) (sl3 : List Slot), OkR q' ∧ P i v ∧ ev cl e ⟨sl2, some q⟩ = .ok (W i v) ⟨sl3, some q'⟩) :
    ∃ (g : Nat → α) (q' : Int × List Int), OkR q' ∧ (∀ i, i < n → P i (g i)) ∧ ev cl (.lc e (.nm ix) (.rng1 a) .none [ix] []) ⟨sl, some q⟩ = .ok (.lst ((List.range n).map fun i => W i (g i))) ⟨sl, some q'⟩ :=
  lc_drawI W P OkR ha hn rfl (wipe1 hf) (nlck1 hf) hq fun i hi q hq => he i hi q hq _ sub_mk (at_ix hf)
end
/-! draws whose outcome hangs on the draws' state alone -/
theorem compL_drawU {α : Type} [Inhabited α] (W : Nat → α → D) (P : Nat → α → Prop) (V : Nat → Int × List Int → α × (Int × List Int)) : ∀ (is : List Nat) (q : Int × List Int), is.Nodup → OkR q → (∀ i ∈ is, ∀ q, OkR q → OkR (V i q).2 ∧ P i (V i q).1) →
    ∃ (g : Nat → α) (q' : Int × List Int), OkR q' ∧ (∀ i ∈ is, P i (g i)) ∧ ∀ (f : D → Rng → RE (Option D)), (∀ i ∈ is, ∀ q, OkR q → ∃ sl, f (.int (i : Int)) (some q) = .ok (some (W i (V i q).1)) ⟨sl, some (V i q).2⟩) → ∀ acc : List D, acc.length + is.length ≤ 1000000 →
      compL f (is.map fun (i : Nat) => .int (i : Int)) (some q) acc = .ok (acc ++ is.map fun i => W i (g i)) ⟨[], some q'⟩
  | [], q, _, hq, _ => ⟨fun _ => default, q, hq, by simp, fun f _ acc _ => by simp [compL]⟩
  | i :: is, q, hd, hq, h => by
    rw [List.nodup_cons] at hd
    obtain ⟨h1, h2⟩ := h i List.mem_cons_self q hq
    obtain ⟨g, q2, hq2, a2, a3⟩ := compL_drawU W P V is (V i q).2 hd.2 h1 (fun y hy => h y (List.mem_cons_of_mem _ hy))
    refine ⟨fun j => if j = i then (V i q).1 else g j, q2, hq2, fun j hj => ?_, fun f hf acc hl => ?_⟩
    · by_cases c : j = i
      · subst c; simpa using h2
      · simp only [c, if_false]
        exact a2 j ((List.mem_cons.mp hj).resolve_left c)
    · obtain ⟨sl, e⟩ := hf i List.mem_cons_self q hq
      rw [List.length_cons] at hl
      rw [List.map_cons]
      unfold compL
      rw [e]
      simp only []
      rw [if_pos (show acc.length < lim by unfold lim; omega), a3 f (fun y hy => hf y (List.mem_cons_of_mem _ hy)) _ (by simp; omega)]
      have : (is.map fun j => W j (g j)) = is.map fun j => W j (if j = i then (V i q).1 else g j) := List.map_congr_left fun j hj => by
        rw [if_neg (fun z : j = i => hd.1 (by rw [← z]; exact hj))]
      simp [this]
theorem lcDU {α : Type} [Inhabited α] {cl : Cl} {ix n : Nat} {e : IE} {q1 : Int × List Int} (W : Nat → α → D) (P : Nat → α → Prop) (C : List Slot → Prop) (hn : n < 1000000) (hq : OkR q1)
    (he : ∀ i : Nat, i < n → ∀ q, OkR q → ∃ (v : α) (q' : Int × List Int), OkR q' ∧ P i v ∧ ∀ sl2, C sl2 → sl2[ix]? = some (.val (.int (i : Int))) → ∃ sl3, ev cl e ⟨sl2, some q⟩ = .ok (W i v) ⟨sl3, some q'⟩) :
    ∃ (g : Nat → α) (q' : Int × List Int), OkR q' ∧ (∀ i, i < n → P i (g i)) ∧ ∀ (sl : List Slot) (a : IE) (q : Int × List Int), free sl ix = true → (∀ sl2, Sub ix sl sl2 → C sl2) → ev cl a ⟨sl, some q⟩ = .ok (.int (n : Int)) ⟨sl, some q1⟩ →
      ev cl (.lc e (.nm ix) (.rng1 a) .none [ix] []) ⟨sl, some q⟩ = .ok (.lst ((List.range n).map fun i => W i (g i))) ⟨sl, some q'⟩ := by
  have ch : ∀ (i : Nat) (q : Int × List Int), ∃ v : α × (Int × List Int), i < n → OkR q → OkR v.2 ∧ P i v.1 ∧ ∀ sl2, C sl2 → sl2[ix]? = some (.val (.int (i : Int))) → ∃ sl3, ev cl e ⟨sl2, some q⟩ = .ok (W i v.1) ⟨sl3, some v.2⟩ := fun i q => by
    by_cases c : i < n ∧ OkR q
    · obtain ⟨v, q', h⟩ := he i c.1 q c.2
      exact ⟨(v, q'), fun _ _ => h⟩
    · exact ⟨(default, q), fun h1 h2 => absurd ⟨h1, h2⟩ c⟩
  obtain ⟨V, hV⟩ : ∃ V : Nat → Int × List Int → α × (Int × List Int), ∀ i q, i < n → OkR q → OkR (V i q).2 ∧ P i (V i q).1 ∧ ∀ sl2, C sl2 → sl2[ix]? = some (.val (.int (i : Int))) → ∃ sl3, ev cl e ⟨sl2, some q⟩ = .ok (W i (V i q).1) ⟨sl3, some (V i q).2⟩ :=
    ⟨fun i q => Classical.choose (ch i q), fun i q => Classical.choose_spec (ch i q)⟩
  obtain ⟨g, q', a1, a2, a3⟩ := compL_drawU W P V (List.range n) q1 List.nodup_range hq fun i hi q hq => ⟨(hV i q (List.mem_range.mp hi) hq).1, (hV i q (List.mem_range.mp hi) hq).2.1⟩
  refine ⟨g, q', a1, fun i hi => a2 i (List.mem_range.mpr hi), fun sl a q hf hC ha => ?_⟩
  have := ev_lc (cl := cl) (e := e) (tg := .nm ix) (it := .rng1 a) (c := .none) (own := [ix]) (fz := []) (s := ⟨sl, some q⟩) (s1 := ⟨sl, some q1⟩) (s2 := ⟨[], some q'⟩) (xs := rngL 0 (n : Int)) (evi_rng1 ha (small_of hn)) (wipe1 hf) (by
    rw [rngMap]
    refine a3 _ (fun i hi q hq => ?_) [] (by simp; omega)
    obtain ⟨sl3, e3⟩ := (hV i q (List.mem_range.mp hi) hq).2.2 _ (hC _ (sub_mk (x := .uns) (y := .val (.int (i : Int))))) (at_ix hf)
    exact ⟨sl3, by simp only [compF, bind1 hf, evc, e3, bind_ok]⟩)
  simpa using this
/-! lists of whole numbers -/
def updI (d : Nat → Int) (j : Nat) (v : Int) (k : Nat) : Int := if k = j then v else d k
def rngI (d : Nat → Int) (q : Nat) : List D := (List.range q).map fun k => .int (d k)
theorem rngI_len (d : Nat → Int) (q : Nat) : (rngI d q).length = q := by simp [rngI]
theorem rngI_at {d : Nat → Int} {q n : Nat} (h : n < q) : (rngI d q)[n]? = some (.int (d n)) := by
  unfold rngI
  rw [List.getElem?_map, List.getElem?_range h]; rfl
theorem ixI {d : Nat → Int} {q n : Nat} (h : n < q) (r : Rng) : ixD (.lst (rngI d q)) (.int (n : Int)) r = some (.int (d n)) := by
  have h1 : (0 : Int) ≤ (n : Int) := by omega
  have h2 : (n : Int) < ((rngI d q).length : Int) := by rw [rngI_len]; omega
  unfold ixD ixL
  simp only [h1, h2, if_true, Int.toNat_natCast]
  exact rngI_at h
theorem rngI_set (d : Nat → Int) (q j : Nat) (v : Int) : (rngI d q).set j (.int v) = rngI (updI d j v) q := by
  apply List.ext_getElem?
  intro t
  rw [List.getElem?_set]
  unfold rngI
  rw [List.getElem?_map, List.getElem?_map, List.length_map, List.length_range]
  by_cases c : t < q
  · rw [List.getElem?_range c]
    by_cases c2 : j = t
    · subst c2; simp [c, updI]
    · have : t ≠ j := fun z => c2 z.symm
      simp [c2, updI, this]
  · rw [List.getElem?_eq_none (by simpa using c)]
    by_cases c2 : j = t
    · subst c2; simp [c]
    · simp [c2]
theorem rngI_succ (d : Nat → Int) (n : Nat) : rngI d (n + 1) = rngI d n ++ [.int (d n)] := by simp [rngI, List.range_succ]
theorem rngI_congr {d e : Nat → Int} {q : Nat} (h : ∀ k, k < q → d k = e k) : rngI d q = rngI e q := List.map_congr_left fun k hk => by rw [h k (List.mem_range.mp hk)]
def isum (d : Nat → Int) : Nat → Int
  | 0 => 0
  | n + 1 => isum d n + d n
theorem isum_eq (d : Nat → Int) : ∀ q : Nat, ((List.range q).map d).sum = isum d q
  | 0 => rfl
  | n + 1 => by
    rw [List.range_succ, List.map_append, List.sum_append, isum_eq d n]
    simp [isum]
theorem intsD_rng (d : Nat → Int) (q : Nat) : intsD (rngI d q) = some ((List.range q).map d) := by
  rw [← intsD_map]
  simp [rngI, List.map_map, Function.comp_def]
theorem sumI (d : Nat → Int) (q : Nat) (r : Rng) : bltD .sum [.lst (rngI d q)] r = some (.int (isum d q)) := by
  unfold bltD
  simp only [intsD_rng, isum_eq]
theorem lenI (d : Nat → Int) (q : Nat) (r : Rng) : bltD .len [.lst (rngI d q)] r = some (.int (q : Int)) := by simp [bltD, rngI_len]
theorem dok_rngI (d : Nat → Int) (q k : Nat) : dok (k + 1) (.lst (rngI d q)) = true := by
  simp only [dok]
  unfold rngI
  exact doks_map _ k (fun i => by cases k <;> simp [dok]) _
theorem eqLI (d e : Nat → Int) (q : Nat) : eqD (.lst (rngI d q)) (.lst (rngI e q)) = some (decide (∀ k, k < q → d k = e k)) := by
  rw [eqD_of (dok_rngI d q 63) (dok_rngI e q 63)]
  congr 1
  simp only [deq]
  induction q with
  | zero => simp [rngI, deqs]
  | succ q ih =>
    rw [rngI_succ, rngI_succ]
    have key : ∀ (xs ys : List D) (a b : Int), xs.length = ys.length → deqs (xs ++ [.int a]) (ys ++ [.int b]) = (deqs xs ys && decide (a = b)) := by
      intro xs
      induction xs with
      | nil => intro ys a b h; cases ys with
        | nil => by_cases c : a = b <;> simp [deqs, deq, c]
        | cons _ _ => simp at h
      | cons x xs ihx => intro ys a b h; cases ys with
        | nil => simp at h
        | cons y ys => simp only [List.cons_append, deqs]; rw [ihx ys a b (by simpa using h), Bool.and_assoc]
    rw [key _ _ _ _ (by rw [rngI_len, rngI_len]), ih, ← Bool.decide_and]
    congr 1
    apply propext
    constructor
    · intro ⟨h1, h2⟩ k hk
      by_cases c : k = q
      · rw [c]; exact h2
      · exact h1 k (by omega)
    · intro h
      exact ⟨fun k hk => h k (by omega), h q (by omega)⟩
section
variable {cl : Cl} {fu : Nat} {sl : List Slot} {r : Rng}
def kaug3 (i : Nat) (o : BOp) (k : Int) (old z : D) (s : S) : RS := match augD o old z with
  | some w => storeIx i (.int k) w s
  | none => .stuck
def kaug2 (cl : Cl) (i : Nat) (o : BOp) (e : IE) (y : D) (s : S) : RS := match s.sl[i]?, y with
  | some (.own xs), .int k => (match ixL xs k with
    | some old => (ev cl e s).stm (kaug3 i o k old)
    | none => .stuck)
  | _, _ => .stuck
theorem xaugs {i : Nat} {x e : IE} {o : BOp} {xs : List D} (h : sl[i]? = some (.own xs)) : exs cl fu (.augs i x o e) ⟨sl, r⟩ = (ev cl x ⟨sl, r⟩).stm (kaug2 cl i o e) := by
  rw [exs]
  refine (if_pos (by unfold stoOk; simp only [h])).trans ?_
  refine congrArg (RE.stm _) ?_
  funext y s
  unfold kaug2
  rfl
theorem kaug2I {i n q : Nat} {e : IE} {d : Nat → Int} (h : sl[i]? = some (.own (rngI d q))) (hn : n < q) : kaug2 cl i .add e (.int (n : Int)) ⟨sl, r⟩ = (ev cl e ⟨sl, r⟩).stm (kaug3 i .add (n : Int) (.int (d n))) := by
  have e1 : ixL (rngI d q) (n : Int) = some (.int (d n)) := by
    have h1 : (0 : Int) ≤ (n : Int) := by omega
    have h2 : (n : Int) < ((rngI d q).length : Int) := by rw [rngI_len]; omega
    unfold ixL
    simp only [h1, h2, if_true, Int.toNat_natCast]
    exact rngI_at hn
  unfold kaug2
  simp only [h, e1]
theorem stoI {i n q : Nat} {v : Int} {d : Nat → Int} (h : sl[i]? = some (.own (rngI d q))) (hn : n < q) : storeIx i (.int (n : Int)) (.int v) ⟨sl, r⟩ = .next ⟨sl.set i (.own (rngI (updI d n v) q)), r⟩ := by
  have h1 : (0 : Int) ≤ (n : Int) := by omega
  have h2 : (n : Int) < ((rngI d q).length : Int) := by rw [rngI_len]; omega
  unfold storeIx setAt
  simp only [h, h1, h2, if_true, Int.toNat_natCast, rngI_set]
theorem kaug3I {i n q : Nat} {a b : Int} {d : Nat → Int} (h : sl[i]? = some (.own (rngI d q))) (hn : n < q) : kaug3 i .add (n : Int) (.int a) (.int b) ⟨sl, r⟩ = .next ⟨sl.set i (.own (rngI (updI d n (a + b)) q)), r⟩ := by
  unfold kaug3 augD
  exact stoI h hn
theorem ksto2I {i n q : Nat} {v : Int} {d : Nat → Int} (h : sl[i]? = some (.own (rngI d q))) (hn : n < q) : kstoS2 i (.int v) (.int (n : Int)) ⟨sl, r⟩ = .next ⟨sl.set i (.own (rngI (updI d n v) q)), r⟩ := by
  unfold kstoS2
  exact stoI h hn
theorem ksto2Q {i n q : Nat} {v : Rat} {f : Nat → Rat} (h : sl[i]? = some (.own ((rngM f q).map PR))) (hn : n < q) : kstoS2 i (PR v) (.int (n : Int)) ⟨sl, r⟩ = .next ⟨sl.set i (.own ((rngM (upd f n v) q).map PR)), r⟩ := by
  rw [ksto2_ h (by rw [List.length_map, rngM_len]; exact hn), rngM_set]
theorem seqQ {a : IE} {s s' : S} {f : Nat → Rat} {q : Nat} (h : ev cl a s = .ok (.lst ((rngM f q).map PR)) s') : evi cl (.seq a) s = .ok ((List.range q).map fun k => PR (f k)) s' := by
  rw [rngM_PR]; exact evi_seqL h
theorem seqI {a : IE} {s s' : S} {d : Nat → Int} {q : Nat} (h : ev cl a s = .ok (.lst (rngI d q)) s') : evi cl (.seq a) s = .ok ((List.range q).map fun k => .int (d k)) s' := evi_seqL h
theorem lenQ (f : Nat → Rat) (q : Nat) (r : Rng) : bltD .len [.lst ((rngM f q).map PR)] r = some (.int (q : Int)) := by simp [bltD, rngM_len]
/-- a for that returns at its first turn -/
theorem for_ret0 {tg : Tg} {it : II} {b : ISs} {x d : D} {xs : List D} {s s1 s2 : S} {sl' : List Slot} (he : evi cl it s = .ok (x :: xs) s1) (h1 : isLck it s1 = false) (h2 : lockOf it s1 = none) (hb : bindTg tg x s1.sl = some sl') (h : exss cl fu b { s1 with sl := sl' } = .ret d s2) : exs cl fu (.for tg it b) s = .ret d s2 := by
  rw [exs, he]
  show (if isLck it s1 then RS.stuck else _) = _
  rw [h1]
  show (forL _ (x :: xs) (lockS (lockOf it s1) s1)).unlk _ = _
  rw [h2]
  show (forL _ (x :: xs) s1).unlk none = _
  unfold forL
  simp only [hb, h]
  rfl
end
/-- the first of the places that are so -/
theorem filter_first {p : Nat → Bool} {a : Nat} (hp : p a = true) (hn : ∀ i, i < a → p i = false) : ∀ q, a < q → ∃ rest, (List.range q).filter p = a :: rest
  | 0, h => absurd h (by omega)
  | n + 1, h => by
    rw [List.range_succ, List.filter_append]
    by_cases c : a < n
    · obtain ⟨rest, e⟩ := filter_first hp hn n c
      rw [e]; exact ⟨_, rfl⟩
    · obtain rfl : a = n := by omega
      have : (List.range a).filter p = [] := by
        rw [List.filter_eq_nil_iff]
        intro i hi
        rw [hn i (List.mem_range.mp hi)]; decide
      rw [this]
      refine ⟨[], ?_⟩
      simp [hp]
theorem fl_lt2 {x : Rat} {k : Nat} (h : Sz k x) : Lt2 k x.floor := by
  have hd := x.den_pos
  rw [Rat.floor_def]
  have h1 := h.1
  unfold Lt2 at *
  refine Nat.lt_of_le_of_lt ?_ h1
  by_cases c : 0 ≤ x.num
  · have a := Int.ediv_nonneg c (show (0 : Int) ≤ x.den by omega)
    have b := Int.ediv_le_self (x.den : Int) c
    omega
  · have a : x.num / (x.den : Int) < 0 := Int.ediv_neg_of_neg_of_pos (by omega) (by omega)
    have b : x.num ≤ x.num / (x.den : Int) := by
      rw [Int.le_ediv_iff_mul_le (by omega)]
      have : (1 : Int) ≤ x.den := by omega
      have := Int.mul_le_mul_of_nonneg_left this (show 0 ≤ -x.num by omega)
      simp only [Int.neg_mul, Int.mul_one] at this
      omega
    omega
theorem fl_sz {x : Rat} {k : Nat} (h : Sz k x) (h1 : 1 ≤ k) : Sz k (x.floor : Rat) := szZ (fl_lt2 h) h1
/-! slots that loops leave -/
def prevW (o : Slot) (g : Nat → List D) : Nat → Slot
  | 0 => o
  | k + 1 => .own (g k)
theorem prevW_s (o : Slot) (g : Nat → List D) (i : Nat) : prevW o g (i + 1) = .own (g i) := rfl
theorem prevW_nl {o : Slot} (h : o = .uns ∨ ∃ xs, o = .own xs) (g : Nat → List D) (i : Nat) (l : List Slot) : nlck (prevW o g i :: l) 0 = true := by
  cases i with
  | zero => rcases h with rfl | ⟨xs, rfl⟩ <;> rfl
  | succ k => rfl
theorem lastO_pos {q : Nat} (h : 1 ≤ q) (o : Slot) : lastO q o = .val (.int ((q - 1 : Nat) : Int)) := by
  obtain ⟨p, rfl⟩ : ∃ p, q = p + 1 := ⟨q - 1, by omega⟩
  rfl
theorem prevW_pos {q : Nat} (h : 1 ≤ q) (o : Slot) (g : Nat → List D) : prevW o g q = .own (g (q - 1)) := by
  obtain ⟨p, rfl⟩ : ∃ p, q = p + 1 := ⟨q - 1, by omega⟩
  rfl
end Vi

/-! V27: loops and comprehensions with two or three names; the greatest divisor by a for. -/
namespace Vi
open PySem
theorem forL_gcd (f : D → S → RS) (st : Slot → Int → Int → S) (h0 : ∀ x o a, Fre o → f x (st o a 0) = .brk (st (.val x) a 0))
    (hf : ∀ x o (a b : Int), Fre o → 0 ≤ a → 0 < b → f x (st o a b) = .next (st (.val x) b (a % b))) :
    ∀ (k : Nat) (a b : Int) (xs : List D) (o : Slot), Fre o → 0 ≤ a → 0 ≤ b → b.natAbs < 2 ^ k → 2 * k + 1 ≤ xs.length → ∃ o', Fre o' ∧ forL f xs (st o a b) = .next (st o' (Int.gcd a b) 0)
  | 0, a, b, xs, o, ho, ha, hb, hk, hn => by
    obtain ⟨x, r, rfl⟩ : ∃ x r, xs = x :: r := by
      cases xs with
      | nil => simp at hn
      | cons x r => exact ⟨x, r, rfl⟩
    have hb0 : b = 0 := by omega
    subst hb0
    refine ⟨.val x, .val x, ?_⟩
    unfold forL
    rw [h0 x o a ho]
    simp [Int.natAbs_of_nonneg ha]
  | k + 1, a, b, xs, o, ho, ha, hb, hk, hn => by
    obtain ⟨x, y, r, rfl⟩ : ∃ x y r, xs = x :: y :: r := by
      cases xs with
      | nil => simp at hn
      | cons x r =>
        cases r with
        | nil => simp at hn
        | cons y r => exact ⟨x, y, r, rfl⟩
    by_cases hb0 : b = 0
    · subst hb0
      refine ⟨.val x, .val x, ?_⟩
      unfold forL
      rw [h0 x o a ho]
      simp [Int.natAbs_of_nonneg ha]
    · have hbp : 0 < b := by omega
      have h1 : 0 ≤ a % b := Int.emod_nonneg _ hb0
      have h2 : a % b < b := Int.emod_lt_of_pos _ hbp
      have e1 : Int.gcd a b = Int.gcd b (a % b) := gcd_mod ha hb
      by_cases hc : a % b = 0
      · refine ⟨.val y, .val y, ?_⟩
        unfold forL
        rw [hf x o a b ho ha hbp]
        simp only []
        unfold forL
        rw [hc, h0 y _ b (.val x)]
        rw [e1, hc, Int.gcd_zero_right, Int.natAbs_of_nonneg hb]
      · have hcp : 0 < a % b := by omega
        have h3 : 0 ≤ b % (a % b) := Int.emod_nonneg _ hc
        have h4 : b % (a % b) < a % b := Int.emod_lt_of_pos _ hcp
        have h5 : 2 * (b % (a % b)) ≤ b := by
          have := Int.mul_ediv_add_emod b (a % b)
          have h6 : 1 ≤ b / (a % b) := (Int.le_ediv_iff_mul_le hcp).mpr (by omega)
          have h7 : (a % b) * 1 ≤ (a % b) * (b / (a % b)) := Int.mul_le_mul_of_nonneg_left h6 (by omega)
          omega
        have e2 : Int.gcd b (a % b) = Int.gcd (a % b) (b % (a % b)) := gcd_mod hb h1
        obtain ⟨o', ho', e⟩ := forL_gcd f st h0 hf k (a % b) (b % (a % b)) r (.val y) (.val y) h1 h3 (by rw [Nat.pow_succ] at hk; omega) (by simp only [List.length_cons] at hn; omega)
        refine ⟨o', ho', ?_⟩
        unfold forL
        rw [hf x o a b ho ha hbp]
        simp only []
        unfold forL
        rw [hf y _ b (a % b) (.val x) hb hcp]
        simp only []
        rw [e, e1, e2]
section
variable {cl : Cl} {fu : Nat}
/-- for x, y in items -/
theorem forT2 {α : Type} (W1 W2 : α → D) {ix iy : Nat} {it : II} {b : ISs} {xs : List α} {r : Rng} {s0 : S} {o1 o2 : Slot} (F : Nat → Slot → Slot → List Slot) (h1 : Fre o1) (h2 : Fre o2) (h0 : s0 = ⟨F 0 o1 o2, r⟩) (he : evi cl it s0 = .ok (xs.map fun y => .tup [W1 y, W2 y]) s0) (hl1 : isLck it s0 = false) (hl2 : lockOf it s0 = none)
    (hb : ∀ i o o' d d', Fre o → Fre o' → bindTg (.tp [ix, iy]) (.tup [d, d']) (F i o o') = some (F i (.val d) (.val d')))
    (hs : ∀ (i : Nat) (y : α), xs[i]? = some y → exss cl fu b ⟨F i (.val (W1 y)) (.val (W2 y)), r⟩ = .next ⟨F (i + 1) (.val (W1 y)) (.val (W2 y)), r⟩) :
    ∃ o o', Fre o ∧ Fre o' ∧ exs cl fu (.for (.tp [ix, iy]) it b) s0 = .next ⟨F xs.length o o', r⟩ := by
  subst h0
  obtain ⟨s', e, o, o', ho, ho', rfl⟩ := for_inv (cl := cl) (fu := fu) (tg := .tp [ix, iy]) (b := b) (fun i s => ∃ o o', Fre o ∧ Fre o' ∧ s = ⟨F i o o', r⟩) he hl1 hl2 ⟨o1, o2, h1, h2, rfl⟩ (by
    rintro i s x hx ⟨o, o', ho, ho', rfl⟩
    rw [List.getElem?_map] at hx
    cases hy : xs[i]? with
    | none => rw [hy] at hx; cases hx
    | some y =>
      rw [hy] at hx
      simp only [Option.map_some, Option.some.injEq] at hx
      subst hx
      exact ⟨_, _, hb i o o' _ _ ho ho', .inl (hs i y hy), ⟨_, _, .val _, .val _, rfl⟩⟩)
  rw [List.length_map] at e
  exact ⟨o, o', ho, ho', e⟩
/-- for x, y, z in items -/
theorem forT3 {α : Type} (W1 W2 W3 : α → D) {ix iy iz : Nat} {it : II} {b : ISs} {xs : List α} {r : Rng} {s0 : S} {o1 o2 o3 : Slot} (F : Nat → Slot → Slot → Slot → List Slot) (h1 : Fre o1) (h2 : Fre o2) (h3 : Fre o3) (h0 : s0 = ⟨F 0 o1 o2 o3, r⟩) (he : evi cl it s0 = .ok (xs.map fun y => .tup [W1 y, W2 y, W3 y]) s0) (hl1 : isLck it s0 = false) (hl2 : lockOf it s0 = none)
    (hb : ∀ i o o' o'' d d' d'', Fre o → Fre o' → Fre o'' → bindTg (.tp [ix, iy, iz]) (.tup [d, d', d'']) (F i o o' o'') = some (F i (.val d) (.val d') (.val d'')))
    (hs : ∀ (i : Nat) (y : α), xs[i]? = some y → exss cl fu b ⟨F i (.val (W1 y)) (.val (W2 y)) (.val (W3 y)), r⟩ = .next ⟨F (i + 1) (.val (W1 y)) (.val (W2 y)) (.val (W3 y)), r⟩) :
    ∃ o o' o'', Fre o ∧ Fre o' ∧ Fre o'' ∧ exs cl fu (.for (.tp [ix, iy, iz]) it b) s0 = .next ⟨F xs.length o o' o'', r⟩ := by
  subst h0
  obtain ⟨s', e, o, o', o'', ho, ho', ho'', rfl⟩ := for_inv (cl := cl) (fu := fu) (tg := .tp [ix, iy, iz]) (b := b) (fun i s => ∃ o o' o'', Fre o ∧ Fre o' ∧ Fre o'' ∧ s = ⟨F i o o' o'', r⟩) he hl1 hl2 ⟨o1, o2, o3, h1, h2, h3, rfl⟩ (by
    rintro i s x hx ⟨o, o', o'', ho, ho', ho'', rfl⟩
    rw [List.getElem?_map] at hx
    cases hy : xs[i]? with
    | none => rw [hy] at hx; cases hx
    | some y =>
      rw [hy] at hx
      simp only [Option.map_some, Option.some.injEq] at hx
      subst hx
      exact ⟨_, _, hb i o o' o'' _ _ _ ho ho' ho'', .inl (hs i y hy), ⟨_, _, _, .val _, .val _, .val _, rfl⟩⟩)
  rw [List.length_map] at e
  exact ⟨o, o', o'', ho, ho', ho'', e⟩
/-! comprehensions with two names -/
structure Sub2 (ix iy : Nat) (sl sl2 : List Slot) : Prop where
  v : ∀ {j : Nat} {d : D}, sl[j]? = some (.val d) → j ≠ ix → j ≠ iy → sl2[j]? = some (.val d)
  o : ∀ {j : Nat} {xs : List D}, sl[j]? = some (.own xs) → j ≠ ix → j ≠ iy → sl2[j]? = some (.lck xs)
  l : ∀ {j : Nat} {xs : List D}, sl[j]? = some (.lck xs) → j ≠ ix → j ≠ iy → sl2[j]? = some (.lck xs)
  f : ∀ {j : Nat}, free sl j = true → j ≠ ix → j ≠ iy → free sl2 j = true
abbrev two (sl : List Slot) (ix iy : Nat) (x y : Slot) : List Slot := ((((sl.map Slot.lock).set iy .uns).set ix .uns).set ix x).set iy y
theorem two_ne {sl : List Slot} {ix iy : Nat} {x y : Slot} {j : Nat} (h1 : j ≠ ix) (h2 : j ≠ iy) : (two sl ix iy x y)[j]? = (sl[j]?).map Slot.lock := by
  rw [List.getElem?_set_ne (Ne.symm h2), List.getElem?_set_ne (Ne.symm h1), List.getElem?_set_ne (Ne.symm h1), List.getElem?_set_ne (Ne.symm h2), List.getElem?_map]
theorem sub2_mk {sl : List Slot} {ix iy : Nat} {x y : Slot} : Sub2 ix iy sl (two sl ix iy x y) := by
  refine ⟨fun h a b => by rw [two_ne a b, h]; rfl, fun h a b => by rw [two_ne a b, h]; rfl, fun h a b => by rw [two_ne a b, h]; rfl, fun {j} h a b => ?_⟩
  obtain ⟨o, ho, e⟩ := free_fre h
  unfold free
  rw [two_ne a b, e]
  rcases ho with rfl | ⟨d, rfl⟩ <;> rfl
theorem two_at {sl : List Slot} {ix iy : Nat} {x y : Slot} (h1 : free sl ix = true) (h2 : free sl iy = true) (hne : ix ≠ iy) : (two sl ix iy x y)[ix]? = some x ∧ (two sl ix iy x y)[iy]? = some y := by
  obtain ⟨o, _, e⟩ := free_fre h1
  obtain ⟨o', _, e'⟩ := free_fre h2
  have l1 := (List.getElem?_eq_some_iff.mp e).1
  have l2 := (List.getElem?_eq_some_iff.mp e').1
  constructor
  · rw [List.getElem?_set_ne (Ne.symm hne), List.getElem?_set_self (by simpa using l1)]
  · rw [List.getElem?_set_self (by simpa using l2)]
theorem wipe2 {sl : List Slot} {ix iy : Nat} (h1 : free sl ix = true) (h2 : free sl iy = true) : wipeS [ix, iy] (sl.map Slot.lock) = some (((sl.map Slot.lock).set iy .uns).set ix .uns) := by
  obtain ⟨o, ho, e⟩ := free_fre h1
  have e2 : (sl.map Slot.lock)[ix]? = some o := by rw [List.getElem?_map, e]; rcases ho with rfl | ⟨d, rfl⟩ <;> rfl
  unfold wipeS
  rw [e2, wipe1 h2]
  rcases ho with rfl | ⟨d, rfl⟩ <;> rfl
theorem bind2 {sl : List Slot} {ix iy : Nat} {d d' : D} (h1 : free sl ix = true) (h2 : free sl iy = true) (hne : ix ≠ iy) : bindTg (.tp [ix, iy]) (.tup [d, d']) (((sl.map Slot.lock).set iy .uns).set ix .uns) = some (two sl ix iy (.val d) (.val d')) := by
  obtain ⟨o, _, e⟩ := free_fre h1
  obtain ⟨o', _, e'⟩ := free_fre h2
  have l1 := (List.getElem?_eq_some_iff.mp e).1
  have l2 := (List.getElem?_eq_some_iff.mp e').1
  have n1 : nlck (((sl.map Slot.lock).set iy .uns).set ix .uns) ix = true := by
    unfold nlck
    rw [List.getElem?_set_self (by simpa using l1)]
  have n2 : nlck (((sl.map Slot.lock).set iy .uns).set ix .uns) iy = true := by
    unfold nlck
    rw [List.getElem?_set_ne hne, List.getElem?_set_self (by simpa using l2)]
  unfold bindTg
  exact (if_pos ⟨rfl, by simp only [List.all_cons, List.all_nil, n1, n2, Bool.and_self]⟩).trans rfl
theorem lcT2 {α : Type} {W1 W2 : α → D} {xs : List α} {ix iy : Nat} {e : IE} {it : II} {sl : List Slot} {r : Rng} (G : α → D) (h1 : free sl ix = true) (h2 : free sl iy = true) (hne : ix ≠ iy) (ha : evi cl it ⟨sl, r⟩ = .ok (xs.map fun y => .tup [W1 y, W2 y]) ⟨sl, r⟩) (hl : xs.length ≤ 1000000)
    (he : ∀ y ∈ xs, ∀ sl2, Sub2 ix iy sl sl2 → sl2[ix]? = some (.val (W1 y)) → sl2[iy]? = some (.val (W2 y)) → ∃ sl3, ev cl e ⟨sl2, r⟩ = .ok (G y) ⟨sl3, r⟩) :
    ev cl (.lc e (.tp [ix, iy]) it .none [ix, iy] []) ⟨sl, r⟩ = .ok (.lst (xs.map G)) ⟨sl, r⟩ :=
  lcG (W := fun y => .tup [W1 y, W2 y]) (G := G) (xs := xs) (B := fun y => two sl ix iy (.val (W1 y)) (.val (W2 y))) ha rfl (wipe2 h1 h2) (fun y _ => bind2 h1 h2 hne) hl fun y hy => he y hy _ sub2_mk (two_at h1 h2 hne).1 (two_at h1 h2 hne).2
end
/-- for x in an owned list -/
theorem forK {α : Type} {cl : Cl} {fu : Nat} (W : α → D) {ix i : Nat} {b : ISs} {xs : List α} {r : Rng} {sl0 : List Slot} {o0 : Slot} (F : Nat → Slot → List Slot) (ho0 : Fre o0) (hsl : sl0[i]? = some (.own (xs.map W))) (hF0 : sl0.set i (.lck (xs.map W)) = F 0 o0)
    (hFi : ∀ k o, (F k o)[i]? = some (.lck (xs.map W))) (hF : ∀ k o, (F k o)[ix]? = some o) (hset : ∀ k o d, (F k o).set ix d = F k d)
    (hs : ∀ (k : Nat) (y : α), xs[k]? = some y → exss cl fu b ⟨F k (.val (W y)), r⟩ = .next ⟨F (k + 1) (.val (W y)), r⟩) :
    ∃ o, Fre o ∧ exs cl fu (.for (.nm ix) (.seq (.pk i)) b) ⟨sl0, r⟩ = .next ⟨(F xs.length o).set i (.own (xs.map W)), r⟩ := by
  have he : evi cl (.seq (.pk i)) ⟨sl0, r⟩ = .ok (xs.map W) ⟨sl0, r⟩ := evi_seqL (by rw [ev]; exact pkS_own hsl)
  obtain ⟨s', e, o, ho, rfl⟩ := forL_inv (fun x s => match bindTg (.nm ix) x s.sl with | some sl => exss cl fu b { s with sl := sl } | none => .stuck) (fun k s => ∃ o, Fre o ∧ s = ⟨F k o, r⟩) (xs.map W) 0 ⟨F 0 o0, r⟩ ⟨o0, ho0, rfl⟩ (by
    rintro k s x hx ⟨o, ho, rfl⟩
    simp only [Nat.zero_add]
    rw [List.getElem?_map] at hx
    cases hy : xs[k]? with
    | none => rw [hy] at hx; cases hx
    | some y =>
      rw [hy] at hx
      simp only [Option.map_some, Option.some.injEq] at hx
      subst hx
      refine ⟨⟨F (k + 1) (.val (W y)), r⟩, .inl ?_, .val (W y), .val _, rfl⟩
      simp only [bindNm (hF k o) ho, hset]
      exact hs k y hy)
  rw [Nat.zero_add, List.length_map] at e
  refine ⟨o, ho, ?_⟩
  rw [exs, he]
  have l1 : isLck (.seq (.pk i)) ⟨sl0, r⟩ = false := by unfold isLck nlck; simp only [hsl]; rfl
  have l2 : lockOf (.seq (.pk i)) ⟨sl0, r⟩ = some (i, xs.map W) := by unfold lockOf; simp only [hsl]
  simp only [RE.stm, l1, l2, Bool.false_eq_true, if_false]
  show (forL _ _ ⟨sl0.set i (.lck (xs.map W)), r⟩).unlk _ = _
  rw [hF0]
  refine (congrArg (RS.unlk (some (i, xs.map W))) e).trans ?_
  unfold RS.unlk unlock
  simp only [hFi]
theorem mapGetD {α β : Type} (g : α → β) (d : α) (l : List α) : (List.range l.length).map (fun i => g (l.getD i d)) = l.map g := by
  apply List.ext_getElem?
  intro i
  rw [List.getElem?_map, List.getElem?_map]
  by_cases c : i < l.length
  · rw [List.getElem?_range c, List.getElem?_eq_getElem c]
    simp only [Option.map_some]
    rw [List.getD_eq_getElem?_getD, List.getElem?_eq_getElem c]; rfl
  · rw [List.getElem?_eq_none (by simpa using c), List.getElem?_eq_none (by simpa using c)]; rfl
end Vi

/-! V28: sorting by a whole number, stably; putting in behind all that are not greater. -/
namespace Vi
open PySem
section
variable {α : Type} (key : α → Int)
def Asc (l : List α) : Prop := l.Pairwise fun a b => key a ≤ key b
def upto (v : Int) (l : List α) : List α := l.filter fun y => decide (key y ≤ v)
def past (v : Int) (l : List α) : List α := l.filter fun y => decide (v < key y)
def cls (v : Int) (l : List α) : List α := l.filter fun y => decide (key y = v)
/-- put in behind all that are not greater -/
def insA (acc : List α) (x : α) : List α := acc.take (upto key (key x) acc).length ++ [x] ++ acc.drop (upto key (key x) acc).length
variable {key}
theorem asc_split {v : Int} : ∀ {l : List α}, Asc key l → l = upto key v l ++ past key v l
  | [], _ => rfl
  | a :: l, h => by
    obtain ⟨h1, h2⟩ := List.pairwise_cons.mp h
    have ih := asc_split (v := v) h2
    unfold upto past at ih ⊢
    by_cases c : key a ≤ v
    · have c2 : ¬ v < key a := by omega
      rw [List.filter_cons_of_pos (by simpa using c), List.filter_cons_of_neg (by simpa using c2), List.cons_append, ← ih]
    · have c2 : v < key a := by omega
      have e : l.filter (fun y => decide (key y ≤ v)) = [] := by
        rw [List.filter_eq_nil_iff]
        intro y hy
        have := h1 y hy
        simp; omega
      have e2 : l.filter (fun y => decide (v < key y)) = l := by
        rw [List.filter_eq_self]
        intro y hy
        have := h1 y hy
        simp; omega
      rw [List.filter_cons_of_neg (by simpa using c), List.filter_cons_of_pos (by simpa using c2), e, e2]
      rfl
theorem insA_eq {acc : List α} {x : α} (h : Asc key acc) : insA key acc x = upto key (key x) acc ++ x :: past key (key x) acc := by
  have e := asc_split (v := key x) h
  unfold insA
  generalize hu : upto key (key x) acc = u at *
  generalize hp : past key (key x) acc = p at *
  rw [e, List.take_left, List.drop_left]
  simp
theorem mem_upto {v : Int} {l : List α} {y : α} (h : y ∈ upto key v l) : y ∈ l ∧ key y ≤ v := by
  obtain ⟨a, b⟩ := List.mem_filter.mp h
  exact ⟨a, by simpa using b⟩
theorem mem_past {v : Int} {l : List α} {y : α} (h : y ∈ past key v l) : y ∈ l ∧ v < key y := by
  obtain ⟨a, b⟩ := List.mem_filter.mp h
  exact ⟨a, by simpa using b⟩
theorem insA_asc {acc : List α} {x : α} (h : Asc key acc) : Asc key (insA key acc x) := by
  rw [insA_eq h]
  have h1 : Asc key (upto key (key x) acc) := List.Pairwise.filter _ h
  have h2 : Asc key (past key (key x) acc) := List.Pairwise.filter _ h
  refine List.pairwise_append.mpr ⟨h1, List.pairwise_cons.mpr ⟨fun y hy => ?_, h2⟩, fun a ha b hb => ?_⟩
  · have := (mem_past hy).2; omega
  · have h3 := (mem_upto ha).2
    rcases List.mem_cons.mp hb with rfl | hb
    · exact h3
    · have := (mem_past hb).2; omega
theorem insA_cls {acc : List α} {x : α} (h : Asc key acc) (v : Int) : cls key v (insA key acc x) = cls key v (acc ++ [x]) := by
  have e := asc_split (v := key x) h
  rw [insA_eq h]
  unfold cls
  rw [List.filter_append, List.filter_append]
  by_cases c : key x = v
  · have e2 : (past key (key x) acc).filter (fun y => decide (key y = v)) = [] := by
      rw [List.filter_eq_nil_iff]
      intro y hy
      have := (mem_past hy).2
      simp; omega
    have e3 : acc.filter (fun y => decide (key y = v)) = (upto key (key x) acc).filter (fun y => decide (key y = v)) := by
      conv => lhs; rw [e]
      rw [List.filter_append, e2, List.append_nil]
    rw [e3]
    rw [List.filter_cons_of_pos (by simpa using c), List.filter_cons_of_pos (by simpa using c), e2]
    rfl
  · rw [List.filter_cons_of_neg (by simpa using c), List.filter_cons_of_neg (by simpa using c), List.filter_nil, List.append_nil]
    conv => rhs; rw [e]
    rw [List.filter_append]
theorem insA_perm {acc : List α} {x : α} (h : Asc key acc) : (insA key acc x).Perm (acc ++ [x]) := by
  rw [insA_eq h]
  have e := asc_split (v := key x) h
  conv => rhs; rw [e]
  rw [List.append_assoc]
  exact List.Perm.append_left _ (List.perm_append_comm (l₁ := [x]))
theorem insA_len {acc : List α} {x : α} : (insA key acc x).length = acc.length + 1 := by
  unfold insA
  have : (upto key (key x) acc).length ≤ acc.length := List.length_filter_le _ _
  simp; omega
theorem asc_unique : ∀ {l1 l2 : List α}, Asc key l1 → Asc key l2 → (∀ v, cls key v l1 = cls key v l2) → l1 = l2
  | [], [], _, _, _ => rfl
  | [], b :: l2, _, _, h => by
    have := h (key b)
    unfold cls at this
    rw [List.filter_cons_of_pos (by simp)] at this
    cases this
  | a :: l1, [], _, _, h => by
    have := h (key a)
    unfold cls at this
    rw [List.filter_cons_of_pos (by simp)] at this
    cases this
  | a :: l1, b :: l2, h1, h2, h => by
    obtain ⟨p1, p2⟩ := List.pairwise_cons.mp h1
    obtain ⟨q1, q2⟩ := List.pairwise_cons.mp h2
    have ne : ∀ {x y : α} {l m : List α}, (∀ z ∈ m, key y ≤ key z) → key x < key y → cls key (key x) (x :: l) = cls key (key x) (y :: m) → False := by
      intro x y l m hm hxy e
      unfold cls at e
      rw [List.filter_cons_of_pos (by simp), List.filter_cons_of_neg (by simp; omega)] at e
      have : m.filter (fun z => decide (key z = key x)) = [] := by
        rw [List.filter_eq_nil_iff]
        intro z hz
        have := hm z hz
        simp; omega
      rw [this] at e; cases e
    have ek : key a = key b := by
      rcases Int.lt_trichotomy (key a) (key b) with c | c | c
      · exact (ne q1 c (h (key a))).elim
      · exact c
      · exact (ne p1 c (h (key b)).symm).elim
    have e0 := h (key a)
    unfold cls at e0
    rw [List.filter_cons_of_pos (by simp), List.filter_cons_of_pos (by simpa using ek.symm)] at e0
    injection e0 with e1 e2
    subst e1
    rw [asc_unique p2 q2 fun v => ?_]
    have := h v
    unfold cls at this ⊢
    by_cases c : key a = v
    · rw [List.filter_cons_of_pos (by simpa using c), List.filter_cons_of_pos (by simpa using c)] at this
      injection this
    · rwa [List.filter_cons_of_neg (by simpa using c), List.filter_cons_of_neg (by simpa using c)] at this
def sortK (key : α → Int) (l : List α) : List α := l.mergeSort fun a b => decide (key a ≤ key b)
theorem sortK_asc (l : List α) : Asc key (sortK key l) := by
  have := List.pairwise_mergeSort (le := fun a b : α => decide (key a ≤ key b)) (by intro a b c; simp; omega) (by intro a b; simp; omega) l
  exact this.imp fun h => by simpa using h
theorem sortK_perm (l : List α) : (sortK key l).Perm l := List.mergeSort_perm l _
theorem sortK_cls (l : List α) (v : Int) : cls key v (sortK key l) = cls key v l := by
  have hs : (cls key v l).Sublist (sortK key l) := by
    refine List.sublist_mergeSort (by intro a b c; simp; omega) (by intro a b; simp; omega) ?_ List.filter_sublist
    refine List.pairwise_of_forall_mem_list fun a ha b hb => ?_
    have h1 : key a = v := by simpa using (List.mem_filter.mp ha).2
    have h2 : key b = v := by simpa using (List.mem_filter.mp hb).2
    simp; omega
  have h2 : (cls key v l).Sublist (cls key v (sortK key l)) := by
    have := hs.filter (fun y => decide (key y = v))
    have e : (cls key v l).filter (fun y => decide (key y = v)) = cls key v l := by
      unfold cls; rw [List.filter_filter]; simp
    rw [e] at this
    exact this
  exact (h2.eq_of_length ((sortK_perm l).filter _).length_eq.symm).symm
theorem ins_fold : ∀ (xs acc : List α), Asc key acc → Asc key (xs.foldl (insA key) acc) ∧ ∀ v, cls key v (xs.foldl (insA key) acc) = cls key v (acc ++ xs)
  | [], acc, h => ⟨h, fun v => by simp⟩
  | x :: xs, acc, h => by
    obtain ⟨a, b⟩ := ins_fold xs (insA key acc x) (insA_asc h)
    refine ⟨a, fun v => ?_⟩
    rw [List.foldl_cons, b v]
    have e := insA_cls h (x := x) v
    unfold cls at e ⊢
    rw [List.filter_append, e, ← List.filter_append]
    simp
theorem ins_sort (xs : List α) : xs.foldl (insA key) [] = sortK key xs := by
  obtain ⟨a, b⟩ := ins_fold xs [] (List.Pairwise.nil : Asc key [])
  refine asc_unique a (sortK_asc xs) fun v => ?_
  rw [b v, sortK_cls]
  rfl
/-- the first i put in -/
def insT (key : α → Int) (xs : List α) (i : Nat) : List α := (xs.take i).foldl (insA key) []
theorem insT_succ {xs : List α} {i : Nat} {x : α} (h : xs[i]? = some x) : insT key xs (i + 1) = insA key (insT key xs i) x := by
  unfold insT
  rw [take_snoc h, List.foldl_append]; rfl
theorem insT_asc (xs : List α) (i : Nat) : Asc key (insT key xs i) := (ins_fold (xs.take i) [] List.Pairwise.nil).1
theorem insT_all (xs : List α) : insT key xs xs.length = sortK key xs := by
  unfold insT; rw [List.take_length, ins_sort]
theorem insT_len : ∀ (xs : List α) (i : Nat), i ≤ xs.length → (insT key xs i).length = i := by
  intro xs i
  induction i with
  | zero => intro _; rfl
  | succ i ih =>
    intro h
    rw [insT_succ (List.getElem?_eq_getElem (show i < xs.length by omega)), insA_len, ih (by omega)]
theorem skeys_map {W : α → D} {n : Nat} : ∀ {xs : List α}, (∀ z ∈ xs, skeyD n (W z) = some (key z)) → skeysD n (xs.map W) = some (xs.map fun z => (W z, key z))
  | [], _ => rfl
  | x :: xs, h => by
    rw [List.map_cons]
    unfold skeysD
    rw [h x List.mem_cons_self, skeys_map fun z hz => h z (List.mem_cons_of_mem _ hz)]
    rfl
theorem spKey {W : α → D} {n : Nat} {xs : List α} (h : ∀ z ∈ xs, skeyD n (W z) = some (key z)) (r : Rng) : spD (.skey n) [.lst (xs.map W)] r = some (.lst ((sortK key xs).map W)) := by
  have e : spD (.skey n) [.lst (xs.map W)] r = match skeysD n (xs.map W) with
    | some ks => some (.lst ((ks.mergeSort skeyLe).map (·.1)))
    | none => none := Eq.trans rfl rfl
  rw [e, skeys_map h]
  simp only [Option.some.injEq, D.lst.injEq]
  have := List.map_mergeSort (r := fun a b : α => decide (key a ≤ key b)) (s := skeyLe) (f := fun z => (W z, key z)) (l := xs) (fun _ _ _ _ => rfl)
  rw [← this, List.map_map]
  rfl
theorem insD_map {W : α → D} {acc : List α} {x : α} (hl : acc.length < 1000000) : insD (acc.map W) (.int ((upto key (key x) acc).length : Int)) (W x) = some ((insA key acc x).map W) := by
  have h1 : (upto key (key x) acc).length ≤ acc.length := List.length_filter_le _ _
  have e : insD (acc.map W) (.int ((upto key (key x) acc).length : Int)) (W x) = if (0 : Int) ≤ ((upto key (key x) acc).length : Int) ∧ ((upto key (key x) acc).length : Int) < 1000000 ∧ (acc.map W).length < 1000000 then some ((acc.map W).take ((upto key (key x) acc).length : Int).toNat ++ [W x] ++ (acc.map W).drop ((upto key (key x) acc).length : Int).toNat) else none := Eq.trans rfl rfl
  rw [e, if_pos ⟨by omega, by omega, by rw [List.length_map]; exact hl⟩, Int.toNat_natCast]
  unfold insA
  simp [List.map_take, List.map_drop]
end
/-! comprehensions with any number of names -/
def wipeN (ow : List Nat) (l : List Slot) : List Slot := ow.foldr (fun i l => l.set i .uns) l
def setN (is : List Nat) (ds : List D) (l : List Slot) : List Slot := (is.zip ds).foldl (fun l p => l.set p.1 (.val p.2)) l
theorem wipeN_len (ow : List Nat) (l : List Slot) : (wipeN ow l).length = l.length := by
  induction ow with
  | nil => rfl
  | cons i r ih => show ((wipeN r l).set i .uns).length = _; rw [List.length_set, ih]
theorem wipeN_ne {j : Nat} : ∀ {ow : List Nat} {l : List Slot}, j ∉ ow → (wipeN ow l)[j]? = l[j]?
  | [], _, _ => rfl
  | i :: r, l, h => by
    show ((wipeN r l).set i .uns)[j]? = _
    rw [List.getElem?_set_ne (fun z => h (by rw [← z]; exact List.mem_cons_self)), wipeN_ne fun z => h (List.mem_cons_of_mem _ z)]
theorem wipeN_at {j : Nat} : ∀ {ow : List Nat} {l : List Slot}, j ∈ ow → j < l.length → (wipeN ow l)[j]? = some .uns
  | i :: r, l, h, hl => by
    show ((wipeN r l).set i .uns)[j]? = _
    by_cases c : i = j
    · subst c; rw [List.getElem?_set_self (by rw [wipeN_len]; exact hl)]
    · rw [List.getElem?_set_ne c]
      exact wipeN_at ((List.mem_cons.mp h).resolve_left (Ne.symm c)) hl
theorem wipe_all {sl : List Slot} : ∀ {ow : List Nat}, (∀ i ∈ ow, free sl i = true) → wipeS ow (sl.map Slot.lock) = some (wipeN ow (sl.map Slot.lock))
  | [], _ => rfl
  | i :: r, h => by
    obtain ⟨o, ho, e⟩ := free_fre (h i List.mem_cons_self)
    have e2 : (sl.map Slot.lock)[i]? = some o := by rw [List.getElem?_map, e]; rcases ho with rfl | ⟨d, rfl⟩ <;> rfl
    have ih := wipe_all (sl := sl) (ow := r) fun j hj => h j (List.mem_cons_of_mem _ hj)
    unfold wipeS
    rw [e2, ih]
    rcases ho with rfl | ⟨d, rfl⟩ <;> rfl
theorem setN_len : ∀ (is : List Nat) (ds : List D) (l : List Slot), (setN is ds l).length = l.length
  | [], _, _ => rfl
  | _ :: _, [], _ => rfl
  | i :: is, d :: ds, l => (setN_len is ds (l.set i (.val d))).trans (by rw [List.length_set])
theorem setN_ne {j : Nat} : ∀ {is : List Nat} {ds : List D} {l : List Slot}, j ∉ is → (setN is ds l)[j]? = l[j]?
  | [], _, _, _ => rfl
  | _ :: _, [], _, _ => rfl
  | i :: is, d :: ds, l, h => by
    show (setN is ds (l.set i (.val d)))[j]? = _
    rw [setN_ne fun z => h (List.mem_cons_of_mem _ z), List.getElem?_set_ne (fun z => h (by rw [← z]; exact List.mem_cons_self))]
theorem setN_at {j : Nat} {d : D} : ∀ {is : List Nat} {ds : List D} {l : List Slot} {k : Nat}, is.Nodup → is[k]? = some j → ds[k]? = some d → j < l.length → (setN is ds l)[j]? = some (.val d)
  | i :: is, e :: ds, l, 0, hn, h1, h2, hl => by
    simp only [List.getElem?_cons_zero, Option.some.injEq] at h1 h2
    subst h1 h2
    show (setN is ds (l.set i (.val e)))[i]? = _
    rw [setN_ne (List.nodup_cons.mp hn).1, List.getElem?_set_self hl]
  | i :: is, e :: ds, l, k + 1, hn, h1, h2, hl => by
    show (setN is ds (l.set i (.val e)))[j]? = _
    exact setN_at (List.nodup_cons.mp hn).2 (by simpa using h1) (by simpa using h2) (by rw [List.length_set]; exact hl)
structure SubN (is : List Nat) (sl sl2 : List Slot) : Prop where
  v : ∀ {j : Nat} {d : D}, sl[j]? = some (.val d) → j ∉ is → sl2[j]? = some (.val d)
  o : ∀ {j : Nat} {xs : List D}, sl[j]? = some (.own xs) → j ∉ is → sl2[j]? = some (.lck xs)
  l : ∀ {j : Nat} {xs : List D}, sl[j]? = some (.lck xs) → j ∉ is → sl2[j]? = some (.lck xs)
  f : ∀ {j : Nat}, free sl j = true → j ∉ is → free sl2 j = true
section
variable {α : Type} {cl : Cl} {is ow : List Nat} {W : α → List D} {xs : List α} {e c : IE} {it : II} {sl : List Slot} {r : Rng}
theorem tN_sub {ds : List D} (hs : ∀ j, j ∈ ow ↔ j ∈ is) : SubN is sl (setN is ds (wipeN ow (sl.map Slot.lock))) := by
  have key : ∀ j, j ∉ is → (setN is ds (wipeN ow (sl.map Slot.lock)))[j]? = (sl[j]?).map Slot.lock := fun j h => by
    rw [setN_ne h, wipeN_ne (fun z => h ((hs j).mp z)), List.getElem?_map]
  refine ⟨fun h n => by rw [key _ n, h]; rfl, fun h n => by rw [key _ n, h]; rfl, fun h n => by rw [key _ n, h]; rfl, fun {j} h n => ?_⟩
  obtain ⟨o, ho, e⟩ := free_fre h
  unfold free
  rw [key j n, e]
  rcases ho with rfl | ⟨d, rfl⟩ <;> rfl
theorem tN_lt (hf : ∀ i ∈ is, free sl i = true) {j : Nat} (h : j ∈ is) : j < (wipeN ow (sl.map Slot.lock)).length := by
  obtain ⟨o, _, e⟩ := free_fre (hf j h)
  rw [wipeN_len, List.length_map]
  exact (List.getElem?_eq_some_iff.mp e).1
theorem tN_bind {ds : List D} (hf : ∀ i ∈ is, free sl i = true) (hs : ∀ j, j ∈ ow ↔ j ∈ is) (hl : ds.length = is.length) : bindTg (.tp is) (.tup ds) (wipeN ow (sl.map Slot.lock)) = some (setN is ds (wipeN ow (sl.map Slot.lock))) := by
  unfold bindTg
  refine (if_pos ⟨hl.symm, ?_⟩).trans rfl
  rw [List.all_eq_true]
  intro j hj
  unfold nlck
  rw [wipeN_at ((hs j).mpr hj) (by have := tN_lt (ow := ow) hf hj; rwa [wipeN_len] at this)]
/-- [e for a, b, .. in it if c] -/
theorem lcNF (p : α → Bool) (G : α → D) (hn : is.Nodup) (hs : ∀ j, j ∈ ow ↔ j ∈ is) (hf : ∀ i ∈ is, free sl i = true) (hW : ∀ y ∈ xs, (W y).length = is.length) (ha : evi cl it ⟨sl, r⟩ = .ok (xs.map fun y => .tup (W y)) ⟨sl, r⟩) (hl : xs.length ≤ 1000000)
    (hc : ∀ y ∈ xs, ∀ sl2, SubN is sl sl2 → (∀ (k j : Nat) (d : D), is[k]? = some j → (W y)[k]? = some d → sl2[j]? = some (.val d)) → ev cl c ⟨sl2, r⟩ = .ok (.bl (p y)) ⟨sl2, r⟩)
    (he : ∀ y ∈ xs, ∀ sl2, SubN is sl sl2 → (∀ (k j : Nat) (d : D), is[k]? = some j → (W y)[k]? = some d → sl2[j]? = some (.val d)) → ∃ sl3, ev cl e ⟨sl2, r⟩ = .ok (G y) ⟨sl3, r⟩) :
    ev cl (.lc e (.tp is) it (.some c) ow []) ⟨sl, r⟩ = .ok (.lst ((xs.filter p).map G)) ⟨sl, r⟩ := by
  have at_ : ∀ (y : α) (k j : Nat) (d : D), is[k]? = some j → (W y)[k]? = some d → (setN is (W y) (wipeN ow (sl.map Slot.lock)))[j]? = some (.val d) := fun y k j d h1 h2 => setN_at hn h1 h2 (tN_lt hf (List.mem_of_getElem? h1))
  exact lcF (W := fun y => .tup (W y)) (G := G) (xs := xs) (B := fun y => setN is (W y) (wipeN ow (sl.map Slot.lock))) p ha rfl (wipe_all fun i hi => hf i ((hs i).mp hi)) (fun y hy => tN_bind hf hs (hW y hy)) hl (fun y hy => hc y hy _ (tN_sub hs) (at_ y)) fun y hy => he y hy _ (tN_sub hs) (at_ y)
/-- [e for a, b, .. in it] -/
theorem lcN (G : α → D) (hn : is.Nodup) (hs : ∀ j, j ∈ ow ↔ j ∈ is) (hf : ∀ i ∈ is, free sl i = true) (hW : ∀ y ∈ xs, (W y).length = is.length) (ha : evi cl it ⟨sl, r⟩ = .ok (xs.map fun y => .tup (W y)) ⟨sl, r⟩) (hl : xs.length ≤ 1000000)
    (he : ∀ y ∈ xs, ∀ sl2, SubN is sl sl2 → (∀ (k j : Nat) (d : D), is[k]? = some j → (W y)[k]? = some d → sl2[j]? = some (.val d)) → ∃ sl3, ev cl e ⟨sl2, r⟩ = .ok (G y) ⟨sl3, r⟩) :
    ev cl (.lc e (.tp is) it .none ow []) ⟨sl, r⟩ = .ok (.lst (xs.map G)) ⟨sl, r⟩ := by
  have at_ : ∀ (y : α) (k j : Nat) (d : D), is[k]? = some j → (W y)[k]? = some d → (setN is (W y) (wipeN ow (sl.map Slot.lock)))[j]? = some (.val d) := fun y k j d h1 h2 => setN_at hn h1 h2 (tN_lt hf (List.mem_of_getElem? h1))
  exact lcG (W := fun y => .tup (W y)) (G := G) (xs := xs) (B := fun y => setN is (W y) (wipeN ow (sl.map Slot.lock))) ha rfl (wipe_all fun i hi => hf i ((hs i).mp hi)) (fun y hy => tN_bind hf hs (hW y hy)) hl fun y hy => he y hy _ (tN_sub hs) (at_ y)
end
/-- for .. in an owned list, by an invariant -/
theorem for_invK {cl : Cl} {fu : Nat} {tg : Tg} {b : ISs} {i : Nat} {xs : List D} {sl0 : List Slot} {r : Rng} (I : Nat → S → Prop) (hsl : sl0[i]? = some (.own xs)) (h0 : I 0 ⟨sl0.set i (.lck xs), r⟩)
    (hs : ∀ (k : Nat) (s : S) (x : D), xs[k]? = some x → I k s → ∃ sl s', bindTg tg x s.sl = some sl ∧ exss cl fu b { s with sl := sl } = .next s' ∧ I (k + 1) s') (hI : ∀ s, I xs.length s → s.sl[i]? = some (.lck xs)) :
    ∃ s', exs cl fu (.for tg (.seq (.pk i)) b) ⟨sl0, r⟩ = .next { s' with sl := s'.sl.set i (.own xs) } ∧ I xs.length s' := by
  have he : evi cl (.seq (.pk i)) ⟨sl0, r⟩ = .ok xs ⟨sl0, r⟩ := evi_seqL (by rw [ev]; exact pkS_own hsl)
  obtain ⟨s', e, h⟩ := forL_inv (fun x s => match bindTg tg x s.sl with | some sl => exss cl fu b { s with sl := sl } | none => .stuck) I xs 0 ⟨sl0.set i (.lck xs), r⟩ h0 (by
    intro k s x hx hk
    rw [Nat.zero_add] at hk ⊢
    obtain ⟨sl, s', a1, a2, a3⟩ := hs k s x hx hk
    exact ⟨s', .inl (by simp only [a1]; exact a2), a3⟩)
  rw [Nat.zero_add] at h
  refine ⟨s', ?_, h⟩
  rw [exs, he]
  have l1 : isLck (.seq (.pk i)) ⟨sl0, r⟩ = false := by unfold isLck nlck; simp only [hsl]; rfl
  have l2 : lockOf (.seq (.pk i)) ⟨sl0, r⟩ = some (i, xs) := by unfold lockOf; simp only [hsl]
  simp only [RE.stm, l1, l2, Bool.false_eq_true, if_false]
  show (forL _ _ ⟨sl0.set i (.lck xs), r⟩).unlk _ = _
  refine (congrArg (RS.unlk (some (i, xs))) e).trans ?_
  unfold RS.unlk unlock
  simp only [hI s' h]
end Vi

namespace M53
open Vi PySem L2

abbrev top (i : Nat) : Stmt := PySem.Challenge.pw_ledgerwright_k53_whole_bills.main.body.getD i (.Pass ⟨0, 0, 0, 0⟩)
/- 0 divisor(one, other): 0=one 1=other -/
def b_divisor : ISs := (.cons (.par [(0, false), (1, false)] (.cons (.blt .abs (.cons (.var 0) .nil)) (.cons (.blt .abs (.cons (.var 1) .nil)) .nil))) (.cons (.whl (.cmp .ne (.var 1) (.cst (.int 0))) (.cons (.par [(0, false), (1, false)] (.cons (.var 1) (.cons (.bin .mod (.var 0) (.var 1)) .nil))) .nil)) (.cons (.ret (.var 0)) .nil)))
def f_divisor : Fn := ⟨2, 2, b_divisor⟩
def d_divisor : Df := ⟨(Str.ofString "divisor"), top 4, [(Str.ofString "one"), (Str.ofString "other")], [(Str.ofString "one"), (Str.ofString "other")], f_divisor⟩
/- 1 part(above, below): 0=above 1=below 2=common -/
def b_part : ISs := (.cons (.ife (.cmp .lt (.var 1) (.cst (.int 0))) (.cons (.par [(0, false), (1, false)] (.cons (.bin .sub (.cst (.int 0)) (.var 0)) (.cons (.bin .sub (.cst (.int 0)) (.var 1)) .nil))) .nil) .nil) (.cons (.set 2 false (.call (Str.ofString "divisor") 0 (.cons (.var 0) (.cons (.var 1) .nil)))) (.cons (.ret (.tup (.cons (.bin .fdiv (.var 0) (.var 2)) (.cons (.bin .fdiv (.var 1) (.var 2)) .nil)))) .nil)))
def f_part : Fn := ⟨2, 3, b_part⟩
def d_part : Df := ⟨(Str.ofString "part"), top 5, [(Str.ofString "above"), (Str.ofString "below"), (Str.ofString "common")], [(Str.ofString "above"), (Str.ofString "below")], f_part⟩
/- 2 plus(one, other): 0=one 1=other -/
def b_plus : ISs := (.cons (.ret (.call (Str.ofString "part") 1 (.cons (.bin .add (.bin .mul (.ix (.var 0) (.cst (.int 0))) (.ix (.var 1) (.cst (.int 1)))) (.bin .mul (.ix (.var 1) (.cst (.int 0))) (.ix (.var 0) (.cst (.int 1))))) (.cons (.bin .mul (.ix (.var 0) (.cst (.int 1))) (.ix (.var 1) (.cst (.int 1)))) .nil)))) .nil)
def f_plus : Fn := ⟨2, 2, b_plus⟩
def d_plus : Df := ⟨(Str.ofString "plus"), top 6, [(Str.ofString "one"), (Str.ofString "other")], [(Str.ofString "one"), (Str.ofString "other")], f_plus⟩
/- 3 minus(one, other): 0=one 1=other -/
def b_minus : ISs := (.cons (.ret (.call (Str.ofString "part") 1 (.cons (.bin .sub (.bin .mul (.ix (.var 0) (.cst (.int 0))) (.ix (.var 1) (.cst (.int 1)))) (.bin .mul (.ix (.var 1) (.cst (.int 0))) (.ix (.var 0) (.cst (.int 1))))) (.cons (.bin .mul (.ix (.var 0) (.cst (.int 1))) (.ix (.var 1) (.cst (.int 1)))) .nil)))) .nil)
def f_minus : Fn := ⟨2, 2, b_minus⟩
def d_minus : Df := ⟨(Str.ofString "minus"), top 7, [(Str.ofString "one"), (Str.ofString "other")], [(Str.ofString "one"), (Str.ofString "other")], f_minus⟩
/- 4 times(one, other): 0=one 1=other -/
def b_times : ISs := (.cons (.ret (.call (Str.ofString "part") 1 (.cons (.bin .mul (.ix (.var 0) (.cst (.int 0))) (.ix (.var 1) (.cst (.int 0)))) (.cons (.bin .mul (.ix (.var 0) (.cst (.int 1))) (.ix (.var 1) (.cst (.int 1)))) .nil)))) .nil)
def f_times : Fn := ⟨2, 2, b_times⟩
def d_times : Df := ⟨(Str.ofString "times"), top 8, [(Str.ofString "one"), (Str.ofString "other")], [(Str.ofString "one"), (Str.ofString "other")], f_times⟩
/- 5 is_less(one, other): 0=one 1=other -/
def b_is_less : ISs := (.cons (.ret (.cmp .lt (.bin .mul (.ix (.var 0) (.cst (.int 0))) (.ix (.var 1) (.cst (.int 1)))) (.bin .mul (.ix (.var 1) (.cst (.int 0))) (.ix (.var 0) (.cst (.int 1)))))) .nil)
def f_is_less : Fn := ⟨2, 2, b_is_less⟩
def d_is_less : Df := ⟨(Str.ofString "is_less"), top 9, [(Str.ofString "one"), (Str.ofString "other")], [(Str.ofString "one"), (Str.ofString "other")], f_is_less⟩
/- 6 least(row): 0=row 1=found 2=one -/
def l_least_1 : IS := .for (.nm 2) (.seq (.var 0)) (.cons (.set 1 false (.ife (.or (.cmp .is (.var 1) (.cst .non)) (.call (Str.ofString "is_less") 5 (.cons (.var 2) (.cons (.var 1) .nil)))) (.var 2) (.var 1))) .nil)
def b_least : ISs := (.cons (.set 1 false (.cst .non)) (.cons l_least_1 (.cons (.ret (.var 1)) .nil)))
def f_least : Fn := ⟨1, 3, b_least⟩
def d_least : Df := ⟨(Str.ofString "least"), top 10, [(Str.ofString "row"), (Str.ofString "found"), (Str.ofString "one")], [(Str.ofString "row")], f_least⟩
/- 7 total(row): 0=row 1=found 2=one -/
def l_total_1 : IS := .for (.nm 2) (.seq (.var 0)) (.cons (.set 1 false (.call (Str.ofString "plus") 2 (.cons (.var 1) (.cons (.var 2) .nil)))) .nil)
def b_total : ISs := (.cons (.set 1 false (.tup (.cons (.cst (.int 0)) (.cons (.cst (.int 1)) .nil)))) (.cons l_total_1 (.cons (.ret (.var 1)) .nil)))
def f_total : Fn := ⟨1, 3, b_total⟩
def d_total : Df := ⟨(Str.ofString "total"), top 11, [(Str.ofString "row"), (Str.ofString "found"), (Str.ofString "one")], [(Str.ofString "row")], f_total⟩
/- 8 are_bills(value): 0=value 1=row -/
def l_are_bills_1 : IE := .lc (.ix (.var 1) (.cst (.int 1))) (.nm 1) (.seq (.var 0)) .none [1] []
def l_are_bills_2 : IS := .for (.nm 1) (.seq (.var 0)) (.cons (.ife (.or (.not (.blt (.isi "tuple") (.cons (.var 1) .nil))) (.or (.cmp .ne (.blt .len (.cons (.var 1) .nil)) (.cst (.int 3))) (.or (.not (.call (Str.ofString "is_whole") 9 (.cons (.ix (.var 1) (.cst (.int 0))) .nil))) (.not (.blt (.isi "str") (.cons (.ix (.var 1) (.cst (.int 1))) .nil)))))) (.cons (.ret (.cst (.bl false))) .nil) .nil) (.cons (.ife (.not (.call (Str.ofString "is_above") 10 (.cons (.ix (.var 1) (.cst (.int 2))) .nil))) (.cons (.ret (.cst (.bl false))) .nil) .nil) .nil))
def b_are_bills : ISs := (.cons (.ife (.not (.blt (.isi "tuple") (.cons (.var 0) .nil))) (.cons (.ret (.cst (.bl false))) .nil) .nil) (.cons l_are_bills_2 (.cons (.ret (.cmp .eq (.sp .lset (.cons l_are_bills_1 .nil)) (.blt .len (.cons (.var 0) .nil)))) .nil)))
def f_are_bills : Fn := ⟨1, 2, b_are_bills⟩
def d_are_bills : Df := ⟨(Str.ofString "are_bills"), top 15, [(Str.ofString "value"), (Str.ofString "row")], [(Str.ofString "value")], f_are_bills⟩
/- 9 is_whole(value): 0=value -/
def b_is_whole : ISs := (.cons (.ret (.and (.blt (.isi "int") (.cons (.var 0) .nil)) (.and (.not (.blt (.isi "bool") (.cons (.var 0) .nil))) (.cmp .ge (.var 0) (.cst (.int 0)))))) .nil)
def f_is_whole : Fn := ⟨1, 1, b_is_whole⟩
def d_is_whole : Df := ⟨(Str.ofString "is_whole"), top 16, [(Str.ofString "value")], [(Str.ofString "value")], f_is_whole⟩
/- 10 is_above(value): 0=value 1=one -/
def l_is_above_1 : IE := .lc (.and (.call (Str.ofString "is_whole") 9 (.cons (.var 1) .nil)) (.cmp .gt (.var 1) (.cst (.int 0)))) (.nm 1) (.seq (.var 0)) .none [1] []
def b_is_above : ISs := (.cons (.ife (.or (.not (.blt (.isi "tuple") (.cons (.var 0) .nil))) (.or (.cmp .ne (.blt .len (.cons (.var 0) .nil)) (.cst (.int 2))) (.not (.blt .all (.cons l_is_above_1 .nil))))) (.cons (.ret (.cst (.bl false))) .nil) .nil) (.cons (.ret (.cmp .eq (.call (Str.ofString "plus") 2 (.cons (.var 0) (.cons (.glb (Str.ofString "NOUGHT") (.tup [(.int 0), (.int 1)])) .nil))) (.var 0))) .nil))
def f_is_above : Fn := ⟨1, 2, b_is_above⟩
def d_is_above : Df := ⟨(Str.ofString "is_above"), top 17, [(Str.ofString "value"), (Str.ofString "one")], [(Str.ofString "value")], f_is_above⟩
/- 11 oldest_first(bills): 0=bills -/
def b_oldest_first : ISs := (.cons (.ret (.sp (.skey 0) (.cons (.var 0) .nil))) .nil)
def f_oldest_first : Fn := ⟨1, 1, b_oldest_first⟩
def d_oldest_first : Df := ⟨(Str.ofString "oldest_first"), top 18, [(Str.ofString "bills")], [(Str.ofString "bills")], f_oldest_first⟩
/- 12 paid_off(bills, part): 0=bills 1=part 2=left 3=found 4=rest 5=day 6=name 7=told 8=now -/
def l_paid_off_1 : IS := .for (.tp [5, 6, 7]) (.seq (.call (Str.ofString "oldest_first") 11 (.cons (.var 0) .nil))) (.cons (.set 8 false (.call (Str.ofString "least") 6 (.cons (.lst (.cons (.var 7) (.cons (.var 4) .nil))) .nil))) (.cons (.set 4 false (.call (Str.ofString "minus") 3 (.cons (.var 4) (.cons (.var 8) .nil)))) (.cons (.ife (.cmp .gt (.ix (.var 8) (.cst (.int 0))) (.cst (.int 0))) (.cons (.app 3 (.tup (.cons (.var 6) (.cons (.var 8) .nil)))) .nil) .nil) (.cons (.ife (.cmp .ne (.var 8) (.var 7)) (.cons (.app 2 (.tup (.cons (.var 5) (.cons (.var 6) (.cons (.call (Str.ofString "minus") 3 (.cons (.var 7) (.cons (.var 8) .nil))) .nil))))) .nil) .nil) .nil))))
def b_paid_off : ISs := (.cons (.par [(2, true), (3, true), (4, false)] (.cons (.lst .nil) (.cons (.lst .nil) (.cons (.var 1) .nil)))) (.cons l_paid_off_1 (.cons (.ret (.tup (.cons (.blt .tuple (.cons (.pk 2) .nil)) (.cons (.var 3) (.cons (.var 4) .nil))))) .nil)))
def f_paid_off : Fn := ⟨2, 9, b_paid_off⟩
def d_paid_off : Df := ⟨(Str.ofString "paid_off"), top 19, [(Str.ofString "bills"), (Str.ofString "part"), (Str.ofString "left"), (Str.ofString "found"), (Str.ofString "rest"), (Str.ofString "day"), (Str.ofString "name"), (Str.ofString "told"), (Str.ofString "now")], [(Str.ofString "bills"), (Str.ofString "part")], f_paid_off⟩
/- 13 paid_alike(bills, part): 0=bills 1=part 2=whole 3=found 4=day 5=name 6=told 7=rest 8=row -/
def l_paid_alike_1 : IS := .for (.tp [4, 5, 6]) (.seq (.var 0)) (.cons (.set 7 false (.call (Str.ofString "minus") 3 (.cons (.var 6) (.cons (.call (Str.ofString "times") 4 (.cons (.var 6) (.cons (.call (Str.ofString "over_part") 14 (.cons (.var 1) (.cons (.var 2) .nil))) .nil))) .nil)))) (.cons (.ife (.cmp .gt (.ix (.var 7) (.cst (.int 0))) (.cst (.int 0))) (.cons (.app 3 (.tup (.cons (.var 4) (.cons (.var 5) (.cons (.var 7) .nil))))) .nil) .nil) .nil))
def l_paid_alike_2 : IE := .lc (.ix (.var 8) (.cst (.int 2))) (.nm 8) (.seq (.var 0)) .none [8] []
def b_paid_alike : ISs := (.cons (.set 2 false (.call (Str.ofString "total") 7 (.cons l_paid_alike_2 .nil))) (.cons (.ife (.or (.call (Str.ofString "is_less") 5 (.cons (.var 2) (.cons (.var 1) .nil))) (.cmp .lt (.ix (.var 1) (.cst (.int 0))) (.cst (.int 0)))) (.cons (.rai (Str.ofString "Misstep") 2 (.cons (.cst (.str (Str.ofString "part"))) .nil)) .nil) .nil) (.cons (.ife (.cmp .eq (.ix (.var 2) (.cst (.int 0))) (.cst (.int 0))) (.cons (.ret (.tup .nil)) .nil) .nil) (.cons (.set 3 true (.lst .nil)) (.cons l_paid_alike_1 (.cons (.ret (.blt .tuple (.cons (.pk 3) .nil))) .nil))))))
def f_paid_alike : Fn := ⟨2, 9, b_paid_alike⟩
def d_paid_alike : Df := ⟨(Str.ofString "paid_alike"), top 20, [(Str.ofString "bills"), (Str.ofString "part"), (Str.ofString "whole"), (Str.ofString "found"), (Str.ofString "day"), (Str.ofString "name"), (Str.ofString "told"), (Str.ofString "rest"), (Str.ofString "row")], [(Str.ofString "bills"), (Str.ofString "part")], f_paid_alike⟩
/- 14 over_part(one, other): 0=one 1=other -/
def b_over_part : ISs := (.cons (.ret (.call (Str.ofString "times") 4 (.cons (.var 0) (.cons (.tup (.cons (.ix (.var 1) (.cst (.int 1))) (.cons (.ix (.var 1) (.cst (.int 0))) .nil))) .nil)))) .nil)
def f_over_part : Fn := ⟨2, 2, b_over_part⟩
def d_over_part : Df := ⟨(Str.ofString "over_part"), top 21, [(Str.ofString "one"), (Str.ofString "other")], [(Str.ofString "one"), (Str.ofString "other")], f_over_part⟩
/- 15 by_age(bills, day, steps): 0=bills 1=day 2=steps 3=found 4=when 5=name 6=part 7=spot 8=step -/
def l_by_age_1 : IE := .lc (.var 8) (.nm 8) (.seq (.var 2)) (.some (.cmp .ge (.bin .sub (.var 1) (.var 4)) (.var 8))) [8] []
def l_by_age_2 : IS := .for (.tp [4, 5, 6]) (.seq (.var 0)) (.cons (.set 7 false (.blt .len (.cons l_by_age_1 .nil))) (.cons (.sto 3 (.var 7) (.call (Str.ofString "plus") 2 (.cons (.ix (.pk 3) (.var 7)) (.cons (.var 6) .nil)))) .nil))
def b_by_age : ISs := (.cons (.set 3 true (.bin .mul (.lst (.cons (.glb (Str.ofString "NOUGHT") (.tup [(.int 0), (.int 1)])) .nil)) (.bin .add (.blt .len (.cons (.var 2) .nil)) (.cst (.int 1))))) (.cons l_by_age_2 (.cons (.ret (.var 3)) .nil)))
def f_by_age : Fn := ⟨3, 9, b_by_age⟩
def d_by_age : Df := ⟨(Str.ofString "by_age"), top 22, [(Str.ofString "bills"), (Str.ofString "day"), (Str.ofString "steps"), (Str.ofString "found"), (Str.ofString "when"), (Str.ofString "name"), (Str.ofString "part"), (Str.ofString "spot"), (Str.ofString "step")], [(Str.ofString "bills"), (Str.ofString "day"), (Str.ofString "steps")], f_by_age⟩
/- 16 doubtful(bills, day, steps, shares): 0=bills 1=day 2=steps 3=shares 4=told 5=k -/
def l_doubtful_1 : IE := .lc (.call (Str.ofString "times") 4 (.cons (.ix (.var 4) (.var 5)) (.cons (.ix (.var 3) (.var 5)) .nil))) (.nm 5) (.rng1 (.blt .len (.cons (.var 4) .nil))) .none [5] []
def b_doubtful : ISs := (.cons (.ife (.cmp .ne (.blt .len (.cons (.var 3) .nil)) (.bin .add (.blt .len (.cons (.var 2) .nil)) (.cst (.int 1)))) (.cons (.rai (Str.ofString "Misstep") 2 (.cons (.cst (.str (Str.ofString "shares"))) .nil)) .nil) .nil) (.cons (.set 4 false (.call (Str.ofString "by_age") 15 (.cons (.var 0) (.cons (.var 1) (.cons (.var 2) .nil))))) (.cons (.ret (.call (Str.ofString "total") 7 (.cons l_doubtful_1 .nil))) .nil)))
def f_doubtful : Fn := ⟨4, 6, b_doubtful⟩
def d_doubtful : Df := ⟨(Str.ofString "doubtful"), top 23, [(Str.ofString "bills"), (Str.ofString "day"), (Str.ofString "steps"), (Str.ofString "shares"), (Str.ofString "told"), (Str.ofString "k")], [(Str.ofString "bills"), (Str.ofString "day"), (Str.ofString "steps"), (Str.ofString "shares")], f_doubtful⟩
/- 17 due(bill, day, days, share): 0=bill 1=day 2=days 3=share -/
def b_due : ISs := (.cons (.ret (.ife (.cmp .le (.bin .sub (.var 1) (.ix (.var 0) (.cst (.int 0)))) (.var 2)) (.call (Str.ofString "times") 4 (.cons (.ix (.var 0) (.cst (.int 2))) (.cons (.call (Str.ofString "minus") 3 (.cons (.glb (Str.ofString "ONE") (.tup [(.int 1), (.int 1)])) (.cons (.var 3) .nil))) .nil))) (.ix (.var 0) (.cst (.int 2))))) .nil)
def f_due : Fn := ⟨4, 4, b_due⟩
def d_due : Df := ⟨(Str.ofString "due"), top 24, [(Str.ofString "bill"), (Str.ofString "day"), (Str.ofString "days"), (Str.ofString "share")], [(Str.ofString "bill"), (Str.ofString "day"), (Str.ofString "days"), (Str.ofString "share")], f_due⟩
/- 18 early_rate(share, days, late): 0=share 1=days 2=late -/
def b_early_rate : ISs := (.cons (.ife (.or (.cmp .le (.ix (.var 0) (.cst (.int 0))) (.cst (.int 0))) (.or (.not (.call (Str.ofString "is_less") 5 (.cons (.var 0) (.cons (.glb (Str.ofString "ONE") (.tup [(.int 1), (.int 1)])) .nil)))) (.cmp .le (.var 2) (.var 1)))) (.cons (.rai (Str.ofString "Misstep") 2 (.cons (.cst (.str (Str.ofString "share"))) .nil)) .nil) .nil) (.cons (.ret (.call (Str.ofString "over_part") 14 (.cons (.var 0) (.cons (.call (Str.ofString "minus") 3 (.cons (.glb (Str.ofString "ONE") (.tup [(.int 1), (.int 1)])) (.cons (.var 0) .nil))) .nil)))) .nil))
def f_early_rate : Fn := ⟨3, 3, b_early_rate⟩
def d_early_rate : Df := ⟨(Str.ofString "early_rate"), top 25, [(Str.ofString "share"), (Str.ofString "days"), (Str.ofString "late")], [(Str.ofString "share"), (Str.ofString "days"), (Str.ofString "late")], f_early_rate⟩
/- 19 mean_age(bills, day): 0=bills 1=day 2=whole 3=row 4=when 5=name 6=part -/
def l_mean_age_1 : IE := .lc (.call (Str.ofString "times") 4 (.cons (.var 6) (.cons (.tup (.cons (.bin .sub (.var 1) (.var 4)) (.cons (.cst (.int 1)) .nil))) .nil))) (.tp [4, 5, 6]) (.seq (.var 0)) .none [4, 5, 6] []
def l_mean_age_2 : IE := .lc (.ix (.var 3) (.cst (.int 2))) (.nm 3) (.seq (.var 0)) .none [3] []
def b_mean_age : ISs := (.cons (.set 2 false (.call (Str.ofString "total") 7 (.cons l_mean_age_2 .nil))) (.cons (.ife (.cmp .eq (.ix (.var 2) (.cst (.int 0))) (.cst (.int 0))) (.cons (.rai (Str.ofString "Misstep") 2 (.cons (.cst (.str (Str.ofString "none"))) .nil)) .nil) .nil) (.cons (.ret (.call (Str.ofString "over_part") 14 (.cons (.call (Str.ofString "total") 7 (.cons l_mean_age_1 .nil)) (.cons (.var 2) .nil)))) .nil)))
def f_mean_age : Fn := ⟨2, 7, b_mean_age⟩
def d_mean_age : Df := ⟨(Str.ofString "mean_age"), top 26, [(Str.ofString "bills"), (Str.ofString "day"), (Str.ofString "whole"), (Str.ofString "row"), (Str.ofString "when"), (Str.ofString "name"), (Str.ofString "part")], [(Str.ofString "bills"), (Str.ofString "day")], f_mean_age⟩
/- 20 from_postings(rows, unit): 0=rows 1=unit 2=bills 3=over 4=day 5=name 6=part 7=one 8=told 9=found 10=more -/
def l_from_postings_1 : IS := .for (.tp [4, 5, 6, 7]) (.seq (.var 0)) (.cons (.ife (.and (.cmp .eq (.var 7) (.var 1)) (.cmp .gt (.ix (.var 6) (.cst (.int 0))) (.cst (.int 0)))) (.cons (.set 8 false (.call (Str.ofString "least") 6 (.cons (.lst (.cons (.var 6) (.cons (.var 3) .nil))) .nil))) (.cons (.set 3 false (.call (Str.ofString "minus") 3 (.cons (.var 3) (.cons (.var 8) .nil)))) (.cons (.ife (.cmp .ne (.var 8) (.var 6)) (.cons (.set 2 false (.bin .add (.var 2) (.tup (.cons (.tup (.cons (.var 4) (.cons (.var 5) (.cons (.call (Str.ofString "minus") 3 (.cons (.var 6) (.cons (.var 8) .nil))) .nil)))) .nil)))) .nil) .nil) .nil))) (.cons (.ife (.cmp .eq (.var 7) (.var 1)) (.cons (.unp [2, 9, 10] (.call (Str.ofString "paid_off") 12 (.cons (.var 2) (.cons (.tup (.cons (.bin .sub (.cst (.int 0)) (.ix (.var 6) (.cst (.int 0)))) (.cons (.ix (.var 6) (.cst (.int 1))) .nil))) .nil)))) (.cons (.set 3 false (.call (Str.ofString "plus") 2 (.cons (.var 3) (.cons (.var 10) .nil)))) .nil)) .nil) .nil)) .nil)
def b_from_postings : ISs := (.cons (.par [(2, false), (3, false)] (.cons (.tup .nil) (.cons (.glb (Str.ofString "NOUGHT") (.tup [(.int 0), (.int 1)])) .nil))) (.cons l_from_postings_1 (.cons (.ret (.tup (.cons (.var 2) (.cons (.var 3) .nil)))) .nil)))
def f_from_postings : Fn := ⟨2, 11, b_from_postings⟩
def d_from_postings : Df := ⟨(Str.ofString "from_postings"), top 27, [(Str.ofString "rows"), (Str.ofString "unit"), (Str.ofString "bills"), (Str.ofString "over"), (Str.ofString "day"), (Str.ofString "name"), (Str.ofString "part"), (Str.ofString "one"), (Str.ofString "told"), (Str.ofString "found"), (Str.ofString "more")], [(Str.ofString "rows"), (Str.ofString "unit")], f_from_postings⟩
/- 21 is_one_sum(rows, unit): 0=rows 1=unit 2=told 3=bills 4=over 5=day 6=name 7=part 8=one 9=row -/
def l_is_one_sum_1 : IE := .lc (.ix (.var 9) (.cst (.int 2))) (.nm 9) (.seq (.var 3)) .none [9] []
def l_is_one_sum_2 : IE := .lc (.var 7) (.tp [5, 6, 7, 8]) (.seq (.var 0)) (.some (.cmp .eq (.var 8) (.var 1))) [5, 6, 7, 8] []
def b_is_one_sum : ISs := (.cons (.unp [3, 4] (.call (Str.ofString "from_postings") 20 (.cons (.var 0) (.cons (.var 1) .nil)))) (.cons (.set 2 false (.call (Str.ofString "total") 7 (.cons l_is_one_sum_2 .nil))) (.cons (.ret (.cmp .eq (.call (Str.ofString "minus") 3 (.cons (.call (Str.ofString "total") 7 (.cons l_is_one_sum_1 .nil)) (.cons (.var 4) .nil))) (.var 2))) .nil)))
def f_is_one_sum : Fn := ⟨2, 10, b_is_one_sum⟩
def d_is_one_sum : Df := ⟨(Str.ofString "is_one_sum"), top 28, [(Str.ofString "rows"), (Str.ofString "unit"), (Str.ofString "told"), (Str.ofString "bills"), (Str.ofString "over"), (Str.ofString "day"), (Str.ofString "name"), (Str.ofString "part"), (Str.ofString "one"), (Str.ofString "row")], [(Str.ofString "rows"), (Str.ofString "unit")], f_is_one_sum⟩
/- 22 _law_state(script): 0=script 1=numbers_left 2=cell -/
def b__law_state : ISs := (.cons (.set 1 true (.lc (.blt .abs (.cons (.var 2) .nil)) (.nm 2) (.seq (.sl (.var 0) .none (.some (.cst (.int 63))))) .none [2] [])) (.cons (.ife (.cmp .eq (.blt .len (.cons (.pk 1) .nil)) (.cst (.int 0))) (.cons (.set 1 true (.lst (.cons (.cst (.int 0)) .nil))) .nil) .nil) (.cons (.retst 1) .nil)))
def f__law_state : Fn := ⟨1, 3, b__law_state⟩
def d__law_state : Df := ⟨(Str.ofString "_law_state"), top 30, [(Str.ofString "script"), (Str.ofString "numbers_left"), (Str.ofString "cell")], [(Str.ofString "script")], f__law_state⟩
/- 23 _law_take(state, most): 0=state 1=most 2=numbers_left 3=at 4=cell 5=stirred -/
def b__law_take : ISs := (.cons (.ife (.cmp .lt (.var 1) (.cst (.int 2))) (.cons (.ret (.cst (.int 0))) .nil) .nil) (.cons (.set 2 false (.ix (.pk 0) (.cst (.int 1)))) (.cons (.set 3 false (.bin .mod (.blt .int (.cons (.ix (.pk 0) (.cst (.int 0))) .nil)) (.blt .len (.cons (.pk 2) .nil)))) (.cons (.set 4 false (.ix (.pk 2) (.var 3))) (.cons (.ife (.cmp .ge (.var 4) (.cst (.int 1000000000000000000))) (.cons (.sto 2 (.var 3) (.bin .fdiv (.var 4) (.var 1))) (.cons (.ret (.bin .mod (.blt .int (.cons (.var 4) .nil)) (.var 1))) .nil)) .nil) (.cons (.sto 0 (.cst (.int 0)) (.bin .add (.ix (.pk 0) (.cst (.int 0))) (.cst (.int 1)))) (.cons (.set 5 false (.bin .mod (.blt .int (.cons (.bin .add (.bin .mul (.var 4) (.cst (.int 48271))) (.bin .mul (.ix (.pk 0) (.cst (.int 0))) (.cst (.int 69621)))) .nil)) (.cst (.int 2147483647)))) (.cons (.set 5 false (.bin .mod (.blt .int (.cons (.bin .add (.bin .mul (.var 5) (.cst (.int 16807))) (.bin .mul (.ix (.pk 0) (.cst (.int 0))) (.cst (.int 7919)))) .nil)) (.cst (.int 1000000007)))) (.cons (.ret (.bin .mod (.blt .int (.cons (.bin .fdiv (.var 5) (.cst (.int 7))) .nil)) (.var 1))) .nil)))))))))
def f__law_take : Fn := ⟨2, 6, b__law_take⟩
def d__law_take : Df := ⟨(Str.ofString "_law_take"), top 31, [(Str.ofString "state"), (Str.ofString "most"), (Str.ofString "numbers_left"), (Str.ofString "at"), (Str.ofString "cell"), (Str.ofString "stirred")], [(Str.ofString "state"), (Str.ofString "most")], f__law_take⟩
/- 24 _law_pick(state, row): 0=state 1=row -/
def b__law_pick : ISs := (.cons (.ret (.ix (.var 1) (.call (Str.ofString "_law_take") 23 (.cons (.var 0) (.cons (.blt .len (.cons (.var 1) .nil)) .nil))))) .nil)
def f__law_pick : Fn := ⟨2, 2, b__law_pick⟩
def d__law_pick : Df := ⟨(Str.ofString "_law_pick"), top 32, [(Str.ofString "state"), (Str.ofString "row")], [(Str.ofString "state"), (Str.ofString "row")], f__law_pick⟩
/- 25 _law_part(upper, lower): 0=upper 1=lower 2=one 3=other -/
def b__law_part : ISs := (.cons (.par [(2, false), (3, false)] (.cons (.blt .abs (.cons (.var 0) .nil)) (.cons (.blt .abs (.cons (.var 1) .nil)) .nil))) (.cons (.whl (.cmp .ne (.var 3) (.cst (.int 0))) (.cons (.par [(2, false), (3, false)] (.cons (.var 3) (.cons (.bin .mod (.blt .int (.cons (.var 2) .nil)) (.var 3)) .nil))) .nil)) (.cons (.set 2 false (.ife (.cmp .lt (.var 1) (.cst (.int 0))) (.bin .sub (.cst (.int 0)) (.var 2)) (.var 2))) (.cons (.ret (.tup (.cons (.bin .fdiv (.var 0) (.var 2)) (.cons (.bin .fdiv (.var 1) (.var 2)) .nil)))) .nil))))
def f__law_part : Fn := ⟨2, 4, b__law_part⟩
def d__law_part : Df := ⟨(Str.ofString "_law_part"), top 33, [(Str.ofString "upper"), (Str.ofString "lower"), (Str.ofString "one"), (Str.ofString "other")], [(Str.ofString "upper"), (Str.ofString "lower")], f__law_part⟩
/- 26 _law_add(one, other): 0=one 1=other -/
def b__law_add : ISs := (.cons (.ret (.call (Str.ofString "_law_part") 25 (.cons (.bin .add (.bin .mul (.ix (.var 0) (.cst (.int 0))) (.ix (.var 1) (.cst (.int 1)))) (.bin .mul (.ix (.var 1) (.cst (.int 0))) (.ix (.var 0) (.cst (.int 1))))) (.cons (.bin .mul (.ix (.var 0) (.cst (.int 1))) (.ix (.var 1) (.cst (.int 1)))) .nil)))) .nil)
def f__law_add : Fn := ⟨2, 2, b__law_add⟩
def d__law_add : Df := ⟨(Str.ofString "_law_add"), top 34, [(Str.ofString "one"), (Str.ofString "other")], [(Str.ofString "one"), (Str.ofString "other")], f__law_add⟩
/- 27 _law_mul(one, other): 0=one 1=other -/
def b__law_mul : ISs := (.cons (.ret (.call (Str.ofString "_law_part") 25 (.cons (.bin .mul (.ix (.var 0) (.cst (.int 0))) (.ix (.var 1) (.cst (.int 0)))) (.cons (.bin .mul (.ix (.var 0) (.cst (.int 1))) (.ix (.var 1) (.cst (.int 1)))) .nil)))) .nil)
def f__law_mul : Fn := ⟨2, 2, b__law_mul⟩
def d__law_mul : Df := ⟨(Str.ofString "_law_mul"), top 35, [(Str.ofString "one"), (Str.ofString "other")], [(Str.ofString "one"), (Str.ofString "other")], f__law_mul⟩
/- 28 _law_neg(one): 0=one -/
def b__law_neg : ISs := (.cons (.ret (.tup (.cons (.bin .sub (.cst (.int 0)) (.ix (.var 0) (.cst (.int 0)))) (.cons (.ix (.var 0) (.cst (.int 1))) .nil)))) .nil)
def f__law_neg : Fn := ⟨1, 1, b__law_neg⟩
def d__law_neg : Df := ⟨(Str.ofString "_law_neg"), top 36, [(Str.ofString "one")], [(Str.ofString "one")], f__law_neg⟩
/- 29 _law_over(one, other): 0=one 1=other -/
def b__law_over : ISs := (.cons (.ret (.call (Str.ofString "_law_part") 25 (.cons (.bin .mul (.ix (.var 0) (.cst (.int 0))) (.ix (.var 1) (.cst (.int 1)))) (.cons (.bin .mul (.ix (.var 0) (.cst (.int 1))) (.ix (.var 1) (.cst (.int 0)))) .nil)))) .nil)
def f__law_over : Fn := ⟨2, 2, b__law_over⟩
def d__law_over : Df := ⟨(Str.ofString "_law_over"), top 37, [(Str.ofString "one"), (Str.ofString "other")], [(Str.ofString "one"), (Str.ofString "other")], f__law_over⟩
/- 30 _law_less(one, other): 0=one 1=other -/
def b__law_less : ISs := (.cons (.ret (.cmp .lt (.bin .mul (.ix (.var 0) (.cst (.int 0))) (.ix (.var 1) (.cst (.int 1)))) (.bin .mul (.ix (.var 1) (.cst (.int 0))) (.ix (.var 0) (.cst (.int 1)))))) .nil)
def f__law_less : Fn := ⟨2, 2, b__law_less⟩
def d__law_less : Df := ⟨(Str.ofString "_law_less"), top 38, [(Str.ofString "one"), (Str.ofString "other")], [(Str.ofString "one"), (Str.ofString "other")], f__law_less⟩
/- 31 _law_total(rows): 0=rows 1=found 2=one -/
def l__law_total_1 : IS := .for (.nm 2) (.seq (.var 0)) (.cons (.set 1 false (.call (Str.ofString "_law_add") 26 (.cons (.var 1) (.cons (.var 2) .nil)))) .nil)
def b__law_total : ISs := (.cons (.set 1 false (.tup (.cons (.cst (.int 0)) (.cons (.cst (.int 1)) .nil)))) (.cons l__law_total_1 (.cons (.ret (.var 1)) .nil)))
def f__law_total : Fn := ⟨1, 3, b__law_total⟩
def d__law_total : Df := ⟨(Str.ofString "_law_total"), top 39, [(Str.ofString "rows"), (Str.ofString "found"), (Str.ofString "one")], [(Str.ofString "rows")], f__law_total⟩
/- 32 _law_dot(one, other): 0=one 1=other 2=k -/
def l__law_dot_1 : IE := .lc (.call (Str.ofString "_law_mul") 27 (.cons (.ix (.var 0) (.var 2)) (.cons (.ix (.var 1) (.var 2)) .nil))) (.nm 2) (.rng1 (.blt .len (.cons (.var 0) .nil))) .none [2] []
def b__law_dot : ISs := (.cons (.ret (.call (Str.ofString "_law_total") 31 (.cons l__law_dot_1 .nil))) .nil)
def f__law_dot : Fn := ⟨2, 3, b__law_dot⟩
def d__law_dot : Df := ⟨(Str.ofString "_law_dot"), top 40, [(Str.ofString "one"), (Str.ofString "other"), (Str.ofString "k")], [(Str.ofString "one"), (Str.ofString "other")], f__law_dot⟩
/- 33 _law_least(rows): 0=rows 1=found 2=one -/
def l__law_least_1 : IS := .for (.nm 2) (.seq (.var 0)) (.cons (.set 1 false (.ife (.call (Str.ofString "_law_less") 30 (.cons (.var 2) (.cons (.var 1) .nil))) (.var 2) (.var 1))) .nil)
def b__law_least : ISs := (.cons (.set 1 false (.ix (.var 0) (.cst (.int 0)))) (.cons l__law_least_1 (.cons (.ret (.var 1)) .nil)))
def f__law_least : Fn := ⟨1, 3, b__law_least⟩
def d__law_least : Df := ⟨(Str.ofString "_law_least"), top 42, [(Str.ofString "rows"), (Str.ofString "found"), (Str.ofString "one")], [(Str.ofString "rows")], f__law_least⟩
/- 34 _law_fraction(state, most): 0=state 1=most -/
def b__law_fraction : ISs := (.cons (.ret (.call (Str.ofString "_law_part") 25 (.cons (.bin .sub (.call (Str.ofString "_law_take") 23 (.cons (.var 0) (.cons (.bin .add (.bin .mul (.cst (.int 2)) (.var 1)) (.cst (.int 1))) .nil))) (.var 1)) (.cons (.bin .add (.cst (.int 1)) (.call (Str.ofString "_law_take") 23 (.cons (.var 0) (.cons (.cst (.int 3)) .nil)))) .nil)))) .nil)
def f__law_fraction : Fn := ⟨2, 2, b__law_fraction⟩
def d__law_fraction : Df := ⟨(Str.ofString "_law_fraction"), top 43, [(Str.ofString "state"), (Str.ofString "most")], [(Str.ofString "state"), (Str.ofString "most")], f__law_fraction⟩
/- 35 _law_above(state, most): 0=state 1=most -/
def b__law_above : ISs := (.cons (.ret (.call (Str.ofString "_law_part") 25 (.cons (.bin .add (.cst (.int 1)) (.call (Str.ofString "_law_take") 23 (.cons (.var 0) (.cons (.var 1) .nil)))) (.cons (.bin .add (.cst (.int 1)) (.call (Str.ofString "_law_take") 23 (.cons (.var 0) (.cons (.cst (.int 3)) .nil)))) .nil)))) .nil)
def f__law_above : Fn := ⟨2, 2, b__law_above⟩
def d__law_above : Df := ⟨(Str.ofString "_law_above"), top 45, [(Str.ofString "state"), (Str.ofString "most")], [(Str.ofString "state"), (Str.ofString "most")], f__law_above⟩
/- 36 _law_word(call, given): 0=call 1=given 2=error -/
def b__law_word : ISs := (.cons (.try (.cons (.ife (.cmp .eq (.blt .len (.cons (.var 1) .nil)) (.cst (.int 1))) (.cons (.drp (.cv 0 (.cons (.ix (.var 1) (.cst (.int 0))) .nil))) .nil) (.cons (.ife (.cmp .eq (.blt .len (.cons (.var 1) .nil)) (.cst (.int 2))) (.cons (.drp (.cv 0 (.cons (.ix (.var 1) (.cst (.int 0))) (.cons (.ix (.var 1) (.cst (.int 1))) .nil)))) .nil) (.cons (.ife (.cmp .eq (.blt .len (.cons (.var 1) .nil)) (.cst (.int 3))) (.cons (.drp (.cv 0 (.cons (.ix (.var 1) (.cst (.int 0))) (.cons (.ix (.var 1) (.cst (.int 1))) (.cons (.ix (.var 1) (.cst (.int 2))) .nil))))) .nil) (.cons (.drp (.cv 0 (.cons (.ix (.var 1) (.cst (.int 0))) (.cons (.ix (.var 1) (.cst (.int 1))) (.cons (.ix (.var 1) (.cst (.int 2))) (.cons (.ix (.var 1) (.cst (.int 3))) .nil)))))) .nil)) .nil)) .nil)) (.cons (.ret (.cst (.str (Str.ofString "")))) .nil)) (Str.ofString "Misstep") 2 (some 2) (.cons (.ret (.fld 2 (Str.ofString "word"))) .nil)) .nil)
def f__law_word : Fn := ⟨2, 3, b__law_word⟩
def d__law_word : Df := ⟨(Str.ofString "_law_word"), top 47, [(Str.ofString "call"), (Str.ofString "given"), (Str.ofString "error")], [(Str.ofString "call"), (Str.ofString "given")], f__law_word⟩
/- 37 _law_bills(state): 0=state 1=names 2=k -/
def l__law_bills_1 : IE := .lc (.tup (.cons (.call (Str.ofString "_law_take") 23 (.cons (.var 0) (.cons (.cst (.int 9)) .nil))) (.cons (.ix (.var 1) (.var 2)) (.cons (.call (Str.ofString "_law_above") 35 (.cons (.var 0) (.cons (.cst (.int 6)) .nil))) .nil)))) (.nm 2) (.rng1 (.call (Str.ofString "_law_take") 23 (.cons (.var 0) (.cons (.cst (.int 6)) .nil)))) .none [2] []
def b__law_bills : ISs := (.cons (.set 1 false (.tup (.cons (.cst (.str (Str.ofString "ann"))) (.cons (.cst (.str (Str.ofString "bob"))) (.cons (.cst (.str (Str.ofString "cid"))) (.cons (.cst (.str (Str.ofString "dan"))) (.cons (.cst (.str (Str.ofString "eve"))) (.cons (.cst (.str (Str.ofString "fay"))) .nil)))))))) (.cons (.ret (.blt .tuple (.cons l__law_bills_1 .nil))) .nil))
def f__law_bills : Fn := ⟨1, 3, b__law_bills⟩
def d__law_bills : Df := ⟨(Str.ofString "_law_bills"), top 48, [(Str.ofString "state"), (Str.ofString "names"), (Str.ofString "k")], [(Str.ofString "state")], f__law_bills⟩
/- 38 _law_order(bills): 0=bills 1=found 2=row 3=spot 4=one -/
def l__law_order_1 : IE := .lc (.var 4) (.nm 4) (.seq (.pk 1)) (.some (.cmp .le (.ix (.var 4) (.cst (.int 0))) (.ix (.var 2) (.cst (.int 0))))) [4] []
def l__law_order_2 : IS := .for (.nm 2) (.seq (.var 0)) (.cons (.set 3 false (.blt .len (.cons l__law_order_1 .nil))) (.cons (.ins 1 (.var 3) (.var 2)) .nil))
def b__law_order : ISs := (.cons (.set 1 true (.lst .nil)) (.cons l__law_order_2 (.cons (.ret (.var 1)) .nil)))
def f__law_order : Fn := ⟨1, 5, b__law_order⟩
def d__law_order : Df := ⟨(Str.ofString "_law_order"), top 49, [(Str.ofString "bills"), (Str.ofString "found"), (Str.ofString "row"), (Str.ofString "spot"), (Str.ofString "one")], [(Str.ofString "bills")], f__law_order⟩
/- 39 _law_paid(bills, part_v): 0=bills 1=part_v 2=left 3=gone 4=day 5=name 6=told 7=now -/
def l__law_paid_1 : IS := .for (.tp [4, 5, 6]) (.seq (.call (Str.ofString "_law_order") 38 (.cons (.var 0) .nil))) (.cons (.set 7 false (.call (Str.ofString "_law_least") 33 (.cons (.lst (.cons (.var 6) (.cons (.var 1) .nil))) .nil))) (.cons (.set 1 false (.call (Str.ofString "_law_add") 26 (.cons (.var 1) (.cons (.call (Str.ofString "_law_neg") 28 (.cons (.var 7) .nil)) .nil)))) (.cons (.set 3 false (.bin .add (.var 3) (.ife (.cmp .gt (.ix (.var 7) (.cst (.int 0))) (.cst (.int 0))) (.lst (.cons (.tup (.cons (.var 5) (.cons (.var 7) .nil))) .nil)) (.lst .nil)))) (.cons (.set 2 false (.bin .add (.var 2) (.ife (.cmp .ne (.var 7) (.var 6)) (.lst (.cons (.tup (.cons (.var 4) (.cons (.var 5) (.cons (.call (Str.ofString "_law_add") 26 (.cons (.var 6) (.cons (.call (Str.ofString "_law_neg") 28 (.cons (.var 7) .nil)) .nil))) .nil)))) .nil)) (.lst .nil)))) .nil))))
def b__law_paid : ISs := (.cons (.par [(2, false), (3, false)] (.cons (.lst .nil) (.cons (.lst .nil) .nil))) (.cons l__law_paid_1 (.cons (.ret (.tup (.cons (.blt .tuple (.cons (.var 2) .nil)) (.cons (.var 3) (.cons (.var 1) .nil))))) .nil)))
def f__law_paid : Fn := ⟨2, 8, b__law_paid⟩
def d__law_paid : Df := ⟨(Str.ofString "_law_paid"), top 50, [(Str.ofString "bills"), (Str.ofString "part_v"), (Str.ofString "left"), (Str.ofString "gone"), (Str.ofString "day"), (Str.ofString "name"), (Str.ofString "told"), (Str.ofString "now")], [(Str.ofString "bills"), (Str.ofString "part_v")], f__law_paid⟩
/- 40 _law_payments(state, bills): 0=state 1=bills 2=part_v 3=told 4=whole 5=rest 6=due_told 7=day 8=name 9=one 10=now 11=row -/
def l__law_payments_1 : IE := .lc (.ix (.var 11) (.cst (.int 2))) (.nm 11) (.seq (.var 5)) .none [11] []
def l__law_payments_2 : IS := .for (.tp [7, 8, 9]) (.seq (.var 1)) (.cons (.set 10 false (.call (Str.ofString "_law_mul") 27 (.cons (.var 9) (.cons (.call (Str.ofString "_law_over") 29 (.cons (.call (Str.ofString "_law_add") 26 (.cons (.var 4) (.cons (.call (Str.ofString "_law_neg") 28 (.cons (.var 2) .nil)) .nil))) (.cons (.var 4) .nil))) .nil)))) (.cons (.set 6 false (.bin .add (.var 6) (.ife (.cmp .gt (.ix (.var 10) (.cst (.int 0))) (.cst (.int 0))) (.lst (.cons (.tup (.cons (.var 7) (.cons (.var 8) (.cons (.var 10) .nil)))) .nil)) (.lst .nil)))) .nil))
def l__law_payments_3 : IE := .lc (.ix (.var 11) (.cst (.int 2))) (.nm 11) (.seq (.ix (.var 3) (.cst (.int 0)))) .none [11] []
def l__law_payments_4 : IE := .lc (.ix (.var 11) (.cst (.int 2))) (.nm 11) (.seq (.var 1)) .none [11] []
def b__law_payments : ISs := (.cons (.set 2 false (.call (Str.ofString "_law_part") 25 (.cons (.call (Str.ofString "_law_take") 23 (.cons (.var 0) (.cons (.cst (.int 20)) .nil))) (.cons (.bin .add (.cst (.int 1)) (.call (Str.ofString "_law_take") 23 (.cons (.var 0) (.cons (.cst (.int 2)) .nil)))) .nil)))) (.cons (.set 3 false (.call (Str.ofString "paid_off") 12 (.cons (.var 1) (.cons (.var 2) .nil)))) (.cons (.set 4 false (.call (Str.ofString "_law_total") 31 (.cons l__law_payments_4 .nil))) (.cons (.ife (.or (.cmp .ne (.var 3) (.call (Str.ofString "_law_paid") 39 (.cons (.var 1) (.cons (.var 2) .nil)))) (.or (.cmp .ne (.call (Str.ofString "_law_add") 26 (.cons (.call (Str.ofString "_law_total") 31 (.cons l__law_payments_3 .nil)) (.cons (.call (Str.ofString "_law_add") 26 (.cons (.var 2) (.cons (.call (Str.ofString "_law_neg") 28 (.cons (.ix (.var 3) (.cst (.int 2))) .nil)) .nil))) .nil))) (.var 4)) (.and (.cmp .ne (.ix (.var 3) (.cst (.int 2))) (.tup (.cons (.cst (.int 0)) (.cons (.cst (.int 1)) .nil)))) (.cmp .ne (.ix (.var 3) (.cst (.int 0))) (.tup .nil))))) (.cons (.ret (.cst (.bl false))) .nil) .nil) (.cons (.ife (.and (.cmp .gt (.blt .len (.cons (.ix (.var 3) (.cst (.int 0))) .nil)) (.cst (.int 0))) (.cmp .isn (.call (Str.ofString "are_bills") 8 (.cons (.ix (.var 3) (.cst (.int 0))) .nil)) (.cst (.bl true)))) (.cons (.ret (.cst (.bl false))) .nil) .nil) (.cons (.ife (.call (Str.ofString "_law_less") 30 (.cons (.var 4) (.cons (.var 2) .nil))) (.cons (.ret (.and (.cmp .eq (.call (Str.ofString "_law_word") 36 (.cons (.fnr (Str.ofString "paid_alike") 13) (.cons (.tup (.cons (.var 1) (.cons (.var 2) .nil))) .nil))) (.cst (.str (Str.ofString "part")))) (.cmp .eq (.call (Str.ofString "_law_word") 36 (.cons (.fnr (Str.ofString "paid_alike") 13) (.cons (.tup (.cons (.var 1) (.cons (.tup (.cons (.neg (.cst (.int 1))) (.cons (.cst (.int 2)) .nil))) .nil))) .nil))) (.cst (.str (Str.ofString "part")))))) .nil) .nil) (.cons (.set 5 false (.call (Str.ofString "paid_alike") 13 (.cons (.var 1) (.cons (.var 2) .nil)))) (.cons (.set 6 false (.lst .nil)) (.cons l__law_payments_2 (.cons (.ret (.and (.cmp .eq (.var 5) (.blt .tuple (.cons (.var 6) .nil))) (.and (.cmp .eq (.call (Str.ofString "_law_add") 26 (.cons (.call (Str.ofString "_law_total") 31 (.cons l__law_payments_1 .nil)) (.cons (.var 2) .nil))) (.var 4)) (.cmp .eq (.call (Str.ofString "over_part") 14 (.cons (.var 2) (.cons (.tup (.cons (.cst (.int 2)) (.cons (.cst (.int 3)) .nil))) .nil))) (.call (Str.ofString "_law_over") 29 (.cons (.var 2) (.cons (.tup (.cons (.cst (.int 2)) (.cons (.cst (.int 3)) .nil))) .nil))))))) .nil))))))))))
def f__law_payments : Fn := ⟨2, 12, b__law_payments⟩
def d__law_payments : Df := ⟨(Str.ofString "_law_payments"), top 51, [(Str.ofString "state"), (Str.ofString "bills"), (Str.ofString "part_v"), (Str.ofString "told"), (Str.ofString "whole"), (Str.ofString "rest"), (Str.ofString "due_told"), (Str.ofString "day"), (Str.ofString "name"), (Str.ofString "one"), (Str.ofString "now"), (Str.ofString "row")], [(Str.ofString "state"), (Str.ofString "bills")], f__law_payments⟩
/- 41 _law_ages(state, bills): 0=state 1=bills 2=rows 3=shares 4=whole 5=early 6=rate 7=day 8=steps 9=when 10=name 11=part_v 12=spot 13=step 14=bill 15=days 16=share 17=k 18=row 19=bad -/
def l__law_ages_1 : IE := .lc (.call (Str.ofString "_law_word") 36 (.cons (.fnr (Str.ofString "early_rate") 18) (.cons (.tup (.cons (.var 19) (.cons (.var 15) (.cons (.bin .add (.var 15) (.cst (.int 1))) .nil)))) .nil))) (.nm 19) (.seq (.tup (.cons (.tup (.cons (.cst (.int 0)) (.cons (.cst (.int 1)) .nil))) (.cons (.tup (.cons (.cst (.int 1)) (.cons (.cst (.int 1)) .nil))) .nil)))) .none [19] []
def l__law_ages_2 : IE := .lc (.call (Str.ofString "_law_mul") 27 (.cons (.ix (.var 18) (.cst (.int 2))) (.cons (.tup (.cons (.bin .sub (.var 7) (.ix (.var 18) (.cst (.int 0)))) (.cons (.cst (.int 1)) .nil))) .nil))) (.nm 18) (.seq (.var 1)) .none [18] []
def l__law_ages_3 : IE := .lc (.ix (.var 18) (.cst (.int 2))) (.nm 18) (.seq (.var 1)) .none [18] []
def l__law_ages_4 : IE := .lc (.ix (.var 18) (.cst (.int 2))) (.nm 18) (.seq (.var 1)) .none [18] []
def l__law_ages_5 : IE := .lc (.call (Str.ofString "_law_part") 25 (.cons (.call (Str.ofString "_law_take") 23 (.cons (.var 0) (.cons (.cst (.int 5)) .nil))) (.cons (.cst (.int 4)) .nil))) (.nm 17) (.rng1 (.cst (.int 4))) .none [17] []
def l__law_ages_6 : IS := .for (.nm 13) (.seq (.var 8)) (.cons (.set 12 false (.bin .add (.var 12) (.blt .int (.cons (.cmp .ge (.bin .sub (.var 7) (.var 9)) (.var 13)) .nil)))) .nil)
def l__law_ages_7 : IS := .for (.tp [9, 10, 11]) (.seq (.var 1)) (.cons (.set 12 false (.cst (.int 0))) (.cons l__law_ages_6 (.cons (.sto 2 (.var 12) (.call (Str.ofString "_law_add") 26 (.cons (.ix (.pk 2) (.var 12)) (.cons (.var 11) .nil)))) .nil)))
def b__law_ages : ISs := (.cons (.par [(7, false), (8, false)] (.cons (.bin .add (.cst (.int 9)) (.call (Str.ofString "_law_take") 23 (.cons (.var 0) (.cons (.cst (.int 9)) .nil)))) (.cons (.lst (.cons (.bin .add (.cst (.int 2)) (.call (Str.ofString "_law_take") 23 (.cons (.var 0) (.cons (.cst (.int 3)) .nil)))) (.cons (.bin .add (.cst (.int 6)) (.call (Str.ofString "_law_take") 23 (.cons (.var 0) (.cons (.cst (.int 3)) .nil)))) (.cons (.cst (.int 12)) .nil)))) .nil))) (.cons (.set 2 true (.bin .mul (.lst (.cons (.tup (.cons (.cst (.int 0)) (.cons (.cst (.int 1)) .nil))) .nil)) (.cst (.int 4)))) (.cons l__law_ages_7 (.cons (.set 3 false l__law_ages_5) (.cons (.ife (.or (.cmp .ne (.call (Str.ofString "by_age") 15 (.cons (.var 1) (.cons (.var 7) (.cons (.var 8) .nil)))) (.pk 2)) (.or (.cmp .ne (.call (Str.ofString "doubtful") 16 (.cons (.var 1) (.cons (.var 7) (.cons (.var 8) (.cons (.var 3) .nil))))) (.lend (Str.ofString "_law_dot") 32 (.cons (.pk 2) (.cons (.var 3) .nil)))) (.cmp .ne (.call (Str.ofString "by_age") 15 (.cons (.var 1) (.cons (.var 7) (.cons (.lst .nil) .nil)))) (.lst (.cons (.call (Str.ofString "_law_total") 31 (.cons l__law_ages_4 .nil)) .nil))))) (.cons (.ret (.cst (.bl false))) .nil) .nil) (.cons (.ife (.cmp .ne (.call (Str.ofString "_law_word") 36 (.cons (.fnr (Str.ofString "doubtful") 16) (.cons (.tup (.cons (.var 1) (.cons (.var 7) (.cons (.var 8) (.cons (.sl (.var 3) .none (.some (.cst (.int 3)))) .nil))))) .nil))) (.cst (.str (Str.ofString "shares")))) (.cons (.ret (.cst (.bl false))) .nil) .nil) (.cons (.ife (.cmp .eq (.var 1) (.tup .nil)) (.cons (.ret (.cmp .eq (.call (Str.ofString "_law_word") 36 (.cons (.fnr (Str.ofString "mean_age") 19) (.cons (.tup (.cons (.var 1) (.cons (.var 7) .nil))) .nil))) (.cst (.str (Str.ofString "none"))))) .nil) .nil) (.cons (.set 4 false (.call (Str.ofString "_law_total") 31 (.cons l__law_ages_3 .nil))) (.cons (.ife (.cmp .ne (.call (Str.ofString "_law_mul") 27 (.cons (.call (Str.ofString "mean_age") 19 (.cons (.var 1) (.cons (.var 7) .nil))) (.cons (.var 4) .nil))) (.call (Str.ofString "_law_total") 31 (.cons l__law_ages_2 .nil))) (.cons (.ret (.cst (.bl false))) .nil) .nil) (.cons (.par [(14, false), (15, false), (16, false)] (.cons (.ix (.var 1) (.cst (.int 0))) (.cons (.call (Str.ofString "_law_take") 23 (.cons (.var 0) (.cons (.cst (.int 12)) .nil))) (.cons (.call (Str.ofString "_law_part") 25 (.cons (.bin .add (.cst (.int 1)) (.call (Str.ofString "_law_take") 23 (.cons (.var 0) (.cons (.cst (.int 4)) .nil)))) (.cons (.cst (.int 9)) .nil))) .nil)))) (.cons (.set 5 false (.call (Str.ofString "_law_mul") 27 (.cons (.ix (.var 14) (.cst (.int 2))) (.cons (.call (Str.ofString "_law_add") 26 (.cons (.tup (.cons (.cst (.int 1)) (.cons (.cst (.int 1)) .nil))) (.cons (.call (Str.ofString "_law_neg") 28 (.cons (.var 16) .nil)) .nil))) .nil)))) (.cons (.ife (.cmp .ne (.call (Str.ofString "due") 17 (.cons (.var 14) (.cons (.var 7) (.cons (.var 15) (.cons (.var 16) .nil))))) (.ife (.cmp .le (.bin .sub (.var 7) (.ix (.var 14) (.cst (.int 0)))) (.var 15)) (.var 5) (.ix (.var 14) (.cst (.int 2))))) (.cons (.ret (.cst (.bl false))) .nil) .nil) (.cons (.set 6 false (.call (Str.ofString "early_rate") 18 (.cons (.var 16) (.cons (.var 15) (.cons (.bin .add (.var 15) (.cst (.int 20))) .nil))))) (.cons (.ife (.cmp .ne (.call (Str.ofString "_law_mul") 27 (.cons (.var 5) (.cons (.call (Str.ofString "_law_add") 26 (.cons (.tup (.cons (.cst (.int 1)) (.cons (.cst (.int 1)) .nil))) (.cons (.var 6) .nil))) .nil))) (.ix (.var 14) (.cst (.int 2)))) (.cons (.ret (.cst (.bl false))) .nil) .nil) (.cons (.ret (.and (.cmp .eq l__law_ages_1 (.bin .mul (.lst (.cons (.cst (.str (Str.ofString "share"))) .nil)) (.cst (.int 2)))) (.cmp .eq (.call (Str.ofString "_law_word") 36 (.cons (.fnr (Str.ofString "early_rate") 18) (.cons (.tup (.cons (.var 16) (.cons (.var 15) (.cons (.var 15) .nil)))) .nil))) (.cst (.str (Str.ofString "share")))))) .nil)))))))))))))))
def f__law_ages : Fn := ⟨2, 20, b__law_ages⟩
def d__law_ages : Df := ⟨(Str.ofString "_law_ages"), top 52, [(Str.ofString "state"), (Str.ofString "bills"), (Str.ofString "rows"), (Str.ofString "shares"), (Str.ofString "whole"), (Str.ofString "early"), (Str.ofString "rate"), (Str.ofString "day"), (Str.ofString "steps"), (Str.ofString "when"), (Str.ofString "name"), (Str.ofString "part_v"), (Str.ofString "spot"), (Str.ofString "step"), (Str.ofString "bill"), (Str.ofString "days"), (Str.ofString "share"), (Str.ofString "k"), (Str.ofString "row"), (Str.ofString "bad")], [(Str.ofString "state"), (Str.ofString "bills")], f__law_ages⟩
/- 42 _law_posted(state): 0=state 1=k 2=told 3=whole 4=rows 5=day 6=part_v 7=bills 8=rest 9=when 10=name 11=unit 12=now 13=gone 14=more 15=row -/
def l__law_posted_1 : IE := .lc (.ix (.var 15) (.cst (.int 2))) (.nm 15) (.seq (.var 7)) .none [15] []
def l__law_posted_2 : IE := .lc (.var 6) (.tp [9, 10, 6, 11]) (.seq (.pk 4)) (.some (.cmp .eq (.var 11) (.cst (.str (Str.ofString "eur"))))) [6, 9, 10, 11] []
def l__law_posted_3 : IS := .for (.tp [9, 10, 6, 11]) (.seq (.pk 4)) (.cons (.ife (.and (.cmp .eq (.var 11) (.cst (.str (Str.ofString "eur")))) (.cmp .gt (.ix (.var 6) (.cst (.int 0))) (.cst (.int 0)))) (.cons (.set 12 false (.call (Str.ofString "_law_least") 33 (.cons (.lst (.cons (.var 6) (.cons (.var 8) .nil))) .nil))) (.cons (.set 8 false (.call (Str.ofString "_law_add") 26 (.cons (.var 8) (.cons (.call (Str.ofString "_law_neg") 28 (.cons (.var 12) .nil)) .nil)))) (.cons (.set 7 false (.bin .add (.var 7) (.ife (.cmp .ne (.var 12) (.var 6)) (.tup (.cons (.tup (.cons (.var 9) (.cons (.var 10) (.cons (.call (Str.ofString "_law_add") 26 (.cons (.var 6) (.cons (.call (Str.ofString "_law_neg") 28 (.cons (.var 12) .nil)) .nil))) .nil)))) .nil)) (.tup .nil)))) .nil))) (.cons (.ife (.cmp .eq (.var 11) (.cst (.str (Str.ofString "eur")))) (.cons (.unp [7, 13, 14] (.call (Str.ofString "_law_paid") 39 (.cons (.var 7) (.cons (.call (Str.ofString "_law_neg") 28 (.cons (.var 6) .nil)) .nil)))) (.cons (.set 8 false (.call (Str.ofString "_law_add") 26 (.cons (.var 8) (.cons (.var 14) .nil)))) .nil)) .nil) .nil)) .nil)
def l__law_posted_4 : IS := .for (.nm 1) (.rng1 (.call (Str.ofString "_law_take") 23 (.cons (.var 0) (.cons (.cst (.int 7)) .nil)))) (.cons (.set 5 false (.bin .add (.var 5) (.call (Str.ofString "_law_take") 23 (.cons (.var 0) (.cons (.cst (.int 3)) .nil))))) (.cons (.set 6 false (.call (Str.ofString "_law_fraction") 34 (.cons (.var 0) (.cons (.cst (.int 5)) .nil)))) (.cons (.ife (.cmp .ne (.ix (.var 6) (.cst (.int 0))) (.cst (.int 0))) (.cons (.app 4 (.tup (.cons (.var 5) (.cons (.ix (.tup (.cons (.cst (.str (Str.ofString "ann"))) (.cons (.cst (.str (Str.ofString "bob"))) (.cons (.cst (.str (Str.ofString "cid"))) (.cons (.cst (.str (Str.ofString "dan"))) (.cons (.cst (.str (Str.ofString "eve"))) (.cons (.cst (.str (Str.ofString "fay"))) (.cons (.cst (.str (Str.ofString "gil"))) .nil)))))))) (.var 1)) (.cons (.var 6) (.cons (.call (Str.ofString "_law_pick") 24 (.cons (.var 0) (.cons (.lst (.cons (.cst (.str (Str.ofString "eur"))) (.cons (.cst (.str (Str.ofString "eur"))) (.cons (.cst (.str (Str.ofString "usd"))) .nil)))) .nil))) .nil)))))) .nil) .nil) .nil)))
def b__law_posted : ISs := (.cons (.par [(4, true), (5, false)] (.cons (.lst .nil) (.cons (.cst (.int 0)) .nil))) (.cons l__law_posted_4 (.cons (.par [(7, false), (8, false)] (.cons (.tup .nil) (.cons (.tup (.cons (.cst (.int 0)) (.cons (.cst (.int 1)) .nil))) .nil))) (.cons l__law_posted_3 (.cons (.set 2 false (.call (Str.ofString "from_postings") 20 (.cons (.var 4) (.cons (.cst (.str (Str.ofString "eur"))) .nil)))) (.cons (.set 3 false (.call (Str.ofString "_law_total") 31 (.cons l__law_posted_2 .nil))) (.cons (.ife (.or (.cmp .ne (.var 2) (.tup (.cons (.var 7) (.cons (.var 8) .nil)))) (.or (.cmp .ne (.call (Str.ofString "_law_add") 26 (.cons (.call (Str.ofString "_law_total") 31 (.cons l__law_posted_1 .nil)) (.cons (.call (Str.ofString "_law_neg") 28 (.cons (.var 8) .nil)) .nil))) (.var 3)) (.and (.cmp .ne (.var 8) (.tup (.cons (.cst (.int 0)) (.cons (.cst (.int 1)) .nil)))) (.cmp .ne (.var 7) (.tup .nil))))) (.cons (.ret (.cst (.bl false))) .nil) .nil) (.cons (.ret (.and (.cmp .is (.call (Str.ofString "is_one_sum") 21 (.cons (.var 4) (.cons (.cst (.str (Str.ofString "eur"))) .nil))) (.cst (.bl true))) (.and (.cmp .is (.call (Str.ofString "is_one_sum") 21 (.cons (.var 4) (.cons (.cst (.str (Str.ofString "usd"))) .nil))) (.cst (.bl true))) (.cmp .eq (.call (Str.ofString "from_postings") 20 (.cons (.var 4) (.cons (.cst (.str (Str.ofString "yen"))) .nil))) (.tup (.cons (.tup .nil) (.cons (.tup (.cons (.cst (.int 0)) (.cons (.cst (.int 1)) .nil))) .nil))))))) .nil))))))))
def f__law_posted : Fn := ⟨1, 16, b__law_posted⟩
def d__law_posted : Df := ⟨(Str.ofString "_law_posted"), top 53, [(Str.ofString "state"), (Str.ofString "k"), (Str.ofString "told"), (Str.ofString "whole"), (Str.ofString "rows"), (Str.ofString "day"), (Str.ofString "part_v"), (Str.ofString "bills"), (Str.ofString "rest"), (Str.ofString "when"), (Str.ofString "name"), (Str.ofString "unit"), (Str.ofString "now"), (Str.ofString "gone"), (Str.ofString "more"), (Str.ofString "row")], [(Str.ofString "state")], f__law_posted⟩
/- 43 _law_odd(): 0=one 1=bad 2=value -/
def l__law_odd_1 : IE := .lc (.call (Str.ofString "is_whole") 9 (.cons (.var 2) .nil)) (.nm 2) (.seq (.tup (.cons (.cst (.int 0)) (.cons (.neg (.cst (.int 1))) (.cons (.cst (.bl true)) (.cons (.cst (.str (Str.ofString "0"))) .nil)))))) .none [2] []
def l__law_odd_2 : IE := .lc (.call (Str.ofString "is_above") 10 (.cons (.var 2) .nil)) (.nm 2) (.seq (.tup (.cons (.var 0) (.cons (.tup (.cons (.cst (.int 0)) (.cons (.cst (.int 1)) .nil))) (.cons (.tup (.cons (.cst (.int 1)) (.cons (.cst (.int 0)) .nil))) (.cons (.tup (.cons (.cst (.int 4)) (.cons (.cst (.int 2)) .nil))) (.cons (.cst (.int 1)) .nil))))))) .none [2] []
def l__law_odd_3 : IE := .lc (.call (Str.ofString "are_bills") 8 (.cons (.var 2) .nil)) (.nm 2) (.seq (.var 1)) .none [2] []
def b__law_odd : ISs := (.cons (.set 0 false (.tup (.cons (.cst (.int 1)) (.cons (.cst (.int 1)) .nil)))) (.cons (.set 1 false (.lst (.cons (.cst .non) (.cons (.lst (.cons (.tup (.cons (.cst (.int 1)) (.cons (.cst (.str (Str.ofString "a"))) (.cons (.var 0) .nil)))) .nil)) (.cons (.tup (.cons (.tup (.cons (.cst (.int 1)) (.cons (.cst (.str (Str.ofString "a"))) .nil))) .nil)) (.cons (.tup (.cons (.tup (.cons (.neg (.cst (.int 1))) (.cons (.cst (.str (Str.ofString "a"))) (.cons (.var 0) .nil)))) .nil)) (.cons (.tup (.cons (.tup (.cons (.cst (.int 1)) (.cons (.cst (.int 2)) (.cons (.var 0) .nil)))) .nil)) (.cons (.tup (.cons (.tup (.cons (.cst (.int 1)) (.cons (.cst (.str (Str.ofString "a"))) (.cons (.tup (.cons (.cst (.int 0)) (.cons (.cst (.int 1)) .nil))) .nil)))) .nil)) (.cons (.tup (.cons (.tup (.cons (.cst (.int 1)) (.cons (.cst (.str (Str.ofString "a"))) (.cons (.var 0) .nil)))) (.cons (.tup (.cons (.cst (.int 2)) (.cons (.cst (.str (Str.ofString "a"))) (.cons (.var 0) .nil)))) .nil))) (.cons (.tup (.cons (.tup (.cons (.cst (.int 1)) (.cons (.cst (.str (Str.ofString "a"))) (.cons (.tup (.cons (.cst (.int 2)) (.cons (.cst (.int 2)) .nil))) .nil)))) .nil)) (.cons (.tup (.cons (.tup (.cons (.cst (.bl true)) (.cons (.cst (.str (Str.ofString "a"))) (.cons (.var 0) .nil)))) .nil)) .nil))))))))))) (.cons (.ife (.or (.cmp .ne l__law_odd_3 (.bin .mul (.lst (.cons (.cst (.bl false)) .nil)) (.cst (.int 9)))) (.cmp .isn (.call (Str.ofString "are_bills") 8 (.cons (.tup (.cons (.tup (.cons (.cst (.int 1)) (.cons (.cst (.str (Str.ofString "a"))) (.cons (.var 0) .nil)))) (.cons (.tup (.cons (.cst (.int 1)) (.cons (.cst (.str (Str.ofString "b"))) (.cons (.var 0) .nil)))) .nil))) .nil)) (.cst (.bl true)))) (.cons (.ret (.cst (.bl false))) .nil) .nil) (.cons (.ret (.and (.cmp .eq l__law_odd_1 (.lst (.cons (.cst (.bl true)) (.cons (.cst (.bl false)) (.cons (.cst (.bl false)) (.cons (.cst (.bl false)) .nil)))))) (.cmp .eq l__law_odd_2 (.lst (.cons (.cst (.bl true)) (.cons (.cst (.bl false)) (.cons (.cst (.bl false)) (.cons (.cst (.bl false)) (.cons (.cst (.bl false)) .nil))))))))) .nil))))
def f__law_odd : Fn := ⟨0, 3, b__law_odd⟩
def d__law_odd : Df := ⟨(Str.ofString "_law_odd"), top 54, [(Str.ofString "one"), (Str.ofString "bad"), (Str.ofString "value")], [], f__law_odd⟩
/- 44 law(script): 0=script 1=state 2=turn 3=bills -/
def l_law_1 : IS := .for (.nm 2) (.rng1 (.cst (.int 5))) (.cons (.set 3 false (.call (Str.ofString "_law_bills") 37 (.cons (.var 1) .nil))) (.cons (.ife (.or (.cmp .isn (.call (Str.ofString "are_bills") 8 (.cons (.var 3) .nil)) (.cst (.bl true))) (.or (.cmp .ne (.call (Str.ofString "oldest_first") 11 (.cons (.var 3) .nil)) (.call (Str.ofString "_law_order") 38 (.cons (.var 3) .nil))) (.or (.not (.call (Str.ofString "_law_payments") 40 (.cons (.var 1) (.cons (.var 3) .nil)))) (.or (.not (.call (Str.ofString "_law_ages") 41 (.cons (.var 1) (.cons (.var 3) .nil)))) (.not (.call (Str.ofString "_law_posted") 42 (.cons (.var 1) .nil))))))) (.cons (.ret (.cst (.bl false))) .nil) .nil) .nil))
def b_law : ISs := (.cons (.set 1 false (.call (Str.ofString "_law_state") 22 (.cons (.var 0) .nil))) (.cons l_law_1 (.cons (.ret (.call (Str.ofString "_law_odd") 43 .nil)) .nil)))
def f_law : Fn := ⟨1, 4, b_law⟩
def d_law : Df := ⟨(Str.ofString "law"), top 55, [(Str.ofString "script"), (Str.ofString "state"), (Str.ofString "turn"), (Str.ofString "bills")], [(Str.ofString "script")], f_law⟩
abbrev i_divisor : Nat := 0
abbrev i_part : Nat := 1
abbrev i_plus : Nat := 2
abbrev i_minus : Nat := 3
abbrev i_times : Nat := 4
abbrev i_is_less : Nat := 5
abbrev i_least : Nat := 6
abbrev i_total : Nat := 7
abbrev i_are_bills : Nat := 8
abbrev i_is_whole : Nat := 9
abbrev i_is_above : Nat := 10
abbrev i_oldest_first : Nat := 11
abbrev i_paid_off : Nat := 12
abbrev i_paid_alike : Nat := 13
abbrev i_over_part : Nat := 14
abbrev i_by_age : Nat := 15
abbrev i_doubtful : Nat := 16
abbrev i_due : Nat := 17
abbrev i_early_rate : Nat := 18
abbrev i_mean_age : Nat := 19
abbrev i_from_postings : Nat := 20
abbrev i_is_one_sum : Nat := 21
abbrev i__law_state : Nat := 22
abbrev i__law_take : Nat := 23
abbrev i__law_pick : Nat := 24
abbrev i__law_part : Nat := 25
abbrev i__law_add : Nat := 26
abbrev i__law_mul : Nat := 27
abbrev i__law_neg : Nat := 28
abbrev i__law_over : Nat := 29
abbrev i__law_less : Nat := 30
abbrev i__law_total : Nat := 31
abbrev i__law_dot : Nat := 32
abbrev i__law_least : Nat := 33
abbrev i__law_fraction : Nat := 34
abbrev i__law_above : Nat := 35
abbrev i__law_word : Nat := 36
abbrev i__law_bills : Nat := 37
abbrev i__law_order : Nat := 38
abbrev i__law_paid : Nat := 39
abbrev i__law_payments : Nat := 40
abbrev i__law_ages : Nat := 41
abbrev i__law_posted : Nat := 42
abbrev i__law_odd : Nat := 43
abbrev i_law : Nat := 44
def ds : List Df := [d_divisor, d_part, d_plus, d_minus, d_times, d_is_less, d_least, d_total, d_are_bills, d_is_whole, d_is_above, d_oldest_first, d_paid_off, d_paid_alike, d_over_part, d_by_age, d_doubtful, d_due, d_early_rate, d_mean_age, d_from_postings, d_is_one_sum, d__law_state, d__law_take, d__law_pick, d__law_part, d__law_add, d__law_mul, d__law_neg, d__law_over, d__law_less, d__law_total, d__law_dot, d__law_least, d__law_fraction, d__law_above, d__law_word, d__law_bills, d__law_order, d__law_paid, d__law_payments, d__law_ages, d__law_posted, d__law_odd, d_law]
def fns : List Fn := [f_divisor, f_part, f_plus, f_minus, f_times, f_is_less, f_least, f_total, f_are_bills, f_is_whole, f_is_above, f_oldest_first, f_paid_off, f_paid_alike, f_over_part, f_by_age, f_doubtful, f_due, f_early_rate, f_mean_age, f_from_postings, f_is_one_sum, f__law_state, f__law_take, f__law_pick, f__law_part, f__law_add, f__law_mul, f__law_neg, f__law_over, f__law_less, f__law_total, f__law_dot, f__law_least, f__law_fraction, f__law_above, f__law_word, f__law_bills, f__law_order, f__law_paid, f__law_payments, f__law_ages, f__law_posted, f__law_odd, f_law]
theorem at_divisor : fns[0]? = some f_divisor := rfl
theorem at_part : fns[1]? = some f_part := rfl
theorem at_plus : fns[2]? = some f_plus := rfl
theorem at_minus : fns[3]? = some f_minus := rfl
theorem at_times : fns[4]? = some f_times := rfl
theorem at_is_less : fns[5]? = some f_is_less := rfl
theorem at_least : fns[6]? = some f_least := rfl
theorem at_total : fns[7]? = some f_total := rfl
theorem at_are_bills : fns[8]? = some f_are_bills := rfl
theorem at_is_whole : fns[9]? = some f_is_whole := rfl
theorem at_is_above : fns[10]? = some f_is_above := rfl
theorem at_oldest_first : fns[11]? = some f_oldest_first := rfl
theorem at_paid_off : fns[12]? = some f_paid_off := rfl
theorem at_paid_alike : fns[13]? = some f_paid_alike := rfl
theorem at_over_part : fns[14]? = some f_over_part := rfl
theorem at_by_age : fns[15]? = some f_by_age := rfl
theorem at_doubtful : fns[16]? = some f_doubtful := rfl
theorem at_due : fns[17]? = some f_due := rfl
theorem at_early_rate : fns[18]? = some f_early_rate := rfl
theorem at_mean_age : fns[19]? = some f_mean_age := rfl
theorem at_from_postings : fns[20]? = some f_from_postings := rfl
theorem at_is_one_sum : fns[21]? = some f_is_one_sum := rfl
theorem at__law_state : fns[22]? = some f__law_state := rfl
theorem at__law_take : fns[23]? = some f__law_take := rfl
theorem at__law_pick : fns[24]? = some f__law_pick := rfl
theorem at__law_part : fns[25]? = some f__law_part := rfl
theorem at__law_add : fns[26]? = some f__law_add := rfl
theorem at__law_mul : fns[27]? = some f__law_mul := rfl
theorem at__law_neg : fns[28]? = some f__law_neg := rfl
theorem at__law_over : fns[29]? = some f__law_over := rfl
theorem at__law_less : fns[30]? = some f__law_less := rfl
theorem at__law_total : fns[31]? = some f__law_total := rfl
theorem at__law_dot : fns[32]? = some f__law_dot := rfl
theorem at__law_least : fns[33]? = some f__law_least := rfl
theorem at__law_fraction : fns[34]? = some f__law_fraction := rfl
theorem at__law_above : fns[35]? = some f__law_above := rfl
theorem at__law_word : fns[36]? = some f__law_word := rfl
theorem at__law_bills : fns[37]? = some f__law_bills := rfl
theorem at__law_order : fns[38]? = some f__law_order := rfl
theorem at__law_paid : fns[39]? = some f__law_paid := rfl
theorem at__law_payments : fns[40]? = some f__law_payments := rfl
theorem at__law_ages : fns[41]? = some f__law_ages := rfl
theorem at__law_posted : fns[42]? = some f__law_posted := rfl
theorem at__law_odd : fns[43]? = some f__law_odd := rfl
theorem at_law : fns[44]? = some f_law := rfl
def z0 : K0 := { bn := [(Str.ofString "len"), (Str.ofString "abs"), (Str.ofString "int"), (Str.ofString "str"), (Str.ofString "list"), (Str.ofString "tuple"), (Str.ofString "all"), (Str.ofString "any"), (Str.ofString "sum"), (Str.ofString "max"), (Str.ofString "min"), (Str.ofString "isinstance"), (Str.ofString "range"), (Str.ofString "bool"), (Str.ofString "set"), (Str.ofString "sorted")], gls := [((Str.ofString "NOUGHT"), (.tup [(.int 0), (.int 1)])), ((Str.ofString "ONE"), (.tup [(.int 1), (.int 1)]))], cls := [((Str.ofString "Misstep"), 2)], lams := [(Str.ofString "oldest_first")] }
end M53

namespace M53
open Vi PySem
abbrev fu : Nat := 20000
theorem divisor_s {n : Nat} (hn : 1 ≤ n) {a b : Int} {r : Rng} (hb : Lt2 9000 b) : callI fu fns n i_divisor [.int a, .int b] r = .ok (.int (Int.gcd a b)) r := by
  obtain ⟨m, rfl⟩ : ∃ m, n = m + 1 := ⟨n - 1, by omega⟩
  rw [call_def at_divisor rfl]
  simp only [f_divisor, b_divisor, startS, exss, exs, evs, ev]
  simp [nlck, slotOf, bltD]
  rw [gcd_loop _ _ r ?ht ?hf 9000 _ _ fu ?ha ?hb ?hk (by decide)]
  case ht => intro a b; simp [ev, cmpD, eqI]
  case hf => intro a b ha hb; simp [ev, evs, exss, exs, binD, hb, nlck, slotOf]
  case ha => split <;> omega
  case hb => split <;> omega
  case hk =>
    unfold Lt2 at hb
    split <;> omega
  simp [outC, ev]
  split <;> split <;> simp
theorem part_pos {n : Nat} (hn : 2 ≤ n) {a b : Int} {r : Rng} (hb : Lt2 8999 b) (h0 : 0 < b) : callI fu fns n i_part [.int a, .int b] r = .ok (PR (Rat.divInt a b)) r := by
  obtain ⟨m, rfl⟩ : ∃ m, n = m + 1 := ⟨n - 1, by omega⟩
  rw [call_def at_part rfl]
  have hg : 0 < (Int.gcd a b : Int) := by
    have := Int.gcd_pos_of_ne_zero_right a (b := b) (by omega)
    omega
  have hd : divOk (Int.gcd a b : Int) = true := by
    refine divOk_of (k := 8999) ?_ hg (by decide)
    have h1 : (Int.gcd a b : Int) ∣ b := Int.gcd_dvd_right a b
    have h2 := Int.le_of_dvd h0 h1
    unfold Lt2 at hb ⊢
    omega
  have h3 : ¬ b < 0 := by omega
  simp [f_part, b_part, startS, exss, exs, evs, ev, nlck, slotOf, cmpD, h3, divisor_s (show 1 ≤ m by omega) (hb.mono (show 8999 ≤ 9000 by decide)), binD, hd, lim, outC, PR, Rat.num_divInt, Rat.den_divInt]
  have hb0 : b ≠ 0 := by omega
  refine ⟨?_, ?_⟩
  · rw [Int.sign_eq_one_of_pos h0, Int.one_mul, Int.gcd_comm]
  · rw [if_neg hb0, Int.gcd_comm, Int.natCast_ediv, Int.natAbs_of_nonneg (by omega)]
theorem plus_s {n : Nat} (hn : 3 ≤ n) {x y : Rat} {r : Rng} {j k : Nat} (hx : Sz j x) (hy : Sz k y) (h : j + k < 8990) : callI fu fns n i_plus [PR x, PR y] r = .ok (PR (x + y)) r := by
  obtain ⟨m, rfl⟩ : ∃ m, n = m + 1 := ⟨n - 1, by omega⟩
  rw [call_def at_plus rfl]
  have m1 := mulOk_of hx.1 hy.2 (by omega)
  have m2 := mulOk_of hy.1 hx.2 (by omega)
  have m3 := mulOk_of hx.2 hy.2 (by omega)
  have hp := part_pos (show 2 ≤ m by omega) (a := x.num * y.den + y.num * x.den) (r := r) ((hx.2.mul hy.2).mono (show j + k ≤ 8999 by omega)) (den_mul_pos x y)
  rw [add_eq] at hp
  simp [f_plus, b_plus, startS, exss, exs, evs, ev, PR, ixD, ixL, binD, m1, m2, m3, outC]
  rw [hp]
  simp [PR]
theorem minus_s {n : Nat} (hn : 3 ≤ n) {x y : Rat} {r : Rng} {j k : Nat} (hx : Sz j x) (hy : Sz k y) (h : j + k < 8990) : callI fu fns n i_minus [PR x, PR y] r = .ok (PR (x - y)) r := by
  obtain ⟨m, rfl⟩ : ∃ m, n = m + 1 := ⟨n - 1, by omega⟩
  rw [call_def at_minus rfl]
  have m1 := mulOk_of hx.1 hy.2 (by omega)
  have m2 := mulOk_of hy.1 hx.2 (by omega)
  have m3 := mulOk_of hx.2 hy.2 (by omega)
  have hp := part_pos (show 2 ≤ m by omega) (a := x.num * y.den - y.num * x.den) (r := r) ((hx.2.mul hy.2).mono (show j + k ≤ 8999 by omega)) (den_mul_pos x y)
  rw [sub_eq] at hp
  simp [f_minus, b_minus, startS, exss, exs, evs, ev, PR, ixD, ixL, binD, m1, m2, m3, outC]
  rw [hp]
  simp [PR]
theorem times_s {n : Nat} (hn : 3 ≤ n) {x y : Rat} {r : Rng} {j k : Nat} (hx : Sz j x) (hy : Sz k y) (h : j + k < 8990) : callI fu fns n i_times [PR x, PR y] r = .ok (PR (x * y)) r := by
  obtain ⟨m, rfl⟩ : ∃ m, n = m + 1 := ⟨n - 1, by omega⟩
  rw [call_def at_times rfl]
  have m1 := mulOk_of hx.1 hy.1 (by omega)
  have m3 := mulOk_of hx.2 hy.2 (by omega)
  have hp := part_pos (show 2 ≤ m by omega) (a := x.num * y.num) (r := r) ((hx.2.mul hy.2).mono (show j + k ≤ 8999 by omega)) (den_mul_pos x y)
  rw [mul_eq] at hp
  simp [f_times, b_times, startS, exss, exs, evs, ev, PR, ixD, ixL, binD, m1, m3, outC]
  rw [hp]
  simp [PR]
theorem is_less_s {n : Nat} (hn : 1 ≤ n) {x y : Rat} {r : Rng} {j k : Nat} (hx : Sz j x) (hy : Sz k y) (h : j + k < 800000) : callI fu fns n i_is_less [PR x, PR y] r = .ok (.bl (decide (x < y))) r := by
  obtain ⟨m, rfl⟩ : ∃ m, n = m + 1 := ⟨n - 1, by omega⟩
  rw [call_def at_is_less rfl]
  have m1 := mulOk_of hx.1 hy.2 (by omega)
  have m3 := mulOk_of hy.1 hx.2 (by omega)
  simp [f_is_less, b_is_less, startS, exss, exs, evs, ev, PR, ixD, ixL, binD, m1, m3, outC, cmpD, Rat.lt_iff]
theorem total_s {n : Nat} (hn : 4 ≤ n) {xs : List Rat} {r : Rng} {k : Nat} (hx : ∀ x ∈ xs, Sz k x) (h : xs.length * (k + 1) + 1 + k < 8990) : callI fu fns n i_total [.lst (xs.map PR)] r = .ok (PR (sumR xs)) r := by
  obtain ⟨m, rfl⟩ : ∃ m, n = m + 1 := ⟨n - 1, by omega⟩
  rw [call_def at_total rfl]
  have hl : exs (callI fu fns m) fu l_total_1 ⟨[.val (.lst (xs.map PR)), .val (PR 0), .uns], r⟩ = .next ⟨[.val (.lst (xs.map PR)), .val (PR (sumR xs)), lastS (xs.map PR) .uns], r⟩ := by
    unfold l_total_1
    refine Eq.trans (Vi.forM PR (xs := xs) (r := r) (o0 := .uns) (fun i o => [.val (.lst (xs.map PR)), .val (PR (sumR (xs.take i))), o]) .uns rfl (evi_seqL (by simp)) rfl rfl (fun _ _ => rfl) (fun _ _ _ => rfl) (fun i y hq => ?_)) (by rw [List.take_length])
    · have hi : i < xs.length := (List.getElem?_eq_some_iff.mp hq).1
      have hs : Sz (xs.length * (k + 1) + 1) (sumR (xs.take i)) := Sz.sum xs.length (by rw [List.length_take]; omega) fun z hz => hx z (List.mem_of_mem_take hz)
      have hy : Sz k y := hx y (List.mem_of_getElem? hq)
      simp [plus_s (show 3 ≤ m by omega) hs hy (by omega), take_snoc hq, sumR_snoc]
  simp [f_total, b_total, startS, pr01, hl]
theorem take_s {n : Nat} (hn : 1 ≤ n) {most : Int} {q : Int × List Int} (hq : OkR q) (hm : Lt2 8000 most) : callI fu fns n i__law_take [.tok, .int most] (some q) = .ok (.int (takeF most q).1) (some (takeF most q).2) := by
  obtain ⟨m, rfl⟩ : ∃ m, n = m + 1 := ⟨n - 1, by omega⟩
  obtain ⟨p, cs⟩ := q
  rw [call_def at__law_take rfl]
  simp only [f__law_take, b__law_take, startS]
  by_cases h2 : most < 2
  · simp [exss, exs, ev, evs, cmpD, h2, outC, takeF]
  · have hd : divOk most = true := divOk_of hm (by omega) (by decide)
    have hL : (0 : Int) < cs.length := by
      have hne : cs ≠ [] := hq.ne
      have := List.length_pos_iff.mpr hne
      omega
    have a0 : 0 ≤ p % (cs.length : Int) := Int.emod_nonneg _ (by omega)
    have a1 : p % (cs.length : Int) < cs.length := Int.emod_lt_of_pos _ hL
    have hlt : (p % (cs.length : Int)).toNat < cs.length := by omega
    have hLn : 0 < cs.length := by omega
    have hm0 : 0 < most := by omega
    have hL' : cs ≠ [] := hq.ne
    have k1 : ∀ i : Int, mulOk i 48271 = true := fun i => mulC (by decide)
    have k2 : ∀ i : Int, mulOk i 69621 = true := fun i => mulC (by decide)
    have k3 : ∀ i : Int, mulOk i 16807 = true := fun i => mulC (by decide)
    have k4 : ∀ i : Int, mulOk i 7919 = true := fun i => mulC (by decide)
    have k5 : divOk 7 = true := by decide
    by_cases hc : 1000000000000000000 ≤ cs[(p % (cs.length : Int)).toNat]
    · simp [exss, exs, ev, evs, cmpD, h2, outC, takeF, pkS, ixD, ixL, bltD, binD, nlck, slotOf, hLn, a0, a1, hlt, hc, stoOk, storeIx, hd, hm0]
    · simp [exss, exs, ev, evs, cmpD, h2, outC, takeF, pkS, ixD, ixL, bltD, binD, nlck, slotOf, hLn, a0, a1, hlt, hc, stoOk, storeIx, hd, hm0, k1, k2, k3, k4, k5]
theorem lpart_s {n : Nat} (hn : 1 ≤ n) {a b : Int} {r : Rng} (hb : Lt2 8999 b) (h0 : 0 < b) : callI fu fns n i__law_part [.int a, .int b] r = .ok (PR (Rat.divInt a b)) r := by
  obtain ⟨m, rfl⟩ : ∃ m, n = m + 1 := ⟨n - 1, by omega⟩
  rw [call_def at__law_part rfl]
  have hg : 0 < (Int.gcd a b : Int) := by
    have := Int.gcd_pos_of_ne_zero_right a (b := b) (by omega)
    omega
  have hd : divOk (Int.gcd a b : Int) = true := by
    refine divOk_of (k := 8999) ?_ hg (by decide)
    have h1 : (Int.gcd a b : Int) ∣ b := Int.gcd_dvd_right a b
    have h2 := Int.le_of_dvd h0 h1
    unfold Lt2 at hb ⊢
    omega
  have h3 : ¬ b < 0 := by omega
  simp only [f__law_part, b__law_part, startS, exss, exs, evs, ev]
  simp [nlck, slotOf, bltD]
  rw [gcd_loop4 _ _ _ _ r ?ht ?hf 9000 _ _ fu ?ha ?hb ?hk (by decide)]
  case ht => intro a b; simp [ev, cmpD, eqI]
  case hf => intro a b ha hb; simp [ev, evs, exss, exs, binD, hb, nlck, slotOf, bltD]
  case ha => split <;> omega
  case hb => split <;> omega
  case hk =>
    unfold Lt2 at hb
    split <;> omega
  have e1 : (if a < 0 then -a else a).gcd (if b < 0 then -b else b) = Int.gcd a b := by rw [if_neg h3]; split <;> simp
  rw [e1]
  simp [exss, exs, ev, evs, cmpD, h3, binD, hd, lim, nlck, slotOf, outC, PR, Rat.num_divInt, Rat.den_divInt]
  have hb0 : b ≠ 0 := by omega
  refine ⟨?_, ?_⟩
  · rw [Int.sign_eq_one_of_pos h0, Int.one_mul, Int.gcd_comm]
  · rw [if_neg hb0, Int.gcd_comm, Int.natCast_ediv, Int.natAbs_of_nonneg (by omega)]
theorem ladd_s {n : Nat} (hn : 3 ≤ n) {x y : Rat} {r : Rng} {j k : Nat} (hx : Sz j x) (hy : Sz k y) (h : j + k < 8990) : callI fu fns n i__law_add [PR x, PR y] r = .ok (PR (x + y)) r := by
  obtain ⟨m, rfl⟩ : ∃ m, n = m + 1 := ⟨n - 1, by omega⟩
  rw [call_def at__law_add rfl]
  have m1 := mulOk_of hx.1 hy.2 (by omega)
  have m2 := mulOk_of hy.1 hx.2 (by omega)
  have m3 := mulOk_of hx.2 hy.2 (by omega)
  have hp := lpart_s (show 1 ≤ m by omega) (a := x.num * y.den + y.num * x.den) (r := r) ((hx.2.mul hy.2).mono (show j + k ≤ 8999 by omega)) (den_mul_pos x y)
  rw [add_eq] at hp
  simp [f__law_add, b__law_add, startS, exss, exs, evs, ev, PR, ixD, ixL, binD, m1, m2, m3, outC]
  rw [hp]
  simp [PR]
theorem lmul_s {n : Nat} (hn : 3 ≤ n) {x y : Rat} {r : Rng} {j k : Nat} (hx : Sz j x) (hy : Sz k y) (h : j + k < 8990) : callI fu fns n i__law_mul [PR x, PR y] r = .ok (PR (x * y)) r := by
  obtain ⟨m, rfl⟩ : ∃ m, n = m + 1 := ⟨n - 1, by omega⟩
  rw [call_def at__law_mul rfl]
  have m1 := mulOk_of hx.1 hy.1 (by omega)
  have m3 := mulOk_of hx.2 hy.2 (by omega)
  have hp := lpart_s (show 1 ≤ m by omega) (a := x.num * y.num) (r := r) ((hx.2.mul hy.2).mono (show j + k ≤ 8999 by omega)) (den_mul_pos x y)
  rw [mul_eq] at hp
  simp [f__law_mul, b__law_mul, startS, exss, exs, evs, ev, PR, ixD, ixL, binD, m1, m3, outC]
  rw [hp]
  simp [PR]
theorem lover_s {n : Nat} (hn : 3 ≤ n) {x y : Rat} {r : Rng} {j k : Nat} (hx : Sz j x) (hy : Sz k y) (h : j + k < 8990) (h0 : 0 < y) : callI fu fns n i__law_over [PR x, PR y] r = .ok (PR (x / y)) r := by
  obtain ⟨m, rfl⟩ : ∃ m, n = m + 1 := ⟨n - 1, by omega⟩
  rw [call_def at__law_over rfl]
  have m1 := mulOk_of hx.1 hy.2 (by omega)
  have m3 := mulOk_of hx.2 hy.1 (by omega)
  have hp := lpart_s (show 1 ≤ m by omega) (a := x.num * y.den) (r := r) ((hx.2.mul hy.1).mono (show j + k ≤ 8999 by omega)) (Int.mul_pos (den_pos' x) (num_pos' h0))
  rw [div_eq] at hp
  simp [f__law_over, b__law_over, startS, exss, exs, evs, ev, PR, ixD, ixL, binD, m1, m3, outC]
  rw [hp]
  simp [PR]
theorem lless_s {n : Nat} (hn : 1 ≤ n) {x y : Rat} {r : Rng} {j k : Nat} (hx : Sz j x) (hy : Sz k y) (h : j + k < 800000) : callI fu fns n i__law_less [PR x, PR y] r = .ok (.bl (decide (x < y))) r := by
  obtain ⟨m, rfl⟩ : ∃ m, n = m + 1 := ⟨n - 1, by omega⟩
  rw [call_def at__law_less rfl]
  have m1 := mulOk_of hx.1 hy.2 (by omega)
  have m3 := mulOk_of hy.1 hx.2 (by omega)
  simp [f__law_less, b__law_less, startS, exss, exs, evs, ev, PR, ixD, ixL, binD, m1, m3, outC, cmpD, Rat.lt_iff]
theorem lneg_s {n : Nat} (hn : 1 ≤ n) {x : Rat} {r : Rng} : callI fu fns n i__law_neg [PR x] r = .ok (PR (-x)) r := by
  obtain ⟨m, rfl⟩ : ∃ m, n = m + 1 := ⟨n - 1, by omega⟩
  rw [call_def at__law_neg rfl]
  simp [f__law_neg, b__law_neg, startS, exss, exs, evs, ev, PR, ixD, ixL, binD, outC, lim]
theorem ltotal_s {n : Nat} (hn : 4 ≤ n) {xs : List Rat} {r : Rng} {k : Nat} (hx : ∀ x ∈ xs, Sz k x) (h : xs.length * (k + 1) + 1 + k < 8990) : callI fu fns n i__law_total [.lst (xs.map PR)] r = .ok (PR (sumR xs)) r := by
  obtain ⟨m, rfl⟩ : ∃ m, n = m + 1 := ⟨n - 1, by omega⟩
  rw [call_def at__law_total rfl]
  have hl : exs (callI fu fns m) fu l__law_total_1 ⟨[.val (.lst (xs.map PR)), .val (PR 0), .uns], r⟩ = .next ⟨[.val (.lst (xs.map PR)), .val (PR (sumR xs)), lastS (xs.map PR) .uns], r⟩ := by
    unfold l__law_total_1
    refine Eq.trans (Vi.forM PR (xs := xs) (r := r) (o0 := .uns) (fun i o => [.val (.lst (xs.map PR)), .val (PR (sumR (xs.take i))), o]) .uns rfl (evi_seqL (by simp)) rfl rfl (fun _ _ => rfl) (fun _ _ _ => rfl) (fun i y hq => ?_)) (by rw [List.take_length])
    · have hi : i < xs.length := (List.getElem?_eq_some_iff.mp hq).1
      have hs : Sz (xs.length * (k + 1) + 1) (sumR (xs.take i)) := Sz.sum xs.length (by rw [List.length_take]; omega) fun z hz => hx z (List.mem_of_mem_take hz)
      have hy : Sz k y := hx y (List.mem_of_getElem? hq)
      simp [ladd_s (show 3 ≤ m by omega) hs hy (by omega), take_snoc hq, sumR_snoc]
  simp [f__law_total, b__law_total, startS, pr01, hl]
theorem ldot_s {n : Nat} (hn : 5 ≤ n) {xs ys : List Rat} {r : Rng} {j k : Nat} (hx : ∀ x ∈ xs, Sz j x) (hy : ∀ y ∈ ys, Sz k y) (hl : xs.length = ys.length) (h : xs.length * (j + k + 1) + j + k + 1 < 8000) (hs : xs.length < 1000) :
    callI fu fns n i__law_dot [.lst (xs.map PR), .lst (ys.map PR)] r = .ok (PR (sumR (dotL xs ys))) r := by
  obtain ⟨m, rfl⟩ : ∃ m, n = m + 1 := ⟨n - 1, by omega⟩
  rw [call_def at__law_dot rfl]
  have gx : ∀ i, i < xs.length → Sz j (xs.getD i 0) := fun i hi => getD_of hx hi
  have gy : ∀ i, i < xs.length → Sz k (ys.getD i 0) := fun i hi => getD_of hy (by omega)
  have hlc : ev (callI fu fns m) l__law_dot_1 ⟨[.val (.lst (xs.map PR)), .val (.lst (ys.map PR)), .uns], r⟩ = .ok (.lst ((dotL xs ys).map PR)) ⟨[.val (.lst (xs.map PR)), .val (.lst (ys.map PR)), .uns], r⟩ := by
    unfold l__law_dot_1
    rw [lc_rng (q := xs.length) (fun i => PR (xs.getD i 0 * ys.getD i 0)) (by simp [bltD]) (by omega) rfl rfl rfl fun i hi => ⟨[.val (.lst (xs.map PR)), .val (.lst (ys.map PR)), .val (.int (i : Int))], by
      have i1 := ixLst (xs := xs) hi r
      have i2 := ixLst (xs := ys) (i := i) (by omega) r
      have hm := lmul_s (show 3 ≤ m by omega) (r := r) (gx i hi) (gy i hi) (by
        have : 1 * (j + k + 1) ≤ xs.length * (j + k + 1) := Nat.mul_le_mul_right _ (by omega)
        omega)
      simp [-List.getD_eq_getElem?_getD, i1, i2, hm]⟩]
    simp [dotL, List.map_map, Function.comp_def]
  have zz : ∀ z ∈ dotL xs ys, Sz (j + k) z := fun z hz => by
    obtain ⟨i, hi, rfl⟩ := List.mem_map.mp hz
    rw [List.mem_range] at hi
    exact (gx i hi).mul (gy i hi)
  have ht := ltotal_s (show 4 ≤ m by omega) (r := r) zz (by rw [show (dotL xs ys).length = xs.length by simp [dotL]]; omega)
  simp [f__law_dot, b__law_dot, startS, hlc, ht]
theorem frac_s {n : Nat} (hn : 2 ≤ n) {most : Int} {q : Int × List Int} (hq : OkR q) (h0 : 0 ≤ most) (h1 : most < 1000) : callI fu fns n i__law_fraction [.tok, .int most] (some q) = .ok (PR (fracF most q).1) (some (fracF most q).2) := by
  obtain ⟨m, rfl⟩ : ∃ m, n = m + 1 := ⟨n - 1, by omega⟩
  rw [call_def at__law_fraction rfl]
  have t1 := take_s (show 1 ≤ m by omega) hq (most := 2 * most + 1) ((lt2_of (k := 12) (by omega) (by omega)).mono (by decide))
  have ok1 := takeF_ok (most := 2 * most + 1) hq
  have t2 := take_s (show 1 ≤ m by omega) ok1 (most := 3) ((lt2_of (k := 12) (by omega) (by omega)).mono (by decide))
  have b1 := takeF_lo (most := 3) (q := (takeF (2 * most + 1) q).2)
  have b2 := takeF_hi (most := 3) (q := (takeF (2 * most + 1) q).2) (by decide)
  have lp := lpart_s (show 1 ≤ m by omega) (a := (takeF (2 * most + 1) q).1 - most) (b := 1 + (takeF 3 (takeF (2 * most + 1) q).2).1) (r := some (takeF 3 (takeF (2 * most + 1) q).2).2) ((lt2_of (k := 12) (by omega) (by omega)).mono (by decide)) (by omega)
  have mk : mulOk 2 most = true := by unfold mulOk; simp
  simp [f__law_fraction, b__law_fraction, startS, exss, exs, evs, ev, binD, mk, t1, t2, lp, outC, fracF]
theorem above_s {n : Nat} (hn : 2 ≤ n) {most : Int} {q : Int × List Int} (hq : OkR q) (h0 : 0 ≤ most) (h1 : most < 1000) : callI fu fns n i__law_above [.tok, .int most] (some q) = .ok (PR (aboveF most q).1) (some (aboveF most q).2) := by
  obtain ⟨m, rfl⟩ : ∃ m, n = m + 1 := ⟨n - 1, by omega⟩
  rw [call_def at__law_above rfl]
  have t1 := take_s (show 1 ≤ m by omega) hq (most := most) ((lt2_of (k := 12) (by omega) (by omega)).mono (by decide))
  have ok1 := takeF_ok (most := most) hq
  have t2 := take_s (show 1 ≤ m by omega) ok1 (most := 3) ((lt2_of (k := 12) (by omega) (by omega)).mono (by decide))
  have b1 := takeF_lo (most := 3) (q := (takeF most q).2)
  have b2 := takeF_hi (most := 3) (q := (takeF most q).2) (by decide)
  have lp := lpart_s (show 1 ≤ m by omega) (a := 1 + (takeF most q).1) (b := 1 + (takeF 3 (takeF most q).2).1) (r := some (takeF 3 (takeF most q).2).2) ((lt2_of (k := 12) (by omega) (by omega)).mono (by decide)) (by omega)
  simp [f__law_above, b__law_above, startS, exss, exs, evs, ev, binD, t1, t2, lp, outC, aboveF]
theorem state_s {n : Nat} (hn : 1 ≤ n) {ns : List Int} (hl : ns.length ≤ 63) : callI fu fns n i__law_state [.scr ns] none = .ok .tok (some (stateF ns)) := by
  obtain ⟨m, rfl⟩ : ∃ m, n = m + 1 := ⟨n - 1, by omega⟩
  rw [call_def at__law_state rfl]
  simp only [f__law_state, b__law_state, startS]
  have hcut : cutL ns none (some 63) = ns := by
    unfold cutL cutIx
    simp only [List.drop_zero, Nat.sub_zero]
    rw [List.take_of_length_le]
    have : ¬ ((63 : Int) < 0) := by decide
    rw [if_neg this]
    show ns.length ≤ min 63 ns.length
    omega
  have hlc : ev (callI fu fns m) (.lc (.blt .abs (.cons (.var 2) .nil)) (.nm 2) (.seq (.sl (.var 0) .none (.some (.cst (.int 63))))) .none [2] []) ⟨[.val (.scr ns), .uns, .uns], none⟩ = .ok (.lst (ns.map fun i => .int (if i < 0 then -i else i))) ⟨[.val (.scr ns), .uns, .uns], none⟩ := by
    refine ev_lc (s1 := ⟨[.val (.scr ns), .uns, .uns], none⟩) (s2 := ⟨[], none⟩) (xs := ns.map D.int) (sl := [.val (.scr ns), .uns, .uns]) ?_ rfl ?_
    · simp only [frzS]
      exact evi_seqL (by simp [ev, evo, cutD, hcut])
    · have := compL_map (f := compF (evc (callI fu fns m) .none) (fun s => ev (callI fu fns m) (.blt .abs (.cons (.var 2) .nil)) s) (.nm 2) [.val (.scr ns), .uns, .uns]) (g := fun d => match d with | .int i => .int (if i < 0 then -i else i) | d => d) (r := none) (ns.map D.int) [] (fun x hx => by
        obtain ⟨i, _, rfl⟩ := List.mem_map.mp hx
        exact ⟨_, by simp [compF, bindTg, nlck, evc, ev, evs, bltD]; rfl⟩) (by simp; omega)
      rw [this]
      simp [List.map_map, Function.comp_def]
  rw [exss_nx (s' := ⟨[.val (.scr ns), .own (ns.map fun i => .int (if i < 0 then -i else i)), .uns], none⟩) (by simp [exs, hlc, nlck, slotOf])]
  by_cases hn0 : ns = []
  · subst hn0
    simp [exss, exs, ev, evs, bltD, cmpD, eqI, lim, nlck, slotOf, intsD, outC, stateF, pkS]
  · have hpos : ns.length ≠ 0 := by simpa using hn0
    have e2 : intsD (ns.map fun i => D.int (if i < 0 then -i else i)) = some (ns.map fun i => if i < 0 then -i else i) := by
      rw [← intsD_map, List.map_map]; rfl
    simp [exss, exs, ev, evs, bltD, cmpD, eqI, lim, nlck, slotOf, e2, outC, stateF, pkS, hn0]
theorem lword_s {n k : Nat} {ds : List D} {w : Str} {r r' : Rng} (hl : 1 ≤ ds.length ∧ ds.length ≤ 4) (h : callI fu fns n k ds r = .exc ⟨2, [.str w]⟩ r') : callI fu fns (n + 1) i__law_word [.fn k, .tup ds] r = .ok (.str w) r' := by
  rw [call_def at__law_word rfl]
  have hx : exSub 2 2 = true := by decide
  have hi : List.idxOf (Str.ofString "word") (exFlds 2) = 0 := by decide
  match ds, hl with
  | [a], _ => simp [f__law_word, b__law_word, startS, exss, exs, evs, ev, bltD, cmpD, eqI, ixD, ixL, h, hx, nlck, noExv, afterS, goneS, hi, outC]
  | [a, b], _ => simp [f__law_word, b__law_word, startS, exss, exs, evs, ev, bltD, cmpD, eqI, ixD, ixL, h, hx, nlck, noExv, afterS, goneS, hi, outC]
  | [a, b, c], _ => simp [f__law_word, b__law_word, startS, exss, exs, evs, ev, bltD, cmpD, eqI, ixD, ixL, h, hx, nlck, noExv, afterS, goneS, hi, outC]
  | [a, b, c, d], _ => simp [f__law_word, b__law_word, startS, exss, exs, evs, ev, bltD, cmpD, eqI, ixD, ixL, h, hx, nlck, noExv, afterS, goneS, hi, outC]
theorem frac_x {n : Nat} (hn : 2 ≤ n) {most : Int} {q : Int × List Int} (hq : OkR q) (h0 : 0 ≤ most) (h1 : most < 1000) : ∃ v q', OkR q' ∧ Sz 12 v ∧ callI fu fns n i__law_fraction [.tok, .int most] (some q) = .ok (PR v) (some q') := by
  refine ⟨_, _, fracF_ok hq, ?_, frac_s hn hq h0 h1⟩
  have a1 := takeF_lo (most := 2 * most + 1) (q := q)
  have a2 := takeF_hi (most := 2 * most + 1) (q := q) (by omega)
  have b1 := takeF_lo (most := 3) (q := (takeF (2 * most + 1) q).2)
  have b2 := takeF_hi (most := 3) (q := (takeF (2 * most + 1) q).2) (by decide)
  exact sz_divInt (by omega) (lt2_of (by omega) (by omega)) (lt2_of (by omega) (by omega))
theorem above_x {n : Nat} (hn : 2 ≤ n) {most : Int} {q : Int × List Int} (hq : OkR q) (h0 : 1 ≤ most) (h1 : most < 1000) : ∃ v q', OkR q' ∧ Sz 12 v ∧ 1 / 3 ≤ v ∧ v ≤ (most : Rat) ∧ callI fu fns n i__law_above [.tok, .int most] (some q) = .ok (PR v) (some q') := by
  have a1 := takeF_lo (most := most) (q := q)
  have a2 := takeF_hi (most := most) (q := q) (by omega)
  have b1 := takeF_lo (most := 3) (q := (takeF most q).2)
  have b2 := takeF_hi (most := 3) (q := (takeF most q).2) (by decide)
  refine ⟨_, _, aboveF_ok hq, sz_divInt (by omega) (lt2_of (by omega) (by omega)) (lt2_of (by omega) (by omega)), ?_, ?_, above_s hn hq (by omega) h1⟩
  · have c1 : (1 : Rat) ≤ ((1 + (takeF most q).1 : Int) : Rat) := by exact_mod_cast (show (1 : Int) ≤ 1 + (takeF most q).1 by omega)
    show 1 / 3 ≤ Rat.divInt _ _
    rw [Rat.divInt_eq_div]
    have : (1 + (takeF 3 (takeF most q).2).1) = 1 ∨ (1 + (takeF 3 (takeF most q).2).1) = 2 ∨ (1 + (takeF 3 (takeF most q).2).1) = 3 := by omega
    rcases this with h | h | h <;> rw [h] <;> grind
  · have c1 : ((1 + (takeF most q).1 : Int) : Rat) ≤ (most : Rat) := by exact_mod_cast (show 1 + (takeF most q).1 ≤ most by omega)
    have c2 : (1 : Rat) ≤ ((1 + (takeF most q).1 : Int) : Rat) := by exact_mod_cast (show (1 : Int) ≤ 1 + (takeF most q).1 by omega)
    show Rat.divInt _ _ ≤ _
    rw [Rat.divInt_eq_div]
    have : (1 + (takeF 3 (takeF most q).2).1) = 1 ∨ (1 + (takeF 3 (takeF most q).2).1) = 2 ∨ (1 + (takeF 3 (takeF most q).2).1) = 3 := by omega
    rcases this with h | h | h <;> rw [h] <;> grind
theorem take_x {n : Nat} (hn : 1 ≤ n) {most : Int} {q : Int × List Int} (hq : OkR q) (h0 : 1 ≤ most) (hm : most < 1000) : ∃ (v : Nat) (q' : Int × List Int), OkR q' ∧ (v : Int) < most ∧ callI fu fns n i__law_take [.tok, .int most] (some q) = .ok (.int (v : Int)) (some q') := by
  have a1 := takeF_lo (most := most) (q := q)
  have a2 := takeF_hi (most := most) (q := q) h0
  refine ⟨(takeF most q).1.toNat, _, takeF_ok (most := most) hq, by omega, ?_⟩
  rw [take_s hn hq ((lt2_of (k := 12) (by omega) (by omega)).mono (by decide)), Int.toNat_of_nonneg a1]
theorem lleast_s {n : Nat} (hn : 2 ≤ n) {x : Rat} {xs : List Rat} {r : Rng} {k : Nat} (hx : ∀ y ∈ x :: xs, Sz k y) (h : k < 4000) : callI fu fns n i__law_least [.lst ((x :: xs).map PR)] r = .ok (PR (minR x xs)) r := by
  obtain ⟨m, rfl⟩ : ∃ m, n = m + 1 := ⟨n - 1, by omega⟩
  rw [call_def at__law_least rfl]
  have hl : exs (callI fu fns m) fu l__law_least_1 ⟨[.val (.lst ((x :: xs).map PR)), .val (PR x), .uns], r⟩ = .next ⟨[.val (.lst ((x :: xs).map PR)), .val (PR (minR x xs)), lastS ((x :: xs).map PR) .uns], r⟩ := by
    unfold l__law_least_1
    refine Eq.trans (Vi.forM PR (xs := x :: xs) (r := r) (o0 := .uns) (fun i o => [.val (.lst ((x :: xs).map PR)), .val (PR (minT x xs i)), o]) .uns rfl (evi_seqL (by simp)) rfl rfl (fun _ _ => rfl) (fun _ _ _ => rfl) (fun i y hq => ?_)) (by rw [minT_len])
    · have hs : Sz k (minT x xs i) := minT_sz hx i
      have hy : Sz k y := hx y (List.mem_of_getElem? hq)
      have hl := lless_s (show 1 ≤ m by omega) (r := r) hy hs (by omega)
      by_cases c : y < minT x xs i
      · simp [hl, c, minT_succ hq]
      · simp [hl, c, minT_succ hq]
  have h0 : ixD (.lst ((x :: xs).map PR)) (.int 0) r = some (PR x) := by simp [ixD, ixL]
  simp only [List.map_cons] at h0 hl ⊢
  simp [f__law_least, b__law_least, startS, h0, hl]
end M53

namespace M53
open Vi PySem
/-! plain law of bills: no program in sight -/
theorem snoc_ind {α : Type} {P : List α → Prop} (nil : P []) (snoc : ∀ L b, P L → P (L ++ [b])) (L : List α) : P L := by
  have : ∀ M : List α, P M.reverse := fun M => by
    induction M with
    | nil => exact nil
    | cons b M ih => rw [List.reverse_cons]; exact snoc _ _ ih
  have h := this L.reverse
  rwa [List.reverse_reverse] at h
/-- parts of six -/
def G (k : Nat) (x : Rat) : Prop := ∃ n : Int, x = Rat.divInt n 6 ∧ Lt2 k n
theorem lt2_add {k : Nat} {a b : Int} (ha : Lt2 k a) (hb : Lt2 k b) : Lt2 (k + 1) (a + b) := by
  unfold Lt2 at *
  have : (2 : Nat) ^ (k + 1) = 2 ^ k * 2 := Nat.pow_succ ..
  omega
theorem lt2_neg {k : Nat} {a : Int} (ha : Lt2 k a) : Lt2 k (-a) := by unfold Lt2 at *; omega
theorem G.mono {j k : Nat} {x : Rat} (h : G j x) (hj : j ≤ k) : G k x := let ⟨n, a, b⟩ := h; ⟨n, a, b.mono hj⟩
theorem g_add {a b : Int} : Rat.divInt a 6 + Rat.divInt b 6 = Rat.divInt (a + b) 6 := by
  rw [Rat.divInt_eq_div, Rat.divInt_eq_div, Rat.divInt_eq_div, Rat.intCast_add]
  grind
theorem g_neg {a : Int} : -Rat.divInt a 6 = Rat.divInt (-a) 6 := by
  rw [Rat.divInt_eq_div, Rat.divInt_eq_div, Rat.intCast_neg]
  grind
theorem G.add {k : Nat} {x y : Rat} (hx : G k x) (hy : G k y) : G (k + 1) (x + y) := by
  obtain ⟨a, rfl, ha⟩ := hx
  obtain ⟨b, rfl, hb⟩ := hy
  exact ⟨a + b, g_add, lt2_add ha hb⟩
theorem G.neg {k : Nat} {x : Rat} (hx : G k x) : G k (-x) := by
  obtain ⟨a, rfl, ha⟩ := hx
  exact ⟨-a, g_neg, lt2_neg ha⟩
theorem G.sub {k : Nat} {x y : Rat} (hx : G k x) (hy : G k y) : G (k + 1) (x - y) := by
  rw [show x - y = x + -y by grind]
  exact hx.add hy.neg
theorem G.sz {k : Nat} {x : Rat} (h : G k x) (hk : 3 ≤ k) : Sz k x := by
  obtain ⟨n, rfl, hn⟩ := h
  exact sz_divInt (by decide) hn ((show Lt2 3 6 by unfold Lt2; decide).mono hk)
theorem G.zero {k : Nat} : G k 0 := ⟨0, by rw [Rat.divInt_eq_div]; grind, by unfold Lt2; simp [Nat.pow_pos]⟩
/-- the less of two -/
def min2 (x y : Rat) : Rat := if y < x then y else x
theorem G.min {k : Nat} {x y : Rat} (hx : G k x) (hy : G k y) : G k (min2 x y) := by unfold min2; split <;> assumption
abbrev Bill := Int × Nat × Rat
def bday (b : Bill) : Int := b.1
abbrev Pst := List Bill × List (Nat × Rat) × Rat
def stp (s : Pst) (b : Bill) : Pst :=
  (if min2 b.2.2 s.2.2 = b.2.2 then s.1 else s.1 ++ [(b.1, b.2.1, b.2.2 - min2 b.2.2 s.2.2)],
   if 0 < min2 b.2.2 s.2.2 then s.2.1 ++ [(b.2.1, min2 b.2.2 s.2.2)] else s.2.1, s.2.2 - min2 b.2.2 s.2.2)
def run (p : Rat) (L : List Bill) : Pst := L.foldl stp ([], [], p)
theorem run_snoc (p : Rat) (L : List Bill) (b : Bill) : run p (L ++ [b]) = stp (run p L) b := by unfold run; rw [List.foldl_append]; rfl
def val (b : Bill) : Rat := b.2.2
def sumV (L : List Bill) : Rat := sumR (L.map val)
theorem foldl_add (xs : List Rat) : ∀ a : Rat, xs.foldl (· + ·) a = a + sumR xs := by
  induction xs with
  | nil => intro a; simp [sumR]; grind
  | cons x xs ih =>
    intro a
    have e : sumR (x :: xs) = x + sumR xs := by
      unfold sumR
      rw [List.foldl_cons, ih (0 + x)]
      unfold sumR
      grind
    rw [List.foldl_cons, ih, e]
    grind
theorem sumR_cons (x : Rat) (xs : List Rat) : sumR (x :: xs) = x + sumR xs := by
  unfold sumR
  rw [List.foldl_cons, foldl_add]
  unfold sumR
  grind
theorem sumR_perm {l1 l2 : List Rat} (h : l1.Perm l2) : sumR l1 = sumR l2 := by
  induction h with
  | nil => rfl
  | cons x _ ih => rw [sumR_cons, sumR_cons, ih]
  | swap x y l => rw [sumR_cons, sumR_cons, sumR_cons, sumR_cons]; grind
  | trans _ _ h1 h2 => exact h1.trans h2
theorem sumV_snoc (L : List Bill) (b : Bill) : sumV (L ++ [b]) = sumV L + b.2.2 := by
  unfold sumV
  rw [List.map_append]
  exact sumR_snoc _ _
theorem sumV_perm {L M : List Bill} (h : L.Perm M) : sumV L = sumV M := sumR_perm (h.map _)
theorem sumV_nil : sumV [] = 0 := rfl
/-- good bills: of parts of six above nought, days from nought on -/
structure Bok (k : Nat) (L : List Bill) : Prop where
  pos : ∀ b ∈ L, 0 < b.2.2
  g : ∀ b ∈ L, G k b.2.2
  day : ∀ b ∈ L, 0 ≤ b.1 ∧ b.1 < 100
  nm : ∀ b ∈ L, b.2.1 < 7
  nd : (L.map fun b => b.2.1).Nodup
theorem Bok.perm {k : Nat} {L M : List Bill} (h : Bok k L) (p : M.Perm L) : Bok k M :=
  ⟨fun b hb => h.pos b (p.mem_iff.mp hb), fun b hb => h.g b (p.mem_iff.mp hb), fun b hb => h.day b (p.mem_iff.mp hb), fun b hb => h.nm b (p.mem_iff.mp hb), ((p.map _).nodup_iff).mpr h.nd⟩
theorem Bok.mono {j k : Nat} {L : List Bill} (h : Bok j L) (hj : j ≤ k) : Bok k L := ⟨h.pos, fun b hb => (h.g b hb).mono hj, h.day, h.nm, h.nd⟩
structure RunI (k : Nat) (p : Rat) (D : List Bill) (s : Pst) : Prop where
  r0 : 0 ≤ s.2.2
  l0 : s.1 ≠ [] → s.2.2 = 0
  sum : sumV s.1 = sumV D - (p - s.2.2)
  pos : ∀ b ∈ s.1, 0 < b.2.2
  gr : G (k + D.length) s.2.2
  gl : ∀ b ∈ s.1, G (k + D.length) b.2.2
  sub : (s.1.map fun b => (b.1, b.2.1)).Sublist (D.map fun b => (b.1, b.2.1))
theorem run_step {k : Nat} {p : Rat} {D : List Bill} {s : Pst} {b : Bill} (I : RunI k p D s) (hb : 0 < b.2.2) (gb : G k b.2.2) : RunI k p (D ++ [b]) (stp s b) := by
  obtain ⟨r0, l0, sum, pos, gr, gl, sub⟩ := I
  obtain ⟨lf, gone, r⟩ := s
  obtain ⟨dy, nm, t⟩ := b
  simp only at r0 l0 sum pos gr gl sub hb gb
  have gt : G (k + D.length) t := gb.mono (by omega)
  have el : k + (D ++ [(dy, nm, t)]).length = k + D.length + 1 := by simp; omega
  have ed : (D ++ [(dy, nm, t)]).map (fun b => (b.1, b.2.1)) = D.map (fun b => (b.1, b.2.1)) ++ [(dy, nm)] := by simp
  unfold stp
  by_cases c : r < t
  · have e : min2 t r = r := by unfold min2; rw [if_pos c]
    have ne : ¬ r = t := by intro z; rw [z] at c; grind
    simp only [e, if_neg ne]
    refine ⟨by simp only; grind, fun _ => by simp only; grind, ?_, fun b hb => ?_, ?_, fun b hb => ?_, ?_⟩
    · simp only
      rw [sumV_snoc, sumV_snoc, sum]
      simp only
      grind
    · rcases List.mem_append.mp hb with hb | hb
      · exact pos b hb
      · rw [List.mem_singleton.mp hb]; simp only; grind
    · rw [el]; exact gr.sub gr
    · rw [el]
      rcases List.mem_append.mp hb with hb | hb
      · exact (gl b hb).mono (by omega)
      · rw [List.mem_singleton.mp hb]; exact gt.sub gr
    · rw [ed, List.map_append]
      exact sub.append (List.Sublist.refl _)
  · have e : min2 t r = t := by unfold min2; rw [if_neg c]
    have nil : lf = [] := by
      by_cases h : lf = []
      · exact h
      · have := l0 h
        rw [this] at c
        exact absurd hb c
    simp only [e, if_true]
    refine ⟨by simp only; grind, fun h => absurd nil h, ?_, fun b hb => pos b hb, ?_, fun b hb => ?_, ?_⟩
    · simp only
      rw [sumV_snoc, sum]
      simp only
      grind
    · rw [el]; exact gr.sub gt
    · rw [el]; exact (gl b hb).mono (by omega)
    · rw [ed]
      exact sub.trans (List.sublist_append_left _ _)
theorem run_inv {k : Nat} {p : Rat} (hp : 0 ≤ p) (gp : G k p) : ∀ (L : List Bill), (∀ b ∈ L, 0 < b.2.2) → (∀ b ∈ L, G k b.2.2) → RunI k p L (run p L) := by
  intro L
  induction L using snoc_ind with
  | nil => intro _ _; exact ⟨hp, fun h => absurd rfl h, (by show sumV [] = sumV [] - (p - p); rw [sumV_nil]; grind), fun b hb => (nomatch hb), gp, fun b hb => (nomatch hb), List.Sublist.refl _⟩
  | snoc L b ih =>
    intro h1 h2
    rw [run_snoc]
    exact run_step (ih (fun b hb => h1 b (List.mem_append_left _ hb)) (fun b hb => h2 b (List.mem_append_left _ hb))) (h1 b (by simp)) (h2 b (by simp))
def paid (L : List Bill) (p : Rat) : Pst := run p (sortK bday L)
theorem paid_inv {k : Nat} {p : Rat} {L : List Bill} (hp : 0 ≤ p) (gp : G k p) (h : Bok k L) : RunI k p (sortK bday L) (paid L p) := by
  have h2 := h.perm (sortK_perm L (key := bday))
  exact run_inv hp gp _ h2.pos h2.g
/-- what is left of good bills is good -/
theorem left_ok {k n : Nat} {p : Rat} {L : List Bill} (hp : 0 ≤ p) (gp : G k p) (h : Bok k L) (hn : L.length ≤ n) : Bok (k + n) (paid L p).1 := by
  have I := paid_inv hp gp h
  have hl : (sortK bday L).length = L.length := (sortK_perm L).length_eq
  have hm : ∀ b ∈ (paid L p).1, ∃ b' ∈ L, b'.1 = b.1 ∧ b'.2.1 = b.2.1 := fun b hb => by
    have := I.sub.subset (List.mem_map_of_mem (f := fun b : Bill => (b.1, b.2.1)) hb)
    obtain ⟨b', hb', e⟩ := List.mem_map.mp this
    simp only [Prod.mk.injEq] at e
    exact ⟨b', (sortK_perm L).mem_iff.mp hb', e.1, e.2⟩
  refine ⟨I.pos, fun b hb => (I.gl b hb).mono (by omega), fun b hb => ?_, fun b hb => ?_, ?_⟩
  · obtain ⟨b', hb', e1, _⟩ := hm b hb
    rw [← e1]; exact h.day b' hb'
  · obtain ⟨b', hb', _, e2⟩ := hm b hb
    rw [← e2]; exact h.nm b' hb'
  · have hs := I.sub.map Prod.snd
    rw [List.map_map, List.map_map] at hs
    have h2 := (h.perm (sortK_perm L (key := bday))).nd
    exact List.Sublist.nodup hs h2
theorem left_len {p : Rat} : ∀ L : List Bill, (run p L).1.length ≤ L.length := by
  intro L
  induction L using snoc_ind with
  | nil => exact Nat.le_refl _
  | snoc L b ih =>
    rw [run_snoc]
    unfold stp
    simp only [List.length_append, List.length_cons, List.length_nil]
    split
    · omega
    · simp only [List.length_append, List.length_cons, List.length_nil]; omega
theorem paid_len (L : List Bill) (p : Rat) : (paid L p).1.length ≤ L.length := by
  have := left_len (p := p) (sortK bday L)
  rwa [(sortK_perm L).length_eq] at this
end M53


namespace M53
open Vi PySem
def nmS (k : Nat) : Str := match k with
  | 0 => "ann" | 1 => "bob" | 2 => "cid" | 3 => "dan" | 4 => "eve" | 5 => "fay" | _ => "gil"
def nmD (k : Nat) : D := .str (nmS k)
def billW (b : Bill) : List D := [.int b.1, nmD b.2.1, PR b.2.2]
def billD (b : Bill) : D := .tup (billW b)
def goneD (g : Nat × Rat) : D := .tup [nmD g.1, PR g.2]
def pstD (s : Pst) : D := .tup [.tup (s.1.map billD), .lst (s.2.1.map goneD), PR s.2.2]
theorem nm_inj : ∀ a, a < 7 → ∀ b, b < 7 → nmS a = nmS b → a = b := by decide +kernel
theorem metN_nodup : ∀ ks : List (Int ⊕ Str), ks.Nodup → metN ks = ks.length
  | [], _ => rfl
  | k :: r, h => by
    obtain ⟨h1, h2⟩ := List.nodup_cons.mp h
    have : memK k r = false := by
      unfold memK
      rw [List.any_eq_false]
      intro x hx
      simp only [decide_eq_true_eq]
      rintro rfl
      exact h1 hx
    unfold metN
    rw [this, metN_nodup r h2]
    rfl
theorem keys_nm : ∀ L : List Bill, keysD (L.map fun b => nmD b.2.1) = some (L.map fun b => .inr (nmS b.2.1))
  | [] => rfl
  | b :: L => by
    rw [List.map_cons]
    unfold keysD
    rw [keys_nm L]
    rfl
theorem nd_nm {L : List Bill} (h7 : ∀ b ∈ L, b.2.1 < 7) (h : (L.map fun b => b.2.1).Nodup) : (L.map fun b => (Sum.inr (nmS b.2.1) : Int ⊕ Str)).Nodup := by
  induction L with
  | nil => exact List.nodup_nil
  | cons b L ih =>
    rw [List.map_cons] at h ⊢
    obtain ⟨h1, h2⟩ := List.nodup_cons.mp h
    refine List.nodup_cons.mpr ⟨fun z => ?_, ih (fun x hx => h7 x (List.mem_cons_of_mem _ hx)) h2⟩
    obtain ⟨x, hx, e⟩ := List.mem_map.mp z
    injection e with e
    have := nm_inj _ (h7 x (List.mem_cons_of_mem _ hx)) _ (h7 b List.mem_cons_self) e
    exact h1 (List.mem_map.mpr ⟨x, hx, this⟩)
theorem lset_nm {L : List Bill} (hl : L.length < 4000) (h7 : ∀ b ∈ L, b.2.1 < 7) (h : (L.map fun b => b.2.1).Nodup) (r : Rng) : spD .lset [.lst (L.map fun b => nmD b.2.1)] r = some (.int (L.length : Int)) := by
  have hn := nd_nm h7 h
  have e : spD .lset [.lst (L.map fun b => nmD b.2.1)] r = match keysD (L.map fun b => nmD b.2.1) with
    | some ks => if ks.length < 4000 then some (.int (metN ks.reverse)) else none
    | none => none := Eq.trans rfl rfl
  rw [e, keys_nm]
  simp only [List.length_map]
  rw [if_pos hl, metN_nodup _ ((List.reverse_perm _).nodup_iff.mpr hn)]
  simp
theorem least2_s {n : Nat} (hn : 2 ≤ n) {x y : Rat} {r : Rng} {k : Nat} (hx : Sz k x) (hy : Sz k y) (hk : k < 1000) : callI fu fns n i_least [.lst [PR x, PR y]] r = .ok (PR (min2 x y)) r := by
  obtain ⟨m, rfl⟩ : ∃ m, n = m + 1 := ⟨n - 1, by omega⟩
  rw [call_def at_least rfl]
  have n1 : ∀ x, (PR x).isNon = false := fun _ => rfl
  have hl : exs (callI fu fns m) fu l_least_1 ⟨[.val (.lst [PR x, PR y]), .val .non, .uns], r⟩ = .next ⟨[.val (.lst [PR x, PR y]), .val (PR (min2 x y)), lastS ([x, y].map PR) .uns], r⟩ := by
    unfold l_least_1
    refine Eq.trans (Vi.forM PR (xs := [x, y]) (r := r) (o0 := .uns) (fun i o => [.val (.lst [PR x, PR y]), .val (match i with | 0 => .non | 1 => PR x | _ => PR (min2 x y)), o]) .uns rfl (evi_seqL (by simp)) rfl rfl (fun _ _ => rfl) (fun _ _ _ => rfl) (fun i z hq => ?_)) rfl
    match i, hq with
    | 0, hq =>
      simp only [List.getElem?_cons_zero, Option.some.injEq] at hq
      subst hq
      simp [cmpD, isD, D.isNon]
    | 1, hq =>
      simp only [List.getElem?_cons_succ, List.getElem?_cons_zero, Option.some.injEq] at hq
      subst hq
      have k1 := fun r => is_less_s (show 1 ≤ m by omega) (r := r) hy hx (by omega)
      unfold min2
      by_cases c : y < x
      · simp [cmpD, isD, n1, k1, c]
      · simp [cmpD, isD, n1, k1, c]
    | i + 2, hq => simp at hq
  simp [f_least, b_least, startS, hl]
theorem lleast2_s {n : Nat} (hn : 2 ≤ n) {x y : Rat} {r : Rng} {k : Nat} (hx : Sz k x) (hy : Sz k y) (hk : k < 1000) : callI fu fns n i__law_least [.lst [PR x, PR y]] r = .ok (PR (min2 x y)) r := by
  have := lleast_s hn (x := x) (xs := [y]) (r := r) (k := k) (by
    intro z hz
    rcases List.mem_cons.mp hz with rfl | hz
    · exact hx
    · rw [List.mem_singleton.mp hz]; exact hy) (by omega)
  have e : minR x [y] = min2 x y := by
    unfold minR min2
    simp only [List.foldl_cons, List.foldl_nil]
    rw [if_neg (by grind : ¬ x < x)]
  rw [e] at this
  exact this
theorem whole_s {n : Nat} (hn : 1 ≤ n) {d : Int} {r : Rng} (h : 0 ≤ d) : callI fu fns n i_is_whole [.int d] r = .ok (.bl true) r := by
  obtain ⟨m, rfl⟩ : ∃ m, n = m + 1 := ⟨n - 1, by omega⟩
  rw [call_def at_is_whole rfl]
  simp [f_is_whole, b_is_whole, startS, bltD, isiD, cmpD, h]
theorem above1_s {n : Nat} (hn : 4 ≤ n) {x : Rat} {k : Nat} {r : Rng} (zx : Sz k x) (hk : k < 1000) (h : 0 < x) : callI fu fns n i_is_above [PR x] r = .ok (.bl true) r := by
  obtain ⟨m, rfl⟩ : ∃ m, n = m + 1 := ⟨n - 1, by omega⟩
  rw [call_def at_is_above rfl]
  have k1 := fun r => plus_s (show 3 ≤ m by omega) (r := r) zx sz01 (by omega)
  rw [show x + 0 = x by grind] at k1
  have d1 : (0 : Int) < (x.den : Int) := den_pos' x
  have d2 := num_pos' h
  have l1 : ∀ r : Rng, ev (callI fu fns m) l_is_above_1 ⟨[.val (PR x), .uns], r⟩ = .ok (.lst [.bl true, .bl true]) ⟨[.val (PR x), .uns], r⟩ := fun r =>
    lcS (W := D.int) (xs := [x.num, (x.den : Int)]) (fun _ => .bl true) (by simp) (evi_seqT (by simp [PR])) (by simp) fun y hy sl2 s hx => ⟨sl2, by
      have hy0 : 0 < y := by
        rcases List.mem_cons.mp hy with rfl | hy
        · exact d2
        · rw [List.mem_singleton.mp hy]; exact d1
      have k2 := fun r => whole_s (show 1 ≤ m by omega) (d := y) (r := r) (by omega)
      have c1 : cmpD .gt (.int y) (.int 0) = some true := by simp [cmpD, hy0]
      simp [hx, k2, c1]⟩
  have a1 : bltD .all [.lst [.bl true, .bl true]] r = some (.bl true) := rfl
  have t1 : ∀ r : Rng, bltD (.isi "tuple") [PR x] r = some (.bl true) := fun _ => rfl
  have t2 : ∀ r : Rng, bltD .len [PR x] r = some (.int 2) := fun _ => rfl
  have p0 : D.tup [.int 0, .int 1] = PR 0 := rfl
  have e2 : eqD (.int 2) (.int 2) = some true := by decide +kernel
  simp [f_is_above, b_is_above, startS, t1, t2, e2, l1, a1, cmpD, p0, k1, eqPR]
theorem bills_s {n : Nat} (hn : 5 ≤ n) {L : List Bill} {k : Nat} {r : Rng} (h : Bok k L) (hk3 : 3 ≤ k) (hk : k < 1000) (hl : L.length < 1000) : callI fu fns n i_are_bills [.tup (L.map billD)] r = .ok (.bl true) r := by
  obtain ⟨m, rfl⟩ : ∃ m, n = m + 1 := ⟨n - 1, by omega⟩
  rw [call_def at_are_bills rfl]
  obtain ⟨T, hT⟩ : ∃ T : D, T = .tup (L.map billD) := ⟨_, rfl⟩
  have hl2 : ∀ r : Rng, exs (callI fu fns m) fu l_are_bills_2 ⟨[.val T, .uns], r⟩ = .next ⟨[.val T, lastS (L.map billD) .uns], r⟩ := by
    intro r
    unfold l_are_bills_2
    refine Eq.trans (Vi.forM billD (xs := L) (r := r) (o0 := .uns) (fun i o => [.val T, o]) .uns rfl (evi_seqT (by simp [hT])) rfl rfl (fun _ _ => rfl) (fun _ _ _ => rfl) fun i b hq => ?_) rfl
    have hb := List.mem_of_getElem? hq
    have t1 : ∀ r : Rng, bltD (.isi "tuple") [billD b] r = some (.bl true) := fun _ => rfl
    have t2 : ∀ r : Rng, bltD .len [billD b] r = some (.int 3) := fun _ => rfl
    have t3 : ∀ r : Rng, bltD (.isi "str") [nmD b.2.1] r = some (.bl true) := fun _ => rfl
    have i0 : ∀ r : Rng, ixD (billD b) (.int 0) r = some (.int b.1) := fun _ => rfl
    have i1 : ∀ r : Rng, ixD (billD b) (.int 1) r = some (nmD b.2.1) := fun _ => rfl
    have i2 : ∀ r : Rng, ixD (billD b) (.int 2) r = some (PR b.2.2) := fun _ => rfl
    have e3 : eqD (.int 3) (.int 3) = some true := by decide +kernel
    have k1 := fun r => whole_s (show 1 ≤ m by omega) (d := b.1) (r := r) (h.day b hb).1
    have k2 := fun r => above1_s (show 4 ≤ m by omega) (r := r) ((h.g b hb).sz hk3) hk (h.pos b hb)
    simp [t1, t2, t3, e3, i0, i1, i2, k1, k2, cmpD]
  have l1 : ∀ (o : Slot) (r : Rng), Fre o → ev (callI fu fns m) l_are_bills_1 ⟨[.val T, o], r⟩ = .ok (.lst (L.map fun b => nmD b.2.1)) ⟨[.val T, o], r⟩ := fun o r ho =>
    lcS (W := billD) (xs := L) _ (by rcases ho with rfl | ⟨_, rfl⟩ <;> simp) (evi_seqT (by simp [hT])) (by omega) fun b hb sl2 s hx => ⟨_, by
      have i1 : ∀ r : Rng, ixD (billD b) (.int 1) r = some (nmD b.2.1) := fun _ => rfl
      simp [hx, i1]; rfl⟩
  have k3 := fun r => lset_nm (by omega) h.nm h.nd r
  have t1 : ∀ r : Rng, bltD (.isi "tuple") [T] r = some (.bl true) := fun _ => by rw [hT]; rfl
  have t2 : ∀ r : Rng, bltD .len [T] r = some (.int (L.length : Int)) := fun _ => by rw [hT]; simp [bltD]
  have l1' := fun r => l1 (lastS (L.map billD) .uns) r (lastS_fre .uns)
  generalize (L.length : Int) = N at *
  generalize L.map (fun b => nmD b.2.1) = NL at *
  rw [← hT]
  simp [f_are_bills, b_are_bills, startS, t1, hl2, l1', k3, t2, cmpD, eqI]
end M53


namespace M53
open Vi PySem
theorem bill_key (z : Bill) : skeyD 0 (billD z) = some (bday z) := rfl
theorem spKeyT {α : Type} {key : α → Int} {W : α → D} {n : Nat} {xs : List α} (h : ∀ z ∈ xs, skeyD n (W z) = some (key z)) (r : Rng) : spD (.skey n) [.tup (xs.map W)] r = some (.lst ((sortK key xs).map W)) := (Eq.trans rfl rfl : spD (.skey n) [.tup (xs.map W)] r = spD (.skey n) [.lst (xs.map W)] r).trans (spKey h r)
theorem oldest_s {n : Nat} (hn : 1 ≤ n) {L : List Bill} {r : Rng} : callI fu fns n i_oldest_first [.tup (L.map billD)] r = .ok (.lst ((sortK bday L).map billD)) r := by
  obtain ⟨m, rfl⟩ : ∃ m, n = m + 1 := ⟨n - 1, by omega⟩
  rw [call_def at_oldest_first rfl]
  have k := fun r => spKeyT (W := billD) (key := bday) (n := 0) (xs := L) (fun z _ => bill_key z) r
  generalize hT : L.map billD = T at *
  simp [f_oldest_first, b_oldest_first, startS, k]
theorem order_s {n : Nat} (hn : 1 ≤ n) {L : List Bill} {r : Rng} (hl : L.length < 1000) : callI fu fns n i__law_order [.tup (L.map billD)] r = .ok (.lst ((sortK bday L).map billD)) r := by
  obtain ⟨m, rfl⟩ : ∃ m, n = m + 1 := ⟨n - 1, by omega⟩
  rw [call_def at__law_order rfl]
  obtain ⟨T, hT⟩ : ∃ T : D, T = .tup (L.map billD) := ⟨_, rfl⟩
  obtain ⟨g, hg⟩ : ∃ g : Nat → D, g = fun i => .int (((upto bday (bday (L.getD i (0, 0, 0))) (insT bday L i)).length : Nat) : Int) := ⟨_, rfl⟩
  have lp : exs (callI fu fns m) fu l__law_order_2 ⟨[.val T, .own [], .uns, .uns, .uns], r⟩ = .next ⟨[.val T, .own ((sortK bday L).map billD), lastS (L.map billD) .uns, prevS g L.length, .uns], r⟩ := by
    unfold l__law_order_2
    refine Eq.trans (Vi.forM billD (xs := L) (r := r) (o0 := .uns) (fun i o => [.val T, .own ((insT bday L i).map billD), o, prevS g i, .uns]) .uns rfl (evi_seqT (by simp [hT])) rfl rfl (fun _ _ => rfl) (fun _ _ _ => rfl) fun i z hzi => ?_) (by rw [insT_all])
    have hi : i < L.length := (List.getElem?_eq_some_iff.mp hzi).1
    have hln := insT_len (key := bday) L i (by omega)
    have hgi : g i = .int ((upto bday (bday z) (insT bday L i)).length : Int) := by
      rw [hg]
      simp only [List.getD, hzi, Option.getD_some]
    have hfr : ∀ o : Slot, nlck [.val T, .own ((insT bday L i).map billD), .val (billD z), prevS g i, o] 3 = true := fun o => by simp [nlck_pS]
    have l1 : ev (callI fu fns m) l__law_order_1 ⟨[.val T, .own ((insT bday L i).map billD), .val (billD z), prevS g i, .uns], r⟩ = .ok (.lst ((upto bday (bday z) (insT bday L i)).map billD)) ⟨[.val T, .own ((insT bday L i).map billD), .val (billD z), prevS g i, .uns], r⟩ :=
      lcSF (W := billD) (xs := insT bday L i) (fun y => decide (bday y ≤ bday z)) billD (by simp) (evi_seqL (by simp)) (by omega) (fun y hy sl2 s hx => by
        have b9 := s.v (j := 2) rfl (by decide)
        have i1 : ∀ y : Bill, ixD (billD y) (.int 0) r = some (.int (bday y)) := fun y => rfl
        simp [hx, b9, i1, cmpD]) (fun y hy sl2 s hx => ⟨_, by simp [hx]; rfl⟩)
    have ln : ∀ r : Rng, bltD .len [.lst ((upto bday (bday z) (insT bday L i)).map billD)] r = some (g i) := fun r => by rw [hgi]; simp [bltD]
    have k1 := insD_map (W := billD) (key := bday) (acc := insT bday L i) (x := z) (by omega)
    rw [← hgi] at k1
    have ks : ksetS 3 false (g i) ⟨[.val T, .own ((insT bday L i).map billD), .val (billD z), prevS g i, .uns], r⟩ = .next ⟨[.val T, .own ((insT bday L i).map billD), .val (billD z), .val (g i), .uns], r⟩ := kset0 (hfr _)
    rw [insT_succ hzi]
    generalize insA bday (insT bday L i) z = N at *
    generalize hU : upto bday (bday z) (insT bday L i) = U at *
    have k2 : ∀ (r : Rng) (sl : List Slot), sl[1]? = some (.own ((insT bday L i).map billD)) → kinsT 1 (g i) (billD z) ⟨sl, r⟩ = .next ⟨sl.set 1 (.own (N.map billD)), r⟩ := fun r sl h => kinsT_ h k1
    simp [l1, ln, ks, k2, prevS_s]
  rw [← hT]
  simp [f__law_order, b__law_order, startS, lp]
/-- what is taken at the turn i -/
def nowF (p : Rat) (L : List Bill) (i : Nat) : D := PR (min2 (L.getD i (0, 0, 0)).2.2 (run p (L.take i)).2.2)
theorem run_succ {p : Rat} {L : List Bill} {i : Nat} {b : Bill} (h : L[i]? = some b) : run p (L.take (i + 1)) = stp (run p (L.take i)) b := by rw [take_snoc h, run_snoc]
theorem num_gt {x : Rat} : (0 < x.num) = (0 < x) := propext ⟨fun h => Decidable.byContradiction fun z => by have := numle' z; omega, num_pos'⟩
theorem left_len2 {p : Rat} (L : List Bill) (i : Nat) : (run p (L.take i)).1.length ≤ L.length := Nat.le_trans (left_len _) (by rw [List.length_take]; omega)
theorem gone_len {p : Rat} : ∀ L : List Bill, (run p L).2.1.length ≤ L.length := by
  intro L
  induction L using snoc_ind with
  | nil => exact Nat.le_refl _
  | snoc L b ih =>
    rw [run_snoc]
    unfold stp
    simp only [List.length_append, List.length_cons, List.length_nil]
    split
    · simp only [List.length_append, List.length_cons, List.length_nil]; omega
    · omega
theorem gone_len2 {p : Rat} (L : List Bill) (i : Nat) : (run p (L.take i)).2.1.length ≤ L.length := Nat.le_trans (gone_len _) (by rw [List.length_take]; omega)
theorem off_s {n : Nat} (hn : 5 ≤ n) {L : List Bill} {p : Rat} {k : Nat} {r : Rng} (h : Bok k L) (h0 : 0 ≤ p) (gp : G k p) (k3 : 3 ≤ k) (hk : k ≤ 200) (hl : L.length ≤ 8) : callI fu fns n i_paid_off [.tup (L.map billD), PR p] r = .ok (pstD (paid L p)) r := by
  obtain ⟨m, rfl⟩ : ∃ m, n = m + 1 := ⟨n - 1, by omega⟩
  rw [call_def at_paid_off rfl]
  obtain ⟨T, hT⟩ : ∃ T : D, T = .tup (L.map billD) := ⟨_, rfl⟩
  have hM : Bok k (sortK bday L) := h.perm (sortK_perm L)
  have lM : (sortK bday L).length ≤ 8 := by rw [(sortK_perm L).length_eq]; exact hl
  have ko := fun r => oldest_s (show 1 ≤ m by omega) (L := L) (r := r)
  rw [← hT] at ko
  unfold paid
  generalize sortK bday L = M at *
  have lp := forT3 (cl := callI fu fns m) (fu := fu) (W1 := fun b : Bill => .int b.1) (W2 := fun b => nmD b.2.1) (W3 := fun b => PR b.2.2) (ix := 5) (iy := 6) (iz := 7) (it := .seq (.call (Str.ofString "oldest_first") 11 (.cons (.var 0) .nil))) (b := (.cons (.set 8 false (.call (Str.ofString "least") 6 (.cons (.lst (.cons (.var 7) (.cons (.var 4) .nil))) .nil))) (.cons (.set 4 false (.call (Str.ofString "minus") 3 (.cons (.var 4) (.cons (.var 8) .nil)))) (.cons (.ife (.cmp .gt (.ix (.var 8) (.cst (.int 0))) (.cst (.int 0))) (.cons (.app 3 (.tup (.cons (.var 6) (.cons (.var 8) .nil)))) .nil) .nil) (.cons (.ife (.cmp .ne (.var 8) (.var 7)) (.cons (.app 2 (.tup (.cons (.var 5) (.cons (.var 6) (.cons (.call (Str.ofString "minus") 3 (.cons (.var 7) (.cons (.var 8) .nil))) .nil))))) .nil) .nil) .nil))))) (xs := M) (r := r) (o1 := .uns) (o2 := .uns) (o3 := .uns)
    (fun i o o' o'' => [.val T, .val (PR p), .own ((run p (M.take i)).1.map billD), .own ((run p (M.take i)).2.1.map goneD), .val (PR (run p (M.take i)).2.2), o, o', o'', prevS (nowF p M) i]) .uns .uns .uns rfl (evi_seqL (xs := M.map billD) (by simp [ko])) rfl rfl (fun i o o' o'' d d' d'' h1 h2 h3 => by
      rcases h1 with rfl | ⟨_, rfl⟩ <;> rcases h2 with rfl | ⟨_, rfl⟩ <;> rcases h3 with rfl | ⟨_, rfl⟩ <;> rfl) (fun i b hb => by
      have hm := List.mem_of_getElem? hb
      have hi : i < M.length := (List.getElem?_eq_some_iff.mp hb).1
      have I := run_inv h0 gp (M.take i) (fun b hb => hM.pos b (List.mem_of_mem_take hb)) (fun b hb => hM.g b (List.mem_of_mem_take hb))
      have hti : (M.take i).length = i := by rw [List.length_take]; omega
      have gr := I.gr
      rw [hti] at gr
      have gt := (hM.g b hm).mono (show k ≤ k + i by omega)
      have l1 := left_len2 (p := p) M i
      have l2 := gone_len2 (p := p) M i
      have hnow : nowF p M i = PR (min2 b.2.2 (run p (M.take i)).2.2) := by unfold nowF; simp only [List.getD, hb, Option.getD_some]
      rw [run_succ hb, prevS_s, hnow]
      obtain ⟨d, nm, t⟩ := b
      generalize run p (M.take i) = s at *
      obtain ⟨lf, gn, rs⟩ := s
      simp only at gr gt l1 l2 ⊢
      have zr := gr.sz (by omega)
      have zt := gt.sz (by omega)
      have a1 := fun r => least2_s (show 2 ≤ m by omega) (r := r) zt zr (by omega)
      have zn := (gt.min gr).sz (by omega)
      have a2 := fun r => minus_s (show 3 ≤ m by omega) (r := r) zr zn (by omega)
      have a3 := fun r => minus_s (show 3 ≤ m by omega) (r := r) zt zn (by omega)
      unfold stp
      simp only
      generalize min2 t rs = w at *
      have ks : ∀ (a0 a1 a2 a3 a4 a5 a6 a7 : Slot) (r : Rng), ksetS 8 false (PR w) ⟨[a0, a1, a2, a3, a4, a5, a6, a7, prevS (nowF p M) i], r⟩ = .next ⟨[a0, a1, a2, a3, a4, a5, a6, a7, .val (PR w)], r⟩ := fun _ _ _ _ _ _ _ _ r => kset0 (by simp [nlck_pS])
      by_cases c1 : 0 < w
      · by_cases c2 : w = t
        · subst c2
          simp [a1, ks, a2, ixPR0, cmpD, num_gt, c1, eqPR, show gn.length < 1000000 by omega, goneD]
        · simp [a1, ks, a2, ixPR0, cmpD, num_gt, c1, eqPR, c2, show gn.length < 1000000 by omega, show lf.length < 1000000 by omega, a3, goneD, billD, billW]
      · by_cases c2 : w = t
        · subst c2
          simp [a1, ks, a2, ixPR0, cmpD, num_gt, c1, eqPR]
        · simp [a1, ks, a2, ixPR0, cmpD, num_gt, c1, eqPR, c2, show lf.length < 1000000 by omega, a3, billD, billW])
  obtain ⟨o, o', o'', ho, ho', ho'', lp⟩ := lp
  rw [List.take_length] at lp
  have lp : exs (callI fu fns m) fu l_paid_off_1 ⟨[.val T, .val (PR p), .own [], .own [], .val (PR p), .uns, .uns, .uns, .uns], r⟩ = .next ⟨[.val T, .val (PR p), .own ((run p M).1.map billD), .own ((run p M).2.1.map goneD), .val (PR (run p M).2.2), o, o', o'', prevS (nowF p M) M.length], r⟩ := lp
  rw [← hT]
  have tl : ∀ (xs : List D) (r : Rng), bltD .tuple [.lst xs] r = some (.tup xs) := fun _ _ => rfl
  generalize hA : (run p M).1.map billD = A at *
  generalize hB : (run p M).2.1.map goneD = B at *
  simp [f_paid_off, b_paid_off, startS, lp, tl, pstD, hA, hB]
end M53


namespace M53
open Vi PySem
theorem prInv {y : Rat} (h : 0 < y) : D.tup [.int (y.den : Int), .int y.num] = PR (1 / y) := by
  have hn := num_pos' h
  have e : (1 / y : Rat) = ⟨y.den, y.num.natAbs, by omega, by
    have := y.reduced
    rw [Nat.Coprime] at *
    rw [Int.natAbs_natCast, Nat.gcd_comm]
    exact this⟩ := by
    rw [Rat.div_def, Rat.one_mul]
    show Rat.inv y = _
    unfold Rat.inv
    rw [dif_neg (by omega), dif_pos hn]
  rw [e]
  unfold PR
  have : ((y.num.natAbs : Nat) : Int) = y.num := by omega
  rw [this]
theorem over_part_s {n : Nat} (hn : 4 ≤ n) {x y : Rat} {r : Rng} {j k : Nat} (hx : Sz j x) (hy : Sz k y) (h : j + k < 8900) (h0 : 0 < y) : callI fu fns n i_over_part [PR x, PR y] r = .ok (PR (x / y)) r := by
  obtain ⟨m, rfl⟩ : ∃ m, n = m + 1 := ⟨n - 1, by omega⟩
  rw [call_def at_over_part rfl]
  have k1 := fun r => times_s (show 3 ≤ m by omega) (r := r) hx (sz11.div hy h0) (by omega)
  rw [show x * (1 / y) = x / y by grind] at k1
  have e := prInv h0
  simp [f_over_part, b_over_part, startS, ixPR0, ixPR1, e, k1]
theorem law_paid_s {n : Nat} (hn : 4 ≤ n) {L : List Bill} {p : Rat} {k : Nat} {r : Rng} (h : Bok k L) (h0 : 0 ≤ p) (gp : G k p) (k3 : 3 ≤ k) (hk : k ≤ 200) (hl : L.length ≤ 8) : callI fu fns n i__law_paid [.tup (L.map billD), PR p] r = .ok (pstD (paid L p)) r := by
  obtain ⟨m, rfl⟩ : ∃ m, n = m + 1 := ⟨n - 1, by omega⟩
  rw [call_def at__law_paid rfl]
  obtain ⟨T, hT⟩ : ∃ T : D, T = .tup (L.map billD) := ⟨_, rfl⟩
  have hM : Bok k (sortK bday L) := h.perm (sortK_perm L)
  have lM : (sortK bday L).length ≤ 8 := by rw [(sortK_perm L).length_eq]; exact hl
  have ko := fun r => order_s (show 1 ≤ m by omega) (L := L) (r := r) (by omega)
  rw [← hT] at ko
  unfold paid
  generalize sortK bday L = M at *
  have lp := forT3 (cl := callI fu fns m) (fu := fu) (W1 := fun b : Bill => .int b.1) (W2 := fun b => nmD b.2.1) (W3 := fun b => PR b.2.2) (ix := 4) (iy := 5) (iz := 6) (it := .seq (.call (Str.ofString "_law_order") 38 (.cons (.var 0) .nil))) (b := (.cons (.set 7 false (.call (Str.ofString "_law_least") 33 (.cons (.lst (.cons (.var 6) (.cons (.var 1) .nil))) .nil))) (.cons (.set 1 false (.call (Str.ofString "_law_add") 26 (.cons (.var 1) (.cons (.call (Str.ofString "_law_neg") 28 (.cons (.var 7) .nil)) .nil)))) (.cons (.set 3 false (.bin .add (.var 3) (.ife (.cmp .gt (.ix (.var 7) (.cst (.int 0))) (.cst (.int 0))) (.lst (.cons (.tup (.cons (.var 5) (.cons (.var 7) .nil))) .nil)) (.lst .nil)))) (.cons (.set 2 false (.bin .add (.var 2) (.ife (.cmp .ne (.var 7) (.var 6)) (.lst (.cons (.tup (.cons (.var 4) (.cons (.var 5) (.cons (.call (Str.ofString "_law_add") 26 (.cons (.var 6) (.cons (.call (Str.ofString "_law_neg") 28 (.cons (.var 7) .nil)) .nil))) .nil)))) .nil)) (.lst .nil)))) .nil))))) (xs := M) (r := r) (o1 := .uns) (o2 := .uns) (o3 := .uns)
    (fun i o o' o'' => [.val T, .val (PR (run p (M.take i)).2.2), .val (.lst ((run p (M.take i)).1.map billD)), .val (.lst ((run p (M.take i)).2.1.map goneD)), o, o', o'', prevS (nowF p M) i]) .uns .uns .uns rfl (evi_seqL (xs := M.map billD) (by simp [ko])) rfl rfl (fun i o o' o'' d d' d'' h1 h2 h3 => by
      rcases h1 with rfl | ⟨_, rfl⟩ <;> rcases h2 with rfl | ⟨_, rfl⟩ <;> rcases h3 with rfl | ⟨_, rfl⟩ <;> rfl) (fun i b hb => by
      have hm := List.mem_of_getElem? hb
      have hi : i < M.length := (List.getElem?_eq_some_iff.mp hb).1
      have I := run_inv h0 gp (M.take i) (fun b hb => hM.pos b (List.mem_of_mem_take hb)) (fun b hb => hM.g b (List.mem_of_mem_take hb))
      have hti : (M.take i).length = i := by rw [List.length_take]; omega
      have gr := I.gr
      rw [hti] at gr
      have gt := (hM.g b hm).mono (show k ≤ k + i by omega)
      have l1 := left_len2 (p := p) M i
      have l2 := gone_len2 (p := p) M i
      have hnow : nowF p M i = PR (min2 b.2.2 (run p (M.take i)).2.2) := by unfold nowF; simp only [List.getD, hb, Option.getD_some]
      rw [run_succ hb, prevS_s, hnow]
      obtain ⟨d, nm, t⟩ := b
      generalize run p (M.take i) = s at *
      obtain ⟨lf, gn, rs⟩ := s
      simp only at gr gt l1 l2 ⊢
      have zr := gr.sz (by omega)
      have zt := gt.sz (by omega)
      have a1 := fun r => lleast2_s (show 2 ≤ m by omega) (r := r) zt zr (by omega)
      have zn := (gt.min gr).sz (by omega)
      have a0 := fun r => lneg_s (show 1 ≤ m by omega) (x := min2 t rs) (r := r)
      have a2 := fun r => ladd_s (show 3 ≤ m by omega) (r := r) zr zn.neg (by omega)
      have a3 := fun r => ladd_s (show 3 ≤ m by omega) (r := r) zt zn.neg (by omega)
      unfold stp
      simp only
      generalize min2 t rs = w at *
      rw [show rs + -w = rs - w by grind] at a2
      rw [show t + -w = t - w by grind] at a3
      have ks : ∀ (a0 a1 a2 a3 a4 a5 a6 : Slot) (r : Rng), ksetS 7 false (PR w) ⟨[a0, a1, a2, a3, a4, a5, a6, prevS (nowF p M) i], r⟩ = .next ⟨[a0, a1, a2, a3, a4, a5, a6, .val (PR w)], r⟩ := fun _ _ _ _ _ _ _ r => kset0 (by simp [nlck_pS])
      have ba : ∀ xs ys : List D, xs.length + ys.length ≤ 100 → binD .add (.lst xs) (.lst ys) = some (.lst (xs ++ ys)) := fun xs ys h => if_pos (by unfold lim; omega)
      have b1 := ba (gn.map goneD) [goneD (nm, w)] (by simp; omega)
      have b2 := ba (gn.map goneD) [] (by simp; omega)
      have b3 := ba (lf.map billD) [billD (d, nm, t - w)] (by simp; omega)
      have b4 := ba (lf.map billD) [] (by simp; omega)
      rw [show goneD (nm, w) = D.tup [nmD nm, PR w] from rfl] at b1
      rw [show billD (d, nm, t - w) = D.tup [.int d, nmD nm, PR (t - w)] from rfl] at b3
      simp only [List.append_nil] at b2 b4
      by_cases c1 : 0 < w
      · by_cases c2 : w = t
        · subst c2
          simp [a1, a0, ks, a2, ixPR0, cmpD, num_gt, c1, eqPR, b1, b2, b3, b4, goneD]
        · simp [a1, a0, ks, a2, ixPR0, cmpD, num_gt, c1, eqPR, c2, a3, b1, b2, b3, b4, goneD, billD, billW]
      · by_cases c2 : w = t
        · subst c2
          simp [a1, a0, ks, a2, ixPR0, cmpD, num_gt, c1, eqPR, b1, b2, b3, b4]
        · simp [a1, a0, ks, a2, ixPR0, cmpD, num_gt, c1, eqPR, c2, a3, b1, b2, b3, b4, billD, billW])
  obtain ⟨o, o', o'', ho, ho', ho'', lp⟩ := lp
  rw [List.take_length] at lp
  have lp : exs (callI fu fns m) fu l__law_paid_1 ⟨[.val T, .val (PR p), .val (.lst []), .val (.lst []), .uns, .uns, .uns, .uns], r⟩ = .next ⟨[.val T, .val (PR (run p M).2.2), .val (.lst ((run p M).1.map billD)), .val (.lst ((run p M).2.1.map goneD)), o, o', o'', prevS (nowF p M) M.length], r⟩ := lp
  rw [← hT]
  have tl : ∀ (xs : List D) (r : Rng), bltD .tuple [.lst xs] r = some (.tup xs) := fun _ _ => rfl
  generalize hA : (run p M).1.map billD = A at *
  generalize hB : (run p M).2.1.map goneD = B at *
  simp [f__law_paid, b__law_paid, startS, lp, tl, pstD, hA, hB]
theorem nm_dok : ∀ k j, dok j (nmD k) = true := fun k j => by unfold nmD nmS; split <;> exact dok_str _ j (by decide +kernel)
theorem pst_dok (s : Pst) : dok 64 (pstD s) = true := by
  have nmk := nm_dok
  have hb : ∀ b, dok 62 (billD b) = true := fun b => by simp only [billD, billW, dok, doks, nmk, dok_PR, Bool.and_self, Bool.and_true, Bool.true_and]
  have hg : ∀ g, dok 62 (goneD g) = true := fun g => by simp only [goneD, dok, doks, nmk, dok_PR, Bool.and_self, Bool.and_true, Bool.true_and]
  have h1 := doks_map billD 62 hb s.1
  have h2 := doks_map goneD 62 hg s.2.1
  simp only [pstD, dok, doks, h1, h2, dok_PR, Bool.and_self]
theorem bills_dok (L : List Bill) : dok 64 (.tup (L.map billD)) = true := by
  have nmk := nm_dok
  have hb : ∀ b, dok 63 (billD b) = true := fun b => by simp only [billD, billW, dok, doks, nmk, dok_PR, Bool.and_self, Bool.and_true, Bool.true_and]
  exact doks_map billD 63 hb L
end M53


namespace M53
open Vi PySem
def alk (c : Rat) (b : Bill) : Rat := b.2.2 - b.2.2 * c
def alike (c : Rat) (L : List Bill) : List Bill := (L.filter fun b => decide (0 < alk c b)).map fun b => (b.1, b.2.1, alk c b)
theorem alike_snoc (c : Rat) (L : List Bill) (b : Bill) : alike c (L ++ [b]) = if 0 < alk c b then alike c L ++ [(b.1, b.2.1, alk c b)] else alike c L := by
  unfold alike
  rw [List.filter_append, List.map_append]
  split
  · rename_i h; simp [h]
  · rename_i h; simp [h]
theorem alike_len (c : Rat) (L : List Bill) : (alike c L).length ≤ L.length := by
  unfold alike
  rw [List.length_map]
  exact List.length_filter_le _ _
theorem sumV_pos : ∀ {L : List Bill}, L ≠ [] → (∀ b ∈ L, 0 < b.2.2) → 0 < sumV L := by
  intro L hne h
  exact sumR_pos (by rw [List.length_map]; exact List.length_pos_iff.mpr hne) (fun x hx => by
    obtain ⟨b, hb, rfl⟩ := List.mem_map.mp hx
    exact h b hb)
theorem alike_sum {c : Rat} (hc : c ≤ 1) : ∀ L : List Bill, (∀ b ∈ L, 0 < b.2.2) → sumV (alike c L) = sumV L - sumV L * c := by
  intro L
  induction L using snoc_ind with
  | nil => intro _; show sumV [] = _; rw [sumV_nil]; grind
  | snoc L b ih =>
    intro h
    have ih := ih fun x hx => h x (List.mem_append_left _ hx)
    have hb := h b (by simp)
    rw [alike_snoc, sumV_snoc]
    have e : alk c b = b.2.2 - b.2.2 * c := rfl
    have nn : 0 ≤ alk c b := by
      have : 0 ≤ b.2.2 * (1 - c) := Rat.mul_nonneg (by grind) (by grind)
      grind
    split
    · rw [sumV_snoc, ih]
      show _ + alk c b = _
      rw [e]; grind
    · rename_i hn
      rw [ih]
      have : alk c b = 0 := by grind
      rw [e] at this
      grind
theorem Sz.sumV {k : Nat} {L : List Bill} {n : Nat} (h : ∀ b ∈ L, Sz k b.2.2) (hn : L.length ≤ n) : Sz (n * (k + 1) + 1) (sumV L) :=
  Sz.sum n (by rw [List.length_map]; exact hn) fun x hx => by
    obtain ⟨b, hb, rfl⟩ := List.mem_map.mp hx
    exact h b hb
theorem vals_s {cl : Cl} {ix : Nat} {it : II} {L : List Bill} {sl : List Slot} {r : Rng} (hf : free sl ix = true) (hi : evi cl it ⟨sl, r⟩ = .ok (L.map billD) ⟨sl, r⟩) (hl : L.length ≤ 1000) :
    ev cl (.lc (.ix (.var ix) (.cst (.int 2))) (.nm ix) it .none [ix] []) ⟨sl, r⟩ = .ok (.lst ((L.map val).map PR)) ⟨sl, r⟩ := by
  rw [List.map_map]
  exact lcS (W := billD) (xs := L) _ hf hi (by omega) fun b hb sl2 s hx => ⟨_, by
    have i2 : ∀ r : Rng, ixD (billD b) (.int 2) r = some (PR b.2.2) := fun _ => rfl
    simp [hx, i2]; exact ⟨rfl, rfl⟩⟩
theorem alike_s {n : Nat} (hn : 5 ≤ n) {L : List Bill} {p : Rat} {k : Nat} {r : Rng} (h : Bok k L) (h0 : 0 ≤ p) (zp : Sz k p) (k3 : 3 ≤ k) (hk : k ≤ 100) (hl : L.length ≤ 8) (hw : ¬ sumV L < p) : callI fu fns n i_paid_alike [.tup (L.map billD), PR p] r = .ok (.tup ((alike (p / sumV L) L).map billD)) r := by
  obtain ⟨m, rfl⟩ : ∃ m, n = m + 1 := ⟨n - 1, by omega⟩
  rw [call_def at_paid_alike rfl]
  obtain ⟨T, hT⟩ : ∃ T : D, T = .tup (L.map billD) := ⟨_, rfl⟩
  have l2 : ∀ r : Rng, ev (callI fu fns m) l_paid_alike_2 ⟨[.val T, .val (PR p), .uns, .uns, .uns, .uns, .uns, .uns, .uns], r⟩ = .ok (.lst ((L.map val).map PR)) ⟨[.val T, .val (PR p), .uns, .uns, .uns, .uns, .uns, .uns, .uns], r⟩ := fun r => vals_s (ix := 8) (by simp) (evi_seqT (by simp [hT])) (by omega)
  have zb : ∀ b ∈ L, Sz k b.2.2 := fun b hb => (h.g b hb).sz k3
  have t1 := fun r => total_s (show 4 ≤ m by omega) (r := r) (xs := L.map val) (k := k) (fun x hx => by
    obtain ⟨b, hb, rfl⟩ := List.mem_map.mp hx
    exact zb b hb) (by
      rw [List.length_map]
      have := Nat.mul_le_mul hl (show k + 1 ≤ 101 by omega)
      omega)
  rw [show sumR (L.map val) = sumV L from rfl] at t1
  have zW := Sz.sumV zb hl
  have t2 := fun r => is_less_s (show 1 ≤ m by omega) (r := r) zW zp (by omega)
  have np := numlt0 h0
  have wne : (sumV L).num = 0 ↔ sumV L = 0 := num0 _
  have pos := h.pos
  rw [← hT]
  generalize hV : (L.map val).map PR = V at *
  by_cases c : L = []
  · have e0 : sumV L = 0 := by rw [c]; rfl
    have e1 : alike (p / sumV L) L = [] := by rw [c]; rfl
    rw [e1]
    rw [e0] at t1 t2 hw
    have n0 : ((0 : Rat).num) = 0 := rfl
    simp [f_paid_alike, b_paid_alike, startS, l2, t1, t2, hw, ixPR0, cmpD, np, eqI, n0]
  · have hWp := sumV_pos c pos
    have hWn : ¬ (sumV L).num = 0 := fun z => by rw [wne] at z; rw [z] at hWp; grind
    have t3 := fun r => over_part_s (show 4 ≤ m by omega) (r := r) zp zW (by omega) hWp
    have zc := zp.div zW hWp
    generalize sumV L = W at *
    generalize p / W = cc at *
    have lp := forT3 (cl := callI fu fns m) (fu := fu) (W1 := fun b : Bill => .int b.1) (W2 := fun b => nmD b.2.1) (W3 := fun b => PR b.2.2) (ix := 4) (iy := 5) (iz := 6) (it := .seq (.var 0)) (b := (.cons (.set 7 false (.call (Str.ofString "minus") 3 (.cons (.var 6) (.cons (.call (Str.ofString "times") 4 (.cons (.var 6) (.cons (.call (Str.ofString "over_part") 14 (.cons (.var 1) (.cons (.var 2) .nil))) .nil))) .nil)))) (.cons (.ife (.cmp .gt (.ix (.var 7) (.cst (.int 0))) (.cst (.int 0))) (.cons (.app 3 (.tup (.cons (.var 4) (.cons (.var 5) (.cons (.var 7) .nil))))) .nil) .nil) .nil))) (xs := L) (r := r) (o1 := .uns) (o2 := .uns) (o3 := .uns)
      (fun i o o' o'' => [.val T, .val (PR p), .val (PR W), .own ((alike cc (L.take i)).map billD), o, o', o'', prevS (fun i => PR (alk cc (L.getD i (0, 0, 0)))) i, .uns]) .uns .uns .uns rfl (evi_seqT (xs := L.map billD) (by simp [hT])) rfl rfl (fun i o o' o'' d d' d'' h1 h2 h3 => by
        rcases h1 with rfl | ⟨_, rfl⟩ <;> rcases h2 with rfl | ⟨_, rfl⟩ <;> rcases h3 with rfl | ⟨_, rfl⟩ <;> rfl) (fun i b hb => by
        have hm := List.mem_of_getElem? hb
        have hi : i < L.length := (List.getElem?_eq_some_iff.mp hb).1
        have zt := zb b hm
        have a1 := fun r => times_s (show 3 ≤ m by omega) (r := r) zt zc (by omega)
        have a2 := fun r => minus_s (show 3 ≤ m by omega) (r := r) zt (zt.mul zc) (by omega)
        rw [show b.2.2 - b.2.2 * cc = alk cc b from rfl] at a2
        have hll : (alike cc (L.take i)).length < 1000000 := by have := alike_len cc (L.take i); rw [List.length_take] at this; omega
        rw [take_snoc hb, alike_snoc, prevS_s]
        have hg : (fun i => PR (alk cc (L.getD i (0, 0, 0)))) i = PR (alk cc b) := by simp only [List.getD, hb, Option.getD_some]
        simp only [] at hg
        rw [hg]
        have ks : ∀ (a0 a1 a2 a3 a4 a5 a6 a8 : Slot) (r : Rng), ksetS 7 false (PR (alk cc b)) ⟨[a0, a1, a2, a3, a4, a5, a6, prevS (fun i => PR (alk cc (L.getD i (0, 0, 0)))) i, a8], r⟩ = .next ⟨[a0, a1, a2, a3, a4, a5, a6, .val (PR (alk cc b)), a8], r⟩ := fun _ _ _ _ _ _ _ _ r => kset0 (by simp [nlck_pS])
        generalize alk cc b = v at *
        generalize prevS (fun i => PR (alk cc (L.getD i (0, 0, 0)))) i = ps at *
        by_cases c1 : 0 < v
        · rw [if_pos c1]
          simp [t3, a1, a2, ks, ixPR0, cmpD, num_gt, c1, hll, billD, billW]
        · rw [if_neg c1]
          simp [t3, a1, a2, ks, ixPR0, cmpD, num_gt, c1])
    obtain ⟨o, o', o'', ho, ho', ho'', lp⟩ := lp
    rw [List.take_length] at lp
    have lp : exs (callI fu fns m) fu l_paid_alike_1 ⟨[.val T, .val (PR p), .val (PR W), .own [], .uns, .uns, .uns, .uns, .uns], r⟩ = .next ⟨[.val T, .val (PR p), .val (PR W), .own ((alike cc L).map billD), o, o', o'', prevS (fun i => PR (alk cc (L.getD i (0, 0, 0)))) L.length, .uns], r⟩ := lp
    have tl : ∀ (xs : List D) (r : Rng), bltD .tuple [.lst xs] r = some (.tup xs) := fun _ _ => rfl
    generalize (alike cc L).map billD = A at *
    simp [f_paid_alike, b_paid_alike, startS, l2, t1, t2, hw, ixPR0, cmpD, np, eqI, hWn, lp, tl]
def wm12 : Rat := ⟨-1, 2, by decide, by decide⟩
theorem pm12 : D.tup [.int (-1), .int 2] = PR wm12 := Eq.trans rfl rfl
theorem alike_x {n : Nat} (hn : 5 ≤ n) {L : List Bill} {p : Rat} {k : Nat} {r : Rng} (h : Bok k L) (zp : Sz k p) (k3 : 3 ≤ k) (hk : k ≤ 100) (hl : L.length ≤ 8) (hw : sumV L < p ∨ p.num < 0) : callI fu fns n i_paid_alike [.tup (L.map billD), PR p] r = .exc (er "part") r := by
  obtain ⟨m, rfl⟩ : ∃ m, n = m + 1 := ⟨n - 1, by omega⟩
  rw [call_def at_paid_alike rfl]
  obtain ⟨T, hT⟩ : ∃ T : D, T = .tup (L.map billD) := ⟨_, rfl⟩
  have l2 : ∀ r : Rng, ev (callI fu fns m) l_paid_alike_2 ⟨[.val T, .val (PR p), .uns, .uns, .uns, .uns, .uns, .uns, .uns], r⟩ = .ok (.lst ((L.map val).map PR)) ⟨[.val T, .val (PR p), .uns, .uns, .uns, .uns, .uns, .uns, .uns], r⟩ := fun r => vals_s (ix := 8) (by simp) (evi_seqT (by simp [hT])) (by omega)
  have zb : ∀ b ∈ L, Sz k b.2.2 := fun b hb => (h.g b hb).sz k3
  have t1 := fun r => total_s (show 4 ≤ m by omega) (r := r) (xs := L.map val) (k := k) (fun x hx => by
    obtain ⟨b, hb, rfl⟩ := List.mem_map.mp hx
    exact zb b hb) (by
      rw [List.length_map]
      have := Nat.mul_le_mul hl (show k + 1 ≤ 101 by omega)
      omega)
  rw [show sumR (L.map val) = sumV L from rfl] at t1
  have zW := Sz.sumV zb hl
  have t2 := fun r => is_less_s (show 1 ≤ m by omega) (r := r) zW zp (by omega)
  have ok : exOk 2 [wd "part"] = true := by decide +kernel
  rw [← hT]
  generalize hV : (L.map val).map PR = V at *
  generalize sumV L = W at *
  by_cases c : W < p
  · simp [f_paid_alike, b_paid_alike, startS, l2, t1, t2, c, ok, er]
  · have c2 := hw.resolve_left c
    simp [f_paid_alike, b_paid_alike, startS, l2, t1, t2, c, ixPR0, cmpD, c2, ok, er]
end M53


namespace M53
open Vi PySem
theorem g_of {a b : Int} {j : Nat} (hb : b = 1 ∨ b = 2 ∨ b = 3) (ha : Lt2 j a) : G (j + 3) (Rat.divInt a b) := by
  have e3 : (2 : Nat) ^ (j + 3) = 2 ^ j * 8 := Nat.pow_add ..
  rcases hb with rfl | rfl | rfl
  · exact ⟨6 * a, by rw [Rat.divInt_eq_div, Rat.divInt_eq_div, Rat.intCast_mul]; grind, by unfold Lt2 at *; omega⟩
  · exact ⟨3 * a, by rw [Rat.divInt_eq_div, Rat.divInt_eq_div, Rat.intCast_mul]; grind, by unfold Lt2 at *; omega⟩
  · exact ⟨2 * a, by rw [Rat.divInt_eq_div, Rat.divInt_eq_div, Rat.intCast_mul]; grind, by unfold Lt2 at *; omega⟩
theorem divInt_pos {a b : Int} (ha : 0 < a) (hb : 0 < b) : 0 < Rat.divInt a b := by
  rw [Rat.divInt_eq_div]
  have h1 : (0 : Rat) < (a : Rat) := by exact_mod_cast ha
  have h2 : (0 : Rat) < (b : Rat) := by exact_mod_cast hb
  rw [Rat.div_def]
  exact Rat.mul_pos h1 (Rat.inv_pos.mpr h2)
theorem above_g {n : Nat} (hn : 2 ≤ n) {q : Int × List Int} (hq : OkR q) : ∃ v q', OkR q' ∧ 0 < v ∧ G 6 v ∧ callI fu fns n i__law_above [.tok, .int 6] (some q) = .ok (PR v) (some q') := by
  refine ⟨_, _, aboveF_ok (most := 6) hq, ?_, ?_, above_s hn hq (by decide) (by decide)⟩
  · have a1 := takeF_lo (most := 6) (q := q)
    have b1 := takeF_lo (most := 3) (q := (takeF 6 q).2)
    exact divInt_pos (by omega) (by omega)
  · have a1 := takeF_lo (most := 6) (q := q)
    have a2 := takeF_hi (most := 6) (q := q) (by decide)
    have b1 := takeF_lo (most := 3) (q := (takeF 6 q).2)
    have b2 := takeF_hi (most := 3) (q := (takeF 6 q).2) (by decide)
    exact g_of (j := 3) (by omega) (lt2_of (by omega) (by omega))
theorem frac_g {n : Nat} (hn : 2 ≤ n) {q : Int × List Int} (hq : OkR q) : ∃ v q', OkR q' ∧ G 6 v ∧ callI fu fns n i__law_fraction [.tok, .int 5] (some q) = .ok (PR v) (some q') := by
  refine ⟨_, _, fracF_ok (most := 5) hq, ?_, frac_s hn hq (by decide) (by decide)⟩
  have a1 := takeF_lo (most := 2 * 5 + 1) (q := q)
  have a2 := takeF_hi (most := 2 * 5 + 1) (q := q) (by decide)
  have b1 := takeF_lo (most := 3) (q := (takeF (2 * 5 + 1) q).2)
  have b2 := takeF_hi (most := 3) (q := (takeF (2 * 5 + 1) q).2) (by decide)
  exact g_of (j := 3) (by omega) (lt2_of (by omega) (by omega))
def nms6 : D := .tup [wd "ann", wd "bob", wd "cid", wd "dan", wd "eve", wd "fay"]
theorem nms6_ix {i : Nat} (h : i < 6) (r : Rng) : ixD nms6 (.int (i : Int)) r = some (nmD i) := by
  have : i = 0 ∨ i = 1 ∨ i = 2 ∨ i = 3 ∨ i = 4 ∨ i = 5 := by omega
  rcases this with rfl | rfl | rfl | rfl | rfl | rfl <;> rfl
theorem law_bills_s {n : Nat} (hn : 3 ≤ n) {q : Int × List Int} (hq : OkR q) : ∃ L q', OkR q' ∧ Bok 6 L ∧ L.length ≤ 5 ∧ callI fu fns n i__law_bills [.tok] (some q) = .ok (.tup (L.map billD)) (some q') := by
  obtain ⟨m, rfl⟩ : ∃ m, n = m + 1 := ⟨n - 1, by omega⟩
  rw [call_def at__law_bills rfl]
  obtain ⟨p, q1, hq1, hp, t1⟩ := take_x (show 1 ≤ m by omega) hq (most := 6) (by omega) (by omega)
  obtain ⟨g, q2, hq2, hg, e⟩ := lcD (cl := callI fu fns m) (ix := 2) (n := p) (sl := [.val .tok, .val nms6, .uns]) (q := q) (q1 := q1) (a := .call (Str.ofString "_law_take") 23 (.cons (.var 0) (.cons (.cst (.int 6)) .nil))) (e := (.tup (.cons (.call (Str.ofString "_law_take") 23 (.cons (.var 0) (.cons (.cst (.int 9)) .nil))) (.cons (.ix (.var 1) (.var 2)) (.cons (.call (Str.ofString "_law_above") 35 (.cons (.var 0) (.cons (.cst (.int 6)) .nil))) .nil)))))
    (fun i (v : Int × Rat) => billD (v.1, i, v.2)) (fun i v => (0 ≤ v.1 ∧ v.1 < 100) ∧ 0 < v.2 ∧ G 6 v.2) (by simp) (by simp [t1]) (by omega) hq1 (fun i hi q hq sl2 s hx => by
      obtain ⟨a, q3, hq3, ha, u1⟩ := take_x (show 1 ≤ m by omega) hq (most := 9) (by omega) (by omega)
      obtain ⟨v, q4, hq4, hv, gv, u2⟩ := above_g (show 2 ≤ m by omega) hq3
      have b0 := s.v (j := 0) rfl (by decide)
      have b1 := s.v (j := 1) rfl (by decide)
      have i1 := nms6_ix (show i < 6 by omega)
      refine ⟨((a : Int), v), q4, sl2, hq4, ⟨⟨by simp only; omega, by simp only; omega⟩, hv, gv⟩, ?_⟩
      simp [b0, b1, hx, u1, u2, i1, billD, billW])
  have e : ev (callI fu fns m) l__law_bills_1 ⟨[.val .tok, .val nms6, .uns], some q⟩ = .ok (.lst ((List.range p).map fun i => billD ((g i).1, i, (g i).2))) ⟨[.val .tok, .val nms6, .uns], some q2⟩ := e
  refine ⟨(List.range p).map fun i => ((g i).1, i, (g i).2), q2, hq2, ⟨fun b hb => ?_, fun b hb => ?_, fun b hb => ?_, fun b hb => ?_, ?_⟩, by simp; omega, ?_⟩
  · obtain ⟨i, hi, rfl⟩ := List.mem_map.mp hb
    exact (hg i (List.mem_range.mp hi)).2.1
  · obtain ⟨i, hi, rfl⟩ := List.mem_map.mp hb
    exact (hg i (List.mem_range.mp hi)).2.2
  · obtain ⟨i, hi, rfl⟩ := List.mem_map.mp hb
    exact (hg i (List.mem_range.mp hi)).1
  · obtain ⟨i, hi, rfl⟩ := List.mem_map.mp hb
    have := List.mem_range.mp hi
    simp only; omega
  · rw [List.map_map]
    have : (List.range p).map ((fun b : Bill => b.2.1) ∘ fun i => ((g i).1, i, (g i).2)) = List.range p := by
      rw [show ((fun b : Bill => b.2.1) ∘ fun i => ((g i).1, i, (g i).2)) = id from rfl, List.map_id]
    rw [this]
    exact List.nodup_range
  · have en : D.tup [wd "ann", wd "bob", wd "cid", wd "dan", wd "eve", wd "fay"] = nms6 := rfl
    have em : ((List.range p).map fun i => ((g i).1, i, (g i).2)).map billD = (List.range p).map fun i => billD ((g i).1, i, (g i).2) := by rw [List.map_map]; rfl
    rw [em]
    have tl : ∀ (xs : List D) (r : Rng), bltD .tuple [.lst xs] r = some (.tup xs) := fun _ _ => rfl
    generalize (List.range p).map (fun i => billD ((g i).1, i, (g i).2)) = BL at *
    simp [f__law_bills, b__law_bills, startS, en, e, tl]
end M53


namespace M53
open Vi PySem
def w23 : Rat := ⟨2, 3, by decide, by decide⟩
theorem p23 : D.tup [.int 2, .int 3] = PR w23 := Eq.trans rfl rfl
theorem w23p : (0 : Rat) < w23 := by decide +kernel
theorem w23z : Sz 3 w23 := by constructor <;> (unfold Lt2; decide)
theorem wref (s : String) (h : PySem.PyData.canLay0 (.str (Str.ofString s)) = true) : eqD (wd s) (wd s) = some true := eqD_refl (dok_str s 64 h)
theorem wm12z : Sz 3 wm12 := by constructor <;> (unfold Lt2; decide)
theorem wm12n : wm12.num < 0 := by decide
/-- the law's own part of each bill -/
theorem due_loop {m : Nat} (hm : 4 ≤ m) {L : List Bill} {p : Rat} {k : Nat} {r : Rng} {a0 a3 a5 : Slot} (h : Bok k L) (h0 : 0 ≤ p) (zp : Sz k p) (k3 : 3 ≤ k) (hk : k ≤ 100) (hl : L.length ≤ 8) :
    ∃ o o' o'' o3, exs (callI fu fns m) fu l__law_payments_2 ⟨[a0, .val (.tup (L.map billD)), .val (PR p), a3, .val (PR (sumV L)), a5, .val (.lst []), .uns, .uns, .uns, .uns, .uns], r⟩ =
      .next ⟨[a0, .val (.tup (L.map billD)), .val (PR p), a3, .val (PR (sumV L)), a5, .val (.lst ((alike (p / sumV L) L).map billD)), o, o', o'', o3, .uns], r⟩ := by
  have zb : ∀ b ∈ L, Sz k b.2.2 := fun b hb => (h.g b hb).sz k3
  have zW := Sz.sumV zb hl
  obtain ⟨T, hT⟩ : ∃ T : D, T = .tup (L.map billD) := ⟨_, rfl⟩
  have k1 := fun r => lneg_s (show 1 ≤ m by omega) (x := p) (r := r)
  have k2 := fun r => ladd_s (show 3 ≤ m by omega) (r := r) zW zp.neg (by omega)
  have hpos : ∀ b ∈ L, 0 < sumV L := fun b hb => sumV_pos (fun z => by rw [z] at hb; cases hb) h.pos
  rw [← hT]
  generalize sumV L = W at *
  obtain ⟨cc, hcc⟩ : ∃ cc, cc = p / W := ⟨_, rfl⟩
  rw [← hcc]
  have lp := forT3 (cl := callI fu fns m) (fu := fu) (W1 := fun b : Bill => .int b.1) (W2 := fun b => nmD b.2.1) (W3 := fun b => PR b.2.2) (ix := 7) (iy := 8) (iz := 9) (it := .seq (.var 1)) (b := (.cons (.set 10 false (.call (Str.ofString "_law_mul") 27 (.cons (.var 9) (.cons (.call (Str.ofString "_law_over") 29 (.cons (.call (Str.ofString "_law_add") 26 (.cons (.var 4) (.cons (.call (Str.ofString "_law_neg") 28 (.cons (.var 2) .nil)) .nil))) (.cons (.var 4) .nil))) .nil)))) (.cons (.set 6 false (.bin .add (.var 6) (.ife (.cmp .gt (.ix (.var 10) (.cst (.int 0))) (.cst (.int 0))) (.lst (.cons (.tup (.cons (.var 7) (.cons (.var 8) (.cons (.var 10) .nil)))) .nil)) (.lst .nil)))) .nil))) (xs := L) (r := r) (o1 := .uns) (o2 := .uns) (o3 := .uns)
    (fun i o o' o'' => [a0, .val T, .val (PR p), a3, .val (PR W), a5, .val (.lst ((alike cc (L.take i)).map billD)), o, o', o'', prevS (fun i => PR (alk cc (L.getD i (0, 0, 0)))) i, .uns]) .uns .uns .uns rfl (evi_seqT (xs := L.map billD) (by simp [hT])) rfl rfl (fun i o o' o'' d d' d'' h1 h2 h3 => by
      rcases h1 with rfl | ⟨_, rfl⟩ <;> rcases h2 with rfl | ⟨_, rfl⟩ <;> rcases h3 with rfl | ⟨_, rfl⟩ <;> rfl) (fun i b hb => by
      have hm := List.mem_of_getElem? hb
      have hi : i < L.length := (List.getElem?_eq_some_iff.mp hb).1
      have zt := zb b hm
      have Wp := hpos b hm
      have k3 := fun r => lover_s (show 3 ≤ m by omega) (r := r) (zW.add zp.neg) zW (by omega) Wp
      have zc := (zW.add zp.neg).div zW Wp
      have k4 := fun r => lmul_s (show 3 ≤ m by omega) (r := r) zt zc (by omega)
      have e : b.2.2 * ((W + -p) / W) = alk cc b := by
        unfold alk
        rw [hcc]
        grind
      rw [e] at k4
      have hll : (alike cc (L.take i)).length ≤ 8 := by have := alike_len cc (L.take i); rw [List.length_take] at this; omega
      rw [take_snoc hb, alike_snoc, prevS_s]
      have hg : (fun i => PR (alk cc (L.getD i (0, 0, 0)))) i = PR (alk cc b) := by simp only [List.getD, hb, Option.getD_some]
      simp only [] at hg
      rw [hg]
      have ks : ∀ (a0 a1 a2 a3 a4 a5 a6 a7 a8 a9 a11 : Slot) (r : Rng), ksetS 10 false (PR (alk cc b)) ⟨[a0, a1, a2, a3, a4, a5, a6, a7, a8, a9, prevS (fun i => PR (alk cc (L.getD i (0, 0, 0)))) i, a11], r⟩ = .next ⟨[a0, a1, a2, a3, a4, a5, a6, a7, a8, a9, .val (PR (alk cc b)), a11], r⟩ := fun _ _ _ _ _ _ _ _ _ _ _ r => kset0 (by simp [nlck_pS])
      have ba : ∀ xs ys : List D, xs.length + ys.length ≤ 100 → binD .add (.lst xs) (.lst ys) = some (.lst (xs ++ ys)) := fun xs ys h => if_pos (by unfold lim; omega)
      generalize alk cc b = v at *
      have b1 := ba ((alike cc (L.take i)).map billD) [billD (b.1, b.2.1, v)] (by simp; omega)
      have b2 := ba ((alike cc (L.take i)).map billD) [] (by simp; omega)
      rw [show billD (b.1, b.2.1, v) = D.tup [.int b.1, nmD b.2.1, PR v] from rfl] at b1
      simp only [List.append_nil] at b2
      generalize prevS (fun i => PR (alk cc (L.getD i (0, 0, 0)))) i = ps at *
      by_cases c1 : 0 < v
      · rw [if_pos c1, List.map_append]
        simp [k1, k2, k3, k4, ks, ixPR0, cmpD, num_gt, c1, b1, billD, billW]
      · rw [if_neg c1]
        simp [k1, k2, k3, k4, ks, ixPR0, cmpD, num_gt, c1, b2])
  obtain ⟨o, o', o'', ho, ho', ho'', lp⟩ := lp
  rw [List.take_length] at lp
  exact ⟨o, o', o'', _, lp⟩
theorem part_g {a b : Int} (hb : b = 1 ∨ b = 2) (ha : 0 ≤ a ∧ a < 32) : G 8 (Rat.divInt a b) := g_of (j := 5) (by omega) (lt2_of (by omega) (by show a < 32; omega))
theorem pay_s {n : Nat} (hn : 8 ≤ n) {L : List Bill} {q : Int × List Int} (hq : OkR q) (hL : Bok 6 L) (hl : L.length ≤ 5) : ∃ q', OkR q' ∧ callI fu fns n i__law_payments [.tok, .tup (L.map billD)] (some q) = .ok (.bl true) (some q') := by
  obtain ⟨j, rfl⟩ : ∃ j, n = (j + 1) + 1 := ⟨n - 2, by omega⟩
  rw [call_def at__law_payments rfl]
  obtain ⟨a, q1, hq1, ha, t1⟩ := take_x (show 1 ≤ j + 1 by omega) hq (most := 20) (by omega) (by omega)
  obtain ⟨b, q2, hq2, hb, t2⟩ := take_x (show 1 ≤ j + 1 by omega) hq1 (most := 2) (by omega) (by omega)
  have h : Bok 8 L := hL.mono (by omega)
  obtain ⟨B1, hB1⟩ : ∃ B1 : Int, B1 = 1 + (b : Int) := ⟨_, rfl⟩
  have eB : binD .add (.int 1) (.int (b : Int)) = some (.int B1) := by rw [hB1]; rfl
  have t3 := fun r => lpart_s (show 1 ≤ j + 1 by omega) (r := r) (a := (a : Int)) (b := B1) ((lt2_of (k := 12) (by omega) (by show _ < 4096; omega)).mono (by decide)) (by omega)
  have gp := part_g (a := (a : Int)) (b := B1) (by omega) (by omega)
  have h0 : 0 ≤ Rat.divInt (a : Int) B1 := divInt_nonneg (by omega) (by omega)
  generalize Rat.divInt (a : Int) B1 = p at *
  have zp := gp.sz (by omega)
  have k1 := fun r => off_s (show 5 ≤ j + 1 by omega) (r := r) h h0 gp (by omega) (by omega) (by omega)
  have k2 := fun r => law_paid_s (show 4 ≤ j + 1 by omega) (r := r) h h0 gp (by omega) (by omega) (by omega)
  have I := paid_inv h0 gp h
  have hLk := left_ok h0 gp h (n := 5) hl
  have hln := paid_len L p
  have sumL : sumV (paid L p).1 + (p - (paid L p).2.2) = sumV L := by
    rw [I.sum, sumV_perm (sortK_perm L)]
    grind
  have gr : G 13 (paid L p).2.2 := I.gr.mono (by rw [(sortK_perm L).length_eq]; omega)
  have l0 := I.l0
  have eqS := eqD_refl (pst_dok (paid L p))
  have ex0 : ∀ r : Rng, ixD (pstD (paid L p)) (.int 0) r = some (.tup ((paid L p).1.map billD)) := fun _ => rfl
  have ex2 : ∀ r : Rng, ixD (pstD (paid L p)) (.int 2) r = some (PR (paid L p).2.2) := fun _ => rfl
  obtain ⟨S, hS⟩ : ∃ S : D, S = pstD (paid L p) := ⟨_, rfl⟩
  rw [← hS] at eqS ex0 ex2 k1 k2
  obtain ⟨T, hT⟩ : ∃ T : D, T = .tup (L.map billD) := ⟨_, rfl⟩
  have zb : ∀ b ∈ L, Sz 8 b.2.2 := fun b hb => (h.g b hb).sz (by omega)
  have zW := Sz.sumV zb (n := 8) (by omega)
  have zl : ∀ b ∈ (paid L p).1, Sz 13 b.2.2 := fun b hb => (hLk.g b hb).sz (by omega)
  have zWl := Sz.sumV zl (n := 8) (by omega)
  have l4 : ∀ (a3 : Slot) (r : Rng), ev (callI fu fns (j + 1)) l__law_payments_4 ⟨[.val .tok, .val T, .val (PR p), a3, .uns, .uns, .uns, .uns, .uns, .uns, .uns, .uns], r⟩ = .ok (.lst ((L.map val).map PR)) ⟨[.val .tok, .val T, .val (PR p), a3, .uns, .uns, .uns, .uns, .uns, .uns, .uns, .uns], r⟩ := fun a3 r => vals_s (ix := 11) (by simp) (evi_seqT (by simp [hT])) (by omega)
  have k3 := fun r => ltotal_s (show 4 ≤ j + 1 by omega) (r := r) (xs := L.map val) (k := 8) (fun x hx => by
    obtain ⟨b, hb, rfl⟩ := List.mem_map.mp hx
    exact zb b hb) (by rw [List.length_map]; omega)
  rw [show sumR (L.map val) = sumV L from rfl] at k3
  have l3 : ∀ (a4 : Slot) (r : Rng), ev (callI fu fns (j + 1)) l__law_payments_3 ⟨[.val .tok, .val T, .val (PR p), .val S, a4, .uns, .uns, .uns, .uns, .uns, .uns, .uns], r⟩ = .ok (.lst (((paid L p).1.map val).map PR)) ⟨[.val .tok, .val T, .val (PR p), .val S, a4, .uns, .uns, .uns, .uns, .uns, .uns, .uns], r⟩ := fun a4 r => vals_s (ix := 11) (by simp) (evi_seqT (by simp [ex0])) (by omega)
  have k4 := fun r => ltotal_s (show 4 ≤ j + 1 by omega) (r := r) (xs := (paid L p).1.map val) (k := 13) (fun x hx => by
    obtain ⟨b, hb, rfl⟩ := List.mem_map.mp hx
    exact zl b hb) (by rw [List.length_map]; omega)
  rw [show sumR ((paid L p).1.map val) = sumV (paid L p).1 from rfl] at k4
  have k5 := fun r => lneg_s (show 1 ≤ j + 1 by omega) (x := (paid L p).2.2) (r := r)
  have k6 := fun r => ladd_s (show 3 ≤ j + 1 by omega) (r := r) zp (gr.sz (by omega)).neg (by omega)
  have k7 := fun r => ladd_s (show 3 ≤ j + 1 by omega) (r := r) zWl (zp.add (gr.sz (by omega)).neg) (by omega)
  rw [show sumV (paid L p).1 + (p + -(paid L p).2.2) = sumV L by rw [← sumL]; grind] at k7
  have k8 := fun r => bills_s (show 5 ≤ j + 1 by omega) (r := r) hLk (by omega) (by omega) (by omega)
  have p0 : D.tup [.int 0, .int 1] = PR 0 := rfl
  have eN : eqD (.tup []) (.tup []) = some true := by decide +kernel
  have lenL : ∀ r : Rng, bltD .len [.tup ((paid L p).1.map billD)] r = some (.int ((paid L p).1.length : Int)) := fun r => by simp [bltD]
  have k9 := fun r => lless_s (show 1 ≤ j + 1 by omega) (r := r) zW zp (by omega)
  have wp := wref "part" (by decide +kernel)
  have hcase : ((paid L p).1 = [] ∧ (paid L p).2.2 = 0) ∨ ((paid L p).1 = [] ∧ ¬ (paid L p).2.2 = 0) ∨ (¬ (paid L p).1 = [] ∧ (paid L p).2.2 = 0) := by
    by_cases c1 : (paid L p).1 = []
    · by_cases c2 : (paid L p).2.2 = 0
      · exact .inl ⟨c1, c2⟩
      · exact .inr (.inl ⟨c1, c2⟩)
    · exact .inr (.inr ⟨c1, l0 c1⟩)
  have hpos : ¬ (paid L p).1 = [] → (0 : Int) < ((paid L p).1.length : Int) := fun z => by have := List.length_pos_iff.mpr z; omega
  refine ⟨q2, hq2, ?_⟩
  by_cases cw : sumV L < p
  · have x1 := fun r => lword_s (n := j) (ds := [T, PR p]) (by simp) (by rw [hT]; exact alike_x (show 5 ≤ j by omega) h zp (by omega) (by omega) (by omega) (.inl cw) (r := r))
    have x2 := fun r => lword_s (n := j) (ds := [T, PR wm12]) (by simp) (by rw [hT]; exact alike_x (show 5 ≤ j by omega) h (wm12z.mono (by omega)) (by omega) (by omega) (by omega) (.inr wm12n) (r := r))
    rw [← hT] at k1 k2 ⊢
    have pm := pm12
    generalize hV : (L.map val).map PR = V at *
    generalize hV2 : ((paid L p).1.map val).map PR = V2 at *
    generalize hLD : (paid L p).1.map billD = LD at *
    generalize (paid L p).2.2 = rs at *
    generalize sumV (paid L p).1 = WL at *
    rcases hcase with ⟨c1, c2⟩ | ⟨c1, c2⟩ | ⟨c1, c2⟩
    · have n1 : ((paid L p).1.length : Int) = 0 := by rw [c1]; rfl
      rw [n1] at lenL
      have c2 := eq_true c2
      simp [f__law_payments, b__law_payments, startS, t1, t2, eB, t3, k1, k2, l4, k3, cmpD, eqS, l3, ex0, ex2, k4, k5, k6, k7, eqPR, p0, c2, lenL, k9, cw, x1, x2, pm, wp]
    · have n1 : ((paid L p).1.length : Int) = 0 := by rw [c1]; rfl
      rw [n1] at lenL
      have nl : LD = [] := by rw [← hLD, c1]; rfl
      subst nl
      simp [f__law_payments, b__law_payments, startS, t1, t2, eB, t3, k1, k2, l4, k3, cmpD, eqS, l3, ex0, ex2, k4, k5, k6, k7, eqPR, p0, c2, eN, lenL, k9, cw, x1, x2, pm, wp]
    · have n1 := hpos c1
      have c2 := eq_true c2
      generalize ((paid L p).1.length : Int) = N at *
      simp [f__law_payments, b__law_payments, startS, t1, t2, eB, t3, k1, k2, l4, k3, cmpD, eqS, l3, ex0, ex2, k4, k5, k6, k7, eqPR, p0, c2, lenL, n1, k8, isD, k9, cw, x1, x2, pm, wp]
  · have x1 := fun r => alike_s (show 5 ≤ j + 1 by omega) (r := r) h h0 zp (by omega) (by omega) (by omega) cw
    have hd := fun (r : Rng) (a0 a3 a5 : Slot) => due_loop (m := j + 1) (by omega) (r := r) (a0 := a0) (a3 := a3) (a5 := a5) h h0 zp (by omega) (by omega) (show L.length ≤ 8 by omega)
    have sa : sumV (alike (p / sumV L) L) + p = sumV L := by
      by_cases c : L = []
      · have e0 : sumV L = 0 := by rw [c]; rfl
        have e1 : alike (p / sumV L) L = [] := by rw [c]; rfl
        rw [e1, e0, sumV_nil]
        rw [e0] at cw
        grind
      · have hWp := sumV_pos c h.pos
        have hc : p / sumV L ≤ 1 := by
          have e : p / sumV L * sumV L = p := div_mul' hWp
          by_cases z : p / sumV L ≤ 1
          · exact z
          · have : 0 < (p / sumV L - 1) * sumV L := Rat.mul_pos (by grind) hWp
            grind
        rw [alike_sum hc L h.pos]
        have e : sumV L * (p / sumV L) = p := by have := div_mul' (a := p) hWp; grind
        rw [e]; grind
    have za : ∀ b ∈ alike (p / sumV L) L, Sz 98 b.2.2 := fun b hb => by
      obtain ⟨b', hb', rfl⟩ := List.mem_map.mp hb
      have hb' := (List.mem_filter.mp hb').1
      have hWp := sumV_pos (fun z => by rw [z] at hb'; cases hb') h.pos
      exact ((zb b' hb').sub ((zb b' hb').mul (zp.div zW hWp))).mono (by omega)
    have hal := alike_len (p / sumV L) L
    have k10 := fun r => ltotal_s (show 4 ≤ j + 1 by omega) (r := r) (xs := (alike (p / sumV L) L).map val) (k := 98) (fun x hx => by
      obtain ⟨b, hb, rfl⟩ := List.mem_map.mp hx
      exact za b hb) (by rw [List.length_map]; omega)
    rw [show sumR ((alike (p / sumV L) L).map val) = sumV (alike (p / sumV L) L) from rfl] at k10
    have zA := Sz.sumV za (n := 8) (by omega)
    have k11 := fun r => ladd_s (show 3 ≤ j + 1 by omega) (r := r) zA zp (by omega)
    rw [sa] at k11
    have k12 := fun r => over_part_s (show 4 ≤ j + 1 by omega) (r := r) zp w23z (by omega) w23p
    have k13 := fun r => lover_s (show 3 ≤ j + 1 by omega) (r := r) zp w23z (by omega) w23p
    have eA := eqD_refl (bills_dok (alike (p / sumV L) L))
    obtain ⟨AT, hAT⟩ : ∃ AT : List D, AT = (alike (p / sumV L) L).map billD := ⟨_, rfl⟩
    have l1 : ∀ (a0 a1 a2 a3 a4 a6 a7 a8 a9 a10 : Slot) (r : Rng), ev (callI fu fns (j + 1)) l__law_payments_1 ⟨[a0, a1, a2, a3, a4, .val (.tup AT), a6, a7, a8, a9, a10, .uns], r⟩ = .ok (.lst (((alike (p / sumV L) L).map val).map PR)) ⟨[a0, a1, a2, a3, a4, .val (.tup AT), a6, a7, a8, a9, a10, .uns], r⟩ := fun _ _ _ _ _ _ _ _ _ _ r => vals_s (ix := 11) (by simp) (evi_seqT (by simp [hAT])) (by omega)
    rw [← hT] at k1 k2 x1 ⊢
    simp only [← hT] at hd
    rw [← hAT] at x1 eA
    simp only [← hAT] at hd
    obtain ⟨o, o', o'', o3, lp⟩ := hd (some q2) (.val .tok) (.val S) (.val (.tup AT))
    have tl : ∀ (xs : List D) (r : Rng), bltD .tuple [.lst xs] r = some (.tup xs) := fun _ _ => rfl
    have p3 := p23
    generalize hV : (L.map val).map PR = V at *
    generalize hV2 : ((paid L p).1.map val).map PR = V2 at *
    generalize ((alike (p / sumV L) L).map val).map PR = V3 at *
    generalize sumV (alike (p / sumV L) L) = WA at *
    generalize hLD : (paid L p).1.map billD = LD at *
    generalize (paid L p).2.2 = rs at *
    generalize sumV (paid L p).1 = WL at *
    rcases hcase with ⟨c1, c2⟩ | ⟨c1, c2⟩ | ⟨c1, c2⟩
    · have n1 : ((paid L p).1.length : Int) = 0 := by rw [c1]; rfl
      rw [n1] at lenL
      have c2 := eq_true c2
      simp [f__law_payments, b__law_payments, startS, t1, t2, eB, t3, k1, k2, l4, k3, cmpD, eqS, l3, ex0, ex2, k4, k5, k6, k7, eqPR, p0, c2, lenL, k9, cw, x1, lp, tl, eA, l1, k10, k11, p3, k12, k13]
    · have n1 : ((paid L p).1.length : Int) = 0 := by rw [c1]; rfl
      rw [n1] at lenL
      have nl : LD = [] := by rw [← hLD, c1]; rfl
      subst nl
      simp [f__law_payments, b__law_payments, startS, t1, t2, eB, t3, k1, k2, l4, k3, cmpD, eqS, l3, ex0, ex2, k4, k5, k6, k7, eqPR, p0, c2, eN, lenL, k9, cw, x1, lp, tl, eA, l1, k10, k11, p3, k12, k13]
    · have n1 := hpos c1
      have c2 := eq_true c2
      generalize ((paid L p).1.length : Int) = N at *
      simp [f__law_payments, b__law_payments, startS, t1, t2, eB, t3, k1, k2, l4, k3, cmpD, eqS, l3, ex0, ex2, k4, k5, k6, k7, eqPR, p0, c2, lenL, n1, k8, isD, k9, cw, x1, lp, tl, eA, l1, k10, k11, p3, k12, k13]
end M53


namespace M53
open Vi PySem
theorem bSub (i j : Int) : binD .sub (.int i) (.int j) = some (.int (i - j)) := Eq.trans rfl rfl
theorem bAdd (i j : Int) : binD .add (.int i) (.int j) = some (.int (i + j)) := Eq.trans rfl rfl
/-- how many steps a bill of day w is past -/
def cn (d : Int) (st : Nat → Int) (q : Nat) (w : Int) : Nat := ((List.range q).filter fun k => decide (st k ≤ d - w)).length
theorem cn_le (d : Int) (st : Nat → Int) (q : Nat) (w : Int) : cn d st q w ≤ q := by
  have := List.length_filter_le (fun k => decide (st k ≤ d - w)) (List.range q)
  rwa [List.length_range] at this
def ageT (d : Int) (st : Nat → Int) (q : Nat) (L : List Bill) : Nat → Rat := L.foldl (fun f b => upd f (cn d st q b.1) (f (cn d st q b.1) + b.2.2)) (fun _ => 0)
theorem ageT_snoc (d : Int) (st : Nat → Int) (q : Nat) (L : List Bill) (b : Bill) : ageT d st q (L ++ [b]) = upd (ageT d st q L) (cn d st q b.1) (ageT d st q L (cn d st q b.1) + b.2.2) := by
  unfold ageT; rw [List.foldl_append]; rfl
theorem ageT_g {d : Int} {st : Nat → Int} {q k : Nat} : ∀ L : List Bill, (∀ b ∈ L, G k b.2.2) → ∀ j, G (k + L.length) (ageT d st q L j) := by
  intro L
  induction L using snoc_ind with
  | nil => intro _ j; exact G.zero
  | snoc L b ih =>
    intro h j
    have ih := ih fun x hx => h x (List.mem_append_left _ hx)
    have gb := h b (by simp)
    rw [ageT_snoc]
    have e : k + (L ++ [b]).length = k + L.length + 1 := by simp; omega
    rw [e]
    unfold upd
    split
    · exact (ih _).add (gb.mono (by omega))
    · exact (ih j).mono (by omega)
theorem ageT_one (d : Int) (st : Nat → Int) : ∀ L : List Bill, ageT d st 0 L 0 = sumV L := by
  intro L
  induction L using snoc_ind with
  | nil => rfl
  | snoc L b ih =>
    rw [ageT_snoc, sumV_snoc, ← ih]
    rfl
theorem ge_dec {i j : Int} : cmpD .ge (.int i) (.int j) = some (decide (j ≤ i)) := rfl
theorem rep0 (q : Nat) : List.replicate q (0 : Rat) = rngM (fun _ => 0) q := by
  unfold rngM
  rw [List.map_const', List.length_range]
theorem by_age_s {n : Nat} (hn : 4 ≤ n) {L : List Bill} {d : Int} {st : Nat → Int} {q k : Nat} {r : Rng} (h : Bok k L) (k3 : 3 ≤ k) (hk : k ≤ 100) (hl : L.length ≤ 8) (hq : q ≤ 3) :
    callI fu fns n i_by_age [.tup (L.map billD), .int d, .lst (rngI st q)] r = .ok (.lst ((rngM (ageT d st q L) (q + 1)).map PR)) r := by
  obtain ⟨m, rfl⟩ : ∃ m, n = m + 1 := ⟨n - 1, by omega⟩
  rw [call_def at_by_age rfl]
  obtain ⟨T, hT⟩ : ∃ T : D, T = .tup (L.map billD) := ⟨_, rfl⟩
  have lp := forT3 (cl := callI fu fns m) (fu := fu) (W1 := fun b : Bill => .int b.1) (W2 := fun b => nmD b.2.1) (W3 := fun b => PR b.2.2) (ix := 4) (iy := 5) (iz := 6) (it := .seq (.var 0)) (b := (.cons (.set 7 false (.blt .len (.cons l_by_age_1 .nil))) (.cons (.sto 3 (.var 7) (.call (Str.ofString "plus") 2 (.cons (.ix (.pk 3) (.var 7)) (.cons (.var 6) .nil)))) .nil))) (xs := L) (r := r) (o1 := .uns) (o2 := .uns) (o3 := .uns)
    (fun i o o' o'' => [.val T, .val (.int d), .val (.lst (rngI st q)), .own ((rngM (ageT d st q (L.take i)) (q + 1)).map PR), o, o', o'', prevS (fun i => .int (cn d st q (L.getD i (0, 0, 0)).1 : Int)) i, .uns]) .uns .uns .uns rfl (evi_seqT (xs := L.map billD) (by simp [hT])) rfl rfl (fun i o o' o'' d d' d'' h1 h2 h3 => by
      rcases h1 with rfl | ⟨_, rfl⟩ <;> rcases h2 with rfl | ⟨_, rfl⟩ <;> rcases h3 with rfl | ⟨_, rfl⟩ <;> rfl) (fun i b hb => by
      have hm := List.mem_of_getElem? hb
      have hi : i < L.length := (List.getElem?_eq_some_iff.mp hb).1
      have zt := (h.g b hm).sz k3
      have gf := ageT_g (d := d) (st := st) (q := q) (k := k) (L.take i) (fun b hb => h.g b (List.mem_of_mem_take hb)) (cn d st q b.1)
      have zf := (gf.mono (show _ ≤ k + 8 by rw [List.length_take]; omega)).sz (by omega)
      have a1 := fun r => plus_s (show 3 ≤ m by omega) (r := r) zf zt (by omega)
      have hcn := cn_le d st q b.1
      have ix1 := ixRng (g := ageT d st q (L.take i)) (show cn d st q b.1 < q + 1 by omega) r
      rw [take_snoc hb, ageT_snoc, prevS_s]
      have hg : (fun i => (D.int (cn d st q (L.getD i (0, 0, 0)).1 : Int))) i = .int (cn d st q b.1 : Int) := by simp only [List.getD, hb, Option.getD_some]
      simp only [] at hg
      rw [hg]
      have l1 : ∀ (a3 a7 : Slot), ev (callI fu fns m) l_by_age_1 ⟨[.val T, .val (.int d), .val (.lst (rngI st q)), a3, .val (.int b.1), .val (nmD b.2.1), .val (PR b.2.2), a7, .uns], r⟩ = .ok (.lst (((List.range q).filter fun k => decide (st k ≤ d - b.1)).map fun k => .int (st k))) ⟨[.val T, .val (.int d), .val (.lst (rngI st q)), a3, .val (.int b.1), .val (nmD b.2.1), .val (PR b.2.2), a7, .uns], r⟩ := fun a3 a7 =>
        lcSF (W := fun k : Nat => D.int (st k)) (xs := List.range q) (fun k => decide (st k ≤ d - b.1)) (fun k => .int (st k)) (by simp) (seqI (by simp)) (by simp; omega) (fun k hk sl2 s hx => by
          have b1 := s.v (j := 1) rfl (by decide)
          have b4 := s.v (j := 4) rfl (by decide)
          simp [hx, b1, b4, bSub, ge_dec]) (fun k hk sl2 s hx => ⟨_, by simp [hx]; rfl⟩)
      have ln : ∀ r : Rng, bltD .len [.lst (((List.range q).filter fun k => decide (st k ≤ d - b.1)).map fun k => .int (st k))] r = some (.int (cn d st q b.1 : Int)) := fun r => by simp [bltD, cn]
      have ks : ∀ (v : D) (a0 a1 a2 a3 a4 a5 a6 a8 : Slot) (r : Rng), ksetS 7 false v ⟨[a0, a1, a2, a3, a4, a5, a6, prevS (fun i => .int (cn d st q (L.getD i (0, 0, 0)).1 : Int)) i, a8], r⟩ = .next ⟨[a0, a1, a2, a3, a4, a5, a6, .val v, a8], r⟩ := fun _ _ _ _ _ _ _ _ _ r => kset0 (by simp [nlck_pS])
      have kb := fun (v : Rat) (sl : List Slot) (r : Rng) (hh : sl[3]? = some (.own ((rngM (ageT d st q (L.take i)) (q + 1)).map PR))) => ksto2Q (v := v) (r := r) hh (show cn d st q b.1 < q + 1 by omega)
      generalize ((List.range q).filter fun k => decide (st k ≤ d - b.1)).map (fun k => D.int (st k)) = CL at *
      generalize cn d st q b.1 = c at *
      generalize ageT d st q (L.take i) = f at *
      generalize prevS (fun i => (D.int (cn d st q (L.getD i (0, 0, 0)).1 : Int))) i = ps at *
      simp [l1, ln, ks, ix1, a1, xsto, ksto_, kb])
  obtain ⟨o, o', o'', ho, ho', ho'', lp⟩ := lp
  rw [List.take_length] at lp
  have lp : exs (callI fu fns m) fu l_by_age_2 ⟨[.val T, .val (.int d), .val (.lst (rngI st q)), .own ((rngM (fun _ => 0) (q + 1)).map PR), .uns, .uns, .uns, .uns, .uns], r⟩ = .next ⟨[.val T, .val (.int d), .val (.lst (rngI st q)), .own ((rngM (ageT d st q L) (q + 1)).map PR), o, o', o'', prevS (fun i => .int (cn d st q (L.getD i (0, 0, 0)).1 : Int)) L.length, .uns], r⟩ := lp
  have p0 : D.tup [.int 0, .int 1] = PR 0 := rfl
  have mr := mulRep 0 (q := q + 1) (by omega)
  rw [rep0] at mr
  have eq1 : binD .add (.int (q : Int)) (.int 1) = some (.int ((q + 1 : Nat) : Int)) := rfl
  rw [← hT]
  generalize ((q + 1 : Nat) : Int) = Q at *
  simp [f_by_age, b_by_age, startS, lenI, eq1, p0, mr, lp]
def doubtF (f sh : Nat → Rat) (q : Nat) : Rat := gsum (fun k => f k * sh k) q
theorem doubt_s {n : Nat} (hn : 5 ≤ n) {L : List Bill} {d : Int} {st : Nat → Int} {q k : Nat} {sh : Nat → Rat} {r : Rng} (h : Bok k L) (k3 : 3 ≤ k) (hk : k ≤ 60) (hl : L.length ≤ 8) (hq : q ≤ 3) (zs : ∀ i, i < q + 1 → Sz 12 (sh i)) :
    callI fu fns n i_doubtful [.tup (L.map billD), .int d, .lst (rngI st q), .lst ((rngM sh (q + 1)).map PR)] r = .ok (PR (doubtF (ageT d st q L) sh (q + 1))) r := by
  obtain ⟨m, rfl⟩ : ∃ m, n = m + 1 := ⟨n - 1, by omega⟩
  rw [call_def at_doubtful rfl]
  have k1 := fun r => by_age_s (show 4 ≤ m by omega) (r := r) (d := d) (st := st) h k3 (by omega) hl hq
  have zf : ∀ j, Sz (k + 8) (ageT d st q L j) := fun j => ((ageT_g L h.g j).mono (by omega)).sz (by omega)
  obtain ⟨T, hT⟩ : ∃ T : D, T = .tup (L.map billD) := ⟨_, rfl⟩
  rw [← hT] at k1 ⊢
  generalize ageT d st q L = f at *
  have l1 : ∀ r : Rng, ev (callI fu fns m) l_doubtful_1 ⟨[.val T, .val (.int d), .val (.lst (rngI st q)), .val (.lst ((rngM sh (q + 1)).map PR)), .val (.lst ((rngM f (q + 1)).map PR)), .uns], r⟩ = .ok (.lst ((rngM (fun k => f k * sh k) (q + 1)).map PR)) ⟨[.val T, .val (.int d), .val (.lst (rngI st q)), .val (.lst ((rngM sh (q + 1)).map PR)), .val (.lst ((rngM f (q + 1)).map PR)), .uns], r⟩ := fun r => by
    rw [← rngM_PR (fun k => f k * sh k)]
    exact lcR _ (by simp) (by simp [lenQ]) (by omega) fun i hi sl2 s hx => ⟨_, by
      have b3 := s.v (j := 3) rfl (by decide)
      have b4 := s.v (j := 4) rfl (by decide)
      have i1 := ixRng (g := f) hi r
      have i2 := ixRng (g := sh) hi r
      have a1 := fun r => times_s (show 3 ≤ m by omega) (r := r) (zf i) (zs i hi) (by omega)
      simp [hx, b3, b4, i1, i2, a1]; rfl⟩
  have k2 := fun r => total_s (show 4 ≤ m by omega) (r := r) (xs := rngM (fun k => f k * sh k) (q + 1)) (k := k + 8 + 12) (rngM_mem fun i hi => (zf i).mul (zs i hi)) (by
    rw [rngM_len]
    have := Nat.mul_le_mul (show q + 1 ≤ 4 by omega) (show k + 8 + 12 + 1 ≤ 81 by omega)
    omega)
  rw [rngM_sum] at k2
  rw [show gsum (fun k => f k * sh k) (q + 1) = doubtF f sh (q + 1) from rfl] at k2
  have eq1 : binD .add (.int (q : Int)) (.int 1) = some (.int ((q + 1 : Nat) : Int)) := rfl
  have eL := lenQ sh (q + 1)
  generalize ((q + 1 : Nat) : Int) = Q at *
  simp [f_doubtful, b_doubtful, startS, lenI, eL, eq1, cmpD, eqI, k1, l1, k2]
theorem doubt_x {n : Nat} (hn : 1 ≤ n) {T : D} {d : Int} {st sh : Nat → Int} {g : Nat → Rat} {r : Rng} : callI fu fns n i_doubtful [T, .int d, .lst (rngI st 3), .lst ((rngM g 3).map PR)] r = .exc (er "shares") r := by
  obtain ⟨m, rfl⟩ : ∃ m, n = m + 1 := ⟨n - 1, by omega⟩
  rw [call_def at_doubtful rfl]
  have ok : exOk 2 [wd "shares"] = true := by decide +kernel
  have e1 : cmpD .ne (.int ((3 : Nat) : Int)) (.int (((3 : Nat) : Int) + 1)) = some true := by decide +kernel
  have eL := lenQ g 3 r
  have eI := lenI st 3 r
  generalize ((3 : Nat) : Int) = N at *
  simp [f_doubtful, b_doubtful, startS, eI, eL, bAdd, e1, ok, er]
theorem due_s {n : Nat} (hn : 4 ≤ n) {b : Bill} {d e : Int} {s : Rat} {k : Nat} {r : Rng} (zb : Sz k b.2.2) (zs : Sz 12 s) (hk : k ≤ 100) : callI fu fns n i_due [billD b, .int d, .int e, PR s] r = .ok (PR (if d - b.1 ≤ e then b.2.2 * (1 - s) else b.2.2)) r := by
  obtain ⟨m, rfl⟩ : ∃ m, n = m + 1 := ⟨n - 1, by omega⟩
  rw [call_def at_due rfl]
  have i0 : ∀ r : Rng, ixD (billD b) (.int 0) r = some (.int b.1) := fun _ => rfl
  have i2 : ∀ r : Rng, ixD (billD b) (.int 2) r = some (PR b.2.2) := fun _ => rfl
  have p1 : D.tup [.int 1, .int 1] = PR 1 := rfl
  have k1 := fun r => minus_s (show 3 ≤ m by omega) (r := r) sz11 zs (by omega)
  have k2 := fun r => times_s (show 3 ≤ m by omega) (r := r) zb (sz11.sub zs) (by omega)
  by_cases c : d - b.1 ≤ e
  · have c1 : cmpD .le (.int (d - b.1)) (.int e) = some true := by simp [cmpD, c]
    rw [if_pos c]
    simp [f_due, b_due, startS, i0, i2, p1, bSub, c1, k1, k2]
  · have c1 : cmpD .le (.int (d - b.1)) (.int e) = some false := by simp [cmpD]; omega
    rw [if_neg c]
    simp [f_due, b_due, startS, i0, i2, p1, bSub, c1]
theorem early_s {n : Nat} (hn : 5 ≤ n) {s : Rat} {a b : Int} {r : Rng} (zs : Sz 12 s) (h0 : 0 < s) (h1 : s < 1) (hab : a < b) : callI fu fns n i_early_rate [PR s, .int a, .int b] r = .ok (PR (s / (1 - s))) r := by
  obtain ⟨m, rfl⟩ : ∃ m, n = m + 1 := ⟨n - 1, by omega⟩
  rw [call_def at_early_rate rfl]
  have p1 : D.tup [.int 1, .int 1] = PR 1 := rfl
  have k1 := fun r => minus_s (show 3 ≤ m by omega) (r := r) sz11 zs (by omega)
  have k2 := fun r => over_part_s (show 4 ≤ m by omega) (r := r) zs (sz11.sub zs) (by omega) (by grind)
  have k3 := fun r => is_less_s (show 1 ≤ m by omega) (r := r) zs sz11 (by omega)
  have n0 := num_pos' h0
  have c1 : cmpD .le (.int s.num) (.int 0) = some false := by simp [cmpD]; omega
  have c2 : cmpD .le (.int b) (.int a) = some false := by simp [cmpD]; omega
  simp [f_early_rate, b_early_rate, startS, ixPR0, c1, p1, k3, h1, c2, k1, k2]
theorem early_x {n : Nat} (hn : 2 ≤ n) {s : Rat} {a b : Int} {r : Rng} (zs : Sz 12 s) (h : s = 0 ∨ s = 1 ∨ (0 < s ∧ s < 1 ∧ b ≤ a)) : callI fu fns n i_early_rate [PR s, .int a, .int b] r = .exc (er "share") r := by
  obtain ⟨m, rfl⟩ : ∃ m, n = m + 1 := ⟨n - 1, by omega⟩
  rw [call_def at_early_rate rfl]
  have p1 : D.tup [.int 1, .int 1] = PR 1 := rfl
  have ok : exOk 2 [wd "share"] = true := by decide +kernel
  have k3 := fun r => is_less_s (show 1 ≤ m by omega) (r := r) zs sz11 (by omega)
  rcases h with rfl | rfl | ⟨h0, h1, h2⟩
  · have c1 : cmpD .le (.int 0) (.int 0) = some true := by decide
    simp only [f_early_rate, b_early_rate]
    simp [startS, ixPR0, ok, er, c1]
  · have c1 : cmpD .le (.int 1) (.int 0) = some false := by decide
    have nl : ((1 : Rat) < 1) = False := eq_false (by grind)
    simp only [f_early_rate, b_early_rate]
    simp [startS, ixPR0, ok, er, c1, p1, k3, nl]
  · have n0 := num_pos' h0
    have c1 : cmpD .le (.int s.num) (.int 0) = some false := by simp [cmpD]; omega
    have c2 : cmpD .le (.int b) (.int a) = some true := by simp [cmpD]; omega
    simp [f_early_rate, b_early_rate, startS, ixPR0, c1, p1, k3, h1, c2, ok, er]
end M53


namespace M53
open Vi PySem
def ageV (d : Int) (b : Bill) : Rat := b.2.2 * ((d - b.1 : Int) : Rat)
def ageS (d : Int) (L : List Bill) : Rat := sumR (L.map (ageV d))
theorem sz_day {d w : Int} (h1 : -200 < d - w) (h2 : d - w < 200) : Sz 8 ((d - w : Int) : Rat) := szZ (lt2_of (by show -256 < _; omega) (by show _ < 256; omega)) (by omega)
theorem mean_s {n : Nat} (hn : 5 ≤ n) {L : List Bill} {d : Int} {k : Nat} {r : Rng} (h : Bok k L) (k3 : 3 ≤ k) (hk : k ≤ 60) (hl : L.length ≤ 8) (hd : 0 ≤ d ∧ d < 100) (hne : L ≠ []) : callI fu fns n i_mean_age [.tup (L.map billD), .int d] r = .ok (PR (ageS d L / sumV L)) r := by
  obtain ⟨m, rfl⟩ : ∃ m, n = m + 1 := ⟨n - 1, by omega⟩
  rw [call_def at_mean_age rfl]
  obtain ⟨T, hT⟩ : ∃ T : D, T = .tup (L.map billD) := ⟨_, rfl⟩
  have l2 : ∀ r : Rng, ev (callI fu fns m) l_mean_age_2 ⟨[.val T, .val (.int d), .uns, .uns, .uns, .uns, .uns], r⟩ = .ok (.lst ((L.map val).map PR)) ⟨[.val T, .val (.int d), .uns, .uns, .uns, .uns, .uns], r⟩ := fun r => vals_s (ix := 3) (by simp) (evi_seqT (by simp [hT])) (by omega)
  have zb : ∀ b ∈ L, Sz k b.2.2 := fun b hb => (h.g b hb).sz k3
  have t1 := fun r => total_s (show 4 ≤ m by omega) (r := r) (xs := L.map val) (k := k) (fun x hx => by
    obtain ⟨b, hb, rfl⟩ := List.mem_map.mp hx
    exact zb b hb) (by
      rw [List.length_map]
      have := Nat.mul_le_mul hl (show k + 1 ≤ 61 by omega)
      omega)
  rw [show sumR (L.map val) = sumV L from rfl] at t1
  have zW := Sz.sumV zb hl
  have zd : ∀ b ∈ L, Sz 8 ((d - b.1 : Int) : Rat) := fun b hb => by
    have := h.day b hb
    exact sz_day (by omega) (by omega)
  have l1 : ∀ (a2 : Slot) (r : Rng), ev (callI fu fns m) l_mean_age_1 ⟨[.val T, .val (.int d), a2, .uns, .uns, .uns, .uns], r⟩ = .ok (.lst ((L.map (ageV d)).map PR)) ⟨[.val T, .val (.int d), a2, .uns, .uns, .uns, .uns], r⟩ := fun a2 r => by
    rw [List.map_map]
    exact lcN (W := billW) (xs := L) _ (by decide) (fun j => Iff.rfl) (by simp) (fun _ _ => rfl) (evi_seqT (xs := L.map billD) (by simp [hT])) (by omega) fun b hb sl2 s hx => by
      have b1 := s.v (j := 1) rfl (by decide)
      have b4 := hx 0 4 _ rfl rfl
      have b6 := hx 2 6 _ rfl rfl
      have a1 := fun r => times_s (show 3 ≤ m by omega) (r := r) (zb b hb) (zd b hb) (by omega)
      rw [show b.2.2 * ((d - b.1 : Int) : Rat) = ageV d b from rfl] at a1
      have pz := prZ (d - b.1)
      generalize ((d - b.1 : Int) : Rat) = dr at *
      exact ⟨_, by simp [b1, b4, b6, bSub, pz, a1]; rfl⟩
  have k1 := fun r => total_s (show 4 ≤ m by omega) (r := r) (xs := L.map (ageV d)) (k := k + 8) (fun x hx => by
    obtain ⟨b, hb, rfl⟩ := List.mem_map.mp hx
    exact (zb b hb).mul (zd b hb)) (by
      rw [List.length_map]
      have := Nat.mul_le_mul hl (show k + 8 + 1 ≤ 70 by omega)
      omega)
  have zA : Sz (8 * (k + 8 + 1) + 1) (ageS d L) := Sz.sum 8 (by rw [List.length_map]; exact hl) fun x hx => by
    obtain ⟨b, hb, rfl⟩ := List.mem_map.mp hx
    exact (zb b hb).mul (zd b hb)
  rw [show sumR (L.map (ageV d)) = ageS d L from rfl] at k1
  have hWp := sumV_pos hne h.pos
  have hWn : ¬ (sumV L).num = 0 := fun z => by rw [num0] at z; rw [z] at hWp; grind
  have k2 := fun r => over_part_s (show 4 ≤ m by omega) (r := r) zA zW (by omega) hWp
  rw [← hT]
  generalize (L.map val).map PR = V at *
  generalize (L.map (ageV d)).map PR = V2 at *
  generalize sumV L = W at *
  generalize ageS d L = A at *
  simp [f_mean_age, b_mean_age, startS, l2, t1, ixPR0, cmpD, eqI, hWn, l1, k1, k2]
theorem mean_x {n : Nat} (hn : 5 ≤ n) {d : Int} {r : Rng} : callI fu fns n i_mean_age [.tup [], .int d] r = .exc (er "none") r := by
  obtain ⟨m, rfl⟩ : ∃ m, n = m + 1 := ⟨n - 1, by omega⟩
  rw [call_def at_mean_age rfl]
  have l2 : ∀ r : Rng, ev (callI fu fns m) l_mean_age_2 ⟨[.val (.tup []), .val (.int d), .uns, .uns, .uns, .uns, .uns], r⟩ = .ok (.lst (([] : List Rat).map PR)) ⟨[.val (.tup []), .val (.int d), .uns, .uns, .uns, .uns, .uns], r⟩ := fun r => vals_s (L := []) (ix := 3) (by simp) (evi_seqT (by simp)) (by simp)
  have t1 := fun r => total_s (show 4 ≤ m by omega) (r := r) (xs := []) (k := 1) (by simp) (by simp)
  rw [show sumR [] = 0 from rfl] at t1
  have ok : exOk 2 [wd "none"] = true := by decide +kernel
  have n0 : ((0 : Rat).num) = 0 := rfl
  simp only [List.map_nil] at l2 t1
  simp [f_mean_age, b_mean_age, startS, l2, t1, ixPR0, cmpD, eqI, n0, ok, er]
/-- the law's own count -/
theorem cnt_loop {m : Nat} {d w : Int} {st : Nat → Int} {r : Rng} {a0 a1 a2 a3 a4 a5 a6 a10 a11 o13 a14 a15 a16 a17 a18 a19 : Slot} (ho : Fre o13) :
    exs (callI fu fns m) fu l__law_ages_6 ⟨[a0, a1, a2, a3, a4, a5, a6, .val (.int d), .val (.lst (rngI st 3)), .val (.int w), a10, a11, .val (.int 0), o13, a14, a15, a16, a17, a18, a19], r⟩ =
      .next ⟨[a0, a1, a2, a3, a4, a5, a6, .val (.int d), .val (.lst (rngI st 3)), .val (.int w), a10, a11, .val (.int (cn d st 3 w : Int)), .val (.int (st 2)), a14, a15, a16, a17, a18, a19], r⟩ := by
  unfold l__law_ages_6
  refine Eq.trans (Vi.forM (fun k => .int (st k)) (xs := List.range 3) (r := r) (o0 := o13) (fun i o => [a0, a1, a2, a3, a4, a5, a6, .val (.int d), .val (.lst (rngI st 3)), .val (.int w), a10, a11, .val (.int ((((List.range i).filter fun k => decide (st k ≤ d - w)).length : Nat) : Int)), o, a14, a15, a16, a17, a18, a19]) ho rfl (seqI (by simp)) rfl rfl (fun _ _ => rfl) (fun _ _ _ => rfl) fun i k hk => ?_) rfl
  obtain ⟨hi, rfl⟩ := List.getElem?_eq_some_iff.mp hk
  simp only [List.getElem_range]
  rw [List.range_succ, List.filter_append, List.length_append]
  generalize ((List.range i).filter fun k => decide (st k ≤ d - w)).length = c
  by_cases e : st i ≤ d - w
  · have e1 : binD .add (.int (c : Int)) (.int 1) = some (.int ((c + 1 : Nat) : Int)) := rfl
    have bi : bltD .int [.bl true] r = some (.int 1) := rfl
    have hf : ((List.filter (fun k => decide (st k ≤ d - w)) [i]).length) = 1 := by simp [e]
    rw [hf]
    generalize ((c + 1 : Nat) : Int) = C1 at *
    simp [bSub, ge_dec, e, bi, e1]
  · have e1 : binD .add (.int (c : Int)) (.int 0) = some (.int ((c + 0 : Nat) : Int)) := by show some (D.int ((c : Int) + 0)) = _; simp
    have bi : bltD .int [.bl false] r = some (.int 0) := rfl
    have hf : ((List.filter (fun k => decide (st k ≤ d - w)) [i]).length) = 0 := by simp [e]
    rw [hf]
    generalize ((c + 0 : Nat) : Int) = C1 at *
    simp [bSub, ge_dec, e, bi, e1]
theorem rows_loop {m : Nat} (hm : 3 ≤ m) {L : List Bill} {d : Int} {st : Nat → Int} {k : Nat} {r : Rng} (h : Bok k L) (k3 : 3 ≤ k) (hk : k ≤ 100) (hl : L.length ≤ 8) :
    ∃ o o' o'' o3 o4, exs (callI fu fns m) fu l__law_ages_7 ⟨[.val .tok, .val (.tup (L.map billD)), .own ((rngM (fun _ => 0) 4).map PR), .uns, .uns, .uns, .uns, .val (.int d), .val (.lst (rngI st 3)), .uns, .uns, .uns, .uns, .uns, .uns, .uns, .uns, .uns, .uns, .uns], r⟩ =
      .next ⟨[.val .tok, .val (.tup (L.map billD)), .own ((rngM (ageT d st 3 L) 4).map PR), .uns, .uns, .uns, .uns, .val (.int d), .val (.lst (rngI st 3)), o, o', o'', o3, o4, .uns, .uns, .uns, .uns, .uns, .uns], r⟩ := by
  obtain ⟨T, hT⟩ : ∃ T : D, T = .tup (L.map billD) := ⟨_, rfl⟩
  rw [← hT]
  have lp := forT3 (cl := callI fu fns m) (fu := fu) (W1 := fun b : Bill => .int b.1) (W2 := fun b => nmD b.2.1) (W3 := fun b => PR b.2.2) (ix := 9) (iy := 10) (iz := 11) (it := .seq (.var 1)) (b := (.cons (.set 12 false (.cst (.int 0))) (.cons l__law_ages_6 (.cons (.sto 2 (.var 12) (.call (Str.ofString "_law_add") 26 (.cons (.ix (.pk 2) (.var 12)) (.cons (.var 11) .nil)))) .nil)))) (xs := L) (r := r) (o1 := .uns) (o2 := .uns) (o3 := .uns)
    (fun i o o' o'' => [.val .tok, .val T, .own ((rngM (ageT d st 3 (L.take i)) 4).map PR), .uns, .uns, .uns, .uns, .val (.int d), .val (.lst (rngI st 3)), o, o', o'', prevS (fun i => .int (cn d st 3 (L.getD i (0, 0, 0)).1 : Int)) i, prevS (fun _ => .int (st 2)) i, .uns, .uns, .uns, .uns, .uns, .uns]) .uns .uns .uns rfl (evi_seqT (xs := L.map billD) (by simp [hT])) rfl rfl (fun i o o' o'' d d' d'' h1 h2 h3 => by
      rcases h1 with rfl | ⟨_, rfl⟩ <;> rcases h2 with rfl | ⟨_, rfl⟩ <;> rcases h3 with rfl | ⟨_, rfl⟩ <;> rfl) (fun i b hb => by
      have hm := List.mem_of_getElem? hb
      have hi : i < L.length := (List.getElem?_eq_some_iff.mp hb).1
      have zt := (h.g b hm).sz k3
      have gf := ageT_g (d := d) (st := st) (q := 3) (k := k) (L.take i) (fun b hb => h.g b (List.mem_of_mem_take hb)) (cn d st 3 b.1)
      have zf := (gf.mono (show _ ≤ k + 8 by rw [List.length_take]; omega)).sz (by omega)
      have a1 := fun r => ladd_s (show 3 ≤ m by omega) (r := r) zf zt (by omega)
      have hcn := cn_le d st 3 b.1
      have ix1 := ixRng (g := ageT d st 3 (L.take i)) (show cn d st 3 b.1 < 4 by omega) r
      rw [take_snoc hb, ageT_snoc, prevS_s, prevS_s]
      have hg : (fun i => (D.int (cn d st 3 (L.getD i (0, 0, 0)).1 : Int))) i = .int (cn d st 3 b.1 : Int) := by simp only [List.getD, hb, Option.getD_some]
      simp only [] at hg
      rw [hg]
      have lc := fun (a2 a10 a11 : Slot) => cnt_loop (m := m) (d := d) (w := b.1) (st := st) (r := r) (a0 := .val .tok) (a1 := .val T) (a2 := a2) (a3 := .uns) (a4 := .uns) (a5 := .uns) (a6 := .uns) (a10 := a10) (a11 := a11) (a14 := .uns) (a15 := .uns) (a16 := .uns) (a17 := .uns) (a18 := .uns) (a19 := .uns) (prevS_fre (fun _ => .int (st 2)) i)
      have ks : ∀ (v : D) (a0 a1 a2 a3 a4 a5 a6 a7 a8 a9 a10 a11 a13 a14 a15 a16 a17 a18 a19 : Slot) (r : Rng), ksetS 12 false v ⟨[a0, a1, a2, a3, a4, a5, a6, a7, a8, a9, a10, a11, prevS (fun i => .int (cn d st 3 (L.getD i (0, 0, 0)).1 : Int)) i, a13, a14, a15, a16, a17, a18, a19], r⟩ = .next ⟨[a0, a1, a2, a3, a4, a5, a6, a7, a8, a9, a10, a11, .val v, a13, a14, a15, a16, a17, a18, a19], r⟩ := fun _ _ _ _ _ _ _ _ _ _ _ _ _ _ _ _ _ _ _ _ r => kset0 (by simp [nlck_pS])
      have kb := fun (v : Rat) (sl : List Slot) (r : Rng) (hh : sl[2]? = some (.own ((rngM (ageT d st 3 (L.take i)) 4).map PR))) => ksto2Q (v := v) (r := r) hh (show cn d st 3 b.1 < 4 by omega)
      generalize cn d st 3 b.1 = c at *
      generalize ageT d st 3 (L.take i) = f at *
      generalize prevS (fun i => (D.int (cn d st 3 (L.getD i (0, 0, 0)).1 : Int))) i = ps at *
      generalize prevS (fun _ => .int (st 2)) i = ps2 at *
      simp [ks, lc, ix1, a1, xsto, ksto_, kb])
  obtain ⟨o, o', o'', ho, ho', ho'', lp⟩ := lp
  rw [List.take_length] at lp
  exact ⟨o, o', o'', _, _, lp⟩
theorem dot_rng (f g : Nat → Rat) (q : Nat) : sumR (dotL (rngM f q) (rngM g q)) = doubtF f g q := by
  unfold dotL doubtF
  rw [rngM_len, ← sumR_range]
  congr 1
  exact List.map_congr_left fun i hi => by rw [rngM_getD (List.mem_range.mp hi), rngM_getD (List.mem_range.mp hi)]
theorem nil_ne {L : List Bill} (h : L ≠ []) : eqD (.tup (L.map billD)) (.tup []) = some false := by
  rw [eqD_of (bills_dok L) (by rfl)]
  cases L with
  | nil => exact absurd rfl h
  | cons b L => rfl
end M53


namespace M53
open Vi PySem
def stF (s0 s1 : Int) (k : Nat) : Int := match k with | 0 => s0 | 1 => s1 | _ => 12
theorem stF_D (s0 s1 : Int) : D.lst [.int s0, .int s1, .int 12] = .lst (rngI (stF s0 s1) 3) := rfl
theorem share_d {n : Nat} (hn : 2 ≤ n) {q : Int × List Int} (hq : OkR q) (sl : List Slot) (h0 : sl[0]? = some (.val .tok)) (hf : free sl 17 = true) : ∃ (g : Nat → Rat) (q' : Int × List Int), OkR q' ∧ (∀ i, i < 4 → Sz 12 (g i)) ∧ ev (callI fu fns n) l__law_ages_5 ⟨sl, some q⟩ = .ok (.lst ((rngM g 4).map PR)) ⟨sl, some q'⟩ := by
  obtain ⟨g, q', hq', hg, e⟩ := lcD (cl := callI fu fns n) (ix := 17) (n := 4) (sl := sl) (q := q) (q1 := q) (a := .cst (.int 4)) (e := (.call (Str.ofString "_law_part") 25 (.cons (.call (Str.ofString "_law_take") 23 (.cons (.var 0) (.cons (.cst (.int 5)) .nil))) (.cons (.cst (.int 4)) .nil))))
    (fun i (v : Rat) => PR v) (fun i v => Sz 12 v) hf (by simp) (by omega) hq (fun i hi q hq sl2 s hx => by
      obtain ⟨a, q3, hq3, ha, u1⟩ := take_x (show 1 ≤ n by omega) hq (most := 5) (by omega) (by omega)
      have u2 := fun r => lpart_s (show 1 ≤ n by omega) (r := r) (a := (a : Int)) (b := 4) ((lt2_of (k := 12) (by omega) (by show _ < 4096; omega)).mono (by decide)) (by omega)
      have b0 := s.v h0 (by decide)
      exact ⟨Rat.divInt (a : Int) 4, q3, sl2, hq3, sz_divInt (by decide) (lt2_of (by omega) (by show _ < 4096; omega)) (lt2_of (by decide) (by decide)), by simp [b0, u1, u2]⟩)
  refine ⟨g, q', hq', hg, ?_⟩
  rw [← rngM_PR]
  exact e
theorem sh_x {n : Nat} (hn : 1 ≤ n) {q : Int × List Int} (hq : OkR q) : ∃ (a : Nat) (s : Rat) (q' : Int × List Int), OkR q' ∧ Sz 12 s ∧ 0 < s ∧ s < 1 ∧ (a : Int) < 4 ∧ callI fu fns n i__law_take [.tok, .int 4] (some q) = .ok (.int (a : Int)) (some q') ∧ ∀ r, callI fu fns n i__law_part [.int (1 + (a : Int)), .int 9] r = .ok (PR s) r := by
  obtain ⟨a, q3, hq3, ha, u1⟩ := take_x (show 1 ≤ n by omega) hq (most := 4) (by omega) (by omega)
  have u2 := fun r => lpart_s (show 1 ≤ n by omega) (r := r) (a := 1 + (a : Int)) (b := 9) ((lt2_of (k := 12) (by omega) (by show _ < 4096; omega)).mono (by decide)) (by omega)
  refine ⟨a, _, q3, hq3, sz_divInt (by decide) (lt2_of (by omega) (by show _ < 4096; omega)) (lt2_of (by decide) (by decide)), divInt_pos (by omega) (by decide), ?_, ha, u1, u2⟩
  have : a = 0 ∨ a = 1 ∨ a = 2 ∨ a = 3 := by omega
  rcases this with rfl | rfl | rfl | rfl <;> decide +kernel
theorem ages_s {n : Nat} (hn : 8 ≤ n) {L : List Bill} {q : Int × List Int} (hq : OkR q) (h : Bok 6 L) (hl : L.length ≤ 5) : ∃ q', OkR q' ∧ callI fu fns n i__law_ages [.tok, .tup (L.map billD)] (some q) = .ok (.bl true) (some q') := by
  obtain ⟨j, rfl⟩ : ∃ j, n = (j + 1) + 1 := ⟨n - 2, by omega⟩
  rw [call_def at__law_ages rfl]
  obtain ⟨d0, q1, hq1, hd0, t1⟩ := take_x (show 1 ≤ j + 1 by omega) hq (most := 9) (by omega) (by omega)
  obtain ⟨a0, q2, hq2, ha0, t2⟩ := take_x (show 1 ≤ j + 1 by omega) hq1 (most := 3) (by omega) (by omega)
  obtain ⟨a1, q3, hq3, ha1, t3⟩ := take_x (show 1 ≤ j + 1 by omega) hq2 (most := 3) (by omega) (by omega)
  obtain ⟨d, hd⟩ : ∃ d : Int, d = 9 + (d0 : Int) := ⟨_, rfl⟩
  obtain ⟨s0, hs0⟩ : ∃ d : Int, d = 2 + (a0 : Int) := ⟨_, rfl⟩
  obtain ⟨s1, hs1⟩ : ∃ d : Int, d = 6 + (a1 : Int) := ⟨_, rfl⟩
  have e1 : binD .add (.int 9) (.int (d0 : Int)) = some (.int d) := by rw [hd]; rfl
  have e2 : binD .add (.int 2) (.int (a0 : Int)) = some (.int s0) := by rw [hs0]; rfl
  have e3 : binD .add (.int 6) (.int (a1 : Int)) = some (.int s1) := by rw [hs1]; rfl
  have es := stF_D s0 s1
  obtain ⟨st, hst⟩ : ∃ st, st = stF s0 s1 := ⟨_, rfl⟩
  rw [← hst] at es
  have hdr : 0 ≤ d ∧ d < 100 := by omega
  generalize (d0 : Int) = D0 at *
  generalize (a0 : Int) = A0 at *
  generalize (a1 : Int) = A1 at *
  have p0 : D.tup [.int 0, .int 1] = PR 0 := rfl
  have p1 : D.tup [.int 1, .int 1] = PR 1 := rfl
  have mr := mulRep 0 (q := 4) (by omega)
  rw [rep0] at mr
  have mr : binD .mul (.lst [PR 0]) (.int 4) = some (.lst ((rngM (fun _ => 0) 4).map PR)) := mr
  obtain ⟨o, o', o'', o3, o4, lp⟩ := rows_loop (m := j + 1) (by omega) (r := some q3) (d := d) (st := st) h (by omega) (by omega) (show L.length ≤ 8 by omega)
  obtain ⟨T, hT⟩ : ∃ T : D, T = .tup (L.map billD) := ⟨_, rfl⟩
  obtain ⟨sh, q4, hq4, zs, t4⟩ := share_d (n := j + 1) (by omega) hq3 [.val .tok, .val T, .own ((rngM (ageT d st 3 L) 4).map PR), .uns, .uns, .uns, .uns, .val (.int d), .val (.lst (rngI st 3)), o, o', o'', o3, o4, .uns, .uns, .uns, .uns, .uns, .uns] rfl rfl
  have k1 := fun r => by_age_s (show 4 ≤ j + 1 by omega) (r := r) (d := d) (st := st) (q := 3) h (by omega) (by omega) (by omega) (by omega)
  have k2 := fun r => doubt_s (show 5 ≤ j + 1 by omega) (r := r) (d := d) (st := st) (q := 3) (sh := sh) h (by omega) (by omega) (by omega) (by omega) zs
  have zf : ∀ j, Sz 14 (ageT d st 3 L j) := fun j => ((ageT_g L h.g j).mono (by omega)).sz (by omega)
  have k3 := fun r => ldot_s (show 5 ≤ j + 1 by omega) (r := r) (xs := rngM (ageT d st 3 L) 4) (ys := rngM sh 4) (j := 14) (k := 12) (rngM_mem fun i _ => zf i) (rngM_mem zs) (by rw [rngM_len, rngM_len]) (by rw [rngM_len]; omega) (by rw [rngM_len]; omega)
  rw [dot_rng] at k3
  have k4 := fun r => by_age_s (show 4 ≤ j + 1 by omega) (r := r) (d := d) (st := st) (q := 0) h (by omega) (by omega) (show L.length ≤ 8 by omega) (by omega)
  have e0 : (rngM (ageT d st 0 L) (0 + 1)).map PR = [sumV L].map PR := by
    have := ageT_one d st L
    show [PR (ageT d st 0 L 0)] = _
    rw [this]; rfl
  rw [e0, show rngI st 0 = [] from rfl] at k4
  have zb : ∀ b ∈ L, Sz 6 b.2.2 := fun b hb => (h.g b hb).sz (by omega)
  have zW := Sz.sumV zb (n := 8) (by omega)
  have l34 : ∀ (ex : Slot → Slot → Slot → Slot → List Slot), True := fun _ => trivial
  have l4 : ∀ (a2 a3 a4 a5 a6 a7 a8 a9 a10 a11 a12 a13 a14 a15 a16 a17 a19 : Slot) (r : Rng), ev (callI fu fns (j + 1)) l__law_ages_4 ⟨[.val .tok, .val T, a2, a3, a4, a5, a6, a7, a8, a9, a10, a11, a12, a13, a14, a15, a16, a17, .uns, a19], r⟩ = .ok (.lst ((L.map val).map PR)) ⟨[.val .tok, .val T, a2, a3, a4, a5, a6, a7, a8, a9, a10, a11, a12, a13, a14, a15, a16, a17, .uns, a19], r⟩ := fun _ _ _ _ _ _ _ _ _ _ _ _ _ _ _ _ _ r => vals_s (ix := 18) (by simp) (evi_seqT (by simp [hT])) (by omega)
  have l3 : ∀ (a2 a3 a4 a5 a6 a7 a8 a9 a10 a11 a12 a13 a14 a15 a16 a17 a19 : Slot) (r : Rng), ev (callI fu fns (j + 1)) l__law_ages_3 ⟨[.val .tok, .val T, a2, a3, a4, a5, a6, a7, a8, a9, a10, a11, a12, a13, a14, a15, a16, a17, .uns, a19], r⟩ = .ok (.lst ((L.map val).map PR)) ⟨[.val .tok, .val T, a2, a3, a4, a5, a6, a7, a8, a9, a10, a11, a12, a13, a14, a15, a16, a17, .uns, a19], r⟩ := l4
  have k5 := fun r => ltotal_s (show 4 ≤ j + 1 by omega) (r := r) (xs := L.map val) (k := 6) (fun x hx => by
    obtain ⟨b, hb, rfl⟩ := List.mem_map.mp hx
    exact zb b hb) (by rw [List.length_map]; omega)
  rw [show sumR (L.map val) = sumV L from rfl] at k5
  have k6 := fun r => lword_s (n := j) (ds := [T, .int d, .lst (rngI st 3), .lst ((rngM sh 3).map PR)]) (by simp) (doubt_x (show 1 ≤ j by omega) (sh := st) (r := r))
  have ct : cutD (.lst ((rngM sh 4).map PR)) none (some 3) = some (.lst ((rngM sh 3).map PR)) := rfl
  have w1 := wref "shares" (by decide +kernel)
  have q1e := eqL (rngM (ageT d st 3 L) 4) (rngM (ageT d st 3 L) 4)
  have q2e := eqL [sumV L] [sumV L]
  simp only [List.map_cons, List.map_nil] at q2e k4
  rw [← hT] at k1 k2 k4 lp ⊢
  generalize hV : (L.map val).map PR = V at *
  generalize doubtF (ageT d st 3 L) sh (3 + 1) = DB at *
  generalize hF : (rngM (ageT d st 3 L) (3 + 1)).map PR = F at *
  generalize hSH : (rngM sh (3 + 1)).map PR = SH at *
  have hF : (rngM (ageT d st 3 L) 4).map PR = F := hF
  have hSH : (rngM sh 4).map PR = SH := hSH
  try rw [hF] at lp
  try rw [hF] at q1e
  try rw [hF] at k3
  try rw [hF] at t4
  try rw [hSH] at ct
  try rw [hSH] at t4
  try rw [hSH] at k3
  generalize (rngM sh 3).map PR = SH3 at *
  by_cases c : L = []
  · have eN : eqD T (.tup []) = some true := by rw [hT, c]; decide +kernel
    have k7 := fun r => lword_s (n := j) (ds := [T, .int d]) (by simp) (by rw [hT, c]; exact mean_x (show 5 ≤ j by omega) (r := r))
    have w2 := wref "none" (by decide +kernel)
    refine ⟨q4, hq4, ?_⟩
    simp [f__law_ages, b__law_ages, startS, t1, e1, t2, e2, t3, e3, es, p0, mr, lp, t4, k1, cmpD, q1e, k2, k3, eqPR, k4, l4, k5, q2e, ct, k6, w1, eN, k7, w2]
  · have eN : eqD T (.tup []) = some false := by rw [hT]; exact nil_ne c
    have hWp := sumV_pos c h.pos
    have k7 := fun r => mean_s (show 5 ≤ j + 1 by omega) (r := r) (d := d) h (by omega) (by omega) (by omega) hdr c
    rw [← hT] at k7
    have zd : ∀ b ∈ L, Sz 8 ((d - b.1 : Int) : Rat) := fun b hb => by
      have := h.day b hb
      exact sz_day (by omega) (by omega)
    have zA : Sz (8 * (6 + 8 + 1) + 1) (ageS d L) := Sz.sum 8 (by rw [List.length_map]; omega) fun x hx => by
      obtain ⟨b, hb, rfl⟩ := List.mem_map.mp hx
      exact (zb b hb).mul (zd b hb)
    have k8 := fun r => lmul_s (show 3 ≤ j + 1 by omega) (r := r) (zA.div zW hWp) zW (by omega)
    rw [div_mul' hWp] at k8
    have l2 : ∀ (a2 a3 a4 a5 a6 a8 a9 a10 a11 a12 a13 a14 a15 a16 a17 a19 : Slot) (r : Rng), ev (callI fu fns (j + 1)) l__law_ages_2 ⟨[.val .tok, .val T, a2, a3, a4, a5, a6, .val (.int d), a8, a9, a10, a11, a12, a13, a14, a15, a16, a17, .uns, a19], r⟩ = .ok (.lst ((L.map (ageV d)).map PR)) ⟨[.val .tok, .val T, a2, a3, a4, a5, a6, .val (.int d), a8, a9, a10, a11, a12, a13, a14, a15, a16, a17, .uns, a19], r⟩ := fun _ _ _ _ _ _ _ _ _ _ _ _ _ _ _ _ r => by
      rw [List.map_map]
      exact lcS (W := billD) (xs := L) _ (by simp) (evi_seqT (by simp [hT])) (by omega) fun b hb sl2 s hx => ⟨_, by
        have b7 := s.v (j := 7) rfl (by decide)
        have i0 : ∀ r : Rng, ixD (billD b) (.int 0) r = some (.int b.1) := fun _ => rfl
        have i2 : ∀ r : Rng, ixD (billD b) (.int 2) r = some (PR b.2.2) := fun _ => rfl
        have a1 := fun r => lmul_s (show 3 ≤ j + 1 by omega) (r := r) (zb b hb) (zd b hb) (by omega)
        rw [show b.2.2 * ((d - b.1 : Int) : Rat) = ageV d b from rfl] at a1
        have pz := prZ (d - b.1)
        generalize ((d - b.1 : Int) : Rat) = dr at *
        simp [hx, b7, i0, i2, bSub, pz, a1]; rfl⟩
    have k9 := fun r => ltotal_s (show 4 ≤ j + 1 by omega) (r := r) (xs := L.map (ageV d)) (k := 14) (fun x hx => by
      obtain ⟨b, hb, rfl⟩ := List.mem_map.mp hx
      exact (zb b hb).mul (zd b hb)) (by rw [List.length_map]; omega)
    rw [show sumR (L.map (ageV d)) = ageS d L from rfl] at k9
    obtain ⟨b, L', hbL⟩ := List.exists_cons_of_ne_nil c
    have hbm : b ∈ L := by rw [hbL]; exact List.mem_cons_self
    have ib : ∀ r : Rng, ixD T (.int 0) r = some (billD b) := fun r => by
      rw [hT, hbL, List.map_cons]
      have e : ixD (.tup (billD b :: L'.map billD)) (.int 0) r = if (0 : Int) < ((billD b :: L'.map billD).length : Int) then (billD b :: L'.map billD)[(0 : Int).toNat]? else none := Eq.trans rfl rfl
      rw [e, if_pos (by simp only [List.length_cons]; omega)]
      rfl
    obtain ⟨e', q5, hq5, he', t5⟩ := take_x (show 1 ≤ j + 1 by omega) hq4 (most := 12) (by omega) (by omega)
    obtain ⟨g, s, q6, hq6, zs', s0', s1', hg, t6, t7⟩ := sh_x (show 1 ≤ j + 1 by omega) hq5
    have i0 : ∀ r : Rng, ixD (billD b) (.int 0) r = some (.int b.1) := fun _ => rfl
    have i2 : ∀ r : Rng, ixD (billD b) (.int 2) r = some (PR b.2.2) := fun _ => rfl
    have zt := zb b hbm
    have m1 := fun r => lneg_s (show 1 ≤ j + 1 by omega) (x := s) (r := r)
    have m2 := fun r => ladd_s (show 3 ≤ j + 1 by omega) (r := r) sz11 zs'.neg (by omega)
    rw [show 1 + -s = 1 - s by grind] at m2
    have z1s := sz11.sub zs'
    have p1s : 0 < 1 - s := by grind
    have m3 := fun r => lmul_s (show 3 ≤ j + 1 by omega) (r := r) zt z1s (by omega)
    have m4 := fun r => due_s (show 4 ≤ j + 1 by omega) (b := b) (d := d) (e := (e' : Int)) (r := r) zt zs' (by omega)
    have m5 := fun r => early_s (show 5 ≤ j + 1 by omega) (a := (e' : Int)) (b := (e' : Int) + 20) (r := r) zs' s0' s1' (by omega)
    have m6 := fun r => ladd_s (show 3 ≤ j + 1 by omega) (r := r) sz11 (zs'.div z1s p1s) (by omega)
    have m7 := fun r => lmul_s (show 3 ≤ j + 1 by omega) (r := r) (zt.mul z1s) (sz11.add (zs'.div z1s p1s)) (by omega)
    rw [show b.2.2 * (1 - s) * (1 + s / (1 - s)) = b.2.2 by
      have e := div_mul' (a := s) p1s
      generalize s / (1 - s) = u at *
      grind] at m7
    have m8 := fun r => lword_s (n := j) (ds := [PR 0, .int (e' : Int), .int ((e' : Int) + 1)]) (by simp) (early_x (show 2 ≤ j by omega) (s := 0) (a := (e' : Int)) (b := (e' : Int) + 1) (r := r) (sz01.mono (by omega)) (.inl rfl))
    have m9 := fun r => lword_s (n := j) (ds := [PR 1, .int (e' : Int), .int ((e' : Int) + 1)]) (by simp) (early_x (show 2 ≤ j by omega) (s := 1) (a := (e' : Int)) (b := (e' : Int) + 1) (r := r) (sz11.mono (by omega)) (.inr (.inl rfl)))
    have m10 := fun r => lword_s (n := j) (ds := [PR s, .int (e' : Int), .int (e' : Int)]) (by simp) (early_x (show 2 ≤ j by omega) (s := s) (a := (e' : Int)) (b := (e' : Int)) (r := r) zs' (.inr (.inr ⟨s0', s1', by omega⟩)))
    generalize (e' : Int) = E at *
    generalize (g : Int) = g' at *
    have eA1 : binD .add (.int E) (.int 1) = some (.int (E + 1)) := rfl
    have eA2 : binD .add (.int E) (.int 20) = some (.int (E + 20)) := rfl
    have eA3 : binD .add (.int 1) (.int g') = some (.int (1 + g')) := rfl
    generalize E + 1 = E1 at *
    generalize E + 20 = E20 at *
    generalize 1 + g' = g1 at *
    have lw : ∀ (a2 a3 a4 a5 a6 a7 a8 a9 a10 a11 a12 a13 a14 a16 a17 a18 : Slot) (r : Rng), ev (callI fu fns (j + 1)) l__law_ages_1 ⟨[.val .tok, .val T, a2, a3, a4, a5, a6, a7, a8, a9, a10, a11, a12, a13, a14, .val (.int E), a16, a17, a18, .uns], r⟩ = .ok (.lst [wd "share", wd "share"]) ⟨[.val .tok, .val T, a2, a3, a4, a5, a6, a7, a8, a9, a10, a11, a12, a13, a14, .val (.int E), a16, a17, a18, .uns], r⟩ := fun _ _ _ _ _ _ _ _ _ _ _ _ _ _ _ _ r =>
      lcS (W := PR) (xs := [0, 1]) (fun _ => wd "share") (by simp) (evi_seqT (by simp [p0, p1])) (by simp) fun y hy sl2 s hx => ⟨sl2, by
        have b15 := s.v (j := 15) rfl (by decide)
        rcases List.mem_cons.mp hy with rfl | hy
        · simp [hx, b15, eA1, m8]
        · rw [List.mem_singleton.mp hy] at hx
          simp [hx, b15, eA1, m9]⟩
    have ml : binD .mul (.lst [wd "share"]) (.int 2) = some (.lst [wd "share", wd "share"]) := rfl
    have we : eqD (.lst [wd "share", wd "share"]) (.lst [wd "share", wd "share"]) = some true := by decide +kernel
    have w2 := wref "share" (by decide +kernel)
    generalize (L.map (ageV d)).map PR = V2 at *
    generalize ageS d L = AS at *
    generalize sumV L = WW at *
    generalize AS / WW = MA at *
    generalize s / (1 - s) = rt at *
    generalize hsub : 1 - s = s1m at *
    generalize 1 + rt = rt1 at *
    generalize b.2.2 * s1m = ea at *
    refine ⟨q6, hq6, ?_⟩
    by_cases c2 : d - b.1 ≤ E
    · rw [if_pos c2] at m4
      have cd : cmpD .le (.int (d - b.1)) (.int E) = some true := by simp [cmpD, c2]
      have c2 := eq_true c2
      simp [f__law_ages, b__law_ages, startS, t1, e1, t2, e2, t3, e3, es, p0, p1, mr, lp, t4, k1, cmpD, q1e, k2, k3, eqPR, k4, l4, k5, q2e, ct, k6, w1, eN, l3, k7, k8, l2, k9, ib, t5, eA3, t6, t7, i2, m1, m2, m3, m4, i0, bSub, c2, eA2, m5, m6, m7, lw, ml, we, m10, w2]
    · rw [if_neg c2] at m4
      have c2 := eq_false c2
      simp [f__law_ages, b__law_ages, startS, t1, e1, t2, e2, t3, e3, es, p0, p1, mr, lp, t4, k1, cmpD, q1e, k2, k3, eqPR, k4, l4, k5, q2e, ct, k6, w1, eN, l3, k7, k8, l2, k9, ib, t5, eA3, t6, t7, i2, m1, m2, m3, m4, i0, bSub, c2, eA2, m5, m6, m7, lw, ml, we, m10, w2]
end M53


namespace M53
open Vi PySem
/-! postings: plain law -/
abbrev Post := Int × Nat × Rat × Bool
abbrev Pbs := List Bill × Rat
def pst1 (s : Pbs) (p : Post) : Pbs :=
  if 0 < p.2.2.1 then (if min2 p.2.2.1 s.2 = p.2.2.1 then s.1 else s.1 ++ [(p.1, p.2.1, p.2.2.1 - min2 p.2.2.1 s.2)], s.2 - min2 p.2.2.1 s.2)
  else ((paid s.1 (-p.2.2.1)).1, s.2 + (paid s.1 (-p.2.2.1)).2.2)
def pstep (sel : Bool → Bool) (s : Pbs) (p : Post) : Pbs := if sel p.2.2.2 = true then pst1 s p else s
def posts (sel : Bool → Bool) (L : List Post) : Pbs := L.foldl (pstep sel) ([], 0)
theorem posts_snoc (sel : Bool → Bool) (L : List Post) (p : Post) : posts sel (L ++ [p]) = pstep sel (posts sel L) p := by unfold posts; rw [List.foldl_append]; rfl
def pv (p : Post) : Rat := p.2.2.1
def pval (sel : Bool → Bool) (L : List Post) : Rat := sumR ((L.filter fun p => sel p.2.2.2).map pv)
theorem pval_snoc (sel : Bool → Bool) (L : List Post) (p : Post) : pval sel (L ++ [p]) = if sel p.2.2.2 = true then pval sel L + p.2.2.1 else pval sel L := by
  unfold pval
  rw [List.filter_append, List.map_append]
  split
  · rename_i h
    simp only [List.filter_cons, h, if_true, List.filter_nil, List.map_cons, List.map_nil]
    exact sumR_snoc _ _
  · rename_i h
    have h : sel p.2.2.2 = false := by simpa using h
    simp [h]
structure Pok (L : List Post) : Prop where
  g : ∀ p ∈ L, G 6 p.2.2.1
  day : ∀ p ∈ L, 0 ≤ p.1 ∧ p.1 < 100
  nm : ∀ p ∈ L, p.2.1 < 7
  nd : (L.map fun p => p.2.1).Nodup
structure PI (sel : Bool → Bool) (D : List Post) (s : Pbs) : Prop where
  r0 : 0 ≤ s.2
  l0 : s.1 ≠ [] → s.2 = 0
  ok : Bok (6 + 10 * D.length) s.1
  gr : G (6 + 10 * D.length) s.2
  len : s.1.length ≤ D.length
  sum : sumV s.1 - s.2 = pval sel D
  mem : ∀ b ∈ s.1, ∃ p ∈ D, p.2.1 = b.2.1
theorem paid_mem {k : Nat} {p : Rat} {L : List Bill} (hp : 0 ≤ p) (gp : G k p) (h : Bok k L) : ∀ b ∈ (paid L p).1, ∃ b' ∈ L, b'.2.1 = b.2.1 := fun b hb => by
  have I := paid_inv hp gp h
  have := I.sub.subset (List.mem_map_of_mem (f := fun b : Bill => (b.1, b.2.1)) hb)
  obtain ⟨b', hb', e⟩ := List.mem_map.mp this
  simp only [Prod.mk.injEq] at e
  exact ⟨b', (sortK_perm L).mem_iff.mp hb', e.2⟩
theorem bok_snoc {k : Nat} {L : List Bill} {b : Bill} (h : Bok k L) (h1 : 0 < b.2.2) (h2 : G k b.2.2) (h3 : 0 ≤ b.1 ∧ b.1 < 100) (h4 : b.2.1 < 7) (h5 : ∀ b' ∈ L, b'.2.1 ≠ b.2.1) : Bok k (L ++ [b]) := by
  have key : ∀ {P : Bill → Prop}, (∀ x ∈ L, P x) → P b → ∀ x ∈ L ++ [b], P x := fun a c x hx => by
    rcases List.mem_append.mp hx with hx | hx
    · exact a x hx
    · rw [List.mem_singleton.mp hx]; exact c
  refine ⟨key h.pos h1, key h.g h2, key h.day h3, key h.nm h4, ?_⟩
  rw [List.map_append]
  refine List.nodup_append.mpr ⟨h.nd, by simp, fun x hx y hy => ?_⟩
  obtain ⟨b', hb', rfl⟩ := List.mem_map.mp hx
  simp only [List.map_cons, List.map_nil, List.mem_singleton] at hy
  rw [hy]
  exact h5 b' hb'
theorem pi_step {sel : Bool → Bool} {D : List Post} {s : Pbs} {p : Post} (I : PI sel D s) (hD : D.length ≤ 8) (gp : G 6 p.2.2.1) (hd : 0 ≤ p.1 ∧ p.1 < 100) (hn : p.2.1 < 7) (hnm : ∀ x ∈ D, x.2.1 ≠ p.2.1) : PI sel (D ++ [p]) (pstep sel s p) := by
  obtain ⟨r0, l0, ok, gr, len, sum, mem⟩ := I
  obtain ⟨bs, r⟩ := s
  obtain ⟨dy, nm, v, u⟩ := p
  simp only at r0 l0 ok gr len sum mem gp hd hn hnm
  have el : (D ++ [((dy, nm, v, u) : Post)]).length = D.length + 1 := by simp
  have m2 : ∀ {L : List Bill}, (∀ b ∈ L, ∃ p ∈ D, p.2.1 = b.2.1) → ∀ b ∈ L, ∃ p ∈ D ++ [((dy, nm, v, u) : Post)], p.2.1 = b.2.1 := fun h b hb => let ⟨q, hq, e⟩ := h b hb; ⟨q, List.mem_append_left _ hq, e⟩
  have pvs := pval_snoc sel D (dy, nm, v, u)
  unfold pstep
  by_cases hs : sel u = true
  · simp only [hs, if_true] at pvs ⊢
    unfold pst1
    simp only
    by_cases hv : 0 < v
    · rw [if_pos hv]
      have gv : G (6 + 10 * D.length) v := gp.mono (by omega)
      by_cases c : r < v
      · have e : min2 v r = r := by unfold min2; rw [if_pos c]
        have ne : ¬ r = v := by intro z; rw [z] at c; grind
        simp only [e, if_neg ne]
        refine ⟨by simp only; grind, fun _ => by simp only; grind, ?_, by simp only; rw [el]; exact (gr.sub gr).mono (by omega), by simp only [List.length_append, List.length_cons, List.length_nil]; omega, ?_, fun b hb => ?_⟩
        · rw [el]
          exact bok_snoc (ok.mono (by omega)) (by simp only; grind) ((gv.sub gr).mono (by omega)) hd hn fun b hb => by
            obtain ⟨q, hq, e⟩ := mem b hb
            rw [← e]; exact hnm q hq
        · simp only
          rw [pvs, sumV_snoc, ← sum]
          simp only
          grind
        · rcases List.mem_append.mp hb with hb | hb
          · exact m2 mem b hb
          · rw [List.mem_singleton.mp hb]; exact ⟨(dy, nm, v, u), by simp, rfl⟩
      · have e : min2 v r = v := by unfold min2; rw [if_neg c]
        have nil : bs = [] := by
          by_cases z : bs = []
          · exact z
          · have := l0 z
            rw [this] at c
            exact absurd hv c
        simp only [e, if_true]
        refine ⟨by simp only; grind, fun z => absurd nil z, by rw [el]; exact ok.mono (by omega), by simp only; rw [el]; exact (gr.sub gv).mono (by omega), by rw [el]; simp only; omega, ?_, m2 mem⟩
        simp only
        rw [pvs, ← sum]
        grind
    · rw [if_neg hv]
      have hp : 0 ≤ -v := by grind
      have gp' : G (6 + 10 * D.length) (-v) := gp.neg.mono (by omega)
      have J := paid_inv hp gp' ok
      have lo := left_ok hp gp' ok (n := 9) (by omega)
      have hlen := paid_len bs (-v)
      have hmem := paid_mem hp gp' ok
      have jsum := J.sum
      rw [sumV_perm (sortK_perm bs)] at jsum
      have jg := J.gr
      rw [(sortK_perm bs).length_eq] at jg
      have jr := J.r0
      have jl := J.l0
      generalize paid bs (-v) = S at *
      obtain ⟨lf, gn, rs⟩ := S
      simp only at lo hlen hmem jsum jg jr jl ⊢
      refine ⟨by simp only; grind, fun z => ?_, by rw [el]; exact lo.mono (by omega), ?_, by rw [el]; simp only; omega, ?_, fun b hb => ?_⟩
      · have hz : bs ≠ [] := fun w => by
          rw [w] at hlen
          exact z (List.length_eq_zero_iff.mp (by simpa using hlen))
        simp only
        rw [jl z, l0 hz]
        grind
      · simp only
        rw [el]
        exact ((gr.mono (show _ ≤ 6 + 10 * D.length + 9 by omega)).add (jg.mono (by omega))).mono (by omega)
      · simp only
        rw [pvs, jsum, ← sum]
        grind
      · obtain ⟨b', hb', e⟩ := hmem b hb
        obtain ⟨q, hq, e2⟩ := mem b' hb'
        exact ⟨q, List.mem_append_left _ hq, e2.trans e⟩
  · have hs2 : sel u = false := by simpa using hs
    simp only [hs2, Bool.false_eq_true, if_false] at pvs ⊢
    exact ⟨r0, l0, by rw [el]; exact ok.mono (by omega), by rw [el]; exact gr.mono (by omega), by rw [el]; simp only; omega, by rw [pvs]; exact sum, m2 mem⟩
theorem posts_inv {sel : Bool → Bool} : ∀ L : List Post, L.length ≤ 8 → Pok L → PI sel L (posts sel L) := by
  intro L
  induction L using snoc_ind with
  | nil => intro _ _; exact ⟨by show (0 : Rat) ≤ 0; grind, fun h => absurd rfl h, ⟨fun b hb => (nomatch hb), fun b hb => (nomatch hb), fun b hb => (nomatch hb), fun b hb => (nomatch hb), List.nodup_nil⟩, G.zero, Nat.le_refl _, by show sumV [] - 0 = sumR []; rw [sumV_nil]; show (0 : Rat) - 0 = 0; grind, fun b hb => (nomatch hb)⟩
  | snoc L p ih =>
    intro hl h
    have hl2 : L.length + 1 ≤ 8 := by simpa using hl
    have nd := h.nd
    rw [List.map_append] at nd
    obtain ⟨n1, _, n3⟩ := List.nodup_append.mp nd
    have ok : Pok L := ⟨fun x hx => h.g x (List.mem_append_left _ hx), fun x hx => h.day x (List.mem_append_left _ hx), fun x hx => h.nm x (List.mem_append_left _ hx), n1⟩
    rw [posts_snoc]
    exact pi_step (ih (by omega) ok) (by omega) (h.g p (by simp)) (h.day p (by simp)) (h.nm p (by simp)) fun x hx => n3 _ (List.mem_map_of_mem (f := fun p : Post => p.2.1) hx) _ (by simp)
theorem Pok.take {L : List Post} (h : Pok L) (i : Nat) : Pok (L.take i) :=
  ⟨fun x hx => h.g x (List.mem_of_mem_take hx), fun x hx => h.day x (List.mem_of_mem_take hx), fun x hx => h.nm x (List.mem_of_mem_take hx), h.nd.sublist ((List.take_sublist _ _).map _)⟩
theorem posts_none {L : List Post} : posts (fun _ => false) L = ([], 0) := by
  induction L using snoc_ind with
  | nil => rfl
  | snoc L p ih => rw [posts_snoc, ih]; rfl
end M53


namespace M53
open Vi PySem
def unitD (b : Bool) : D := if b then wd "eur" else wd "usd"
def postW (p : Post) : List D := [.int p.1, nmD p.2.1, PR p.2.2.1, unitD p.2.2.2]
def postD (p : Post) : D := .tup (postW p)
def pbsD (s : Pbs) : D := .tup [.tup (s.1.map billD), PR s.2]
theorem gt_dec {x : Rat} : cmpD .gt (.int x.num) (.int 0) = some (decide (0 < x)) := by
  simp only [cmpD, num_gt]
theorem postAt {L : List Post} {i : Nat} {x : D} (h : (L.map postD)[i]? = some x) : ∃ p, L[i]? = some p ∧ x = postD p := by
  rw [List.getElem?_map] at h
  cases e : L[i]? with
  | none => rw [e] at h; cases h
  | some p =>
    rw [e] at h
    simp only [Option.map_some, Option.some.injEq] at h
    exact ⟨p, rfl, h.symm⟩
theorem tadd (xs ys : List D) (h : xs.length + ys.length ≤ 100) : binD .add (.tup xs) (.tup ys) = some (.tup (xs ++ ys)) := if_pos (by unfold lim; omega)
theorem posts_s {n : Nat} (hn : 6 ≤ n) {L : List Post} {u : D} {sel : Bool → Bool} {r : Rng} (hsel : ∀ b, eqD (unitD b) u = some (sel b)) (h : Pok L) (hl : L.length ≤ 7) : callI fu fns n i_from_postings [.lst (L.map postD), u] r = .ok (pbsD (posts sel L)) r := by
  obtain ⟨m, rfl⟩ : ∃ m, n = m + 1 := ⟨n - 1, by omega⟩
  rw [call_def at_from_postings rfl]
  obtain ⟨T, hT⟩ : ∃ T : D, T = .lst (L.map postD) := ⟨_, rfl⟩
  have lp := for_inv (cl := callI fu fns m) (fu := fu) (tg := .tp [4, 5, 6, 7]) (it := .seq (.var 0)) (b := (.cons (.ife (.and (.cmp .eq (.var 7) (.var 1)) (.cmp .gt (.ix (.var 6) (.cst (.int 0))) (.cst (.int 0)))) (.cons (.set 8 false (.call (Str.ofString "least") 6 (.cons (.lst (.cons (.var 6) (.cons (.var 3) .nil))) .nil))) (.cons (.set 3 false (.call (Str.ofString "minus") 3 (.cons (.var 3) (.cons (.var 8) .nil)))) (.cons (.ife (.cmp .ne (.var 8) (.var 6)) (.cons (.set 2 false (.bin .add (.var 2) (.tup (.cons (.tup (.cons (.var 4) (.cons (.var 5) (.cons (.call (Str.ofString "minus") 3 (.cons (.var 6) (.cons (.var 8) .nil))) .nil)))) .nil)))) .nil) .nil) .nil))) (.cons (.ife (.cmp .eq (.var 7) (.var 1)) (.cons (.unp [2, 9, 10] (.call (Str.ofString "paid_off") 12 (.cons (.var 2) (.cons (.tup (.cons (.bin .sub (.cst (.int 0)) (.ix (.var 6) (.cst (.int 0)))) (.cons (.ix (.var 6) (.cst (.int 1))) .nil))) .nil)))) (.cons (.set 3 false (.call (Str.ofString "plus") 2 (.cons (.var 3) (.cons (.var 10) .nil)))) .nil)) .nil) .nil)) .nil)) (s0 := ⟨[.val T, .val u, .val (.tup []), .val (PR 0), .uns, .uns, .uns, .uns, .uns, .uns, .uns], r⟩) (xs := L.map postD)
    (fun i s => ∃ o4 o5 o6 o7 o8 o9 o10 : Slot, Fre o4 ∧ Fre o5 ∧ Fre o6 ∧ Fre o7 ∧ Fre o8 ∧ Fre o9 ∧ Fre o10 ∧ s = ⟨[.val T, .val u, .val (.tup ((posts sel (L.take i)).1.map billD)), .val (PR (posts sel (L.take i)).2), o4, o5, o6, o7, o8, o9, o10], r⟩)
    (evi_seqL (xs := L.map postD) (by simp [hT]; exact ⟨rfl, rfl⟩)) rfl rfl ⟨.uns, .uns, .uns, .uns, .uns, .uns, .uns, .uns, .uns, .uns, .uns, .uns, .uns, .uns, rfl⟩ (by
      rintro i s x hx ⟨o4, o5, o6, o7, o8, o9, o10, h4, h5, h6, h7, h8, h9, h10, rfl⟩
      obtain ⟨p, hp, rfl⟩ := postAt hx
      have hm := List.mem_of_getElem? hp
      have hi : i < L.length := (List.getElem?_eq_some_iff.mp hp).1
      have hti : (L.take i).length = i := by rw [List.length_take]; omega
      have I := posts_inv (sel := sel) (L.take i) (by omega) (h.take i)
      obtain ⟨r0, l0, ok, gr, len, sum, mem⟩ := I
      rw [hti] at ok gr len
      have gp := h.g p hm
      have n8 : ∀ l : List Slot, nlck (o8 :: l) 0 = true := fun l => nlck_zf h8
      have n9 : ∀ l : List Slot, nlck (o9 :: l) 0 = true := fun l => nlck_zf h9
      have n10 : ∀ l : List Slot, nlck (o10 :: l) 0 = true := fun l => nlck_zf h10
      rw [take_snoc hp, posts_snoc]
      have hs := hsel p.2.2.2
      obtain ⟨dy, nm, v, un⟩ := p
      have bt : ∀ (a0 a1 a2 a3 : Slot), bindTg (.tp [4, 5, 6, 7]) (postD (dy, nm, v, un)) [a0, a1, a2, a3, o4, o5, o6, o7, o8, o9, o10] = some [a0, a1, a2, a3, .val (.int dy), .val (nmD nm), .val (PR v), .val (unitD un), o8, o9, o10] := by
        intro a0 a1 a2 a3
        rcases h4 with rfl | ⟨_, rfl⟩ <;> rcases h5 with rfl | ⟨_, rfl⟩ <;> rcases h6 with rfl | ⟨_, rfl⟩ <;> rcases h7 with rfl | ⟨_, rfl⟩ <;> rfl
      simp only at gp hs
      generalize posts sel (L.take i) = st at *
      obtain ⟨bs, rr⟩ := st
      simp only at r0 l0 ok gr len sum mem ⊢
      have gv : G (6 + 10 * i) v := gp.mono (by omega)
      have zv := gv.sz (by omega)
      have zr := gr.sz (by omega)
      unfold pstep
      by_cases c : sel un = true
      · simp only [c, if_true] at hs ⊢
        unfold pst1
        simp only
        by_cases cv : 0 < v
        · rw [if_pos cv]
          have gd := eq_true cv
          have a1 := fun r => least2_s (show 2 ≤ m by omega) (r := r) zv zr (by omega)
          have zn := (gv.min gr).sz (by omega)
          have a2 := fun r => minus_s (show 3 ≤ m by omega) (r := r) zr zn (by omega)
          have a3 := fun r => minus_s (show 3 ≤ m by omega) (r := r) zv zn (by omega)
          have ta := tadd (bs.map billD) [billD (dy, nm, v - min2 v rr)] (by simp; omega)
          rw [show billD (dy, nm, v - min2 v rr) = D.tup [.int dy, nmD nm, PR (v - min2 v rr)] from rfl] at ta
          generalize min2 v rr = w at *
          refine ⟨_, ⟨[.val T, .val u, .val (.tup ((if w = v then bs else bs ++ [(dy, nm, v - w)]).map billD)), .val (PR (rr - w)), .val (.int dy), .val (nmD nm), .val (PR v), .val (unitD un), .val (PR w), o9, o10], r⟩, bt _ _ _ _, .inl ?_, .val _, .val _, .val _, .val _, .val _, o9, o10, .val _, .val _, .val _, .val _, .val _, h9, h10, rfl⟩
          by_cases c2 : w = v
          · rw [if_pos c2]
            have c2' := eq_true c2
            have c3 : cmpD .ne (PR w) (PR v) = some false := by simp [cmpD, eqPR, c2]
            simp [hs, ixPR0, gt_dec, gd, a1, kset0, n8, a2, c3, show ∀ x y, cmpD .eq x y = eqD x y from fun _ _ => rfl]
          · rw [if_neg c2]
            have c3 : cmpD .ne (PR w) (PR v) = some true := by simp [cmpD, eqPR, c2]
            simp [hs, ixPR0, gt_dec, gd, a1, kset0, n8, a2, c3, a3, ta, billD, billW, show ∀ x y, cmpD .eq x y = eqD x y from fun _ _ => rfl]
        · rw [if_neg cv]
          have gd := eq_false cv
          have hnv : 0 ≤ -v := by grind
          have a1 := fun r => off_s (show 5 ≤ m by omega) (r := r) ok hnv gv.neg (by omega) (by omega) (by omega)
          have J := paid_inv hnv gv.neg ok
          have jg := J.gr
          rw [(sortK_perm bs).length_eq] at jg
          have a2 := fun r => plus_s (show 3 ≤ m by omega) (r := r) zr (jg.sz (by omega)) (by omega)
          have e0 : binD .sub (.int 0) (.int v.num) = some (.int (-v.num)) := by show some (D.int (0 - v.num)) = _; simp
          have en := prNeg v
          rw [show pstD (paid bs (-v)) = .tup [.tup ((paid bs (-v)).1.map billD), .lst ((paid bs (-v)).2.1.map goneD), PR (paid bs (-v)).2.2] from rfl] at a1
          generalize (paid bs (-v)).2.1.map goneD = GL at *
          generalize (paid bs (-v)).2.2 = rs at *
          refine ⟨_, ⟨[.val T, .val u, .val (.tup ((paid bs (-v)).1.map billD)), .val (PR (rr + rs)), .val (.int dy), .val (nmD nm), .val (PR v), .val (unitD un), o8, .val (.lst GL), .val (PR rs)], r⟩, bt _ _ _ _, .inl ?_, .val _, .val _, .val _, .val _, o8, .val _, .val _, .val _, .val _, .val _, .val _, h8, .val _, .val _, rfl⟩
          generalize (paid bs (-v)).1.map billD = LD at *
          simp [hs, ixPR0, ixPR1, gt_dec, gd, e0, en, a1, n9, n10, a2, show ∀ x y, cmpD .eq x y = eqD x y from fun _ _ => rfl]
      · have c2 : sel un = false := by simpa using c
        simp only [c2, Bool.false_eq_true, if_false] at hs ⊢
        refine ⟨_, ⟨[.val T, .val u, .val (.tup (bs.map billD)), .val (PR rr), .val (.int dy), .val (nmD nm), .val (PR v), .val (unitD un), o8, o9, o10], r⟩, bt _ _ _ _, .inl ?_, .val _, .val _, .val _, .val _, o8, o9, o10, .val _, .val _, .val _, .val _, h8, h9, h10, rfl⟩
        simp [hs, show ∀ x y, cmpD .eq x y = eqD x y from fun _ _ => rfl])
  obtain ⟨s', e, o4, o5, o6, o7, o8, o9, o10, h4, h5, h6, h7, h8, h9, h10, rfl⟩ := lp
  rw [List.length_map, List.take_length] at e
  have e : exs (callI fu fns m) fu l_from_postings_1 ⟨[.val T, .val u, .val (.tup []), .val (PR 0), .uns, .uns, .uns, .uns, .uns, .uns, .uns], r⟩ = .next ⟨[.val T, .val u, .val (.tup ((posts sel L).1.map billD)), .val (PR (posts sel L).2), o4, o5, o6, o7, o8, o9, o10], r⟩ := e
  have p0 : D.tup [.int 0, .int 1] = PR 0 := rfl
  rw [← hT]
  generalize hA : (posts sel L).1.map billD = A at *
  simp [f_from_postings, b_from_postings, startS, p0, e, pbsD, hA]
end M53


namespace M53
open Vi PySem
theorem eqc (x y : D) : cmpD .eq x y = eqD x y := rfl
theorem one_s {n : Nat} (hn : 7 ≤ n) {L : List Post} {u : D} {sel : Bool → Bool} {r : Rng} (hsel : ∀ b, eqD (unitD b) u = some (sel b)) (h : Pok L) (hl : L.length ≤ 7) : callI fu fns n i_is_one_sum [.lst (L.map postD), u] r = .ok (.bl true) r := by
  obtain ⟨m, rfl⟩ : ∃ m, n = m + 1 := ⟨n - 1, by omega⟩
  rw [call_def at_is_one_sum rfl]
  obtain ⟨T, hT⟩ : ∃ T : D, T = .lst (L.map postD) := ⟨_, rfl⟩
  have k1 := fun r => posts_s (show 6 ≤ m by omega) (r := r) hsel h hl
  have I := posts_inv (sel := sel) L (by omega) h
  obtain ⟨r0, l0, ok, gr, len, sum, mem⟩ := I
  have zb : ∀ b ∈ (posts sel L).1, Sz 76 b.2.2 := fun b hb => ((ok.g b hb).mono (by omega)).sz (by omega)
  have zW := Sz.sumV zb (n := 8) (by omega)
  have k2 := fun r => total_s (show 4 ≤ m by omega) (r := r) (xs := (posts sel L).1.map val) (k := 76) (fun x hx => by
    obtain ⟨b, hb, rfl⟩ := List.mem_map.mp hx
    exact zb b hb) (by rw [List.length_map]; omega)
  rw [show sumR ((posts sel L).1.map val) = sumV (posts sel L).1 from rfl] at k2
  have k3 := fun r => minus_s (show 3 ≤ m by omega) (r := r) zW ((gr.mono (show _ ≤ 76 by omega)).sz (by omega)) (by omega)
  rw [sum] at k3
  have l2 : ∀ (a2 a3 a4 : Slot) (r : Rng), ev (callI fu fns m) l_is_one_sum_2 ⟨[.val T, .val u, a2, a3, a4, .uns, .uns, .uns, .uns, .uns], r⟩ = .ok (.lst (((L.filter fun p => sel p.2.2.2).map pv).map PR)) ⟨[.val T, .val u, a2, a3, a4, .uns, .uns, .uns, .uns, .uns], r⟩ := fun a2 a3 a4 r => by
    rw [List.map_map]
    exact lcNF (W := postW) (xs := L) (fun p => sel p.2.2.2) _ (by decide) (fun j => Iff.rfl) (by simp) (fun _ _ => rfl) (evi_seqL (xs := L.map postD) (by simp [hT])) (by omega) (fun p hp sl2 s hx => by
      have b1 := s.v (j := 1) rfl (by decide)
      have b8 := hx 3 8 _ rfl rfl
      have hs := hsel p.2.2.2
      simp [b1, b8, eqc, hs]) fun p hp sl2 s hx => ⟨_, by
      have b7 := hx 2 7 _ rfl rfl
      simp [b7]; exact ⟨rfl, rfl⟩⟩
  have k4 := fun r => total_s (show 4 ≤ m by omega) (r := r) (xs := (L.filter fun p => sel p.2.2.2).map pv) (k := 6) (fun x hx => by
    obtain ⟨p, hp, rfl⟩ := List.mem_map.mp hx
    exact (h.g p (List.mem_filter.mp hp).1).sz (by omega)) (by
      rw [List.length_map]
      have := List.length_filter_le (fun p : Post => sel p.2.2.2) L
      omega)
  rw [show sumR ((L.filter fun p => sel p.2.2.2).map pv) = pval sel L from rfl] at k4
  obtain ⟨BT, hBT⟩ : ∃ BT : List D, BT = (posts sel L).1.map billD := ⟨_, rfl⟩
  rw [show pbsD (posts sel L) = .tup [.tup ((posts sel L).1.map billD), PR (posts sel L).2] from rfl, ← hBT] at k1
  have l1 : ∀ (a2 a4 a5 a6 a7 a8 : Slot) (r : Rng), ev (callI fu fns m) l_is_one_sum_1 ⟨[.val T, .val u, a2, .val (.tup BT), a4, a5, a6, a7, a8, .uns], r⟩ = .ok (.lst (((posts sel L).1.map val).map PR)) ⟨[.val T, .val u, a2, .val (.tup BT), a4, a5, a6, a7, a8, .uns], r⟩ := fun a2 a4 a5 a6 a7 a8 r => vals_s (ix := 9) (by simp) (evi_seqT (by simp [hBT])) (by omega)
  rw [← hT] at k1 ⊢
  generalize ((posts sel L).1.map val).map PR = V at *
  generalize ((L.filter fun p => sel p.2.2.2).map pv).map PR = V2 at *
  generalize sumV (posts sel L).1 = W at *
  generalize (posts sel L).2 = rr at *
  generalize pval sel L = pw at *
  simp [f_is_one_sum, b_is_one_sum, startS, k1, l2, k4, l1, k2, k3, eqc, eqPR]
theorem pick_s {n : Nat} (hn : 2 ≤ n) {q : Int × List Int} (hq : OkR q) : ∃ (b : Bool) (q' : Int × List Int), OkR q' ∧ callI fu fns n i__law_pick [.tok, .lst [wd "eur", wd "eur", wd "usd"]] (some q) = .ok (unitD b) (some q') := by
  obtain ⟨m, rfl⟩ : ∃ m, n = m + 1 := ⟨n - 1, by omega⟩
  rw [call_def at__law_pick rfl]
  obtain ⟨a, q3, hq3, ha, u1⟩ := take_x (show 1 ≤ m by omega) hq (most := 3) (by omega) (by omega)
  refine ⟨decide (a < 2), q3, hq3, ?_⟩
  have ln : ∀ r : Rng, bltD .len [.lst [wd "eur", wd "eur", wd "usd"]] r = some (.int 3) := fun _ => rfl
  have ix1 : ∀ r : Rng, ixD (.lst [wd "eur", wd "eur", wd "usd"]) (.int (a : Int)) r = some (unitD (decide (a < 2))) := fun r => by
    have : a = 0 ∨ a = 1 ∨ a = 2 := by omega
    rcases this with rfl | rfl | rfl <;> rfl
  generalize unitD (decide (a < 2)) = ud at *
  generalize (a : Int) = a' at *
  simp [f__law_pick, b__law_pick, startS, ln, u1, ix1]
def nms7 : D := .tup [wd "ann", wd "bob", wd "cid", wd "dan", wd "eve", wd "fay", wd "gil"]
theorem nms7_ix {i : Nat} (h : i < 7) (r : Rng) : ixD nms7 (.int (i : Int)) r = some (nmD i) := by
  have : i = 0 ∨ i = 1 ∨ i = 2 ∨ i = 3 ∨ i = 4 ∨ i = 5 ∨ i = 6 := by omega
  rcases this with rfl | rfl | rfl | rfl | rfl | rfl | rfl <;> rfl
theorem pok_snoc {L : List Post} {p : Post} (h : Pok L) (h1 : G 6 p.2.2.1) (h2 : 0 ≤ p.1 ∧ p.1 < 100) (h3 : p.2.1 < 7) (h4 : ∀ x ∈ L, x.2.1 ≠ p.2.1) : Pok (L ++ [p]) := by
  have key : ∀ {P : Post → Prop}, (∀ x ∈ L, P x) → P p → ∀ x ∈ L ++ [p], P x := fun a c x hx => by
    rcases List.mem_append.mp hx with hx | hx
    · exact a x hx
    · rw [List.mem_singleton.mp hx]; exact c
  refine ⟨key h.g h1, key h.day h2, key h.nm h3, ?_⟩
  rw [List.map_append]
  refine List.nodup_append.mpr ⟨h.nd, by simp, fun x hx y hy => ?_⟩
  obtain ⟨b', hb', rfl⟩ := List.mem_map.mp hx
  simp only [List.map_cons, List.map_nil, List.mem_singleton] at hy
  rw [hy]
  exact h4 b' hb'
theorem draw_loop {m : Nat} (hm : 2 ≤ m) {q : Int × List Int} (hq : OkR q) : ∃ (L : List Post) (q' : Int × List Int) (o1 o5 o6 : Slot), OkR q' ∧ Pok L ∧ L.length ≤ 6 ∧ Fre o1 ∧ Fre o5 ∧ Fre o6 ∧
    exs (callI fu fns m) fu l__law_posted_4 ⟨[.val .tok, .uns, .uns, .uns, .own [], .val (.int 0), .uns, .uns, .uns, .uns, .uns, .uns, .uns, .uns, .uns, .uns], some q⟩ =
      .next ⟨[.val .tok, o1, .uns, .uns, .own (L.map postD), o5, o6, .uns, .uns, .uns, .uns, .uns, .uns, .uns, .uns, .uns], some q'⟩ := by
  obtain ⟨p, q1, hq1, hp, t1⟩ := take_x (show 1 ≤ m by omega) hq (most := 7) (by omega) (by omega)
  have he := evi_rng1 (cl := callI fu fns m) (a := .call (Str.ofString "_law_take") 23 (.cons (.var 0) (.cons (.cst (.int 7)) .nil))) (s := ⟨[.val .tok, .uns, .uns, .uns, .own [], .val (.int 0), .uns, .uns, .uns, .uns, .uns, .uns, .uns, .uns, .uns, .uns], some q⟩) (n := (p : Int)) (s' := ⟨[.val .tok, .uns, .uns, .uns, .own [], .val (.int 0), .uns, .uns, .uns, .uns, .uns, .uns, .uns, .uns, .uns, .uns], some q1⟩) (by simp [t1]) (by unfold small62; simp; omega)
  obtain ⟨s', e1, L, dy, q', o1, o6, g1, g2, g3, g4, g5, g6, g7, g8⟩ := for_inv (cl := callI fu fns m) (fu := fu) (tg := .nm 1) (b := (.cons (.set 5 false (.bin .add (.var 5) (.call (Str.ofString "_law_take") 23 (.cons (.var 0) (.cons (.cst (.int 3)) .nil))))) (.cons (.set 6 false (.call (Str.ofString "_law_fraction") 34 (.cons (.var 0) (.cons (.cst (.int 5)) .nil)))) (.cons (.ife (.cmp .ne (.ix (.var 6) (.cst (.int 0))) (.cst (.int 0))) (.cons (.app 4 (.tup (.cons (.var 5) (.cons (.ix (.tup (.cons (.cst (.str (Str.ofString "ann"))) (.cons (.cst (.str (Str.ofString "bob"))) (.cons (.cst (.str (Str.ofString "cid"))) (.cons (.cst (.str (Str.ofString "dan"))) (.cons (.cst (.str (Str.ofString "eve"))) (.cons (.cst (.str (Str.ofString "fay"))) (.cons (.cst (.str (Str.ofString "gil"))) .nil)))))))) (.var 1)) (.cons (.var 6) (.cons (.call (Str.ofString "_law_pick") 24 (.cons (.var 0) (.cons (.lst (.cons (.cst (.str (Str.ofString "eur"))) (.cons (.cst (.str (Str.ofString "eur"))) (.cons (.cst (.str (Str.ofString "usd"))) .nil)))) .nil))) .nil)))))) .nil) .nil) .nil))))
    (fun i s => ∃ (L : List Post) (dy : Int) (q' : Int × List Int) (o1 o6 : Slot), OkR q' ∧ Pok L ∧ (L.length ≤ i ∧ ∀ x ∈ L, x.2.1 < i) ∧ 0 ≤ dy ∧ dy ≤ 3 * i ∧ Fre o1 ∧ Fre o6 ∧
      s = ⟨[.val .tok, o1, .uns, .uns, .own (L.map postD), .val (.int dy), o6, .uns, .uns, .uns, .uns, .uns, .uns, .uns, .uns, .uns], some q'⟩) he rfl rfl
    ⟨[], 0, q1, .uns, .uns, hq1, ⟨fun b hb => (nomatch hb), fun b hb => (nomatch hb), fun b hb => (nomatch hb), List.nodup_nil⟩, ⟨Nat.le_refl _, fun b hb => (nomatch hb)⟩, by omega, by omega, .uns, .uns, rfl⟩ (by
      rintro i s x hx ⟨L, dy, q', o1, o6, hq', g2, g3, g4, g5, ho1, ho6, rfl⟩
      obtain ⟨rfl, hi⟩ := rng0 hx
      obtain ⟨v, q2, hq2, hv, t2⟩ := take_x (show 1 ≤ m by omega) hq' (most := 3) (by omega) (by omega)
      obtain ⟨w, q3, hq3, gw, t3⟩ := frac_g (show 2 ≤ m by omega) hq2
      obtain ⟨dz, hdz⟩ : ∃ dz : Int, dz = dy + (v : Int) := ⟨_, rfl⟩
      have e1 : binD .add (.int dy) (.int (v : Int)) = some (.int dz) := by rw [hdz]; rfl
      have n6 : ∀ l : List Slot, nlck (o6 :: l) 0 = true := fun l => nlck_zf ho6
      have eN : D.tup [wd "ann", wd "bob", wd "cid", wd "dan", wd "eve", wd "fay", wd "gil"] = nms7 := rfl
      have iN := nms7_ix (i := i) (by omega)
      have hl : L.length < 1000000 := by omega
      by_cases c : w = 0
      · refine ⟨_, ⟨[.val .tok, .val (.int (i : Int)), .uns, .uns, .own (L.map postD), .val (.int dz), .val (PR w), .uns, .uns, .uns, .uns, .uns, .uns, .uns, .uns, .uns], some q3⟩, bindNm rfl ho1, .inl ?_, L, dz, q3, .val _, .val _, hq3, g2, ⟨by omega, fun x hx => by have := g3.2 x hx; omega⟩, by omega, by omega, .val _, .val _, rfl⟩
        have cz : cmpD .ne (.int w.num) (.int 0) = some false := by simp [cmpD, eqI, c]
        generalize (v : Int) = v' at *
        simp [t2, e1, t3, kset0, n6, ixPR0, cz]
      · obtain ⟨ub, q4, hq4, t4⟩ := pick_s hm hq3
        refine ⟨_, ⟨[.val .tok, .val (.int (i : Int)), .uns, .uns, .own ((L ++ [(dz, i, w, ub)]).map postD), .val (.int dz), .val (PR w), .uns, .uns, .uns, .uns, .uns, .uns, .uns, .uns, .uns], some q4⟩, bindNm rfl ho1, .inl ?_, L ++ [(dz, i, w, ub)], dz, q4, .val _, .val _, hq4, pok_snoc g2 gw ⟨by simp only; omega, by simp only; omega⟩ (by simp only; omega) (fun x hx => by have := g3.2 x hx; simp only; omega), ⟨by simp only [List.length_append, List.length_cons, List.length_nil]; omega, fun x hx => ?_⟩, by omega, by omega, .val _, .val _, rfl⟩
        · have cz : cmpD .ne (.int w.num) (.int 0) = some true := by simp [cmpD, eqI, c]
          generalize (v : Int) = v' at *
          simp [t2, e1, t3, kset0, n6, ixPR0, cz, eN, iN, t4, hl, postD, postW]
        · rcases List.mem_append.mp hx with hx | hx
          · have := g3.2 x hx; omega
          · rw [List.mem_singleton.mp hx]; simp only; omega)
  have hpl : (rngL 0 (p : Int)).length = p := rng0_len p
  rw [hpl] at g3
  refine ⟨L, q', o1, .val (.int dy), o6, g1, g2, by omega, g6, .val _, g7, ?_⟩
  rw [g8] at e1
  exact e1
end M53


namespace M53
open Vi PySem
def sE (b : Bool) : Bool := b
def sU (b : Bool) : Bool := !b
def sN (_ : Bool) : Bool := false
theorem hE : ∀ b, eqD (unitD b) (wd "eur") = some (sE b) := by intro b; cases b <;> decide +kernel
theorem hU : ∀ b, eqD (unitD b) (wd "usd") = some (sU b) := by intro b; cases b <;> decide +kernel
theorem hN : ∀ b, eqD (unitD b) (wd "yen") = some (sN b) := by intro b; cases b <;> decide +kernel
theorem own_loop {m : Nat} (hm : 5 ≤ m) {L : List Post} {r : Rng} {a1 a2 a3 a5 o6 : Slot} (h6 : Fre o6) (h : Pok L) (hl : L.length ≤ 7) :
    ∃ b6 b9 b10 b11 b12 b13 b14 : Slot, Fre b6 ∧ Fre b9 ∧ Fre b10 ∧ Fre b11 ∧ exs (callI fu fns m) fu l__law_posted_3 ⟨[.val .tok, a1, a2, a3, .own (L.map postD), a5, o6, .val (.tup []), .val (PR 0), .uns, .uns, .uns, .uns, .uns, .uns, .uns], r⟩ =
      .next ⟨[.val .tok, a1, a2, a3, .own (L.map postD), a5, b6, .val (.tup ((posts sE L).1.map billD)), .val (PR (posts sE L).2), b9, b10, b11, b12, b13, b14, .uns], r⟩ := by
  have lp := for_invK (cl := callI fu fns m) (fu := fu) (tg := .tp [9, 10, 6, 11]) (i := 4) (xs := L.map postD) (sl0 := [.val .tok, a1, a2, a3, .own (L.map postD), a5, o6, .val (.tup []), .val (PR 0), .uns, .uns, .uns, .uns, .uns, .uns, .uns]) (r := r) (b := (.cons (.ife (.and (.cmp .eq (.var 11) (.cst (.str (Str.ofString "eur")))) (.cmp .gt (.ix (.var 6) (.cst (.int 0))) (.cst (.int 0)))) (.cons (.set 12 false (.call (Str.ofString "_law_least") 33 (.cons (.lst (.cons (.var 6) (.cons (.var 8) .nil))) .nil))) (.cons (.set 8 false (.call (Str.ofString "_law_add") 26 (.cons (.var 8) (.cons (.call (Str.ofString "_law_neg") 28 (.cons (.var 12) .nil)) .nil)))) (.cons (.set 7 false (.bin .add (.var 7) (.ife (.cmp .ne (.var 12) (.var 6)) (.tup (.cons (.tup (.cons (.var 9) (.cons (.var 10) (.cons (.call (Str.ofString "_law_add") 26 (.cons (.var 6) (.cons (.call (Str.ofString "_law_neg") 28 (.cons (.var 12) .nil)) .nil))) .nil)))) .nil)) (.tup .nil)))) .nil))) (.cons (.ife (.cmp .eq (.var 11) (.cst (.str (Str.ofString "eur")))) (.cons (.unp [7, 13, 14] (.call (Str.ofString "_law_paid") 39 (.cons (.var 7) (.cons (.call (Str.ofString "_law_neg") 28 (.cons (.var 6) .nil)) .nil)))) (.cons (.set 8 false (.call (Str.ofString "_law_add") 26 (.cons (.var 8) (.cons (.var 14) .nil)))) .nil)) .nil) .nil)) .nil))
    (fun i s => ∃ o6 o9 o10 o11 o12 o13 o14 : Slot, Fre o6 ∧ Fre o9 ∧ Fre o10 ∧ Fre o11 ∧ Fre o12 ∧ Fre o13 ∧ Fre o14 ∧ s = ⟨[.val .tok, a1, a2, a3, .lck (L.map postD), a5, o6, .val (.tup ((posts sE (L.take i)).1.map billD)), .val (PR (posts sE (L.take i)).2), o9, o10, o11, o12, o13, o14, .uns], r⟩)
    rfl ⟨o6, .uns, .uns, .uns, .uns, .uns, .uns, h6, .uns, .uns, .uns, .uns, .uns, .uns, rfl⟩ (by
      rintro i s x hx ⟨o6, o9, o10, o11, o12, o13, o14, h6, h9, h10, h11, h12, h13, h14, rfl⟩
      obtain ⟨p, hp, rfl⟩ := postAt hx
      have hm := List.mem_of_getElem? hp
      have hi : i < L.length := (List.getElem?_eq_some_iff.mp hp).1
      have hti : (L.take i).length = i := by rw [List.length_take]; omega
      have I := posts_inv (sel := sE) (L.take i) (by omega) (h.take i)
      obtain ⟨r0, l0, ok, gr, len, sum, mem⟩ := I
      rw [hti] at ok gr len
      have gp := h.g p hm
      have n12 : ∀ l : List Slot, nlck (o12 :: l) 0 = true := fun l => nlck_zf h12
      have n13 : ∀ l : List Slot, nlck (o13 :: l) 0 = true := fun l => nlck_zf h13
      have n14 : ∀ l : List Slot, nlck (o14 :: l) 0 = true := fun l => nlck_zf h14
      rw [take_snoc hp, posts_snoc]
      have hs := hE p.2.2.2
      obtain ⟨dy, nm, v, un⟩ := p
      generalize hPL : L.map postD = PL at *
      have bt : ∀ (a0 a1 a2 a3 a4 a5 a7 a8 : Slot), bindTg (.tp [9, 10, 6, 11]) (postD (dy, nm, v, un)) [a0, a1, a2, a3, a4, a5, o6, a7, a8, o9, o10, o11, o12, o13, o14, .uns] = some [a0, a1, a2, a3, a4, a5, .val (PR v), a7, a8, .val (.int dy), .val (nmD nm), .val (unitD un), o12, o13, o14, .uns] := by
        intro a0 a1 a2 a3 a4 a5 a7 a8
        rcases h6 with rfl | ⟨_, rfl⟩ <;> rcases h9 with rfl | ⟨_, rfl⟩ <;> rcases h10 with rfl | ⟨_, rfl⟩ <;> rcases h11 with rfl | ⟨_, rfl⟩ <;> rfl
      simp only at gp hs
      generalize posts sE (L.take i) = st at *
      obtain ⟨bs, rr⟩ := st
      simp only at r0 l0 ok gr len sum mem ⊢
      have gv : G (6 + 10 * i) v := gp.mono (by omega)
      have zv := gv.sz (by omega)
      have zr := gr.sz (by omega)
      unfold pstep
      by_cases c : sE un = true
      · simp only [c, if_true] at hs ⊢
        unfold pst1
        simp only
        by_cases cv : 0 < v
        · rw [if_pos cv]
          have gd := eq_true cv
          have b1 := fun r => lleast2_s (show 2 ≤ m by omega) (r := r) zv zr (by omega)
          have zn := (gv.min gr).sz (by omega)
          have b0 := fun r => lneg_s (show 1 ≤ m by omega) (x := min2 v rr) (r := r)
          have b2 := fun r => ladd_s (show 3 ≤ m by omega) (r := r) zr zn.neg (by omega)
          have b3 := fun r => ladd_s (show 3 ≤ m by omega) (r := r) zv zn.neg (by omega)
          have ta := tadd (bs.map billD) [billD (dy, nm, v - min2 v rr)] (by simp; omega)
          have tb := tadd (bs.map billD) [] (by simp; omega)
          rw [show billD (dy, nm, v - min2 v rr) = D.tup [.int dy, nmD nm, PR (v - min2 v rr)] from rfl] at ta
          rw [List.append_nil] at tb
          generalize min2 v rr = w at *
          rw [show rr + -w = rr - w by grind] at b2
          rw [show v + -w = v - w by grind] at b3
          refine ⟨_, ⟨[.val .tok, a1, a2, a3, .lck PL, a5, .val (PR v), .val (.tup ((if w = v then bs else bs ++ [(dy, nm, v - w)]).map billD)), .val (PR (rr - w)), .val (.int dy), .val (nmD nm), .val (unitD un), .val (PR w), o13, o14, .uns], r⟩, bt _ _ _ _ _ _ _ _, ?_, .val _, .val _, .val _, .val _, .val _, o13, o14, .val _, .val _, .val _, .val _, .val _, h13, h14, rfl⟩
          by_cases c2 : w = v
          · rw [if_pos c2]
            have c3 : cmpD .ne (PR w) (PR v) = some false := by simp [cmpD, eqPR, c2]
            simp [hs, ixPR0, gt_dec, gd, b1, kset0, n12, b0, b2, c3, tb, eqc]
          · rw [if_neg c2]
            have c3 : cmpD .ne (PR w) (PR v) = some true := by simp [cmpD, eqPR, c2]
            simp [hs, ixPR0, gt_dec, gd, b1, kset0, n12, b0, b2, c3, b3, ta, billD, billW, eqc]
        · rw [if_neg cv]
          have gd := eq_false cv
          have hnv : 0 ≤ -v := by grind
          have b0 := fun r => lneg_s (show 1 ≤ m by omega) (x := v) (r := r)
          have b1 := fun r => law_paid_s (show 4 ≤ m by omega) (r := r) ok hnv gv.neg (by omega) (by omega) (by omega)
          have J := paid_inv hnv gv.neg ok
          have jg := J.gr
          rw [(sortK_perm bs).length_eq] at jg
          have b2 := fun r => ladd_s (show 3 ≤ m by omega) (r := r) zr (jg.sz (by omega)) (by omega)
          rw [show pstD (paid bs (-v)) = .tup [.tup ((paid bs (-v)).1.map billD), .lst ((paid bs (-v)).2.1.map goneD), PR (paid bs (-v)).2.2] from rfl] at b1
          generalize (paid bs (-v)).2.1.map goneD = GL at *
          generalize (paid bs (-v)).2.2 = rs at *
          refine ⟨_, ⟨[.val .tok, a1, a2, a3, .lck PL, a5, .val (PR v), .val (.tup ((paid bs (-v)).1.map billD)), .val (PR (rr + rs)), .val (.int dy), .val (nmD nm), .val (unitD un), o12, .val (.lst GL), .val (PR rs), .uns], r⟩, bt _ _ _ _ _ _ _ _, ?_, .val _, .val _, .val _, .val _, o12, .val _, .val _, .val _, .val _, .val _, .val _, h12, .val _, .val _, rfl⟩
          generalize (paid bs (-v)).1.map billD = LD at *
          simp [hs, ixPR0, gt_dec, gd, b0, b1, n13, n14, b2, eqc]
      · have c2 : sE un = false := by simpa using c
        simp only [c2, Bool.false_eq_true, if_false] at hs ⊢
        refine ⟨_, ⟨[.val .tok, a1, a2, a3, .lck PL, a5, .val (PR v), .val (.tup (bs.map billD)), .val (PR rr), .val (.int dy), .val (nmD nm), .val (unitD un), o12, o13, o14, .uns], r⟩, bt _ _ _ _ _ _ _ _, ?_, .val _, .val _, .val _, .val _, o12, o13, o14, .val _, .val _, .val _, .val _, h12, h13, h14, rfl⟩
        simp [hs, eqc]) (by
      rintro s ⟨o6, o9, o10, o11, o12, o13, o14, h6, h9, h10, h11, h12, h13, h14, rfl⟩
      rfl)
  obtain ⟨s', e, b6, b9, b10, b11, b12, b13, b14, h6, h9, h10, h11, h12, h13, h14, rfl⟩ := lp
  rw [List.length_map, List.take_length] at e
  exact ⟨b6, b9, b10, b11, b12, b13, b14, h6, h9, h10, h11, e⟩
theorem pbs_dok (s : Pbs) : dok 64 (pbsD s) = true := by
  have hb : ∀ b, dok 62 (billD b) = true := fun b => by simp only [billD, billW, dok, doks, nm_dok, dok_PR, Bool.and_self, Bool.and_true, Bool.true_and]
  have h1 := doks_map billD 62 hb s.1
  simp only [pbsD, dok, doks, h1, dok_PR, Bool.and_self]
theorem posted_s {n : Nat} (hn : 9 ≤ n) {q : Int × List Int} (hq : OkR q) : ∃ q', OkR q' ∧ callI fu fns n i__law_posted [.tok] (some q) = .ok (.bl true) (some q') := by
  obtain ⟨m, rfl⟩ : ∃ m, n = m + 1 := ⟨n - 1, by omega⟩
  rw [call_def at__law_posted rfl]
  obtain ⟨L, q1, o1, o5, o6, hq1, h, hl, ho1, ho5, ho6, t1⟩ := draw_loop (m := m) (by omega) hq
  obtain ⟨b6, b9, b10, b11, b12, b13, b14, f6, f9, f10, f11, t2⟩ := own_loop (m := m) (by omega) (L := L) (r := some q1) (a1 := o1) (a2 := .uns) (a3 := .uns) (a5 := o5) ho6 h (by omega)
  have k1 := fun r => posts_s (show 6 ≤ m by omega) (r := r) hE h (by omega)
  have k2 := fun r => one_s (show 7 ≤ m by omega) (r := r) hE h (by omega)
  have k3 := fun r => one_s (show 7 ≤ m by omega) (r := r) hU h (by omega)
  have k4 := fun r => posts_s (show 6 ≤ m by omega) (r := r) hN h (by omega)
  have e0 : posts sN L = ([], 0) := posts_none
  rw [e0] at k4
  have I := posts_inv (sel := sE) L (by omega) h
  obtain ⟨r0, l0, ok, gr, len, sum, mem⟩ := I
  have eqS := eqD_refl (pbs_dok (posts sE L))
  have eqN := eqD_refl (pbs_dok ([], 0))
  have zb : ∀ b ∈ (posts sE L).1, Sz 76 b.2.2 := fun b hb => ((ok.g b hb).mono (by omega)).sz (by omega)
  have zW := Sz.sumV zb (n := 8) (by omega)
  have k5 := fun r => ltotal_s (show 4 ≤ m by omega) (r := r) (xs := (posts sE L).1.map val) (k := 76) (fun x hx => by
    obtain ⟨b, hb, rfl⟩ := List.mem_map.mp hx
    exact zb b hb) (by rw [List.length_map]; omega)
  rw [show sumR ((posts sE L).1.map val) = sumV (posts sE L).1 from rfl] at k5
  have k6 := fun r => lneg_s (show 1 ≤ m by omega) (x := (posts sE L).2) (r := r)
  have k7 := fun r => ladd_s (show 3 ≤ m by omega) (r := r) zW ((gr.mono (show _ ≤ 76 by omega)).sz (by omega)).neg (by omega)
  rw [show sumV (posts sE L).1 + -(posts sE L).2 = pval sE L by rw [← sum]; grind] at k7
  obtain ⟨T, hT⟩ : ∃ T : List D, T = L.map postD := ⟨_, rfl⟩
  have l2 : ∀ (a2 a7 a8 a12 a13 a14 : Slot) (r : Rng), ev (callI fu fns m) l__law_posted_2 ⟨[.val .tok, o1, a2, .uns, .val (.lst T), o5, b6, a7, a8, b9, b10, b11, a12, a13, a14, .uns], r⟩ = .ok (.lst (((L.filter fun p => sE p.2.2.2).map pv).map PR)) ⟨[.val .tok, o1, a2, .uns, .val (.lst T), o5, b6, a7, a8, b9, b10, b11, a12, a13, a14, .uns], r⟩ := fun a2 a7 a8 a12 a13 a14 r => by
    rw [List.map_map]
    have ff : ∀ i ∈ [9, 10, 6, 11], free [.val .tok, o1, a2, .uns, .val (.lst T), o5, b6, a7, a8, b9, b10, b11, a12, a13, a14, .uns] i = true := by
      intro i hi
      simp only [List.mem_cons, List.not_mem_nil, or_false] at hi
      rcases hi with rfl | rfl | rfl | rfl
      · simp [free_f f9]
      · simp [free_f f10]
      · simp [free_f f6]
      · simp [free_f f11]
    exact lcNF (is := [9, 10, 6, 11]) (ow := [6, 9, 10, 11]) (W := postW) (xs := L) (fun p => sE p.2.2.2) _ (by decide) (fun j => by simp only [List.mem_cons, List.not_mem_nil, or_false]; omega) ff (fun _ _ => rfl) (evi_seqL (xs := L.map postD) (by simp [hT])) (by omega) (fun p hp sl2 s hx => by
      have b8 := hx 3 11 _ rfl rfl
      have hs := hE p.2.2.2
      simp [b8, eqc, hs]) fun p hp sl2 s hx => ⟨_, by
      have b7 := hx 2 6 _ rfl rfl
      simp [b7]; exact ⟨rfl, rfl⟩⟩
  have k8 := fun r => ltotal_s (show 4 ≤ m by omega) (r := r) (xs := (L.filter fun p => sE p.2.2.2).map pv) (k := 6) (fun x hx => by
    obtain ⟨p, hp, rfl⟩ := List.mem_map.mp hx
    exact (h.g p (List.mem_filter.mp hp).1).sz (by omega)) (by
      rw [List.length_map]
      have := List.length_filter_le (fun p : Post => sE p.2.2.2) L
      omega)
  rw [show sumR ((L.filter fun p => sE p.2.2.2).map pv) = pval sE L from rfl] at k8
  obtain ⟨BT, hBT⟩ : ∃ BT : List D, BT = (posts sE L).1.map billD := ⟨_, rfl⟩
  have l1 : ∀ (a1 a2 a3 a4 a5 a6 a8 a9 a10 a11 a12 a13 a14 : Slot) (r : Rng), ev (callI fu fns m) l__law_posted_1 ⟨[.val .tok, a1, a2, a3, a4, a5, a6, .val (.tup BT), a8, a9, a10, a11, a12, a13, a14, .uns], r⟩ = .ok (.lst (((posts sE L).1.map val).map PR)) ⟨[.val .tok, a1, a2, a3, a4, a5, a6, .val (.tup BT), a8, a9, a10, a11, a12, a13, a14, .uns], r⟩ := fun _ _ _ _ _ _ _ _ _ _ _ _ _ r => vals_s (ix := 15) (by simp) (evi_seqT (by simp [hBT])) (by omega)
  rw [show pbsD (posts sE L) = .tup [.tup ((posts sE L).1.map billD), PR (posts sE L).2] from rfl] at k1 eqS
  rw [← hBT] at k1 eqS t2
  rw [show pbsD ([], 0) = .tup [.tup [], PR 0] from rfl] at k4 eqN
  rw [← hT] at k1 k2 k3 k4 t1 t2
  have p0 : D.tup [.int 0, .int 1] = PR 0 := rfl
  have eN : eqD (.tup []) (.tup []) = some true := by decide +kernel
  have hcase : ((posts sE L).2 = 0) ∨ (BT = [] ∧ ¬ (posts sE L).2 = 0) := by
    by_cases c1 : (posts sE L).2 = 0
    · exact .inl c1
    · refine .inr ⟨?_, c1⟩
      by_cases c2 : (posts sE L).1 = []
      · rw [hBT, c2]; rfl
      · exact absurd (l0 c2) c1
  generalize ((posts sE L).1.map val).map PR = V at *
  generalize ((L.filter fun p => sE p.2.2.2).map pv).map PR = V2 at *
  generalize sumV (posts sE L).1 = W at *
  generalize (posts sE L).2 = rr at *
  generalize pval sE L = pw at *
  refine ⟨q1, hq1, ?_⟩
  rcases hcase with c1 | ⟨c1, c2⟩
  · have c1 := eq_true c1
    simp [f__law_posted, b__law_posted, startS, t1, p0, t2, k1, l2, k8, cmpD, eqS, l1, k5, k6, k7, eqPR, c1, k2, k3, isD, k4, eqN]
  · subst c1
    have c2 := eq_false c2
    simp [f__law_posted, b__law_posted, startS, t1, p0, t2, k1, l2, k8, cmpD, eqS, l1, k5, k6, k7, eqPR, c2, eN, k2, k3, isD, k4, eqN]
end M53


namespace M53
open Vi PySem
theorem law_odd_s {r : Rng} : callI fu fns 29 i__law_odd [] r = .ok (.bl true) r := by kernel_rfl
theorem bl_eq (L : List Bill) (hl : L.length < 1000) : eqD (.lst ((sortK bday L).map billD)) (.lst ((sortK bday L).map billD)) = some true := eqD_refl (by
  have hb : ∀ b, dok 63 (billD b) = true := fun b => by simp only [billD, billW, dok, doks, nm_dok, dok_PR, Bool.and_self, Bool.and_true, Bool.true_and]
  exact doks_map billD 63 hb _)
theorem law_s (ns : List Int) (hl : ns.length ≤ 63) : ∃ r, callI fu fns 30 i_law [.scr ns] none = .ok (.bl true) r := by
  rw [call_def at_law rfl]
  have f0 := state_s (show 1 ≤ 29 by decide) hl
  obtain ⟨s', e, q, o2, o3, hq, h2, h3, rfl⟩ : ∃ s', exs (callI fu fns 29) fu l_law_1 ⟨[.val (.scr ns), .val .tok, .uns, .uns], some (stateF ns)⟩ = .next s' ∧ ∃ (q : Int × List Int) (o2 o3 : Slot), OkR q ∧ Fre o2 ∧ Fre o3 ∧ s' = ⟨[.val (.scr ns), .val .tok, o2, o3], some q⟩ := by
    unfold l_law_1
    refine for_inv (fun i s => ∃ (q : Int × List Int) (o2 o3 : Slot), OkR q ∧ Fre o2 ∧ Fre o3 ∧ s = ⟨[.val (.scr ns), .val .tok, o2, o3], some q⟩) (evi_rng1 (n := 5) (by simp) (by decide)) rfl rfl ⟨_, _, _, stateF_ok ns, .uns, .uns, rfl⟩ ?_
    rintro i s d _ ⟨q, o2, o3, hq, h2, h3, rfl⟩
    obtain ⟨L, q1, hq1, hL, hln, f1⟩ := law_bills_s (show 3 ≤ 29 by decide) hq
    have f2 := fun r => bills_s (show 5 ≤ 29 by decide) (r := r) hL (by decide) (by decide) (by omega)
    have f3 := fun r => oldest_s (show 1 ≤ 29 by decide) (L := L) (r := r)
    have f4 := fun r => order_s (show 1 ≤ 29 by decide) (L := L) (r := r) (by omega)
    have f5 := bl_eq L (by omega)
    obtain ⟨q2, hq2, f6⟩ := pay_s (show 8 ≤ 29 by decide) hq1 hL hln
    obtain ⟨q3, hq3, f7⟩ := ages_s (show 8 ≤ 29 by decide) hq2 hL hln
    obtain ⟨q4, hq4, f8⟩ := posted_s (show 9 ≤ 29 by decide) hq3
    have et : isD (.bl true) (.bl true) = some true := rfl
    refine ⟨_, ⟨[.val (.scr ns), .val .tok, .val d, .val (.tup (L.map billD))], some q4⟩, bindNm rfl h2, .inl ?_, q4, .val d, .val _, hq4, .val _, .val _, rfl⟩
    generalize L.map billD = LD at *
    generalize (sortK bday L).map billD = SD at *
    rcases h3 with rfl | ⟨d3, rfl⟩ <;> simp [f1, f2, f3, f4, f5, f6, f7, f8, cmpD, et]
  refine ⟨some q, ?_⟩
  simp [f_law, b_law, startS, f0, e, law_odd_s]
theorem law : ∀ ns : List Int, ns.length ≤ 63 → ∃ r, Vi.callI 20000 (M53.ds.map (·.f)) 30 (M53.ds.length - 1) [.scr ns] none = .ok (.bl true) r := law_s
end M53


theorem M53.chk : M53.ds.all (Vi.chkD M53.z0 (Vi.fnsOf M53.ds)) = true := by decide +kernel
open PySem PySem.W PyProof.Rows
set_option maxRecDepth 100000 in
set_option maxHeartbeats 0 in
theorem PySem.Challenge.cw_ledgerwright_k53_whole_bills_holds : PySem.Challenge.rw_ledgerwright_k53_whole_bills.Holds := by
  w_on; o_law; k_head; (case hw => w_witness2)
  k_fill
  refine Vi.walk_lam (l := PySem.Challenge.rw_ledgerwright_k53_whole_bills) (most := 63) (k := 32) (sx := "script") (CXw := fun w => L2.CX (PySem.Challenge.rw_ledgerwright_k53_whole_bills).prog w) rfl (by decide) rfl ⟨rfl, by decide, by decide⟩ (fun w h Y => PySem.W.km_in_of Y) ?F Vi.noX
  case F =>
    intro w mg mb mean fa h KX G TP hmg
    refine' Vi.law_lam2 (ds := M53.ds) (z := M53.z0) (li := 44) (dl := M53.d_law) (xl := (Str.ofString "oldest_first")) TP KX G hmg ?hr ?hta ?hno rfl ?D ?B ?GL rfl ?T ?ga ?gg ?hd ?iC ?sC M53.chk rfl rfl 30 20000 M53.law
    case hr => rfl
    case hta => kernel_rfl
    case hno => kernel_rfl
    case T =>
      refine' Vi.mit_mk KX G ?gC ?cl ?ve ?sa ?noN ?ini ?tC ?kC ?exC ?veC ?slf ?tyC ?sup ?opq ?nsu ?top ?lk ?cd ?ms ?ln ?cda ?fl ?fe ?cel
      (case gC => k_is)
      (case cl => k_is)
      (case ve => decide +kernel)
      (case sa => k_is)
      (case noN => k_is)
      (case ini => k_is)
      (case tC => k_is)
      (case kC => k_is)
      (case exC => k_is)
      (case veC => k_is)
      (case slf => k_is)
      (case tyC => k_is)
      (case sup => first | ks_is | kernel_rfl)
      (case opq => k_is)
      (case nsu => k_is)
      (case top => decide +kernel)
      (case lk => k_is)
      (case cd => k_is)
      (case ms => decide +kernel)
      (case ln => decide)
      (case cda => k_is)
      (case fl => rfl)
      (case fe => decide +kernel)
      (case cel => k_is)
    (case ga => k_is)
    (case gg => k_is)
    (case hd => k_is)
    (case iC => k_is)
    (case sC => first | rfl | k_is)
    case B =>
      refine' Vi.BltsAt.cons (PySem.W.mg_none_of KX G ?b) ?_; (case b => k_is)
      refine' Vi.BltsAt.cons (PySem.W.mg_none_of KX G ?b) ?_; (case b => k_is)
      refine' Vi.BltsAt.cons (PySem.W.mg_none_of KX G ?b) ?_; (case b => k_is)
      refine' Vi.BltsAt.cons (PySem.W.mg_none_of KX G ?b) ?_; (case b => k_is)
      refine' Vi.BltsAt.cons (PySem.W.mg_none_of KX G ?b) ?_; (case b => k_is)
      refine' Vi.BltsAt.cons (PySem.W.mg_none_of KX G ?b) ?_; (case b => k_is)
      refine' Vi.BltsAt.cons (PySem.W.mg_none_of KX G ?b) ?_; (case b => k_is)
      refine' Vi.BltsAt.cons (PySem.W.mg_none_of KX G ?b) ?_; (case b => k_is)
      refine' Vi.BltsAt.cons (PySem.W.mg_none_of KX G ?b) ?_; (case b => k_is)
      refine' Vi.BltsAt.cons (PySem.W.mg_none_of KX G ?b) ?_; (case b => k_is)
      refine' Vi.BltsAt.cons (PySem.W.mg_none_of KX G ?b) ?_; (case b => k_is)
      refine' Vi.BltsAt.cons (PySem.W.mg_none_of KX G ?b) ?_; (case b => k_is)
      refine' Vi.BltsAt.cons (PySem.W.mg_none_of KX G ?b) ?_; (case b => k_is)
      refine' Vi.BltsAt.cons (PySem.W.mg_none_of KX G ?b) ?_; (case b => k_is)
      refine' Vi.BltsAt.cons (PySem.W.mg_none_of KX G ?b) ?_; (case b => k_is)
      refine' Vi.BltsAt.cons (PySem.W.mg_none_of KX G ?b) ?_; (case b => k_is)
      exact .nil
    case D =>
      refine' Vi.DefsAt.cons (Vi.defAt_mk KX G (x := (Str.ofString "divisor")) (st := M53.top 4) rfl rfl ?a ?l ?c ?k fun _ _ _ _ _ _ us hl => match us, hl with | [_, _], _ => rfl) ?r0; (case a => k_is); (case l => k_is); (case c => k_is); (case k => k_is); case' r0 => skip
      refine' Vi.DefsAt.cons (Vi.defAt_mk KX G (x := (Str.ofString "part")) (st := M53.top 5) rfl rfl ?a ?l ?c ?k fun _ _ _ _ _ _ us hl => match us, hl with | [_, _], _ => rfl) ?r1; (case a => k_is); (case l => k_is); (case c => k_is); (case k => k_is); case' r1 => skip
      refine' Vi.DefsAt.cons (Vi.defAt_mk KX G (x := (Str.ofString "plus")) (st := M53.top 6) rfl rfl ?a ?l ?c ?k fun _ _ _ _ _ _ us hl => match us, hl with | [_, _], _ => rfl) ?r2; (case a => k_is); (case l => k_is); (case c => k_is); (case k => k_is); case' r2 => skip
      refine' Vi.DefsAt.cons (Vi.defAt_mk KX G (x := (Str.ofString "minus")) (st := M53.top 7) rfl rfl ?a ?l ?c ?k fun _ _ _ _ _ _ us hl => match us, hl with | [_, _], _ => rfl) ?r3; (case a => k_is); (case l => k_is); (case c => k_is); (case k => k_is); case' r3 => skip
      refine' Vi.DefsAt.cons (Vi.defAt_mk KX G (x := (Str.ofString "times")) (st := M53.top 8) rfl rfl ?a ?l ?c ?k fun _ _ _ _ _ _ us hl => match us, hl with | [_, _], _ => rfl) ?r4; (case a => k_is); (case l => k_is); (case c => k_is); (case k => k_is); case' r4 => skip
      refine' Vi.DefsAt.cons (Vi.defAt_mk KX G (x := (Str.ofString "is_less")) (st := M53.top 9) rfl rfl ?a ?l ?c ?k fun _ _ _ _ _ _ us hl => match us, hl with | [_, _], _ => rfl) ?r5; (case a => k_is); (case l => k_is); (case c => k_is); (case k => k_is); case' r5 => skip
      refine' Vi.DefsAt.cons (Vi.defAt_mk KX G (x := (Str.ofString "least")) (st := M53.top 10) rfl rfl ?a ?l ?c ?k fun _ _ _ _ _ _ us hl => match us, hl with | [_], _ => rfl) ?r6; (case a => k_is); (case l => k_is); (case c => k_is); (case k => k_is); case' r6 => skip
      refine' Vi.DefsAt.cons (Vi.defAt_mk KX G (x := (Str.ofString "total")) (st := M53.top 11) rfl rfl ?a ?l ?c ?k fun _ _ _ _ _ _ us hl => match us, hl with | [_], _ => rfl) ?r7; (case a => k_is); (case l => k_is); (case c => k_is); (case k => k_is); case' r7 => skip
      refine' Vi.DefsAt.cons (Vi.defAt_mk KX G (x := (Str.ofString "are_bills")) (st := M53.top 15) rfl rfl ?a ?l ?c ?k fun _ _ _ _ _ _ us hl => match us, hl with | [_], _ => rfl) ?r8; (case a => k_is); (case l => k_is); (case c => k_is); (case k => k_is); case' r8 => skip
      refine' Vi.DefsAt.cons (Vi.defAt_mk KX G (x := (Str.ofString "is_whole")) (st := M53.top 16) rfl rfl ?a ?l ?c ?k fun _ _ _ _ _ _ us hl => match us, hl with | [_], _ => rfl) ?r9; (case a => k_is); (case l => k_is); (case c => k_is); (case k => k_is); case' r9 => skip
      refine' Vi.DefsAt.cons (Vi.defAt_mk KX G (x := (Str.ofString "is_above")) (st := M53.top 17) rfl rfl ?a ?l ?c ?k fun _ _ _ _ _ _ us hl => match us, hl with | [_], _ => rfl) ?r10; (case a => k_is); (case l => k_is); (case c => k_is); (case k => k_is); case' r10 => skip
      refine' Vi.DefsAt.cons (Vi.defAt_mk KX G (x := (Str.ofString "oldest_first")) (st := M53.top 18) rfl rfl ?a ?l ?c ?k fun _ _ _ _ _ _ us hl => match us, hl with | [_], _ => rfl) ?r11; (case a => k_is); (case l => k_is); (case c => k_is); (case k => k_is); case' r11 => skip
      refine' Vi.DefsAt.cons (Vi.defAt_mk KX G (x := (Str.ofString "paid_off")) (st := M53.top 19) rfl rfl ?a ?l ?c ?k fun _ _ _ _ _ _ us hl => match us, hl with | [_, _], _ => rfl) ?r12; (case a => k_is); (case l => k_is); (case c => k_is); (case k => k_is); case' r12 => skip
      refine' Vi.DefsAt.cons (Vi.defAt_mk KX G (x := (Str.ofString "paid_alike")) (st := M53.top 20) rfl rfl ?a ?l ?c ?k fun _ _ _ _ _ _ us hl => match us, hl with | [_, _], _ => rfl) ?r13; (case a => k_is); (case l => k_is); (case c => k_is); (case k => k_is); case' r13 => skip
      refine' Vi.DefsAt.cons (Vi.defAt_mk KX G (x := (Str.ofString "over_part")) (st := M53.top 21) rfl rfl ?a ?l ?c ?k fun _ _ _ _ _ _ us hl => match us, hl with | [_, _], _ => rfl) ?r14; (case a => k_is); (case l => k_is); (case c => k_is); (case k => k_is); case' r14 => skip
      refine' Vi.DefsAt.cons (Vi.defAt_mk KX G (x := (Str.ofString "by_age")) (st := M53.top 22) rfl rfl ?a ?l ?c ?k fun _ _ _ _ _ _ us hl => match us, hl with | [_, _, _], _ => rfl) ?r15; (case a => k_is); (case l => k_is); (case c => k_is); (case k => k_is); case' r15 => skip
      refine' Vi.DefsAt.cons (Vi.defAt_mk KX G (x := (Str.ofString "doubtful")) (st := M53.top 23) rfl rfl ?a ?l ?c ?k fun _ _ _ _ _ _ us hl => match us, hl with | [_, _, _, _], _ => rfl) ?r16; (case a => k_is); (case l => k_is); (case c => k_is); (case k => k_is); case' r16 => skip
      refine' Vi.DefsAt.cons (Vi.defAt_mk KX G (x := (Str.ofString "due")) (st := M53.top 24) rfl rfl ?a ?l ?c ?k fun _ _ _ _ _ _ us hl => match us, hl with | [_, _, _, _], _ => rfl) ?r17; (case a => k_is); (case l => k_is); (case c => k_is); (case k => k_is); case' r17 => skip
      refine' Vi.DefsAt.cons (Vi.defAt_mk KX G (x := (Str.ofString "early_rate")) (st := M53.top 25) rfl rfl ?a ?l ?c ?k fun _ _ _ _ _ _ us hl => match us, hl with | [_, _, _], _ => rfl) ?r18; (case a => k_is); (case l => k_is); (case c => k_is); (case k => k_is); case' r18 => skip
      refine' Vi.DefsAt.cons (Vi.defAt_mk KX G (x := (Str.ofString "mean_age")) (st := M53.top 26) rfl rfl ?a ?l ?c ?k fun _ _ _ _ _ _ us hl => match us, hl with | [_, _], _ => rfl) ?r19; (case a => k_is); (case l => k_is); (case c => k_is); (case k => k_is); case' r19 => skip
      refine' Vi.DefsAt.cons (Vi.defAt_mk KX G (x := (Str.ofString "from_postings")) (st := M53.top 27) rfl rfl ?a ?l ?c ?k fun _ _ _ _ _ _ us hl => match us, hl with | [_, _], _ => rfl) ?r20; (case a => k_is); (case l => k_is); (case c => k_is); (case k => k_is); case' r20 => skip
      refine' Vi.DefsAt.cons (Vi.defAt_mk KX G (x := (Str.ofString "is_one_sum")) (st := M53.top 28) rfl rfl ?a ?l ?c ?k fun _ _ _ _ _ _ us hl => match us, hl with | [_, _], _ => rfl) ?r21; (case a => k_is); (case l => k_is); (case c => k_is); (case k => k_is); case' r21 => skip
      refine' Vi.DefsAt.cons (Vi.defAt_mk KX G (x := (Str.ofString "_law_state")) (st := M53.top 30) rfl rfl ?a ?l ?c ?k fun _ _ _ _ _ _ us hl => match us, hl with | [_], _ => rfl) ?r22; (case a => k_is); (case l => k_is); (case c => k_is); (case k => k_is); case' r22 => skip
      refine' Vi.DefsAt.cons (Vi.defAt_mk KX G (x := (Str.ofString "_law_take")) (st := M53.top 31) rfl rfl ?a ?l ?c ?k fun _ _ _ _ _ _ us hl => match us, hl with | [_, _], _ => rfl) ?r23; (case a => k_is); (case l => k_is); (case c => k_is); (case k => k_is); case' r23 => skip
      refine' Vi.DefsAt.cons (Vi.defAt_mk KX G (x := (Str.ofString "_law_pick")) (st := M53.top 32) rfl rfl ?a ?l ?c ?k fun _ _ _ _ _ _ us hl => match us, hl with | [_, _], _ => rfl) ?r24; (case a => k_is); (case l => k_is); (case c => k_is); (case k => k_is); case' r24 => skip
      refine' Vi.DefsAt.cons (Vi.defAt_mk KX G (x := (Str.ofString "_law_part")) (st := M53.top 33) rfl rfl ?a ?l ?c ?k fun _ _ _ _ _ _ us hl => match us, hl with | [_, _], _ => rfl) ?r25; (case a => k_is); (case l => k_is); (case c => k_is); (case k => k_is); case' r25 => skip
      refine' Vi.DefsAt.cons (Vi.defAt_mk KX G (x := (Str.ofString "_law_add")) (st := M53.top 34) rfl rfl ?a ?l ?c ?k fun _ _ _ _ _ _ us hl => match us, hl with | [_, _], _ => rfl) ?r26; (case a => k_is); (case l => k_is); (case c => k_is); (case k => k_is); case' r26 => skip
      refine' Vi.DefsAt.cons (Vi.defAt_mk KX G (x := (Str.ofString "_law_mul")) (st := M53.top 35) rfl rfl ?a ?l ?c ?k fun _ _ _ _ _ _ us hl => match us, hl with | [_, _], _ => rfl) ?r27; (case a => k_is); (case l => k_is); (case c => k_is); (case k => k_is); case' r27 => skip
      refine' Vi.DefsAt.cons (Vi.defAt_mk KX G (x := (Str.ofString "_law_neg")) (st := M53.top 36) rfl rfl ?a ?l ?c ?k fun _ _ _ _ _ _ us hl => match us, hl with | [_], _ => rfl) ?r28; (case a => k_is); (case l => k_is); (case c => k_is); (case k => k_is); case' r28 => skip
      refine' Vi.DefsAt.cons (Vi.defAt_mk KX G (x := (Str.ofString "_law_over")) (st := M53.top 37) rfl rfl ?a ?l ?c ?k fun _ _ _ _ _ _ us hl => match us, hl with | [_, _], _ => rfl) ?r29; (case a => k_is); (case l => k_is); (case c => k_is); (case k => k_is); case' r29 => skip
      refine' Vi.DefsAt.cons (Vi.defAt_mk KX G (x := (Str.ofString "_law_less")) (st := M53.top 38) rfl rfl ?a ?l ?c ?k fun _ _ _ _ _ _ us hl => match us, hl with | [_, _], _ => rfl) ?r30; (case a => k_is); (case l => k_is); (case c => k_is); (case k => k_is); case' r30 => skip
      refine' Vi.DefsAt.cons (Vi.defAt_mk KX G (x := (Str.ofString "_law_total")) (st := M53.top 39) rfl rfl ?a ?l ?c ?k fun _ _ _ _ _ _ us hl => match us, hl with | [_], _ => rfl) ?r31; (case a => k_is); (case l => k_is); (case c => k_is); (case k => k_is); case' r31 => skip
      refine' Vi.DefsAt.cons (Vi.defAt_mk KX G (x := (Str.ofString "_law_dot")) (st := M53.top 40) rfl rfl ?a ?l ?c ?k fun _ _ _ _ _ _ us hl => match us, hl with | [_, _], _ => rfl) ?r32; (case a => k_is); (case l => k_is); (case c => k_is); (case k => k_is); case' r32 => skip
      refine' Vi.DefsAt.cons (Vi.defAt_mk KX G (x := (Str.ofString "_law_least")) (st := M53.top 42) rfl rfl ?a ?l ?c ?k fun _ _ _ _ _ _ us hl => match us, hl with | [_], _ => rfl) ?r33; (case a => k_is); (case l => k_is); (case c => k_is); (case k => k_is); case' r33 => skip
      refine' Vi.DefsAt.cons (Vi.defAt_mk KX G (x := (Str.ofString "_law_fraction")) (st := M53.top 43) rfl rfl ?a ?l ?c ?k fun _ _ _ _ _ _ us hl => match us, hl with | [_, _], _ => rfl) ?r34; (case a => k_is); (case l => k_is); (case c => k_is); (case k => k_is); case' r34 => skip
      refine' Vi.DefsAt.cons (Vi.defAt_mk KX G (x := (Str.ofString "_law_above")) (st := M53.top 45) rfl rfl ?a ?l ?c ?k fun _ _ _ _ _ _ us hl => match us, hl with | [_, _], _ => rfl) ?r35; (case a => k_is); (case l => k_is); (case c => k_is); (case k => k_is); case' r35 => skip
      refine' Vi.DefsAt.cons (Vi.defAt_mk KX G (x := (Str.ofString "_law_word")) (st := M53.top 47) rfl rfl ?a ?l ?c ?k fun _ _ _ _ _ _ us hl => match us, hl with | [_, _], _ => rfl) ?r36; (case a => k_is); (case l => k_is); (case c => k_is); (case k => k_is); case' r36 => skip
      refine' Vi.DefsAt.cons (Vi.defAt_mk KX G (x := (Str.ofString "_law_bills")) (st := M53.top 48) rfl rfl ?a ?l ?c ?k fun _ _ _ _ _ _ us hl => match us, hl with | [_], _ => rfl) ?r37; (case a => k_is); (case l => k_is); (case c => k_is); (case k => k_is); case' r37 => skip
      refine' Vi.DefsAt.cons (Vi.defAt_mk KX G (x := (Str.ofString "_law_order")) (st := M53.top 49) rfl rfl ?a ?l ?c ?k fun _ _ _ _ _ _ us hl => match us, hl with | [_], _ => rfl) ?r38; (case a => k_is); (case l => k_is); (case c => k_is); (case k => k_is); case' r38 => skip
      refine' Vi.DefsAt.cons (Vi.defAt_mk KX G (x := (Str.ofString "_law_paid")) (st := M53.top 50) rfl rfl ?a ?l ?c ?k fun _ _ _ _ _ _ us hl => match us, hl with | [_, _], _ => rfl) ?r39; (case a => k_is); (case l => k_is); (case c => k_is); (case k => k_is); case' r39 => skip
      refine' Vi.DefsAt.cons (Vi.defAt_mk KX G (x := (Str.ofString "_law_payments")) (st := M53.top 51) rfl rfl ?a ?l ?c ?k fun _ _ _ _ _ _ us hl => match us, hl with | [_, _], _ => rfl) ?r40; (case a => k_is); (case l => k_is); (case c => k_is); (case k => k_is); case' r40 => skip
      refine' Vi.DefsAt.cons (Vi.defAt_mk KX G (x := (Str.ofString "_law_ages")) (st := M53.top 52) rfl rfl ?a ?l ?c ?k fun _ _ _ _ _ _ us hl => match us, hl with | [_, _], _ => rfl) ?r41; (case a => k_is); (case l => k_is); (case c => k_is); (case k => k_is); case' r41 => skip
      refine' Vi.DefsAt.cons (Vi.defAt_mk KX G (x := (Str.ofString "_law_posted")) (st := M53.top 53) rfl rfl ?a ?l ?c ?k fun _ _ _ _ _ _ us hl => match us, hl with | [_], _ => rfl) ?r42; (case a => k_is); (case l => k_is); (case c => k_is); (case k => k_is); case' r42 => skip
      refine' Vi.DefsAt.cons (Vi.defAt_mk KX G (x := (Str.ofString "_law_odd")) (st := M53.top 54) rfl rfl ?a ?l ?c ?k fun _ _ _ _ _ _ us hl => match us, hl with | [], _ => rfl) ?r43; (case a => k_is); (case l => k_is); (case c => k_is); (case k => k_is); case' r43 => skip
      refine' Vi.DefsAt.cons (Vi.defAt_mk KX G (x := (Str.ofString "law")) (st := M53.top 55) rfl rfl ?a ?l ?c ?k fun _ _ _ _ _ _ us hl => match us, hl with | [_], _ => rfl) ?r44; (case a => k_is); (case l => k_is); (case c => k_is); (case k => k_is); case' r44 => skip
      exact .nil
    case GL =>
      refine' Vi.GlsAt.cons (Vi.gl_tup KX G rfl ?b ?l ?c ?d ?z ?v) ?_; (case b => k_is); (case l => k_is); (case c => rfl); (case d => rfl); (case z => decide); (case v => decide +kernel)
      refine' Vi.GlsAt.cons (Vi.gl_tup KX G rfl ?b ?l ?c ?d ?z ?v) ?_; (case b => k_is); (case l => k_is); (case c => rfl); (case d => rfl); (case z => decide); (case v => decide +kernel)
      exact .nil
