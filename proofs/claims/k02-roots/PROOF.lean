import PyProof.Rows.All
import Wide.All
import OpenK.AllK
import Wide.FinOn
import PyProof.EqAt
import PyProof.EqKinds
import PyProof.TupleCall
import HandS.Base
import HandS.Call
import HandS.List
import HandS.Wide
import HandS.Style
import HandS.TupAny
import HandS.TupMul
import HandS.Deep
import HandS.IsInst
import HandS.Lambda
import HandS.Text
import HandS.Comp
import HandS.CallSlots
import HandS.Exc
import HandS.Iter
import HandS.Zip
import HandS.ExcOwn
import HandS.TupSets
import HandS.Nested
import HandS.ExcCtx
import KE.KLam
import HandS.HotCalls
import HandS.ExcIs
import HandS.Words
import HandS.Defaults
import HandS.HeadWalk
import HandS.HeadHook4
import HandS.Head2
import HandS.HeadEnd
import PySem.Challenge.RW_anybounce_k02_whole_roots_compared
section
set_option Elab.async false
set_option linter.all false
set_option autoImplicit false
/-! Mini: a small language of the def's bodies, evaluated over plain data. -/
namespace MP
open PySem L2

/-! ### the language -/
inductive O2 where
  | add | sub | mul | fdiv | mod | pow
inductive Cm where
  | eq | ne | lt | le | gt | ge
inductive Ty where
  | int | bool | str | tuple | list
inductive Bi where
  | len | min | max | all | any | tuple | list | int | bool | str | abs | sum | sset
mutual
inductive Tg where
  | n (i : Nat)
  | t (ts : Tgs)
inductive Tgs where
  | nil
  | cons (t : Tg) (ts : Tgs)
end
mutual
inductive E where
  | var (i : Nat)
  | non
  | bl (b : Bool)
  | int (i : Int)
  | str (s : Str)
  | glo (g : Nat)
  | fnv (f : Nat)
  | op (o : O2) (a b : E)
  | catM (a b : E)
  | neg (a : E)
  | cmp (c : Cm) (a b : E)
  | chain (c c' : Cm) (a b d : E)
  | isC (ng : Bool) (c : Option Bool) (a : E)
  | inn (ng : Bool) (a b : E)
  | and (a b : E)
  | or (a b : E)
  | not (a : E)
  | ifx (c a b : E)
  | tup (es : Es)
  | lst (es : Es)
  | lstM (es : Es)
  | ix (a b : E)
  | sl (a : E) (lo hi : Eo)
  | rev (a : E)
  | revT (a : E)
  | call (f : Nat) (es : Es)
  | callv (i : Nat) (es : Es)
  | calll (f : Nat) (ps : List Nat) (b : E) (es : Es)
  | tryl (t : Nat) (b : E)
  | bi (b : Bi) (es : Es)
  | isi (t : Ty) (a : E)
  | lc (own : List (Str × Nat)) (tg : Tg) (it : It) (ifs : Eo) (elt : E)
  | pop0 (i : Nat)
  | popL (i : Nat)
  | frz (i : Nat)
inductive Es where
  | nil
  | cons (e : E) (es : Es)
inductive Eo where
  | no
  | yes (e : E)
inductive It where
  | e (a : E)
  | r1 (a : E)
  | r2 (a b : E)
  | r3 (a b c : E)
  | zip (a b : E)
end
mutual
inductive S where
  | pass
  | brk
  | cont
  | set (i : Nat) (e : E)
  | asg (t : Tg) (e : E)
  | par (ts : Tgs) (es : Es)
  | setix (i : Nat) (k e : E)
  | app (i : Nat) (e : E)
  | exp (e : E)
  | ret (e : E)
  | retN
  | ifs (c : E) (a b : Ss)
  | fors (t : Tg) (it : It) (b : Ss)
  | whl (c : E) (b : Ss)
  | raise (c : Nat)
  | forfn (i : Nat) (fs : List Nat) (b : Ss)
inductive Ss where
  | nil
  | cons (s : S) (ss : Ss)
end

/-! ### values, cells -/
/-- a value: plain data; a cell's number; a def of the module; the law's own list of ints; a lambda: its parameters' places, its body, the names at its making -/
inductive Val where
  | d (p : PyData)
  | ref (n : Nat)
  | fn (n : Nat)
  | scr (xs : List Int)
  | clo (ps : List Nat) (b : E) (ρ : List (Option Val))
/-- a cell: a list that may change, an instance -/
inductive Cell where
  | dead
  | lst (ps : List PyData)
  | ins (C : Nat) (fs : List (Str × PyData))
abbrev Hh := List Cell
abbrev En := List (Option Val)
inductive Res (α : Type) where
  | ok (a : α) (h : Hh)
  | exc (c : Nat) (h : Hh)
  | bad
def Res.bd {α β : Type} (r : Res α) (f : α → Hh → Res β) : Res β := match r with
  | .ok a h => f a h
  | .exc c h => .exc c h
  | .bad => .bad

def Res.nox {α : Type} (r : Res α) : Res α := match r with
  | .ok a h => .ok a h
  | .exc _ _ => .bad
  | .bad => .bad

/-! ### what operations are worth -/
/-- what may be read as data -/
def dat (h : Hh) : Val → Option PyData
  | .d p => some p
  | .ref r => (match h[r]? with
    | some (.lst ps) => some (.list ps)
    | _ => none)
  | .scr xs => some (.list (xs.map PyData.int))
  | _ => none
/-- the same, but the law's own list -/
def datT (h : Hh) : Val → Option PyData
  | .d p => some p
  | .ref r => (match h[r]? with
    | some (.lst ps) => some (.list ps)
    | _ => none)
  | _ => none
def wideMul (i j : Int) : Bool := decide (i.natAbs.log2 + j.natAbs.log2 < 1000000)
def wideDiv (j : Int) : Bool := decide (0 < j) && decide (j.natAbs.log2 < 9000)
def big : Nat := 16000000
def repF (xs : List PyData) (k : Int) : Option (List PyData) := if 2 ≤ k ∧ k ≤ 1000 ∧ xs.length ≤ 1000 ∧ xs ≠ [] then some (List.replicate k.toNat xs).flatten else none
instance : Inhabited PyData := ⟨.none⟩
def isNil : List PyData → Bool
  | [] => true
  | _ => false
def O2.ev : O2 → PyData → PyData → Option PyData
  | .add, .int i, .int j => some (.int (i + j))
  | .add, .bool a, .int j => some (.int ((if a = true then (1 : Int) else 0) + j))
  | .add, .str x, .str y => if x.length + y.length ≤ big then some (.str (x ++ y)) else none
  | .add, .list xs, .list ys => if xs.length + ys.length ≤ big then some (.list (xs ++ ys)) else none
  | .add, .tuple xs, .tuple ys => if xs.length + ys.length ≤ big then some (.tuple (xs ++ ys)) else none
  | .sub, .int i, .int j => some (.int (i - j))
  | .sub, .bool a, .int j => some (.int ((if a = true then (1 : Int) else 0) - j))
  | .sub, .bool a, .bool b => some (.int ((if a = true then (1 : Int) else 0) - (if b = true then (1 : Int) else 0)))
  | .mul, .int i, .int j => if wideMul i j then some (.int (i * j)) else none
  | .mul, .list xs, .int k => if 2 ≤ k ∧ k ≤ 1000 ∧ xs.length ≤ 1000 then some (.list (List.replicate k.toNat xs).flatten) else none
  | .mul, .tuple xs, .int k => if 2 ≤ k ∧ k ≤ 1000 ∧ xs.length ≤ 1000 ∧ isNil xs = false then some (.tuple (List.replicate k.toNat xs).flatten) else none
  | .fdiv, .int i, .int j => if wideDiv j then some (.int (i / j)) else none
  | .mod, .int i, .int j => if 0 < j then some (.int (i % j)) else none
  | .pow, .int i, .int j => if 0 ≤ j ∧ j ≤ 1000000 ∧ i.natAbs < 2 ^ 64 then some (.int (i ^ j.toNat)) else none
  | _, _, _ => none
def Cm.ev : Cm → PyData → PyData → Option Bool
  | .eq, p, q => if SeqAt.shaped p && SeqAt.shaped q then some (PyData.eqv p q) else none
  | .ne, p, q => if SeqAt.shaped p && SeqAt.shaped q then some (!PyData.eqv p q) else none
  | .lt, .int i, .int j => some (decide (i < j))
  | .le, .int i, .int j => some (decide (i ≤ j))
  | .gt, .int i, .int j => some (decide (j < i))
  | .ge, .int i, .int j => some (decide (j ≤ i))
  | _, _, _ => none
def flatD : PyData → Bool
  | .none => true
  | .bool _ => true
  | .int _ => true
  | .str _ => true
  | _ => false
def innF : PyData → PyData → Option Bool
  | p, .list qs => if SeqAt.shaped p && SeqAt.shaped (.list qs) then some (qs.any fun z => PyData.eqv z p) else none
  | p, .tuple qs => if flatD p && qs.all flatD then some (qs.any fun z => PyData.eqv z p) else none
  | .str x, .str y => some (!(Builtin.Str.occurrences y x 0 y.length 1).isEmpty)
  | _, _ => none
def isCF : Option Bool → PyData → Option Bool
  | none, .none => some true
  | none, _ => some false
  | some k, .bool b => some (decide (b = k))
  | some _, _ => none
def ixF : PyData → PyData → Option PyData
  | .list ps, .int i => atI ps i
  | .tuple ps, .int i => atI ps i
  | .str z, .int i => if z.length ≤ big then (atI z.cps.toList i).map fun c => .str ⟨#[c]⟩ else none
  | _, _ => none
def cutF {α : Type} (xs : List α) (lo hi : Option Int) : List α := (xs.drop (HT.sIx xs.length 0 lo)).take (HT.sIx xs.length xs.length hi - HT.sIx xs.length 0 lo)
def slF (p : PyData) (lo hi : Option Int) : Option PyData := match p with
  | .list ps => some (.list (cutF ps lo hi))
  | .tuple ps => some (.tuple (cutF ps lo hi))
  | .str z => if z.length ≤ big then some (.str ⟨(cutF z.cps.toList lo hi).toArray⟩) else none
  | _ => none
def revF : PyData → Option PyData
  | .list ps => some (.list ps.reverse)
  | _ => none
def revTF : PyData → Option PyData
  | .tuple ps => some (.tuple ps.reverse)
  | _ => none
def boolsOf : List PyData → Option (List Bool)
  | [] => some []
  | .bool b :: r => (boolsOf r).map (b :: ·)
  | _ => none
def intsOf : List PyData → Option (List Int)
  | [] => some []
  | .int b :: r => (intsOf r).map (b :: ·)
  | _ => none
def tupsOf : List PyData → Option (List (List Int))
  | [] => some []
  | .tuple ps :: r => (match intsOf ps, tupsOf r with
    | some a, some b => some (a :: b)
    | _, _ => none)
  | _ => none
/-- insertion into an ascending list without duplicates -/
def insT (x : List Int) : List (List Int) → List (List Int)
  | [] => [x]
  | y :: r => if HT.lexLt x y then x :: y :: r else if x = y then y :: r else y :: insT x r
def sortT (xs : List (List Int)) : List (List Int) := xs.foldr insT []
/-- all of one length, at least 1 -/
def oneLen : List (List Int) → Bool
  | [] => true
  | x :: r => decide (1 ≤ x.length) && r.all fun y => decide (y.length = x.length)
def Bi.ev : Bi → List PyData → Option PyData
  | .len, [.list xs] => some (.int xs.length)
  | .len, [.tuple xs] => some (.int xs.length)
  | .len, [.str s] => if s.length ≤ big then some (.int s.length) else none
  | .min, [.int a, .int b] => some (.int (if b < a then b else a))
  | .max, [.int a, .int b] => some (.int (if b > a then b else a))
  | .all, [.list xs] => (boolsOf xs).map fun bs => .bool (bs.all id)
  | .any, [.list xs] => (boolsOf xs).map fun bs => .bool (bs.any id)
  | .tuple, [.list xs] => some (.tuple xs)
  | .tuple, [.tuple xs] => some (.tuple xs)
  | .list, [.list xs] => some (.list xs)
  | .list, [.tuple xs] => some (.list xs)
  | .int, [.int i] => some (.int i)
  | .int, [.bool b] => some (.int (if b then 1 else 0))
  | .int, [.str x] => if x.length ≤ 640 then (PySem.intText? x).map .int else none
  | .bool, [.bool b] => some (.bool b)
  | .sum, [.list xs] => (intsOf xs).map fun ns => .int ns.sum
  | .abs, [.int i] => some (.int (if i < 0 then -i else i))
  | .str, [.int i] => if i.natAbs.log2 < 1920 then some (.str (toString i)) else none
  | .sset, [.list xs] => (match tupsOf xs with
    | some ts => if oneLen ts && (decide (ts.length < 64) && ts.all fun t => t.all fun i => decide (0 ≤ i)) then some (.list ((sortT ts).map fun t => .tuple (t.map PyData.int))) else none
    | none => none)
  | _, _ => none
def isiF : Ty → PyData → Option Bool
  | _, .dict _ => none
  | .int, .int _ => some true
  | .int, .bool _ => some true
  | .bool, .bool _ => some true
  | .str, .str _ => some true
  | .list, .list _ => some true
  | .tuple, .tuple _ => some true
  | _, _ => some false

/-! ### targets -/
mutual
def bindT : Tg → Val → En → Option En
  | .n i, v, ρ => some (ρ.set i (some v))
  | .t ts, .d (.tuple ps), ρ => bindTs ts (ps.map Val.d) ρ
  | .t _, _, _ => none
def bindTs : Tgs → List Val → En → Option En
  | .nil, [], ρ => some ρ
  | .cons t ts, v :: vs, ρ => (match bindT t v ρ with
    | some ρ' => bindTs ts vs ρ'
    | none => none)
  | _, _, _ => none
end

/-! ### expressions -/
structure Cf where
  call : Nat → List Val → Hh → Res Val
  clo : List Nat → E → En → List Val → Hh → Res Val
  glo : Nat → Option PyData
  wd : Nat → Option Str
def asB {β : Type} (r : Res Val) (f : Bool → Hh → Res β) : Res β := r.bd fun v h => match v with
  | .d (.bool b) => f b h
  | _ => .bad
def okD (o : Option PyData) (h : Hh) : Res Val := match o with
  | some p => .ok (.d p) h
  | none => .bad
def okB (o : Option Bool) (h : Hh) : Res Val := match o with
  | some b => .ok (.d (.bool b)) h
  | none => .bad
def on1 (f : PyData → Option PyData) (v : Val) (h : Hh) : Res Val := match dat h v with
  | some p => okD (f p) h
  | none => .bad
def on2 (f : PyData → PyData → Option PyData) (x y : Val) (h : Hh) : Res Val := match dat h x, dat h y with
  | some p, some q => okD (f p q) h
  | _, _ => .bad
def on2T (f : PyData → PyData → Option PyData) (x y : Val) (h : Hh) : Res Val := match datT h x, datT h y with
  | some p, some q => okD (f p q) h
  | _, _ => .bad
def b2 (f : PyData → PyData → Option Bool) (p q : PyData) : Option PyData := (f p q).map PyData.bool
def dats (h : Hh) : List Val → Option (List PyData)
  | [] => some []
  | v :: vs => (match dat h v, dats h vs with
    | some p, some ps => some (p :: ps)
    | _, _ => none)
/-- values that are data by themselves -/
def pures : List Val → Option (List PyData)
  | [] => some []
  | .d p :: vs => (match pures vs with
    | some ps => some (p :: ps)
    | none => none)
  | _ => none
def asI {β : Type} (r : Res Val) (f : Int → Hh → Res β) : Res β := r.bd fun v h => match v with
  | .d (.int i) => f i h
  | _ => .bad
def compF (g : PyData → Hh → Res (Option PyData)) : List PyData → Hh → Res (List PyData)
  | [], h => .ok [] h
  | x :: xs, h => (g x h).bd fun o h1 => (compF g xs h1).bd fun ys h2 => .ok (match o with
    | some y => y :: ys
    | none => ys) h2
def rngF (lo : Int) (n : Nat) : List PyData := (List.range n).map fun (k : Nat) => PyData.int (lo + (k : Int))
def rngDn (lo : Int) (n : Nat) : List PyData := (List.range n).map fun (k : Nat) => PyData.int (lo - (k : Int))
def small (i : Int) : Bool := decide (-(2 ^ 62) ≤ i) && decide (i < 2 ^ 62)
def itemsF : PyData → Option (List PyData)
  | .list ps => some ps
  | .tuple ps => some ps
  | _ => none
def wipeE (ρ : En) : List (Str × Nat) → En
  | [] => ρ
  | p :: r => (wipeE ρ r).set p.2 none
/-- a turn of a comprehension -/
def lcG (own : List (Str × Nat)) (tg : Tg) (mt me : En → Hh → Res Val) (ρ : En) (x : PyData) (h2 : Hh) : Res (Option PyData) := match bindT tg (.d x) (wipeE ρ own) with
    | some ρ' => (asB (mt ρ' h2) fun k h3 => if k then (me ρ' h3).bd fun v h4 => (match v with
        | .d p => .ok (some p) h4
        | _ => .bad) else .ok none h3).nox
    | none => .bad
def catF (x y : Option PyData) (h : Hh) : Res Val := match x, y with
  | some (.list p), some (.list q) => if p.length + q.length ≤ big then .ok (.ref h.length) (h ++ [.lst (p ++ q)]) else .bad
  | _, _ => .bad
def fin (m : Bool) (n : Nat) (v : Val) (h : Hh) : Res Val := match v with
  | .d p => .ok (.d p) (h.take n)
  | .ref r => if r < n then .bad else (match h[r]? with
    | some (.lst ps) => if m then .ok (.ref n) (h.take n ++ [.lst ps]) else .ok (.d (.list ps)) (h.take n)
    | _ => .bad)
  | _ => .bad
/-- what the law's two tries tell -/
def okT (t : Nat) (p : PyData) : PyData := if t = 0 then .str "" else .tuple [p, .str ""]
def exT (t : Nat) (w : Str) : PyData := if t = 0 then .str w else .tuple [.none, .str w]
def tryF (wd : Nat → Option Str) (t n : Nat) : Res Val → Res Val
  | .ok v h1 => (match fin false n v h1 with
    | .ok (.d p) h2 => .ok (.d (okT t p)) h2
    | _ => .bad)
  | .exc k h1 => (match wd k with
    | some w => .ok (.d (exT t w)) (h1.take n)
    | none => .bad)
  | .bad => .bad
/-- data, or nothing -/
def dOnly : Res Val → Res Val
  | .ok (.d p) h => .ok (.d p) h
  | _ => .bad
mutual
def evE (c : Cf) : E → En → Hh → Res Val
  | .var i => fun ρ h => (match ρ[i]? with
    | some (some v) => .ok v h
    | _ => .bad)
  | .non => fun _ h => .ok (.d .none) h
  | .bl b => fun _ h => .ok (.d (.bool b)) h
  | .int i => fun _ h => .ok (.d (.int i)) h
  | .str s => fun _ h => .ok (.d (.str s)) h
  | .glo g => fun _ h => okD (c.glo g) h
  | .fnv f => fun _ h => .ok (.fn f) h
  | .op o a b => fun ρ h => (evE c a ρ h).bd fun x h1 => (evE c b ρ h1).bd fun y h2 => on2T o.ev x y h2
  | .catM a b => fun ρ h => (evE c a ρ h).bd fun x h1 => (evE c b ρ h1).bd fun y h2 => catF (datT h2 x) (datT h2 y) h2
  | .neg a => fun ρ h => asI (evE c a ρ h) fun i h1 => .ok (.d (.int (-i))) h1
  | .cmp o a b => fun ρ h => (evE c a ρ h).bd fun x h1 => (evE c b ρ h1).bd fun y h2 => on2 (b2 o.ev) x y h2
  | .chain o o' a b d => fun ρ h => asI (evE c a ρ h) fun x h1 => asI (evE c b ρ h1) fun y h2 => asB (okD (b2 o.ev (.int x) (.int y)) h2) fun k h3 =>
      if k then asI (evE c d ρ h3) fun z h4 => okD (b2 o'.ev (.int y) (.int z)) h4 else .ok (.d (.bool false)) h3
  | .isC ng k a => fun ρ h => (evE c a ρ h).bd fun v h1 => (match v with
    | .d p => okB ((isCF k p).map fun b => if ng then !b else b) h1
    | _ => .bad)
  | .inn ng a b => fun ρ h => (evE c a ρ h).bd fun x h1 => (evE c b ρ h1).bd fun y h2 => on2 (fun p q => (innF p q).map fun b => .bool (if ng then !b else b)) x y h2
  | .and a b => fun ρ h => asB (evE c a ρ h) fun k h1 => if k then evE c b ρ h1 else .ok (.d (.bool false)) h1
  | .or a b => fun ρ h => asB (evE c a ρ h) fun k h1 => if k then .ok (.d (.bool true)) h1 else evE c b ρ h1
  | .not a => fun ρ h => asB (evE c a ρ h) fun k h1 => .ok (.d (.bool (!k))) h1
  | .ifx t a b => fun ρ h => asB (evE c t ρ h) fun k h1 => if k then evE c a ρ h1 else evE c b ρ h1
  | .tup es => fun ρ h => (evEs c es ρ h).bd fun vs h1 => (match pures vs with
    | some ps => if ps.length ≤ big then .ok (.d (.tuple ps)) h1 else .bad
    | none => .bad)
  | .lst es => fun ρ h => (evEs c es ρ h).bd fun vs h1 => (match pures vs with
    | some ps => if ps.length ≤ big then .ok (.d (.list ps)) h1 else .bad
    | none => .bad)
  | .lstM es => fun ρ h => (evEs c es ρ h).bd fun vs h1 => (match pures vs with
    | some ps => if ps.length ≤ big then .ok (.ref h1.length) (h1 ++ [.lst ps]) else .bad
    | none => .bad)
  | .ix a b => fun ρ h => (evE c a ρ h).bd fun x h1 => (evE c b ρ h1).bd fun y h2 => on2 ixF x y h2
  | .sl a lo hi => fun ρ h => (evE c a ρ h).bd fun x h1 => (evO c lo ρ h1).bd fun l h2 => (evO c hi ρ h2).bd fun u h3 => on1 (fun p => slF p l u) x h3
  | .rev a => fun ρ h => (evE c a ρ h).bd fun x h1 => on1 revF x h1
  | .revT a => fun ρ h => (evE c a ρ h).bd fun x h1 => on1 revTF x h1
  | .call f es => fun ρ h => (evEs c es ρ h).bd fun vs h1 => c.call f vs h1
  | .callv i es => fun ρ h => (match ρ[i]? with
    | some (some (.fn f)) => (evEs c es ρ h).bd fun vs h1 => c.call f vs h1
    | some (some (.clo ps b ρ')) => (evEs c es ρ h).bd fun vs h1 => c.clo ps b ρ' vs h1
    | _ => .bad)
  | .calll f ps b es => fun ρ h => (evEs c es ρ h).bd fun vs h1 => dOnly (c.call f (.clo ps b ρ :: vs) h1)
  | .tryl t b => fun ρ h => tryF c.wd t h.length (evE c b ρ h)
  | .bi b es => fun ρ h => (evEs c es ρ h).bd fun vs h1 => (match dats h1 vs with
    | some ps => okD (b.ev ps) h1
    | none => .bad)
  | .isi t a => fun ρ h => (evE c a ρ h).bd fun v h1 => (match v with
    | .d p => okB (isiF t p) h1
    | _ => .bad)
  | .lc own tg it ifs elt => fun ρ h => (evI c it ρ h).bd fun xs h1 => (compF (lcG own tg (evT c ifs) (evE c elt) ρ) xs h1).bd fun ys h5 => .ok (.d (.list ys)) h5
  | .pop0 i => fun ρ h => (match ρ[i]? with
    | some (some (.ref r)) => (match h[r]? with
      | some (.lst (p :: ps)) => .ok (.d p) (h.set r (.lst ps))
      | _ => .bad)
    | _ => .bad)
  | .popL i => fun ρ h => (match ρ[i]? with
    | some (some (.ref r)) => (match h[r]? with
      | some (.lst ps) => (match ps[ps.length - 1]? with
        | some p => .ok (.d p) (h.set r (.lst ps.dropLast))
        | none => .bad)
      | _ => .bad)
    | _ => .bad)
  | .frz i => fun ρ h => (match ρ[i]? with
    | some (some (.ref r)) => (match h[r]? with
      | some (.lst ps) => .ok (.d (.list ps)) (h.set r .dead)
      | _ => .bad)
    | _ => .bad)
def evEs (c : Cf) : Es → En → Hh → Res (List Val)
  | .nil => fun _ h => .ok [] h
  | .cons e es => fun ρ h => (evE c e ρ h).bd fun v h1 => (evEs c es ρ h1).bd fun vs h2 => .ok (v :: vs) h2
def evO (c : Cf) : Eo → En → Hh → Res (Option Int)
  | .no => fun _ h => .ok none h
  | .yes e => fun ρ h => asI (evE c e ρ h) fun i h1 => .ok (some i) h1
/-- a test that may be left out -/
def evT (c : Cf) : Eo → En → Hh → Res Val
  | .no => fun _ h => .ok (.d (.bool true)) h
  | .yes e => evE c e
def evI (c : Cf) : It → En → Hh → Res (List PyData)
  | .e a => fun ρ h => (evE c a ρ h).bd fun v h1 => (match v with
    | .d p => (match itemsF p with
      | some ps => .ok ps h1
      | none => .bad)
    | _ => .bad)
  | .r1 a => fun ρ h => asI (evE c a ρ h) fun j h1 => if small j && decide (j.toNat ≤ big) then .ok (rngF 0 j.toNat) h1 else .bad
  | .r2 a b => fun ρ h => asI (evE c a ρ h) fun i h1 => asI (evE c b ρ h1) fun j h2 => if small i && small j && decide ((j - i).toNat ≤ big) then .ok (rngF i (j - i).toNat) h2 else .bad
  | .r3 a b d => fun ρ h => asI (evE c a ρ h) fun i h1 => asI (evE c b ρ h1) fun j h2 => asI (evE c d ρ h2) fun k h3 =>
      if small i && small j && decide (k = -1) && decide ((i - j).toNat ≤ big) then .ok (rngDn i (i - j).toNat) h3 else .bad
  | .zip a b => fun ρ h => (evE c a ρ h).bd fun x h1 => (evE c b ρ h1).bd fun y h2 => (match x, y with
    | .d (.list ps), .d (.list qs) => .ok ((ps.zip qs).map fun z => .tuple [z.1, z.2]) h2
    | _, _ => .bad)
end

/-! ### statements -/
inductive Out where
  | nx (ρ : En) (h : Hh)
  | rt (v : Val) (h : Hh)
  | bk (ρ : En) (h : Hh)
  | ct (ρ : En) (h : Hh)
  | exc (c : Nat) (h : Hh)
  | bad
def Res.to {α : Type} (r : Res α) (f : α → Hh → Out) : Out := match r with
  | .ok a h => f a h
  | .exc c h => .exc c h
  | .bad => .bad
def forF {α : Type} (g : α → En → Hh → Out) : List α → En → Hh → Out
  | [], ρ, h => .nx ρ h
  | x :: xs, ρ, h => (match g x ρ h with
    | .nx ρ1 h1 => forF g xs ρ1 h1
    | .ct ρ1 h1 => forF g xs ρ1 h1
    | .bk ρ1 h1 => .nx ρ1 h1
    | r => r)
def whlF (t : En → Hh → Res Val) (g : En → Hh → Out) : Nat → En → Hh → Out
  | 0, _, _ => .bad
  | n + 1, ρ, h => (asB (t ρ h) fun k h1 => .ok k h1).to fun k h1 => if k then (match g ρ h1 with
    | .nx ρ1 h2 => whlF t g n ρ1 h2
    | .ct ρ1 h2 => whlF t g n ρ1 h2
    | .bk ρ1 h2 => .nx ρ1 h2
    | r => r) else .nx ρ h1
/-- the turns of a while that are looked at -/
def turns : Nat := 1000000
mutual
def evS (c : Cf) : S → En → Hh → Out
  | .pass => fun ρ h => .nx ρ h
  | .brk => fun ρ h => .bk ρ h
  | .cont => fun ρ h => .ct ρ h
  | .set i e => fun ρ h => (evE c e ρ h).to fun v h1 => .nx (ρ.set i (some v)) h1
  | .asg t e => fun ρ h => (evE c e ρ h).to fun v h1 => (match bindT t v ρ with
    | some ρ1 => .nx ρ1 h1
    | none => .bad)
  | .par ts es => fun ρ h => (evEs c es ρ h).to fun vs h1 => (match bindTs ts vs ρ with
    | some ρ1 => .nx ρ1 h1
    | none => .bad)
  | .setix i k e => fun ρ h => (evE c e ρ h).to fun v h1 => (match v, ρ[i]? with
    | .d p, some (some (.ref r)) => (asI (evE c k ρ h1) fun j h2 => .ok j h2).to fun j h2 => (match h2[r]? with
      | some (.lst ps) => (match ixN ps.length j with
        | some n => .nx ρ (h2.set r (.lst (ps.set n p)))
        | none => .bad)
      | _ => .bad)
    | _, _ => .bad)
  | .app i e => fun ρ h => (match ρ[i]? with
    | some (some (.ref r)) => (match h[r]? with
      | some (.lst _) => (evE c e ρ h).to fun v h1 => (match v, h1[r]? with
        | .d p, some (.lst ps) => if ps.length ≤ big then .nx ρ (h1.set r (.lst (ps ++ [p]))) else .bad
        | _, _ => .bad)
      | _ => .bad)
    | _ => .bad)
  | .exp e => fun ρ h => (evE c e ρ h).to fun _ h1 => .nx ρ h1
  | .ret e => fun ρ h => (evE c e ρ h).to fun v h1 => .rt v h1
  | .retN => fun _ h => .rt (.d .none) h
  | .ifs t a b => fun ρ h => (asB (evE c t ρ h) fun k h1 => .ok k h1).to fun k h1 => if k then evSs c a ρ h1 else evSs c b ρ h1
  | .fors t it b => fun ρ h => (evI c it ρ h).to fun xs h1 => forF (fun x ρ1 h2 => match bindT t (.d x) ρ1 with
    | some ρ2 => evSs c b ρ2 h2
    | none => .bad) xs ρ h1
  | .whl t b => fun ρ h => whlF (evE c t) (evSs c b) turns ρ h
  | .raise x => fun _ h => .exc x h
  | .forfn i fs b => fun ρ h => forF (fun f ρ1 h2 => evSs c b (ρ1.set i (some (.fn f))) h2) fs ρ h
def evSs (c : Cf) : Ss → En → Hh → Out
  | .nil => fun ρ h => .nx ρ h
  | .cons s ss => fun ρ h => (match evS c s ρ h with
    | .nx ρ1 h1 => evSs c ss ρ1 h1
    | r => r)
end

/-! ### defs -/
/-- a def: its name; its names by slot, the parameters first; how many parameters; its body; whether it hands back a list that may change -/
structure FD where
  name : Str
  names : List Str
  np : Nat
  body : Ss
  keeps : Bool := false
def FD.ps (d : FD) : List Str := d.names.take d.np
structure Pc where
  fns : Nat → Option FD
  glo : Nat → Option (Str × PyData)
  wd : Nat → Option Str
/-- ers: the names of the error classes; lam: whether a def of these names makes lambdas -/
structure Pg extends Pc where
  ers : Nat → Option Str
  lam : List Str → Bool
  trs : Nat → Bool
  cal : Bool
abbrev Pg.noc (P : Pg) : Pg := { P with cal := false }
abbrev Pg.nol (P : Pg) : Pg := { P with lam := fun _ => false, cal := false }
def setAll (ρ : En) : List Nat → List Val → En
  | p :: ps, v :: vs => setAll (ρ.set p (some v)) ps vs
  | _, _ => ρ
def callG (P : Pc) (c : Cf) (f : Nat) (vs : List Val) (h : Hh) : Res Val := match P.fns f with
    | none => .bad
    | some fd => if vs.length = fd.np then (match evSs c fd.body (vs.map some ++ List.replicate (fd.names.length - fd.np) none) h with
      | .rt v h1 => fin fd.keeps h.length v h1
      | .nx _ h1 => fin fd.keeps h.length (.d .none) h1
      | .exc c h1 => .exc c (h1.take h.length)
      | _ => .bad) else .bad
def cloG (c : Cf) (ps : List Nat) (b : E) (ρ : En) (vs : List Val) (h : Hh) : Res Val := if vs.length = ps.length ∧ (pures vs).isSome = true then (match evE c b (setAll ρ ps vs) h with
      | .ok v h1 => fin false h.length v h1
      | .exc c h1 => .exc c (h1.take h.length)
      | .bad => .bad) else .bad
def Pc.gl (P : Pc) (g : Nat) : Option PyData := (P.glo g).map (·.2)
def cfF (P : Pc) : Nat → Cf
  | 0 => ⟨fun _ _ _ => .bad, fun _ _ _ _ _ => .bad, P.gl, P.wd⟩
  | n + 1 => ⟨callG P (cfF P n), cloG (cfF P n), P.gl, P.wd⟩
theorem cfF_glo (P : Pc) (n : Nat) : (cfF P n).glo = P.gl := by cases n <;> rfl
theorem cfF_wd (P : Pc) (n : Nat) : (cfF P n).wd = P.wd := by cases n <;> rfl
abbrev callF (P : Pc) (n : Nat) : Nat → List Val → Hh → Res Val := (cfF P n).call
end MP
end
section
set_option Elab.async false
set_option linter.all false
set_option autoImplicit false
set_option maxRecDepth 100000
set_option maxHeartbeats 1000000
/-! Mini: evaluating by hand. -/
namespace MP
open PySem L2
def wordsL : List Str := ["lane", "ball", "share", "script", "cell", "number", "facts", "text", "undo"]
def ewd (k : Nat) : Option Str := if 1 ≤ k then wordsL[k - 1]? else none
abbrev FdL := List (Nat × (FD × Nat))
def mkPc (fl : FdL) (gl : List (Nat × (Str × PyData))) : Pc := { fns := fun f => (fl.lookup f).map fun z => z.1, glo := fun g => gl.lookup g, wd := ewd }
/-- a def's end -/
def endF (m : Bool) (h : Hh) : Out → Res Val
  | .rt v h1 => fin m h.length v h1
  | .nx _ h1 => fin m h.length (.d .none) h1
  | .exc c h1 => .exc c (h1.take h.length)
  | _ => .bad
theorem call_eq {P : Pc} {n f : Nat} {vs : List Val} {h : Hh} (fd : FD) (ρ : En) (e : P.fns f = some fd) (hl : vs.length = fd.np) (hρ : vs.map some ++ List.replicate (fd.names.length - fd.np) none = ρ) : callF P (n + 1) f vs h = endF fd.keeps h (evSs (cfF P n) fd.body ρ h) := by
  subst hρ
  show callG P (cfF P n) f vs h = _
  unfold callG
  rw [e]
  show (if _ then _ else _) = _
  rw [if_pos hl]
  unfold endF
  cases evSs (cfF P n) fd.body (vs.map some ++ List.replicate (fd.names.length - fd.np) none) h <;> rfl
theorem end_d {m : Bool} {p : PyData} {h : Hh} : endF m h (.rt (.d p) h) = .ok (.d p) h := by
  show (Res.ok (Val.d p) (h.take h.length) : Res Val) = _
  rw [List.take_length]
theorem end_n {m : Bool} {ρ : En} {h : Hh} : endF m h (.nx ρ h) = .ok (.d .none) h := by
  show (Res.ok (Val.d .none) (h.take h.length) : Res Val) = _
  rw [List.take_length]
theorem end_x {m : Bool} {c : Nat} {h : Hh} : endF m h (.exc c h) = .exc c h := by
  show (Res.exc c (h.take h.length) : Res Val) = _
  rw [List.take_length]
/-- .. when cells of the caller have changed -/
theorem end_d' {m : Bool} {p : PyData} {h h1 : Hh} (e : h1.length = h.length) : endF m h (.rt (.d p) h1) = .ok (.d p) h1 := by
  show (Res.ok (Val.d p) (h1.take h.length) : Res Val) = _
  rw [← e, List.take_length]
def noDict : PyData → Bool
  | .dict _ => false
  | _ => true
/-! comprehensions whose turns leave the cells alone -/
theorem compF_map {g : PyData → Hh → Res (Option PyData)} {φ : PyData → PyData} {h : Hh} : ∀ {xs : List PyData}, (∀ x ∈ xs, g x h = .ok (some (φ x)) h) → compF g xs h = .ok (xs.map φ) h
  | [], _ => rfl
  | x :: xs, hg => by
    unfold compF
    rw [hg x List.mem_cons_self]
    show ((compF g xs h).bd fun ys h2 => Res.ok (φ x :: ys) h2) = _
    rw [compF_map fun y hy => hg y (List.mem_cons_of_mem _ hy)]
    rfl
theorem compF_filter {g : PyData → Hh → Res (Option PyData)} {φ : PyData → Bool} {h : Hh} : ∀ {xs : List PyData}, (∀ x ∈ xs, g x h = .ok (if φ x then some x else none) h) → compF g xs h = .ok (xs.filter φ) h
  | [], _ => rfl
  | x :: xs, hg => by
    unfold compF
    rw [hg x List.mem_cons_self]
    show ((compF g xs h).bd fun ys h2 => Res.ok (match (if φ x then some x else none) with
      | some y => y :: ys
      | none => ys) h2) = _
    rw [compF_filter fun y hy => hg y (List.mem_cons_of_mem _ hy), List.filter_cons]
    cases φ x <;> rfl
theorem boolsOf_map : ∀ {bs : List Bool}, boolsOf (bs.map PyData.bool) = some bs
  | [] => rfl
  | b :: bs => by
    show (boolsOf (bs.map PyData.bool)).map (b :: ·) = _
    rw [boolsOf_map]
    rfl
theorem boolsOf_map' {f : PyData → Bool} {xs : List PyData} : boolsOf (xs.map fun x => PyData.bool (f x)) = some (xs.map f) := by
  have := boolsOf_map (bs := xs.map f)
  rw [List.map_map] at this
  exact this
/-! data without dicts, not too deep, not too long -/
def okd : Nat → Nat → PyData → Bool
  | _, _, .none => true
  | _, _, .bool _ => true
  | _, _, .int _ => true
  | _, _, .str x => PyData.strOk x
  | 0, _, _ => false
  | d + 1, m, .list ps => decide (ps.length ≤ m) && ps.all (okd d m)
  | d + 1, m, .tuple ps => decide (ps.length ≤ m) && ps.all (okd d m)
  | _, _, .dict _ => false
theorem okd_nd {d m : Nat} {p : PyData} (h : okd d m p = true) : noDict p = true := by
  cases p with
  | dict => cases d <;> cases h
  | _ => rfl
theorem okd_all {d m : Nat} : ∀ {ps : List PyData}, (∀ p ∈ ps, p.canLay0 = true ∧ p.depth ≤ d) → PyData.canLayAll0 ps = true ∧ PyData.depthAll ps ≤ d
  | [], _ => ⟨rfl, Nat.zero_le _⟩
  | p :: ps, h => by
    have h1 := h p List.mem_cons_self
    have h2 := okd_all (d := d) (m := m) fun q hq => h q (List.mem_cons_of_mem _ hq)
    simp only [PyData.canLayAll0, PyData.depthAll, h1.1, h2.1, Bool.and_self, true_and]
    exact Nat.max_le.mpr ⟨h1.2, h2.2⟩
theorem okd_lay : ∀ {d m : Nat} {p : PyData}, okd d m p = true → p.canLay0 = true ∧ p.depth ≤ d + 1 := by
  intro d
  induction d with
  | zero =>
    intro m p h
    cases p with
    | list => cases h
    | tuple => cases h
    | dict => cases h
    | str x => have h : PyData.strOk x = true := h; simp [PyData.canLay0, PyData.depth, h]
    | _ => simp [PyData.canLay0, PyData.depth]
  | succ d ih =>
    intro m p h
    cases p with
    | list ps =>
      have h : (decide (ps.length ≤ m) && ps.all (okd d m)) = true := h
      rw [Bool.and_eq_true, List.all_eq_true] at h
      have := okd_all (m := m) fun q hq => ih (h.2 q hq)
      simp only [PyData.canLay0, PyData.depth]
      exact ⟨this.1, by omega⟩
    | tuple ps =>
      have h : (decide (ps.length ≤ m) && ps.all (okd d m)) = true := h
      rw [Bool.and_eq_true, List.all_eq_true] at h
      have := okd_all (m := m) fun q hq => ih (h.2 q hq)
      simp only [PyData.canLay0, PyData.depth]
      exact ⟨this.1, by omega⟩
    | dict => cases h
    | str x => have h : PyData.strOk x = true := h; simp [PyData.canLay0, PyData.depth, h]
    | _ => simp [PyData.canLay0, PyData.depth]
theorem okd_sh {d m : Nat} {p : PyData} (h : okd d m p = true) (hd : d ≤ 63) : SeqAt.shaped p = true := by
  have := okd_lay h
  unfold SeqAt.shaped
  rw [Bool.and_eq_true]
  exact ⟨this.1, decide_eq_true (by omega)⟩
theorem okd_tup {d m : Nat} {ps : List PyData} (h : okd d m (.tuple ps) = true) : ∃ e, d = e + 1 ∧ ps.length ≤ m ∧ ∀ p ∈ ps, okd e m p = true := by
  cases d with
  | zero => cases h
  | succ e =>
    have h : (decide (ps.length ≤ m) && ps.all (okd e m)) = true := h
    rw [Bool.and_eq_true, List.all_eq_true] at h
    exact ⟨e, rfl, of_decide_eq_true h.1, h.2⟩
theorem okd_list {d m : Nat} {ps : List PyData} (h : okd d m (.list ps) = true) : ∃ e, d = e + 1 ∧ ps.length ≤ m ∧ ∀ p ∈ ps, okd e m p = true := by
  cases d with
  | zero => cases h
  | succ e =>
    have h : (decide (ps.length ≤ m) && ps.all (okd e m)) = true := h
    rw [Bool.and_eq_true, List.all_eq_true] at h
    exact ⟨e, rfl, of_decide_eq_true h.1, h.2⟩
theorem okd_mkT {d m : Nat} {ps : List PyData} (h1 : ps.length ≤ m) (h2 : ∀ p ∈ ps, okd d m p = true) : okd (d + 1) m (.tuple ps) = true := by
  show (decide (ps.length ≤ m) && ps.all (okd d m)) = true
  rw [Bool.and_eq_true, List.all_eq_true]
  exact ⟨decide_eq_true h1, h2⟩
theorem okd_mkL {d m : Nat} {ps : List PyData} (h1 : ps.length ≤ m) (h2 : ∀ p ∈ ps, okd d m p = true) : okd (d + 1) m (.list ps) = true := okd_mkT h1 h2
theorem okd_filter {d m : Nat} {ps : List PyData} {φ : PyData → Bool} (h : okd d m (.tuple ps) = true) : okd d m (.list (ps.filter φ)) = true := by
  obtain ⟨e, rfl, h1, h2⟩ := okd_tup h
  exact okd_mkL (Nat.le_trans (List.length_filter_le _ _) h1) fun p hp => h2 p (List.mem_filter.mp hp).1
theorem okd_up : ∀ {d m d' m' : Nat} {p : PyData}, d ≤ d' → m ≤ m' → okd d m p = true → okd d' m' p = true := by
  intro d
  induction d with
  | zero =>
    intro m d' m' p _ hm h
    cases p with
    | list => cases h
    | tuple => cases h
    | dict => cases h
    | _ => cases d' <;> exact h
  | succ d ih =>
    intro m d' m' p hd hm h
    obtain ⟨d'', rfl⟩ : ∃ k, d' = k + 1 := ⟨d' - 1, by omega⟩
    cases p with
    | list ps =>
      obtain ⟨e, he, h1, h2⟩ := okd_list h
      cases he
      exact okd_mkL (by omega) fun p hp => ih (by omega) hm (h2 p hp)
    | tuple ps =>
      obtain ⟨e, he, h1, h2⟩ := okd_tup h
      cases he
      exact okd_mkT (by omega) fun p hp => ih (by omega) hm (h2 p hp)
    | dict => cases h
    | _ => exact h
theorem eqv_nil {xs : List PyData} : PyData.eqvAll xs [] = xs.isEmpty := by
  cases xs <;> rfl
theorem bg1 : 1 ≤ big := by decide
theorem bg2 : 2 ≤ big := by decide
theorem bg3 : 3 ≤ big := by decide
theorem bg4 : 4 ≤ big := by decide
theorem bg5 : 5 ≤ big := by decide
theorem bg6 : 6 ≤ big := by decide
theorem bg7 : 7 ≤ big := by decide
theorem bg8 : 8 ≤ big := by decide
theorem bg9 : 9 ≤ big := by decide
theorem bg10 : 10 ≤ big := by decide
theorem bg11 : 11 ≤ big := by decide
theorem bg {k : Nat} (h : k ≤ 10000) : k ≤ big := by unfold big; omega
/-- a loop that looks at each and leaves with v at the first that is not φ -/
theorem forF_all {α : Type} {g : α → En → Hh → Out} {φ : α → Bool} {I : En → Prop} {v : Val} {h : Hh} : ∀ {xs : List α} {ρ : En}, I ρ → (∀ x ∈ xs, ∀ ρ, I ρ → (φ x = true → ∃ ρ', I ρ' ∧ (g x ρ h = .nx ρ' h ∨ g x ρ h = .ct ρ' h)) ∧ (φ x = false → g x ρ h = .rt v h)) →
    (xs.all φ = true → ∃ ρ', I ρ' ∧ forF g xs ρ h = .nx ρ' h) ∧ (xs.all φ = false → forF g xs ρ h = .rt v h)
  | [], ρ, hi, _ => ⟨fun _ => ⟨ρ, hi, rfl⟩, fun z => (nomatch z)⟩
  | x :: xs, ρ, hi, hg => by
    obtain ⟨g1, g2⟩ := hg x List.mem_cons_self ρ hi
    cases e : φ x with
    | true =>
      obtain ⟨ρ', hi', e1⟩ := g1 e
      have ih := forF_all hi' fun y hy => hg y (List.mem_cons_of_mem _ hy)
      have e2 : forF g (x :: xs) ρ h = forF g xs ρ' h := by
        rcases e1 with e1 | e1 <;> simp only [forF, e1]
      rw [List.all_cons, e, e2, Bool.true_and]
      exact ih
    | false =>
      rw [List.all_cons, e, Bool.false_and]
      refine ⟨fun z => (nomatch z), fun _ => ?_⟩
      simp only [forF, g2 e]
end MP
end
section
set_option Elab.async false
set_option linter.all false
set_option autoImplicit false
set_option maxRecDepth 100000
set_option maxHeartbeats 1000000
/-! Mini: what of the machine's state a value, a cell, the names stand for. -/
namespace MP
open PySem PySem.Spec PyProof.Rows L2

/-- the cells' addresses; further lists that are being made and that nothing names yet -/
structure Mu where
  c : List (Option Addr)
  g : List Addr
def Mu.push (μ : Mu) (p : Addr) : Mu := ⟨μ.c ++ [some p], μ.g⟩
def Mu.kill (μ : Mu) (i : Nat) : Mu := ⟨μ.c.set i none, μ.g⟩
def Mu.upto (μ : Mu) (n : Nat) : Mu := ⟨μ.c.take n, μ.g⟩
def Nin (μ : Mu) (a : Addr) : Prop := (∀ i : Nat, μ.c[i]? ≠ some (some a)) ∧ a ∉ μ.g
/-- a lambda's object: its words, the cells that it captured, its code object -/
structure LF where
  qual : Str
  params : Arguments
  body : Expr
  scope : Scope
  cl : List (Str × Addr)
  c : Addr
/-- bs: the heap ahead of the law; tb: the tables of the code objects of lambdas; ok: what a lambda's words must be -/
structure Ax where
  K : PySem.W.Frag
  fa : Nat → Option Addr
  cl : Nat → Addr
  er : Nat → Addr
  bs : Addr → Option Obj
  tb : List (Addr × Str)
  ok : List Nat → E → List Str → LF → Prop
/-- the object at f is the lambda F -/
def LmO (f : Addr) (F : LF) : HO := .ext fun h => ∃ pm ctv, h.get? f = some (PySem.W.kla_obj "<lambda>" F.qual F.params F.body F.scope F.cl pm F.c ctv)
def KTup (K : PySem.W.Frag) (a : Addr) (xs : List V) : Prop := ∃ (o : Obj) (its : Array Value) (n : Nat), K.lookup a = some o ∧ o.cls = .type "tuple" ∧ o.data = .seq its n ∧ its.size ≤ sizeLine ∧ Vals xs its.toList
def KLst (K : PySem.W.Frag) (a : Addr) (xs : List V) : Prop := ∃ (o : Obj) (its : Array Value) (n : Nat), K.lookup a = some o ∧ o.cls = .type "list" ∧ o.dict = none ∧ o.data = .seq its n ∧ its.size ≤ sizeLine ∧ Vals xs its.toList
def TupA (K : PySem.W.Frag) (H : Hp) (μ : Mu) (a : Addr) (xs : List V) : Prop := (Nin μ a ∧ H a = some (.tup xs)) ∨ KTup K a xs
theorem TupA.sq {K : PySem.W.Frag} {H : Hp} {μ : Mu} {a : Addr} {xs : List V} (h : TupA K H μ a xs) : SqT K H a xs := by
  rcases h with ⟨_, h⟩ | h
  · exact .inl (.inl h)
  · exact .inr h
mutual
inductive Rep (K : PySem.W.Frag) (H : Hp) (μ : Mu) : PyData → V → Prop
  | non : Rep K H μ .none .non
  | bl (b : Bool) : Rep K H μ (.bool b) (.bl b)
  | int (i : Int) : Rep K H μ (.int i) (.int i)
  | str (x : Str) : Rep K H μ (.str x) (.str x)
  | lst {a : Addr} {vs : List V} {ps : List PyData} : Nin μ a → H a = some (.lst vs) → Reps K H μ ps vs → Rep K H μ (.list ps) (.ref a)
  | tup {a : Addr} {vs : List V} {ps : List PyData} : TupA K H μ a vs → Reps K H μ ps vs → Rep K H μ (.tuple ps) (.ref a)
inductive Reps (K : PySem.W.Frag) (H : Hp) (μ : Mu) : List PyData → List V → Prop
  | nil : Reps K H μ [] []
  | cons {p : PyData} {ps : List PyData} {v : V} {vs : List V} : Rep K H μ p v → Reps K H μ ps vs → Reps K H μ (p :: ps) (v :: vs)
end
/-- what is kept -/
structure Ext0 (μ : Mu) (H : Hp) (μ' : Mu) (H' : Hp) : Prop where
  len : μ.c.length ≤ μ'.c.length
  pre : ∀ (i : Nat) (a : Addr), i < μ.c.length → μ'.c[i]? = some (some a) → μ.c[i]? = some (some a)
  keep : ∀ a o, H a = some o → Nin μ a → (∀ ps, o ≠ .tbl ps) → H' a = some o ∧ Nin μ' a
structure Ext (μ : Mu) (H : Hp) (μ' : Mu) (H' : Hp) : Prop extends Ext0 μ H μ' H' where
  gh : μ'.g = μ.g
  kg : ∀ a ∈ μ.g, ∀ o, H a = some o → H' a = some o
theorem Ext0.refl (μ : Mu) (H : Hp) : Ext0 μ H μ H := ⟨Nat.le_refl _, fun _ _ _ h => h, fun _ _ h n _ => ⟨h, n⟩⟩
theorem Ext0.trans {μ μ1 μ2 : Mu} {H H1 H2 : Hp} (a : Ext0 μ H μ1 H1) (b : Ext0 μ1 H1 μ2 H2) : Ext0 μ H μ2 H2 :=
  ⟨Nat.le_trans a.len b.len, fun i x hi h => a.pre i x hi (b.pre i x (Nat.lt_of_lt_of_le hi a.len) h), fun x o h n t => let ⟨h1, n1⟩ := a.keep x o h n t; b.keep x o h1 n1 t⟩
theorem Ext.refl (μ : Mu) (H : Hp) : Ext μ H μ H := ⟨.refl _ _, rfl, fun _ _ _ h => h⟩
theorem Ext.trans {μ μ1 μ2 : Mu} {H H1 H2 : Hp} (a : Ext μ H μ1 H1) (b : Ext μ1 H1 μ2 H2) : Ext μ H μ2 H2 :=
  ⟨a.toExt0.trans b.toExt0, b.gh.trans a.gh, fun x hx o h => b.kg x (by rw [a.gh]; exact hx) o (a.kg x hx o h)⟩
mutual
theorem Rep.ext0 {K : PySem.W.Frag} {μ μ' : Mu} {H H' : Hp} (e : Ext0 μ H μ' H') : ∀ (p : PyData) (v : V), Rep K H μ p v → Rep K H' μ' p v
  | .none, _, h => by cases h; exact .non
  | .bool b, _, h => by cases h; exact .bl b
  | .int i, _, h => by cases h; exact .int i
  | .str x, _, h => by cases h; exact .str x
  | .list ps, _, h => by
    cases h with
    | lst n ha hr =>
      obtain ⟨h1, n1⟩ := e.keep _ _ ha n (fun q z => by cases z)
      exact .lst n1 h1 (Reps.ext0 e ps _ hr)
  | .tuple ps, _, h => by
    cases h with
    | tup ha hr =>
      refine .tup ?_ (Reps.ext0 e ps _ hr)
      rcases ha with ⟨n, ha⟩ | ha
      · obtain ⟨h1, n1⟩ := e.keep _ _ ha n (fun q z => by cases z)
        exact .inl ⟨n1, h1⟩
      · exact .inr ha
  | .dict _, _, h => by cases h
theorem Reps.ext0 {K : PySem.W.Frag} {μ μ' : Mu} {H H' : Hp} (e : Ext0 μ H μ' H') : ∀ (ps : List PyData) (vs : List V), Reps K H μ ps vs → Reps K H' μ' ps vs
  | [], _, h => by cases h; exact .nil
  | p :: ps, _, h => by
    cases h with
    | cons h1 h2 => exact .cons (Rep.ext0 e p _ h1) (Reps.ext0 e ps _ h2)
end
theorem Rep.ext {K : PySem.W.Frag} {μ μ' : Mu} {H H' : Hp} (e : Ext μ H μ' H') (p : PyData) (v : V) (h : Rep K H μ p v) : Rep K H' μ' p v := Rep.ext0 e.toExt0 p v h
theorem Reps.ext {K : PySem.W.Frag} {μ μ' : Mu} {H H' : Hp} (e : Ext μ H μ' H') (ps : List PyData) (vs : List V) (h : Reps K H μ ps vs) : Reps K H' μ' ps vs := Reps.ext0 e.toExt0 ps vs h
mutual
theorem Rep.dp {K : PySem.W.Frag} {μ : Mu} {H : Hp} : ∀ (p : PyData) (v : V), Rep K H μ p v → Dp K H v p
  | .none, _, h => by cases h; exact .non
  | .bool b, _, h => by cases h; exact .bl b
  | .int i, _, h => by cases h; exact .int i
  | .str x, _, h => by cases h; exact .str x
  | .list ps, _, h => by
    cases h with
    | lst n ha hr => exact .lst (SqL.of ha) (Reps.dp ps _ hr)
  | .tuple ps, _, h => by
    cases h with
    | tup ha hr => exact .tup ha.sq (Reps.dp ps _ hr)
  | .dict _, _, h => by cases h
theorem Reps.dp {K : PySem.W.Frag} {μ : Mu} {H : Hp} : ∀ (ps : List PyData) (vs : List V), Reps K H μ ps vs → DpAll K H vs ps
  | [], _, h => by cases h; exact .nil
  | p :: ps, _, h => by
    cases h with
    | cons h1 h2 => exact .cons (Rep.dp p _ h1) (Reps.dp ps _ h2)
end
section
variable {K : PySem.W.Frag} {μ μ' : Mu} {H H' : Hp}
theorem Reps.length : ∀ {ps : List PyData} {vs : List V}, Reps K H μ ps vs → ps.length = vs.length
  | [], _, h => by cases h; rfl
  | p :: ps, _, h => by
    cases h with
    | cons _ h2 => exact congrArg (· + 1) h2.length
theorem Reps.append : ∀ {ps qs : List PyData} {vs ws : List V}, Reps K H μ ps vs → Reps K H μ qs ws → Reps K H μ (ps ++ qs) (vs ++ ws)
  | [], _, _, _, h, g => by cases h; exact g
  | p :: ps, _, _, _, h, g => by
    cases h with
    | cons h1 h2 => exact .cons h1 (h2.append g)
theorem Reps.get : ∀ {ps : List PyData} {vs : List V} {i : Nat} {p : PyData}, Reps K H μ ps vs → ps[i]? = some p → ∃ v, vs[i]? = some v ∧ Rep K H μ p v
  | [], _, _, _, _, e => by simp at e
  | q :: ps, _, i, p, h, e => by
    cases h with
    | cons h1 h2 =>
      cases i with
      | zero => simp at e; subst e; exact ⟨_, rfl, h1⟩
      | succ i =>
        obtain ⟨v, e1, e2⟩ := h2.get (i := i) (p := p) (by simpa using e)
        exact ⟨v, by simpa using e1, e2⟩
theorem Reps.take : ∀ {ps : List PyData} {vs : List V} (n : Nat), Reps K H μ ps vs → Reps K H μ (ps.take n) (vs.take n)
  | _, _, 0, _ => .nil
  | [], _, n + 1, h => by cases h; exact .nil
  | p :: ps, _, n + 1, h => by
    cases h with
    | cons h1 h2 => exact .cons h1 (h2.take n)
theorem Reps.drop : ∀ {ps : List PyData} {vs : List V} (n : Nat), Reps K H μ ps vs → Reps K H μ (ps.drop n) (vs.drop n)
  | _, _, 0, h => h
  | [], _, n + 1, h => by cases h; exact .nil
  | p :: ps, _, n + 1, h => by
    cases h with
    | cons h1 h2 => exact h2.drop n
theorem Reps.set : ∀ {ps : List PyData} {vs : List V} (n : Nat) {p : PyData} {v : V}, Reps K H μ ps vs → Rep K H μ p v → Reps K H μ (ps.set n p) (vs.set n v)
  | [], _, _, _, _, h, _ => by cases h; exact .nil
  | q :: ps, _, 0, _, _, h, r => by
    cases h with
    | cons h1 h2 => exact .cons r h2
  | q :: ps, _, n + 1, _, _, h, r => by
    cases h with
    | cons h1 h2 => exact .cons h1 (h2.set n r)
theorem Reps.reverse : ∀ {ps : List PyData} {vs : List V}, Reps K H μ ps vs → Reps K H μ ps.reverse vs.reverse
  | [], _, h => by cases h; exact .nil
  | p :: ps, _, h => by
    cases h with
    | cons h1 h2 =>
      rw [List.reverse_cons, List.reverse_cons]
      exact h2.reverse.append (.cons h1 .nil)
theorem Reps.rep {ps : List PyData} {vs : List V} (h : Reps K H μ ps vs) : ∀ n : Nat, Reps K H μ (List.replicate n ps).flatten (List.replicate n vs).flatten
  | 0 => .nil
  | n + 1 => by
    rw [List.replicate_succ, List.replicate_succ, List.flatten_cons, List.flatten_cons]
    exact h.append (h.rep n)
theorem Reps.dropLast {ps : List PyData} {vs : List V} (h : Reps K H μ ps vs) : Reps K H μ ps.dropLast vs.dropLast := by
  rw [List.dropLast_eq_take, List.dropLast_eq_take, h.length]
  exact h.take _
theorem Reps.cut {ps : List PyData} {vs : List V} (h : Reps K H μ ps vs) (lo hi : Option Int) : Reps K H μ (cutF ps lo hi) (cutV vs lo hi) := by
  unfold cutF cutV
  rw [h.length]
  exact (h.drop _).take _
theorem Reps.atI {ps : List PyData} {vs : List V} {i : Int} {p : PyData} (h : Reps K H μ ps vs) (e : L2.atI ps i = some p) : ∃ v, L2.atI vs i = some v ∧ Rep K H μ p v := by
  unfold L2.atI at e ⊢
  rw [← h.length]
  cases q : ixN ps.length i with
  | none => rw [q] at e; cases e
  | some j =>
    rw [q] at e
    exact h.get (show ps[j]? = some p from e)
theorem Reps.ints : ∀ {xs : List Int} {vs : List V}, Reps K H μ (xs.map PyData.int) vs → vs = xs.map V.int
  | [], _, h => by cases h; rfl
  | x :: xs, _, h => by
    cases h with
    | cons h1 h2 =>
      cases h1
      rw [h2.ints]
      all_goals rfl
theorem Reps.of_ints : ∀ xs : List Int, Reps K H μ (xs.map PyData.int) (xs.map V.int)
  | [] => .nil
  | x :: xs => .cons (.int x) (Reps.of_ints xs)
end

/-! ### growth by one new object -/
def Gro (H H' : Hp) : Prop := H' = H ∨ ∃ p o, H p = none ∧ H' = upd H p o
theorem Gro.refl (H : Hp) : Gro H H := .inl rfl
theorem Gro.new {H : Hp} {p : Addr} {o : HO} (h : H p = none) : Gro H (upd H p o) := .inr ⟨p, o, h, rfl⟩
theorem Gro.ext {H H' : Hp} (g : Gro H H') (μ : Mu) : Ext μ H μ H' := by
  rcases g with rfl | ⟨p, o, hp, rfl⟩
  · exact .refl _ _
  · exact ⟨⟨Nat.le_refl _, fun _ _ _ h => h, fun a u h n _ => ⟨by rw [upd_ne (ne_of_none h hp)]; exact h, n⟩⟩, rfl, fun a _ u h => by rw [upd_ne (ne_of_none h hp)]; exact h⟩

/-! ### cells, names -/
section
variable (Y : Ax)
def FldR (H : Hp) (μ : Mu) : List (Str × PyData) → List (Str × V) → Prop := Paired fun p q => p.1 = q.1 ∧ Rep Y.K H μ p.2 q.2
def CelR (H : Hp) (μ : Mu) (i : Nat) : Cell → Prop
  | .dead => μ.c[i]? = some none
  | .lst ps => ∃ a vs, μ.c[i]? = some (some a) ∧ H a = some (.lst vs) ∧ Reps Y.K H μ ps vs
  | .ins C fs => ∃ a dx fvs, μ.c[i]? = some (some a) ∧ H a = some (.ins (Y.cl C) dx fvs) ∧ FldR Y H μ fs fvs
structure HR (μ : Mu) (h : Hh) (H : Hp) : Prop where
  tab : LamX.Tabs Y.tb H
  gl : ∀ a ∈ μ.g, ∃ xs, H a = some (.lst xs)
  dis : ∀ (i : Nat) (a : Addr), μ.c[i]? = some (some a) → a ∉ μ.g
  len : μ.c.length = h.length
  inj : ∀ (i j : Nat) (a : Addr), μ.c[i]? = some (some a) → μ.c[j]? = some (some a) → i = j
  cel : ∀ (i : Nat) (c : Cell), h[i]? = some c → CelR Y H μ i c
def ScrA (H : Hp) (μ : Mu) (a : Addr) (xs : List V) : Prop := (Nin μ a ∧ Rd H a (.lst xs)) ∨ KLst Y.K a xs
def RepB (H : Hp) (μ : Mu) : Val → V → Prop
  | .d p, v => Rep Y.K H μ p v
  | .ref n, v => n < μ.c.length ∧ ∀ a, μ.c[n]? = some (some a) → v = .ref a
  | .fn f, v => ∃ a, Y.fa f = some a ∧ v = .ref a
  | .scr xs, v => ∃ a, v = .ref a ∧ ScrA Y H μ a (xs.map V.int)
  | .clo _ _ _, _ => False
/-- a captured cell stands aside while others run -/
def cellD (cl : List (Str × Addr)) (c : Addr) : Prop := (∃ y, cl.lookup y = some c) ∧ Y.bs c = none
open Classical in
noncomputable def subH (cl : List (Str × Addr)) (H : Hp) : Hp := fun c => if cellD Y cl c then none else H c
/-- the cell at c is o, and stays so -/
def CellA (H : Hp) (μ : Mu) (c : Addr) (o : Obj) : Prop := (Y.bs c = none ∧ Nin μ c ∧ H c = some (.frz o (.own c))) ∨ Y.bs c = some o
/-- a closure's words and cells -/
structure CloC (H : Hp) (μ : Mu) (ps : List Nat) (b : E) (ρ : En) (f : Addr) (F : LF) (N : List Str) (σ : L2.St) : Prop where
  fo : (∃ o, H f = some (.frz o (LmO f F)) ∧ Nin μ f) ∨ ∃ pm ctv, Y.bs f = some (PySem.W.kla_obj "<lambda>" F.qual F.params F.body F.scope F.cl pm F.c ctv)
  co : H F.c = some (LamX.CodeO F.c F.qual)
  cn : Nin μ F.c
  ok : Y.ok ps b N F
  len : ρ.length = σ.length
  lenN : σ.length = N.length
  cell : ∀ y c, F.cl.lookup y = some c → ∃ o v, CellA Y H μ c o ∧ o.data = .cell v ∧ ∀ (i : Nat) (x : V), N[i]? = some y → σ[i]? = some (some x) → ∃ u, v = some u ∧ RelV x u
  inj : ∀ x y c, F.cl.lookup x = some c → F.cl.lookup y = some c → x = y
  has : ∀ y, F.scope.names.lookup y = some .free → ∃ c, F.cl.lookup y = some c
  val : ∀ (i : Nat) (w : Val), ρ[i]? = some (some w) → ∃ v, σ[i]? = some (some v)
inductive RepW : Hp → Mu → Val → V → Prop
  | base {H : Hp} {μ : Mu} {w : Val} {v : V} : RepB Y H μ w v → RepW H μ w v
  | clo {H : Hp} {μ : Mu} {ps : List Nat} {b : E} {ρ : En} {f : Addr} {F : LF} {N : List Str} {σ : L2.St} : CloC Y H μ ps b ρ f F N σ →
      (∀ (i : Nat) (w : Val) (v : V), ρ[i]? = some (some w) → σ[i]? = some (some v) → RepW (subH Y F.cl H) μ w v) → RepW H μ (.clo ps b ρ) (.ref f)
def RepV (H : Hp) (μ : Mu) : Val → V → Prop
  | .d p, v => Rep Y.K H μ p v
  | .ref n, v => n < μ.c.length ∧ ∀ a, μ.c[n]? = some (some a) → v = .ref a
  | .fn f, v => ∃ a, Y.fa f = some a ∧ v = .ref a
  | .scr xs, v => ∃ a, v = .ref a ∧ ScrA Y H μ a (xs.map V.int)
  | .clo ps b ρ, v => RepW Y H μ (.clo ps b ρ) v
theorem RepV.w {Y : Ax} {H : Hp} {μ : Mu} {w : Val} {v : V} (r : RepV Y H μ w v) : RepW Y H μ w v := by
  cases w with
  | clo ps b ρ => exact r
  | _ => exact .base r
theorem RepW.v {Y : Ax} {H : Hp} {μ : Mu} {w : Val} {v : V} (r : RepW Y H μ w v) : RepV Y H μ w v := by
  cases w with
  | clo ps b ρ => exact r
  | _ => cases r with
    | base q => exact q
abbrev RepVs (H : Hp) (μ : Mu) : List Val → List V → Prop := Paired (RepV Y H μ)
structure ER (μ : Mu) (H : Hp) (ρ : En) (σ : L2.St) : Prop where
  len : ρ.length = σ.length
  get : ∀ (i : Nat) (w : Val), ρ[i]? = some (some w) → ∃ v, σ[i]? = some (some v) ∧ RepV Y H μ w v
end
section
variable {Y : Ax} {μ μ' : Mu} {H H' : Hp} {h h' : Hh} {ρ : En} {σ : L2.St}
theorem KLst.sq {K : PySem.W.Frag} {a : Addr} {xs : List V} (h : KLst K a xs) : SqL K H a xs := .inr h
theorem ScrA.sq {a : Addr} {xs : List V} (x : ScrA Y H μ a xs) : SqL Y.K H a xs := by
  rcases x with ⟨_, x⟩ | x
  · exact .inl x
  · exact .inr x
theorem FldR.ext0 (e : Ext0 μ H μ' H') : ∀ {fs : List (Str × PyData)} {gs : List (Str × V)}, FldR Y H μ fs gs → FldR Y H' μ' fs gs
  | _, _, .nil => .nil
  | _, _, .cons r t => .cons ⟨r.1, Rep.ext0 e _ _ r.2⟩ (FldR.ext0 e t)
theorem Ext0.sub (e : Ext0 μ H μ' H') (cl : List (Str × Addr)) : Ext0 μ (subH Y cl H) μ' (subH Y cl H') := by
  refine ⟨e.len, e.pre, fun a o h n t => ?_⟩
  unfold subH at h ⊢
  by_cases hd : cellD Y cl a
  · rw [if_pos hd] at h
    cases h
  · rw [if_neg hd] at h ⊢
    exact e.keep a o h n t
theorem lmO_tbl {f : Addr} {F : LF} (ps : Array Value) : LmO f F ≠ .tbl ps := fun z => by
  unfold LmO at z
  cases z
theorem CellA.ext0 (e : Ext0 μ H μ' H') {c : Addr} {o : Obj} (x : CellA Y H μ c o) : CellA Y H' μ' c o := by
  rcases x with ⟨h1, h2, h3⟩ | h
  · obtain ⟨k1, k2⟩ := e.keep c _ h3 h2 (fun q z => by cases z)
    exact .inl ⟨h1, k2, k1⟩
  · exact .inr h
theorem CloC.ext0 (e : Ext0 μ H μ' H') {ps : List Nat} {b : E} {ρ : En} {f : Addr} {F : LF} {N : List Str} {σ : L2.St} (x : CloC Y H μ ps b ρ f F N σ) : CloC Y H' μ' ps b ρ f F N σ := by
  have a1 : (∃ o, H' f = some (.frz o (LmO f F)) ∧ Nin μ' f) ∨ ∃ pm ctv, Y.bs f = some (PySem.W.kla_obj "<lambda>" F.qual F.params F.body F.scope F.cl pm F.c ctv) := by
    rcases x.fo with ⟨o0, fo, fn⟩ | z
    · exact .inl ⟨o0, e.keep f _ fo fn (fun ps z => by cases z)⟩
    · exact .inr z
  obtain ⟨b1, b2⟩ := e.keep F.c _ x.co x.cn LamX.codeO_ne
  exact ⟨a1, b1, b2, x.ok, x.len, x.lenN, fun y c h => let ⟨o, v, q1, q2, q3⟩ := x.cell y c h; ⟨o, v, q1.ext0 e, q2, q3⟩, x.inj, x.has, x.val⟩
theorem RepB.ext0 (e : Ext0 μ H μ' H') {w : Val} {v : V} (r : RepB Y H μ w v) : RepB Y H' μ' w v := by
  cases w with
  | d p => exact Rep.ext0 e p v r
  | ref n => exact ⟨Nat.lt_of_lt_of_le r.1 e.len, fun a q => r.2 a (e.pre n a r.1 q)⟩
  | fn f => exact r
  | scr xs =>
    obtain ⟨a, rfl, q⟩ := r
    refine ⟨a, rfl, ?_⟩
    rcases q with ⟨n, q | ⟨o, q⟩⟩ | q
    · obtain ⟨h1, n1⟩ := e.keep a _ q n (fun q z => by cases z)
      exact .inl ⟨n1, .inl h1⟩
    · obtain ⟨h1, n1⟩ := e.keep a _ q n (fun q z => by cases z)
      exact .inl ⟨n1, .inr ⟨o, h1⟩⟩
    · exact .inr q
  | clo _ _ _ => exact r
theorem RepW.ext0 {H : Hp} {μ : Mu} {w : Val} {v : V} (r : RepW Y H μ w v) : ∀ {H' : Hp} {μ' : Mu}, Ext0 μ H μ' H' → RepW Y H' μ' w v := by
  induction r with
  | base q => exact fun e => .base (q.ext0 e)
  | clo c _ ih => exact fun e => .clo (c.ext0 e) fun i w v h1 h2 => ih i w v h1 h2 (e.sub _)
theorem RepV.ext0 (e : Ext0 μ H μ' H') {w : Val} {v : V} (r : RepV Y H μ w v) : RepV Y H' μ' w v := (RepW.ext0 r.w e).v
theorem RepV.ext (e : Ext μ H μ' H') {w : Val} {v : V} (r : RepV Y H μ w v) : RepV Y H' μ' w v := r.ext0 e.toExt0
theorem RepVs.ext0 (e : Ext0 μ H μ' H') : ∀ {ws : List Val} {vs : List V}, RepVs Y H μ ws vs → RepVs Y H' μ' ws vs
  | _, _, .nil => .nil
  | _, _, .cons r t => .cons (RepV.ext0 e r) (RepVs.ext0 e t)
theorem RepVs.ext (e : Ext μ H μ' H') {ws : List Val} {vs : List V} (r : RepVs Y H μ ws vs) : RepVs Y H' μ' ws vs := RepVs.ext0 e.toExt0 r
theorem ER.ext0 (e : Ext0 μ H μ' H') (r : ER Y μ H ρ σ) : ER Y μ' H' ρ σ := ⟨r.len, fun i w q => let ⟨v, e1, e2⟩ := r.get i w q; ⟨v, e1, e2.ext0 e⟩⟩
theorem ER.ext (e : Ext μ H μ' H') (r : ER Y μ H ρ σ) : ER Y μ' H' ρ σ := r.ext0 e.toExt0
theorem ER.set (r : ER Y μ H ρ σ) (i : Nat) {w : Val} {v : V} (q : RepV Y H μ w v) : ER Y μ H (ρ.set i (some w)) (σ.set i (some v)) := by
  refine ⟨by simp [r.len], fun j u e => ?_⟩
  by_cases hj : j = i
  · subst hj
    by_cases hl : j < ρ.length
    · rw [List.getElem?_set_self hl] at e
      cases e
      exact ⟨v, by rw [List.getElem?_set_self (by rw [← r.len]; exact hl)], q⟩
    · rw [List.getElem?_eq_none (by simp; omega)] at e
      cases e
  · rw [List.getElem?_set_ne (Ne.symm hj)] at e
    obtain ⟨v', e1, e2⟩ := r.get j u e
    exact ⟨v', by rw [List.getElem?_set_ne (Ne.symm hj)]; exact e1, e2⟩
/-- nothing, a list or an instance stands there -/
def Soft (H : Hp) (a : Addr) : Prop := H a = none ∨ (∃ xs, H a = some (.lst xs)) ∨ ∃ C d fs, H a = some (.ins C d fs)
theorem tabs_upd {T : List (Addr × Str)} {a : Addr} {o : HO} (s : Soft H a) (t : LamX.Tabs T H) : LamX.Tabs T (upd H a o) := by
  have ne : ∀ b u, H b = some u → (∀ xs, u ≠ .lst xs) → (∀ C d fs, u ≠ .ins C d fs) → b ≠ a := fun b u e h1 h2 z => by
    rw [z] at e
    rcases s with s | ⟨xs, s⟩ | ⟨C, d, fs, s⟩
    · rw [s] at e; cases e
    · rw [s] at e; exact h1 xs (Option.some.inj e).symm
    · rw [s] at e; exact h2 C d fs (Option.some.inj e).symm
  intro p hp
  obtain ⟨ps, h1, h2, h3⟩ := t p hp
  refine ⟨ps, ?_, h2, fun pos cv hc => ?_⟩
  · rw [upd_ne (ne _ _ h1 (fun _ z => by cases z) fun _ _ _ z => by cases z)]
    exact h1
  · obtain ⟨c, e1, e2⟩ := h3 pos cv hc
    refine ⟨c, e1, ?_⟩
    rw [upd_ne (ne _ _ e2 (fun _ z => by unfold LamX.CodeO at z; cases z) fun _ _ _ z => by unfold LamX.CodeO at z; cases z)]
    exact e2
/-- every living cell stands in the heap -/
theorem HR.live (R : HR Y μ h H) {i : Nat} {a : Addr} (e : μ.c[i]? = some (some a)) : ∃ o, H a = some o := by
  have hi : i < h.length := by
    rw [← R.len]
    exact (List.getElem?_eq_some_iff.mp e).1
  have := R.cel i h[i] (by simp [hi])
  cases q : h[i] with
  | dead =>
    rw [q] at this
    rw [show μ.c[i]? = some none from this] at e
    cases e
  | lst ps =>
    rw [q] at this
    obtain ⟨b, vs, e1, e2, _⟩ := this
    rw [e] at e1
    cases e1
    exact ⟨_, e2⟩
  | ins C fs =>
    rw [q] at this
    obtain ⟨b, dx, vs, e1, e2, _⟩ := this
    rw [e] at e1
    cases e1
    exact ⟨_, e2⟩
theorem HR.soft (R : HR Y μ h H) {i : Nat} {a : Addr} (e : μ.c[i]? = some (some a)) : Soft H a := by
  have hi : i < h.length := by
    rw [← R.len]
    exact (List.getElem?_eq_some_iff.mp e).1
  have := R.cel i h[i] (by simp [hi])
  cases q : h[i] with
  | dead =>
    rw [q] at this
    rw [show μ.c[i]? = some none from this] at e
    cases e
  | lst ps =>
    rw [q] at this
    obtain ⟨b, vs, e1, e2, _⟩ := this
    rw [e] at e1
    cases e1
    exact .inr (.inl ⟨_, e2⟩)
  | ins C fs =>
    rw [q] at this
    obtain ⟨b, dx, vs, e1, e2, _⟩ := this
    rw [e] at e1
    cases e1
    exact .inr (.inr ⟨_, _, _, e2⟩)
theorem HR.nin (R : HR Y μ h H) {p : Addr} (e : H p = none) : Nin μ p := by
  refine ⟨fun i z => ?_, fun z => ?_⟩
  · obtain ⟨o, q⟩ := R.live z
    rw [e] at q
    cases q
  · obtain ⟨o, q⟩ := R.gl p z
    rw [e] at q
    cases q
theorem CelR.new {i : Nat} {c : Cell} (x : CelR Y H μ i c) (e : Ext0 μ H μ' H') (hm : μ'.c[i]? = μ.c[i]?) (hk : ∀ a, μ.c[i]? = some (some a) → H' a = H a) : CelR Y H' μ' i c := by
  cases c with
  | dead => exact hm.trans x
  | lst ps =>
    obtain ⟨a, vs, e1, e2, e3⟩ := x
    exact ⟨a, vs, hm.trans e1, (hk a e1).trans e2, Reps.ext0 e _ _ e3⟩
  | ins C fs =>
    obtain ⟨a, dx, vs, e1, e2, e3⟩ := x
    exact ⟨a, dx, vs, hm.trans e1, (hk a e1).trans e2, FldR.ext0 e e3⟩
theorem HR.gro (R : HR Y μ h H) (g : Gro H H') : HR Y μ h H' := by
  have same : ∀ a o, H a = some o → H' a = H a := fun a o ha => by
    rcases g with rfl | ⟨p, o, hp, rfl⟩
    · rfl
    · exact upd_ne (ne_of_none ha hp)
  refine ⟨?_, fun a ha => ?_, R.dis, R.len, R.inj, fun i c e => (R.cel i c e).new (g.ext μ).toExt0 rfl fun a z => ?_⟩
  · rcases g with rfl | ⟨p, o, hp, rfl⟩
    · exact R.tab
    · exact tabs_upd (.inl hp) R.tab
  · obtain ⟨o, q⟩ := R.gl a ha
    exact ⟨o, (same a _ q).trans q⟩
  · obtain ⟨u, hu⟩ := R.live z
    exact same a u hu
theorem key_push {l : List (Option Addr)} {p a : Addr} {k : Nat} (e : (l ++ [some p])[k]? = some (some a)) : (k < l.length ∧ l[k]? = some (some a)) ∨ (k = l.length ∧ a = p) := by
  by_cases hk : k < l.length
  · rw [List.getElem?_append_left hk] at e
    exact .inl ⟨hk, e⟩
  · rw [List.getElem?_append_right (by omega)] at e
    cases hq : k - l.length with
    | zero =>
      rw [hq] at e
      have : p = a := by simpa using e
      exact .inr ⟨by omega, this.symm⟩
    | succ m =>
      rw [hq] at e
      simp at e
theorem key_kill {l : List (Option Addr)} {a : Addr} {i k : Nat} (e : (l.set i none)[k]? = some (some a)) : l[k]? = some (some a) ∧ k ≠ i := by
  by_cases hk : k = i
  · subst hk
    by_cases hl : k < l.length
    · rw [List.getElem?_set_self hl] at e
      cases e
    · rw [List.getElem?_eq_none (by simp; omega)] at e
      cases e
  · rw [List.getElem?_set_ne (Ne.symm hk)] at e
    exact ⟨e, hk⟩
theorem take_get {α : Type} {l : List α} {n i : Nat} {x : α} (e : (l.take n)[i]? = some x) : l[i]? = some x ∧ i < n := by
  by_cases hi : i < n
  · rw [List.getElem?_take_of_lt hi] at e
    exact ⟨e, hi⟩
  · rw [List.getElem?_eq_none (by simp; omega)] at e
    cases e
/-- a new cell -/
theorem Ext.newM {p : Addr} {o : HO} (hp : H p = none) : Ext μ H (μ.push p) (upd H p o) := by
  refine ⟨⟨by simp [Mu.push], fun i a hi e => ?_, fun a u ha n _ => ⟨by rw [upd_ne (ne_of_none ha hp)]; exact ha, fun i z => ?_, n.2⟩⟩, rfl, fun a _ u ha => by rw [upd_ne (ne_of_none ha hp)]; exact ha⟩
  · rcases key_push e with ⟨_, z⟩ | ⟨z, _⟩
    · exact z
    · omega
  · rcases key_push z with ⟨_, z⟩ | ⟨_, z⟩
    · exact n.1 i z
    · rw [z, hp] at ha
      cases ha
theorem HR.newC (R : HR Y μ h H) {p : Addr} {o : HO} {c : Cell} (hp : H p = none) (hc : CelR Y (upd H p o) (μ.push p) μ.c.length c) : HR Y (μ.push p) (h ++ [c]) (upd H p o) := by
  have hn := R.nin hp
  refine ⟨tabs_upd (.inl hp) R.tab, fun a ha => ?_, fun i a e => ?_, by simp [Mu.push, R.len], fun i j a e1 e2 => ?_, fun i d e => ?_⟩
  · obtain ⟨u, hu⟩ := R.gl a ha
    exact ⟨u, (upd_ne (ne_of_none hu hp)).trans hu⟩
  · rcases key_push e with ⟨_, z⟩ | ⟨_, z⟩
    · exact R.dis i a z
    · rw [z]
      exact hn.2
  · rcases key_push e1 with ⟨_, x1⟩ | ⟨x1, x2⟩ <;> rcases key_push e2 with ⟨_, y1⟩ | ⟨y1, y2⟩
    · exact R.inj i j a x1 y1
    · rw [y2] at x1
      exact absurd x1 (hn.1 i)
    · rw [x2] at y1
      exact absurd y1 (hn.1 j)
    · omega
  · by_cases hi : i < h.length
    · rw [List.getElem?_append_left hi] at e
      refine (R.cel i d e).new (Ext.newM hp).toExt0 (List.getElem?_append_left (by rw [R.len]; exact hi)) fun a z => ?_
      obtain ⟨u, hu⟩ := R.live z
      exact upd_ne (ne_of_none hu hp)
    · rw [List.getElem?_append_right (by omega)] at e
      cases hq : i - h.length with
      | zero =>
        rw [hq] at e
        have e3 : c = d := by simpa using e
        have e4 : i = μ.c.length := by
          rw [R.len]
          omega
        rw [e4, ← e3]
        exact hc
      | succ m =>
        rw [hq] at e
        simp at e
/-- a cell changed -/
theorem Ext.mut (R : HR Y μ h H) {i : Nat} {a : Addr} {o : HO} (e : μ.c[i]? = some (some a)) : Ext μ H μ (upd H a o) :=
  ⟨⟨Nat.le_refl _, fun _ _ _ h => h, fun b u hb n _ => ⟨by rw [upd_ne (fun z => n.1 i (by rw [z]; exact e))]; exact hb, n⟩⟩, rfl, fun b hb u h => by rw [upd_ne (fun z => R.dis i a e (by rw [← z]; exact hb))]; exact h⟩
theorem HR.mut (R : HR Y μ h H) {i : Nat} {a : Addr} {o : HO} {c : Cell} (e : μ.c[i]? = some (some a)) (hc : CelR Y (upd H a o) μ i c) : HR Y μ (h.set i c) (upd H a o) := by
  refine ⟨tabs_upd (R.soft e) R.tab, fun b hb => ?_, R.dis, by simp [R.len], R.inj, fun j d q => ?_⟩
  · obtain ⟨u, hu⟩ := R.gl b hb
    exact ⟨u, (upd_ne (fun z => R.dis i a e (by rw [← z]; exact hb))).trans hu⟩
  · by_cases hj : j = i
    · subst hj
      have hi : j < h.length := by
        rw [← R.len]
        exact (List.getElem?_eq_some_iff.mp e).1
      rw [List.getElem?_set_self hi] at q
      cases q
      exact hc
    · rw [List.getElem?_set_ne (Ne.symm hj)] at q
      refine (R.cel j d q).new (Ext.mut R e).toExt0 rfl fun b z => upd_ne fun y => hj ?_
      rw [y] at z
      exact R.inj j i a z e
/-- a cell frozen -/
theorem Ext.frz {i : Nat} : Ext μ H (μ.kill i) H := by
  refine ⟨⟨by simp [Mu.kill], fun j a hj e => (key_kill e).1, fun b u hb n _ => ⟨hb, fun j z => n.1 j (key_kill z).1, n.2⟩⟩, rfl, fun _ _ _ h => h⟩
theorem HR.frz (R : HR Y μ h H) {i : Nat} (hi : i < μ.c.length) : HR Y (μ.kill i) (h.set i .dead) H := by
  refine ⟨R.tab, R.gl, fun j a e => R.dis j a (key_kill e).1, by simp [Mu.kill, R.len], fun j k a e1 e2 => R.inj j k a (key_kill e1).1 (key_kill e2).1, fun j d q => ?_⟩
  by_cases hj : j = i
  · subst hj
    rw [List.getElem?_set_self (by rw [← R.len]; exact hi)] at q
    cases q
    exact List.getElem?_set_self hi
  · rw [List.getElem?_set_ne (Ne.symm hj)] at q
    exact (R.cel j d q).new Ext.frz.toExt0 (List.getElem?_set_ne (Ne.symm hj)) fun b z => rfl
theorem nin_frz {i : Nat} {a : Addr} (R : HR Y μ h H) (e : μ.c[i]? = some (some a)) : Nin (μ.kill i) a :=
  ⟨fun j z => (key_kill z).2 (R.inj j i a (key_kill z).1 e), R.dis i a e⟩
/-- the cells behind n are left behind -/
theorem nin_take {a : Addr} {n : Nat} (x : Nin μ a) : Nin (μ.upto n) a := ⟨fun i z => x.1 i (take_get z).1, x.2⟩

/-! ### a list that is being made -/
def Mu.hide (μ : Mu) (D : Addr) : Mu := ⟨μ.c, D :: μ.g⟩
def Mu.bare (μ : Mu) (g : List Addr) : Mu := ⟨μ.c, g⟩
theorem Ext0.hide {D : Addr} {o : HO} (hD : H D = none) : Ext0 μ H (μ.hide D) (upd H D o) :=
  ⟨Nat.le_refl _, fun _ _ _ h => h, fun a u ha n _ => ⟨by rw [upd_ne (ne_of_none ha hD)]; exact ha, n.1, fun z => by
    rcases List.mem_cons.mp z with z | z
    · rw [z, hD] at ha
      cases ha
    · exact n.2 z⟩⟩
theorem HR.hide (R : HR Y μ h H) {D : Addr} {xs : List V} (hD : H D = none) : HR Y (μ.hide D) h (upd H D (.lst xs)) := by
  refine ⟨tabs_upd (.inl hD) R.tab, fun a ha => ?_, fun i a e z => ?_, R.len, R.inj, fun i c e => (R.cel i c e).new (Ext0.hide hD) rfl fun a z => ?_⟩
  · rcases List.mem_cons.mp ha with z | z
    · rw [z]
      exact ⟨_, upd_same⟩
    · obtain ⟨u, hu⟩ := R.gl a z
      exact ⟨u, (upd_ne (ne_of_none hu hD)).trans hu⟩
  · rcases List.mem_cons.mp z with z | z
    · obtain ⟨u, hu⟩ := R.live e
      rw [z, hD] at hu
      cases hu
    · exact R.dis i a e z
  · obtain ⟨u, hu⟩ := R.live z
    exact upd_ne (ne_of_none hu hD)
/-- what is being made changes -/
theorem Ext0.ghost {D : Addr} {o : HO} (hD : D ∈ μ.g) : Ext0 μ H μ (upd H D o) :=
  ⟨Nat.le_refl _, fun _ _ _ h => h, fun a u ha n _ => ⟨by rw [upd_ne (fun z => n.2 (by rw [z]; exact hD))]; exact ha, n⟩⟩
theorem HR.ghost (R : HR Y μ h H) {D : Addr} {xs : List V} (hD : D ∈ μ.g) : HR Y μ h (upd H D (.lst xs)) := by
  refine ⟨tabs_upd (.inr (.inl (R.gl D hD))) R.tab, fun a ha => ?_, R.dis, R.len, R.inj, fun i c e => (R.cel i c e).new (Ext0.ghost hD) rfl fun a z => ?_⟩
  · by_cases e : a = D
    · rw [e]
      exact ⟨_, upd_same⟩
    · obtain ⟨u, hu⟩ := R.gl a ha
      exact ⟨u, (upd_ne e).trans hu⟩
  · exact upd_ne fun e => R.dis i a z (by rw [e]; exact hD)
theorem Ext0.bare {g : List Addr} (hg : ∀ a ∈ g, a ∈ μ.g) : Ext0 μ H (μ.bare g) H := ⟨Nat.le_refl _, fun _ _ _ h => h, fun a u ha n _ => ⟨ha, n.1, fun z => n.2 (hg a z)⟩⟩
theorem HR.bare (R : HR Y μ h H) {g : List Addr} (hg : ∀ a ∈ g, a ∈ μ.g) : HR Y (μ.bare g) h H :=
  ⟨R.tab, fun a ha => R.gl a (hg a ha), fun i a e z => R.dis i a e (hg a z), R.len, R.inj, fun i c e => (R.cel i c e).new (Ext0.bare hg) rfl fun _ _ => rfl⟩
end
end MP
end
section
set_option Elab.async false
set_option linter.all false
set_option autoImplicit false
set_option maxRecDepth 100000
set_option maxHeartbeats 4000000
/-! Mini: the operations on values. -/
namespace MP
open PySem PySem.Spec PyProof.Rows L2

theorem big_line : big ≤ sizeLine := by rw [sizeLine_eq]; unfold big; omega
def Frs (μ : Mu) (H : Hp) : Prop := ∀ p, H p = none → Nin μ p
theorem HR.frs {Y : Ax} {μ : Mu} {h : Hh} {H : Hp} (R : HR Y μ h H) : Frs μ H := fun _ e => R.nin e
/-- data for reading: a list may be any one, as it stands now; T: one that H tracks -/
def RepR (K : PySem.W.Frag) (H : Hp) (μ : Mu) : PyData → V → Prop
  | .list ps, v => ∃ a vs, v = .ref a ∧ SqL K H a vs ∧ Reps K H μ ps vs
  | p, v => Rep K H μ p v
def RepT (K : PySem.W.Frag) (H : Hp) (μ : Mu) : PyData → V → Prop
  | .list ps, v => ∃ a vs, v = .ref a ∧ H a = some (.lst vs) ∧ Reps K H μ ps vs
  | p, v => Rep K H μ p v
section
variable {K : PySem.W.Frag} {μ μ' : Mu} {H H' : Hp} {p : PyData} {v : V}
theorem Rep.t (h : Rep K H μ p v) : RepT K H μ p v := by
  cases p with
  | list ps =>
    cases h with
    | lst n ha hr => exact ⟨_, _, rfl, ha, hr⟩
  | _ => exact h
theorem RepT.r (h : RepT K H μ p v) : RepR K H μ p v := by
  cases p with
  | list ps =>
    obtain ⟨a, vs, e, ha, hr⟩ := h
    exact ⟨a, vs, e, SqL.of ha, hr⟩
  | _ => exact h
theorem Rep.r (h : Rep K H μ p v) : RepR K H μ p v := h.t.r
theorem RepR.dp (h : RepR K H μ p v) : Dp K H v p := by
  cases p with
  | list ps =>
    obtain ⟨a, vs, rfl, ha, hr⟩ := h
    exact .lst ha (Reps.dp _ _ hr)
  | _ => exact Rep.dp _ _ h
end
section
variable {Y : Ax} {μ μ' : Mu} {h : Hh} {H H' : Hp} {p : PyData} {w : Val} {v : V}
theorem datT_ok (R : HR Y μ h H) (r : RepV Y H μ w v) (e : datT h w = some p) : RepT Y.K H μ p v := by
  cases w with
  | d q =>
    cases e
    exact Rep.t r
  | ref n =>
    have e' : (match h[n]? with | some (.lst ps) => some (PyData.list ps) | _ => none) = some p := e
    cases q : h[n]? with
    | none => rw [q] at e'; cases e'
    | some c =>
      rw [q] at e'
      cases c with
      | lst ps =>
        cases e'
        obtain ⟨a, vs, e1, e2, e3⟩ := R.cel n _ q
        exact ⟨a, vs, r.2 a e1, e2, e3⟩
      | dead => cases e'
      | ins C fs => cases e'
  | fn f => cases e
  | scr xs => cases e
  | clo _ _ _ => cases e
theorem dat_ok (R : HR Y μ h H) (r : RepV Y H μ w v) (e : dat h w = some p) : RepR Y.K H μ p v := by
  cases w with
  | d q => exact (datT_ok R r e).r
  | ref n => exact (datT_ok R r e).r
  | fn f => cases e
  | scr xs =>
    cases e
    obtain ⟨a, rfl, q⟩ := r
    exact ⟨a, _, rfl, q.sq, Reps.of_ints xs⟩
  | clo _ _ _ => cases e
end

/-! ### two-place operations -/
/-- what is wanted of a new value: it stands for r -/
def New (K : PySem.W.Frag) (μ : Mu) (H : Hp) (r : PyData) (Q : VK) : Prop := ∀ z H', Gro H H' → Rep K H' μ r z → Q z H'
def rD2 (K : PySem.W.Frag) (T : PySem.W.Frag → Hp → Mu → PyData → V → Prop) (g : PyData → PyData → Option PyData) : R2 := fun x y H Q => ∃ μ p q r, Frs μ H ∧ T K H μ p x ∧ T K H μ q y ∧ g p q = some r ∧ New K μ H r Q
section
variable {K : PySem.W.Frag} {μ : Mu} {H : Hp} {r : PyData} {Q : VK}
theorem New.int {i : Int} (n : New K μ H (.int i) Q) : Q (.int i) H := n _ _ (.refl H) (.int i)
theorem New.bl {i : Bool} (n : New K μ H (.bool i) Q) : Q (.bl i) H := n _ _ (.refl H) (.bl i)
theorem New.str {i : Str} (n : New K μ H (.str i) Q) : Q (.str i) H := n _ _ (.refl H) (.str i)
theorem New.same {v : V} (n : New K μ H r Q) (h : Rep K H μ r v) : Q v H := n _ _ (.refl H) h
theorem Reps.upd {ps : List PyData} {vs : List V} {p : Addr} {o : HO} (h : Reps K H μ ps vs) (hp : H p = none) : Reps K (upd H p o) μ ps vs := Reps.ext ((Gro.new hp).ext μ) _ _ h
theorem New.lst {ps : List PyData} {vs : List V} (n : New K μ H (.list ps) Q) (f : Frs μ H) (h : Reps K H μ ps vs) (p : Addr) (hp : H p = none) : Q (.ref p) (upd H p (.lst vs)) :=
  n _ _ (.new hp) (.lst (f p hp) upd_same (h.upd hp))
theorem New.tup {ps : List PyData} {vs : List V} (n : New K μ H (.tuple ps) Q) (f : Frs μ H) (h : Reps K H μ ps vs) (p : Addr) (hp : H p = none) : Q (.ref p) (upd H p (.tup vs)) :=
  n _ _ (.new hp) (.tup (.inl ⟨f p hp, upd_same⟩) (h.upd hp))
end
section
variable {X : Cx}
def O2.op : O2 → Operator
  | .add => .Add
  | .sub => .Sub
  | .mul => .Mult
  | .fdiv => .FloorDiv
  | .mod => .Mod
  | .pow => .Pow
theorem repT_int {K : PySem.W.Frag} {H : Hp} {μ : Mu} {i : Int} {x : V} (h : RepT K H μ (.int i) x) : x = .int i := by
  cases (show Rep K H μ (.int i) x from h)
  rfl
theorem repR_int {K : PySem.W.Frag} {H : Hp} {μ : Mu} {i : Int} {x : V} (h : RepR K H μ (.int i) x) : x = .int i := by
  cases (show Rep K H μ (.int i) x from h)
  rfl
theorem repT_bl {K : PySem.W.Frag} {H : Hp} {μ : Mu} {i : Bool} {x : V} (h : RepT K H μ (.bool i) x) : x = .bl i := by
  cases (show Rep K H μ (.bool i) x from h)
  rfl
theorem repT_str {K : PySem.W.Frag} {H : Hp} {μ : Mu} {i : Str} {x : V} (h : RepT K H μ (.str i) x) : x = .str i := by
  cases (show Rep K H μ (.str i) x from h)
  rfl
theorem repR_str {K : PySem.W.Frag} {H : Hp} {μ : Mu} {i : Str} {x : V} (h : RepR K H μ (.str i) x) : x = .str i := by
  cases (show Rep K H μ (.str i) x from h)
  rfl
theorem repT_tup {K : PySem.W.Frag} {H : Hp} {μ : Mu} {ps : List PyData} {x : V} (h : RepT K H μ (.tuple ps) x) : ∃ a vs, x = .ref a ∧ TupA K H μ a vs ∧ Reps K H μ ps vs := by
  cases (show Rep K H μ (.tuple ps) x from h) with
  | tup ha hr => exact ⟨_, _, rfl, ha, hr⟩
theorem repR_tup {K : PySem.W.Frag} {H : Hp} {μ : Mu} {ps : List PyData} {x : V} (h : RepR K H μ (.tuple ps) x) : ∃ a vs, x = .ref a ∧ TupA K H μ a vs ∧ Reps K H μ ps vs := by
  cases (show Rep K H μ (.tuple ps) x from h) with
  | tup ha hr => exact ⟨_, _, rfl, ha, hr⟩
theorem reps_nil {K : PySem.W.Frag} {H : Hp} {μ : Mu} {ps : List PyData} {vs : List V} (h : Reps K H μ ps vs) : vs = [] ↔ ps = [] := by
  have := h.length
  constructor
  · intro e; subst e; exact List.eq_nil_of_length_eq_zero this
  · intro e; subst e; exact List.eq_nil_of_length_eq_zero this.symm
theorem if_some {α : Type} {c : Prop} [Decidable c] {x r : α} (h : (if c then some x else none) = some r) : c ∧ x = r := by
  split at h
  · rename_i hc
    exact ⟨hc, Option.some.inj h⟩
  · cases h
theorem wideMul_ok {i j : Int} (h : wideMul i j = true) : CMulW i j := by
  unfold wideMul at h
  exact (of_decide_eq_true h : i.natAbs.log2 + j.natAbs.log2 < 1000000)
theorem wideDiv_ok {i j : Int} (h : wideDiv j = true) : CDivW i j := by
  unfold wideDiv at h
  rw [Bool.and_eq_true] at h
  exact ⟨of_decide_eq_true h.1, of_decide_eq_true h.2⟩
theorem op_add_bi : OpR X (binaryOp .Add) (fun x y H Q => ∃ (a : Bool) (j : Int), x = .bl a ∧ y = .int j ∧ Q (.int ((if a = true then (1 : Int) else 0) + j)) H) := by
  intro pins s σ H x y v u Q I rx ry h
  obtain ⟨a, j, rfl, rfl, q⟩ := h
  cases rx
  obtain ⟨t, rfl⟩ := ry
  exact PySem.IntBool.add_bool_int ⟨.int ((if a = true then (1 : Int) else 0) + j), H, I.tok _, ⟨_, rfl⟩, q⟩
theorem op_sub_bi : OpR X (binaryOp .Sub) (fun x y H Q => ∃ (a : Bool) (j : Int), x = .bl a ∧ y = .int j ∧ Q (.int ((if a = true then (1 : Int) else 0) - j)) H) := by
  intro pins s σ H x y v u Q I rx ry h
  obtain ⟨a, j, rfl, rfl, q⟩ := h
  cases rx
  obtain ⟨t, rfl⟩ := ry
  exact PySem.IntBool.sub_bool_int ⟨.int ((if a = true then (1 : Int) else 0) - j), H, I.tok _, ⟨_, rfl⟩, q⟩
theorem op_sub_bb : OpR X (binaryOp .Sub) (fun x y H Q => ∃ (a b : Bool), x = .bl a ∧ y = .bl b ∧ Q (.int ((if a = true then (1 : Int) else 0) - (if b = true then (1 : Int) else 0))) H) := by
  intro pins s σ H x y v u Q I rx ry h
  obtain ⟨a, b, rfl, rfl, q⟩ := h
  cases rx
  cases ry
  exact PyProof.Rows.sub_bool ⟨.int ((if a = true then (1 : Int) else 0) - (if b = true then (1 : Int) else 0)), H, I.tok _, ⟨_, rfl⟩, q⟩
theorem o2_ok (o : O2) : OpR X (binaryOp o.op) (rD2 X.K RepT o.ev) := by
  intro pins s σ H x y v u Q I rx ry hh
  obtain ⟨μ, p, q, r, f, hp, hq, e, n⟩ := hh
  have two : ∀ {i j : Int} {z : Int} {op : Operator} {g : Int → Int → V} {C : Int → Int → Prop}, OpR X (binaryOp op) (rI C g) → p = .int i → q = .int j → C i j → Q (g i j) H → wpAny (model X.prog X.w) X.A (binaryOp op v u) (EP X pins σ Q) X.xe s := fun {i j z op g C} ho ep eq hc hQ => by
    subst ep eq
    have e1 := repT_int hp
    have e2 := repT_int hq
    exact ho pins s σ H x y v u Q I rx ry ⟨i, j, e1, e2, hc, hQ⟩
  cases o with
  | add =>
    cases p with
    | int i =>
      cases q with
      | int j =>
        cases e
        have e1 := repT_int hp
        have e2 := repT_int hq
        exact op_add pins s σ H x y v u Q I rx ry ⟨i, j, e1, e2, n.int⟩
      | _ => cases e
    | bool i =>
      cases q with
      | int j =>
        cases e
        have e1 := repT_bl hp
        have e2 := repT_int hq
        exact op_add_bi pins s σ H x y v u Q I rx ry ⟨i, j, e1, e2, n.int⟩
      | _ => cases e
    | str i =>
      cases q with
      | str j =>
        obtain ⟨hl, rfl⟩ := if_some e
        have e1 := repT_str hp
        have e2 := repT_str hq
        exact op_add_str pins s σ H x y v u Q I rx ry ⟨i, j, e1, e2, Nat.le_trans hl big_line, n.str⟩
      | _ => cases e
    | list ps =>
      cases q with
      | list qs =>
        obtain ⟨hl, rfl⟩ := if_some e
        obtain ⟨a, vs, e1, h1, r1⟩ := hp
        obtain ⟨b, ws, e2, h2, r2⟩ := hq
        refine op_cat pins s σ H x y v u Q I rx ry ⟨a, b, vs, ws, e1, e2, h1, h2, ?_, fun p hp => n.lst f (r1.append r2) p hp⟩
        rw [← r1.length, ← r2.length]
        exact Nat.le_trans hl big_line
      | _ => cases e
    | tuple ps =>
      cases q with
      | tuple qs =>
        obtain ⟨hl, rfl⟩ := if_some e
        obtain ⟨a, vs, e1, h1, r1⟩ := repT_tup hp
        obtain ⟨b, ws, e2, h2, r2⟩ := repT_tup hq
        refine op_catA pins s σ H x y v u Q I rx ry ⟨a, b, vs, ws, e1, e2, h1.sq, h2.sq, ?_, fun z => ?_, fun z z2 => ?_, fun _ _ p hp => n.tup f (r1.append r2) p hp⟩
        · rw [← r1.length, ← r2.length]
          exact Nat.le_trans hl big_line
        · have := (reps_nil r1).mp z
          subst this
          exact n.same (.tup h2 r2)
        · have := (reps_nil r2).mp z2
          subst this
          rw [List.append_nil] at n
          exact n.same (.tup h1 r1)
      | _ => cases e
    | _ => cases q <;> cases e
  | sub =>
    cases p with
    | int i =>
      cases q with
      | int j =>
        cases e
        have e1 := repT_int hp
        have e2 := repT_int hq
        exact op_sub pins s σ H x y v u Q I rx ry ⟨i, j, e1, e2, n.int⟩
      | _ => cases e
    | bool i =>
      cases q with
      | int j =>
        cases e
        have e1 := repT_bl hp
        have e2 := repT_int hq
        exact op_sub_bi pins s σ H x y v u Q I rx ry ⟨i, j, e1, e2, n.int⟩
      | bool j =>
        cases e
        have e1 := repT_bl hp
        have e2 := repT_bl hq
        exact op_sub_bb pins s σ H x y v u Q I rx ry ⟨i, j, e1, e2, n.int⟩
      | _ => cases e
    | _ => cases q <;> cases e
  | mul =>
    cases p with
    | int i =>
      cases q with
      | int j =>
        obtain ⟨hl, rfl⟩ := if_some e
        have e1 := repT_int hp
        have e2 := repT_int hq
        exact op_mulW pins s σ H x y v u Q I rx ry ⟨i, j, e1, e2, wideMul_ok hl, n.int⟩
      | _ => cases e
    | list ps =>
      cases q with
      | int k =>
        obtain ⟨⟨h2, h3, h4⟩, rfl⟩ := if_some e
        obtain ⟨a, vs, e1, h1, r1⟩ := hp
        have e2 := repT_int hq
        refine op_rep pins s σ H x y v u Q I rx ry ⟨a, k, vs, e1, e2, h1, by omega, by omega, ?_, fun p hp => n.lst f (r1.rep _) p hp⟩
        rw [← r1.length, sizeLine_eq]
        have : ps.length * k.toNat ≤ 1000 * 1000 := Nat.mul_le_mul h4 (by omega)
        omega
      | _ => cases e
    | tuple ps =>
      cases q with
      | int k =>
        obtain ⟨⟨h2, h3, h4, h5⟩, rfl⟩ := if_some e
        obtain ⟨a, vs, e1, h1, r1⟩ := repT_tup hp
        have e2 := repT_int hq
        refine op_repT pins s σ H x y v u Q I rx ry ⟨a, k, vs, e1, e2, h1.sq, fun z => ?_, h2, h3, by rw [← r1.length]; exact h4, fun p hp => n.tup f (r1.rep _) p hp⟩
        rw [(reps_nil r1).mp z] at h5
        cases h5
      | _ => cases e
    | _ => cases q <;> cases e
  | fdiv =>
    cases p with
    | int i =>
      cases q with
      | int j =>
        obtain ⟨hl, rfl⟩ := if_some e
        have e1 := repT_int hp
        have e2 := repT_int hq
        exact op_fdivW pins s σ H x y v u Q I rx ry ⟨i, j, e1, e2, wideDiv_ok hl, n.int⟩
      | _ => cases e
    | _ => cases q <;> cases e
  | mod =>
    cases p with
    | int i =>
      cases q with
      | int j =>
        obtain ⟨hl, rfl⟩ := if_some e
        have e1 := repT_int hp
        have e2 := repT_int hq
        exact op_mod pins s σ H x y v u Q I rx ry ⟨i, j, e1, e2, hl, n.int⟩
      | _ => cases e
    | _ => cases q <;> cases e
  | pow =>
    cases p with
    | int i =>
      cases q with
      | int j =>
        obtain ⟨hl, rfl⟩ := if_some e
        have e1 := repT_int hp
        have e2 := repT_int hq
        exact op_pow pins s σ H x y v u Q I rx ry ⟨i, j, e1, e2, hl, n.int⟩
      | _ => cases e
    | _ => cases q <;> cases e

/-! ### comparisons -/
def Cm.op : Cm → CmpOp
  | .eq => .Eq
  | .ne => .NotEq
  | .lt => .Lt
  | .le => .LtE
  | .gt => .Gt
  | .ge => .GtE
theorem b2_some {f : PyData → PyData → Option Bool} {p q r : PyData} (e : b2 f p q = some r) : ∃ b, f p q = some b ∧ r = .bool b := by
  unfold b2 at e
  cases h : f p q with
  | none => rw [h] at e; cases e
  | some b =>
    rw [h] at e
    exact ⟨b, rfl, (Option.some.inj e).symm⟩
theorem cm_ok (hu : X.A.units + 64 < cLine) (o : Cm) : OpR X (compareOp o.op) (rD2 X.K RepR (b2 o.ev)) := by
  intro pins s σ H x y v u Q I rx ry hh
  obtain ⟨μ, p, q, r, f, hp, hq, e, n⟩ := hh
  obtain ⟨b, e0, rfl⟩ := b2_some e
  clear e
  have e := e0
  clear e0
  cases o with
  | eq =>
    obtain ⟨hs, rfl⟩ := if_some e
    rw [Bool.and_eq_true] at hs
    exact op_eqD hu pins s σ H x y v u Q I rx ry ⟨p, q, hp.dp, hq.dp, hs.1, hs.2, n.bl⟩
  | ne =>
    obtain ⟨hs, rfl⟩ := if_some e
    rw [Bool.and_eq_true] at hs
    exact op_neD hu pins s σ H x y v u Q I rx ry ⟨p, q, hp.dp, hq.dp, hs.1, hs.2, n.bl⟩
  | lt =>
    cases p with
    | int i =>
      cases q with
      | int j =>
        cases e
        exact op_lt pins s σ H x y v u Q I rx ry ⟨i, j, repR_int hp, repR_int hq, n.bl⟩
      | _ => cases e
    | _ => cases q <;> cases e
  | le =>
    cases p with
    | int i =>
      cases q with
      | int j =>
        cases e
        exact op_le pins s σ H x y v u Q I rx ry ⟨i, j, repR_int hp, repR_int hq, n.bl⟩
      | _ => cases e
    | _ => cases q <;> cases e
  | gt =>
    cases p with
    | int i =>
      cases q with
      | int j =>
        cases e
        exact op_gt pins s σ H x y v u Q I rx ry ⟨i, j, repR_int hp, repR_int hq, n.bl⟩
      | _ => cases e
    | _ => cases q <;> cases e
  | ge =>
    cases p with
    | int i =>
      cases q with
      | int j =>
        cases e
        exact op_ge pins s σ H x y v u Q I rx ry ⟨i, j, repR_int hp, repR_int hq, n.bl⟩
      | _ => cases e
    | _ => cases q <;> cases e

/-! ### in -/
theorem flat_of {K : PySem.W.Frag} {H : Hp} {μ : Mu} {p : PyData} {v : V} (h : Rep K H μ p v) (f : flatD p = true) : flatV v = true := by
  cases p <;> first | (cases h; rfl) | cases f
theorem flat_all {K : PySem.W.Frag} {H : Hp} {μ : Mu} : ∀ {ps : List PyData} {vs : List V}, Reps K H μ ps vs → ps.all flatD = true → vs.all flatV = true
  | [], _, h, _ => by cases h; rfl
  | p :: ps, _, h, f => by
    cases h with
    | cons h1 h2 =>
      rw [List.all_cons, Bool.and_eq_true] at f
      rw [List.all_cons, flat_of h1 f.1, flat_all h2 f.2]
      rfl
theorem eqV_flat {K : PySem.W.Frag} {H : Hp} {μ : Mu} {p q : PyData} {v w : V} (h : Rep K H μ p v) (g : Rep K H μ q w) (f : flatD p = true) (f' : flatD q = true) : eqV v w = PyData.eqv p q := by
  cases p <;> first | (cases f; done) | (cases h; cases q <;> first | (cases f'; done) | (cases g; rfl) | (cases g; simp [eqV, PyData.eqv]))
theorem any_flat {K : PySem.W.Frag} {H : Hp} {μ : Mu} {p : PyData} {v : V} (h : Rep K H μ p v) (f : flatD p = true) : ∀ {ps : List PyData} {vs : List V}, Reps K H μ ps vs → ps.all flatD = true → inV v vs = ps.any fun z => PyData.eqv z p
  | [], _, g, _ => by cases g; rfl
  | q :: ps, _, g, ff => by
    cases g with
    | cons h1 h2 =>
      rw [List.all_cons, Bool.and_eq_true] at ff
      have ih := any_flat h f h2 ff.2
      unfold inV at ih ⊢
      rw [List.any_cons, List.any_cons, eqV_flat h1 h ff.1 f, ih]
theorem flat_rep {K : PySem.W.Frag} {H : Hp} {μ : Mu} {p : PyData} {v : V} (h : RepR K H μ p v) (f : flatD p = true) : Rep K H μ p v := by
  cases p <;> first | exact h | cases f
def inOp : Bool → CmpOp
  | false => .In
  | true => .NotIn
theorem inn_ok (hu : X.A.units + 65 < cLine) (ng : Bool) : OpR X (compareOp (inOp ng)) (rD2 X.K RepR fun p q => (innF p q).map fun b => .bool (if ng then !b else b)) := by
  intro pins s σ H x y v u Q I rx ry hh
  obtain ⟨μ, p, q, r, f, hp, hq, e, n⟩ := hh
  have e : ((innF p q).map fun b => PyData.bool (if ng then !b else b)) = some r := e
  cases e2 : innF p q with
  | none => rw [e2] at e; cases e
  | some b =>
    rw [e2] at e
    have e3 : PyData.bool (if ng then !b else b) = r := Option.some.inj e
    subst e3
    cases q with
    | list qs =>
      have e4 : (if SeqAt.shaped p && SeqAt.shaped (.list qs) then some (qs.any fun z => PyData.eqv z p) else none) = some b := by
        cases p <;> exact e2
      obtain ⟨hs, rfl⟩ := if_some e4
      rw [Bool.and_eq_true] at hs
      cases ng with
      | false => exact op_inD hu pins s σ H x y v u Q I rx ry ⟨p, qs, hp.dp, hq.dp, hs.1, hs.2, n.bl⟩
      | true => exact op_notInD hu pins s σ H x y v u Q I rx ry ⟨p, qs, hp.dp, hq.dp, hs.1, hs.2, n.bl⟩
    | tuple qs =>
      have e4 : (if flatD p && qs.all flatD then some (qs.any fun z => PyData.eqv z p) else none) = some b := by
        cases p <;> exact e2
      obtain ⟨hs, rfl⟩ := if_some e4
      rw [Bool.and_eq_true] at hs
      obtain ⟨a, vs, rfl, ha, hr⟩ := repR_tup hq
      have hp' := flat_rep hp hs.1
      have key := any_flat hp' hs.1 hr hs.2
      cases ng with
      | false =>
        refine op_in_seq pins s σ H x _ v u Q I rx ry ⟨a, vs, rfl, .inr ha.sq, flat_of hp' hs.1, flat_all hr hs.2, ?_⟩
        rw [key]
        exact n.bl
      | true =>
        refine op_notIn_seq pins s σ H x _ v u Q I rx ry ⟨a, vs, rfl, .inr ha.sq, flat_of hp' hs.1, flat_all hr hs.2, ?_⟩
        rw [key]
        exact n.bl
    | str y' =>
      cases p with
      | str x' =>
        cases e2
        cases ng with
        | false => exact op_in_str pins s σ H x y v u Q I rx ry ⟨x', y', repR_str hp, repR_str hq, n.bl⟩
        | true => exact op_notin_str pins s σ H x y v u Q I rx ry ⟨x', y', repR_str hp, repR_str hq, n.bl⟩
      | _ => cases e2
    | _ => cases p <;> cases e2

/-! ### is -/
def isOp : Bool → CmpOp
  | false => .Is
  | true => .IsNot
def kV3 : Option Bool → V
  | none => .non
  | some b => .bl b
theorem isC_ok (ng : Bool) (k : Option Bool) : OpR X (compareOp (isOp ng)) fun x y H Q => ∃ μ p b, RepR X.K H μ p x ∧ y = kV3 k ∧ isCF k p = some b ∧ Q (.bl (if ng then !b else b)) H := by
  intro pins s σ H x y v u Q I rx ry hh
  obtain ⟨μ, p, b, hp, rfl, e, q⟩ := hh
  cases k with
  | none =>
    have hb : decide (x = .non) = b := by
      cases p with
      | none =>
        cases (show Rep X.K H μ .none x from hp)
        cases e
        rfl
      | bool c =>
        cases (show Rep X.K H μ (.bool c) x from hp)
        cases e
        rfl
      | int c =>
        cases (show Rep X.K H μ (.int c) x from hp)
        cases e
        rfl
      | str c =>
        cases (show Rep X.K H μ (.str c) x from hp)
        cases e
        rfl
      | list c =>
        obtain ⟨a, vs, rfl, _⟩ := hp
        cases e
        rfl
      | tuple c =>
        obtain ⟨a, vs, rfl, _⟩ := repR_tup hp
        cases e
        rfl
      | dict c => cases (show Rep X.K H μ (.dict c) x from hp)
    cases ng with
    | false => exact op_isN pins s σ H x _ v u Q I rx ry ⟨rfl, by rw [hb]; exact q⟩
    | true => exact op_notN pins s σ H x _ v u Q I rx ry ⟨rfl, by rw [hb]; exact q⟩
  | some k =>
    cases p with
    | bool c =>
      cases (show Rep X.K H μ (.bool c) x from hp)
      cases e
      cases ng with
      | false => exact op_isBl pins s σ H _ _ v u Q I rx ry ⟨c, k, rfl, rfl, q⟩
      | true => exact op_notBl pins s σ H _ _ v u Q I rx ry ⟨c, k, rfl, rfl, q⟩
    | _ => cases e

/-! ### items, slices -/
theorem ix_ok : IxR X (rD2 X.K RepR ixF) := by
  intro ve se pins s σ H x y v u Q I rx ry hh hsb
  obtain ⟨μ, p, q, r, f, hp, hq, e, n⟩ := hh
  cases p with
  | list ps =>
    cases q with
    | int i =>
      obtain ⟨a, vs, e1, h1, r1⟩ := hp
      obtain ⟨z, e2, e3⟩ := r1.atI (show atI ps i = some r from e)
      exact ix_list ve se pins s σ H x y v u Q I rx ry ⟨a, vs, i, z, e1, repR_int hq, h1, e2, n.same e3⟩ hsb
    | _ => cases e
  | tuple ps =>
    cases q with
    | int i =>
      obtain ⟨a, vs, e1, h1, r1⟩ := repR_tup hp
      obtain ⟨z, e2, e3⟩ := r1.atI (show atI ps i = some r from e)
      exact ix_tup ve se pins s σ H x y v u Q I rx ry ⟨a, vs, i, z, e1, repR_int hq, h1.sq, e2, n.same e3⟩ hsb
    | _ => cases e
  | str z =>
    cases q with
    | int i =>
      have e' : (if z.length ≤ big then (atI z.cps.toList i).map fun c => PyData.str ⟨#[c]⟩ else none) = some r := e
      split at e'
      · rename_i hl
        cases e3 : atI z.cps.toList i with
        | none => rw [e3] at e'; cases e'
        | some c =>
          rw [e3] at e'
          have e4 : PyData.str ⟨#[c]⟩ = r := Option.some.inj e'
          subst e4
          exact ix_str ve se pins s σ H x y v u Q I rx ry ⟨z, i, c, repR_str hp, repR_int hq, Nat.le_trans hl big_line, e3, n.str⟩ hsb
      · cases e'
    | _ => cases e
  | _ => cases q <;> cases e
def rSlD (K : PySem.W.Frag) : V → Option Int → Option Int → Hp → VK → Prop := fun x lo hi H Q => ∃ μ p r, Frs μ H ∧ RepR K H μ p x ∧ slF p lo hi = some r ∧ New K μ H r Q
theorem cut_all {α : Type} {xs : List α} {lo hi : Option Int} (h : HT.sIx xs.length 0 lo = 0 ∧ HT.sIx xs.length xs.length hi = xs.length) : cutF xs lo hi = xs := by
  unfold cutF
  rw [h.1, h.2, List.drop_zero, Nat.sub_zero, List.take_length]
theorem sl_ok : SlR X (rSlD X.K) := by
  intro pins s σ H x v vl vu lo hi sl Q I rx hs pl pu hh
  obtain ⟨μ, p, r, f, hp, e, n⟩ := hh
  cases p with
  | list ps =>
    cases e
    obtain ⟨a, vs, e1, h1, r1⟩ := hp
    exact sl_list pins s σ H x v vl vu lo hi sl Q I rx hs pl pu ⟨a, vs, e1, h1, fun p hp => n.lst f (r1.cut lo hi) p hp⟩
  | tuple ps =>
    cases e
    obtain ⟨a, vs, e1, h1, r1⟩ := repR_tup hp
    refine sl_tupA pins s σ H x v vl vu lo hi sl Q I rx hs pl pu ⟨a, vs, e1, h1.sq, fun z => ?_, fun _ p hp => n.tup f (r1.cut lo hi) p hp⟩
    rw [← r1.length] at z
    rw [cut_all z] at n
    exact n.same (.tup h1 r1)
  | str z =>
    obtain ⟨hl, rfl⟩ := if_some e
    exact sl_str pins s σ H x v vl vu lo hi sl Q I rx hs pl pu ⟨z, repR_str hp, Nat.le_trans hl big_line, n.str⟩
  | _ => cases e
end
end MP
end
section
set_option Elab.async false
set_option linter.all false
set_option autoImplicit false
set_option maxRecDepth 100000
set_option maxHeartbeats 4000000
/-! Mini: the built-ins, isinstance. -/
namespace MP
open PySem PySem.Spec PyProof.Rows L2
abbrev RepRs (K : PySem.W.Frag) (H : Hp) (μ : Mu) : List PyData → List V → Prop := Paired (RepR K H μ)
theorem boolsOf_ok {K : PySem.W.Frag} {H : Hp} {μ : Mu} : ∀ {ps : List PyData} {vs : List V} {bs : List Bool}, Reps K H μ ps vs → boolsOf ps = some bs → vs = bs.map V.bl
  | [], _, _, h, e => by cases h; cases e; rfl
  | .bool b :: ps, _, bs, h, e => by
    cases h with
    | cons h1 h2 =>
      have e' : (boolsOf ps).map (b :: ·) = some bs := e
      cases q : boolsOf ps with
      | none => rw [q] at e'; cases e'
      | some cs =>
        rw [q] at e'
        cases e'
        cases h1
        rw [boolsOf_ok h2 q]
        rfl
  | .none :: _, _, _, _, e => by cases e
  | .int _ :: _, _, _, _, e => by cases e
  | .str _ :: _, _, _, _, e => by cases e
  | .list _ :: _, _, _, _, e => by cases e
  | .tuple _ :: _, _, _, _, e => by cases e
  | .dict _ :: _, _, _, _, e => by cases e
theorem intsOf_ok {K : PySem.W.Frag} {H : Hp} {μ : Mu} : ∀ {ps : List PyData} {vs : List V} {bs : List Int}, Reps K H μ ps vs → intsOf ps = some bs → vs = bs.map V.int
  | [], _, _, h, e => by cases h; cases e; rfl
  | .int b :: ps, _, bs, h, e => by
    cases h with
    | cons h1 h2 =>
      have e' : (intsOf ps).map (b :: ·) = some bs := e
      cases q : intsOf ps with
      | none => rw [q] at e'; cases e'
      | some cs =>
        rw [q] at e'
        cases e'
        cases h1
        rw [intsOf_ok h2 q]
        rfl
  | .none :: _, _, _, _, e => by cases e
  | .bool _ :: _, _, _, _, e => by cases e
  | .str _ :: _, _, _, _, e => by cases e
  | .list _ :: _, _, _, _, e => by cases e
  | .tuple _ :: _, _, _, _, e => by cases e
  | .dict _ :: _, _, _, _, e => by cases e
def Bi.val : Bi → Option (Str × Value)
  | .len => some ("len", .builtin "len")
  | .min => some ("min", .builtin "min")
  | .max => some ("max", .builtin "max")
  | .all => some ("all", .builtin "all")
  | .any => some ("any", .builtin "any")
  | .tuple => some ("tuple", .type "tuple")
  | .list => some ("list", .type "list")
  | .int => some ("int", .type "int")
  | .bool => some ("bool", .type "bool")
  | .str => some ("str", .type "str")
  | .abs => some ("abs", .builtin "abs")
  | .sum => some ("sum", .builtin "sum")
  | .sset => none
def rBi (K : PySem.W.Frag) (b : Bi) : List V → Hp → VK → Prop := fun xs H Q => ∃ μ ps r, Frs μ H ∧ RepRs K H μ ps xs ∧ b.ev ps = some r ∧ New K μ H r Q
section
variable {X : Cx}
theorem bi_len : CallR X (.builtin "len") (rBi X.K .len) := by
  intro pins s σ H xs us Q I rx hh
  obtain ⟨μ, ps, r, f, hp, e, n⟩ := hh
  cases hp with
  | nil => cases e
  | cons h1 h2 =>
    rename_i p v ps vs
    cases h2 with
    | cons _ _ => cases p <;> cases e
    | nil =>
      cases p with
      | list qs =>
        cases e
        obtain ⟨a, ws, rfl, ha, hr⟩ := h1
        refine call_len_seq pins s σ H _ us Q I rx ⟨a, ws, rfl, .inl ha, ?_⟩
        rw [← hr.length]
        exact n.int
      | tuple qs =>
        cases e
        obtain ⟨a, ws, rfl, ha, hr⟩ := repR_tup h1
        refine call_len_seq pins s σ H _ us Q I rx ⟨a, ws, rfl, .inr ha.sq, ?_⟩
        rw [← hr.length]
        exact n.int
      | str z =>
        obtain ⟨hl, rfl⟩ := if_some e
        cases repR_str h1
        exact call_len_str pins s σ H _ us Q I rx ⟨z, rfl, Nat.le_trans hl big_line, n.int⟩
      | _ => cases e
theorem two_ints {K : PySem.W.Frag} {H : Hp} {μ : Mu} {ps : List PyData} {xs : List V} (h : RepRs K H μ ps xs) : ∀ {i j : Int}, ps = [.int i, .int j] → xs = [.int i, .int j] := by
  intro i j e
  subst e
  cases h with
  | cons h1 h2 =>
    cases h2 with
    | cons h3 h4 =>
      cases h4
      rw [repR_int h1, repR_int h3]
theorem min_inv {ps : List PyData} {r : PyData} (e : Bi.ev .min ps = some r) : ∃ i j, ps = [.int i, .int j] ∧ r = .int (if j < i then j else i) := by
  match ps, e with
  | [.int i, .int j], e => exact ⟨i, j, rfl, (Option.some.inj e).symm⟩
theorem max_inv {ps : List PyData} {r : PyData} (e : Bi.ev .max ps = some r) : ∃ i j, ps = [.int i, .int j] ∧ r = .int (if j > i then j else i) := by
  match ps, e with
  | [.int i, .int j], e => exact ⟨i, j, rfl, (Option.some.inj e).symm⟩
theorem bi_min (hc : X.calm = true) : CallR X (.builtin "min") (rBi X.K .min) := by
  intro pins s σ H xs us Q I rx hh
  obtain ⟨μ, ps, r, f, hp, e, n⟩ := hh
  obtain ⟨i, j, rfl, rfl⟩ := min_inv e
  exact call_min2 hc pins s σ H xs us Q I rx ⟨i, j, two_ints hp rfl, n.int⟩
theorem bi_max (hc : X.calm = true) : CallR X (.builtin "max") (rBi X.K .max) := by
  intro pins s σ H xs us Q I rx hh
  obtain ⟨μ, ps, r, f, hp, e, n⟩ := hh
  obtain ⟨i, j, rfl, rfl⟩ := max_inv e
  exact call_max2 hc pins s σ H xs us Q I rx ⟨i, j, two_ints hp rfl, n.int⟩
theorem one_of {K : PySem.W.Frag} {H : Hp} {μ : Mu} {ps : List PyData} {xs : List V} (h : RepRs K H μ ps xs) : ∀ {p : PyData}, ps = [p] → ∃ v, xs = [v] ∧ RepR K H μ p v := by
  intro p e
  subst e
  cases h with
  | cons h1 h2 =>
    cases h2
    exact ⟨_, rfl, h1⟩
theorem all_inv {ps : List PyData} {r : PyData} (e : Bi.ev .all ps = some r) : ∃ qs bs, ps = [.list qs] ∧ boolsOf qs = some bs ∧ r = .bool (bs.all id) := by
  match ps, e with
  | [.list qs], e =>
    have e' : ((boolsOf qs).map fun bs => PyData.bool (bs.all id)) = some r := e
    cases q : boolsOf qs with
    | none => rw [q] at e'; cases e'
    | some bs =>
      rw [q] at e'
      exact ⟨qs, bs, rfl, q, (Option.some.inj e').symm⟩
theorem any_inv {ps : List PyData} {r : PyData} (e : Bi.ev .any ps = some r) : ∃ qs bs, ps = [.list qs] ∧ boolsOf qs = some bs ∧ r = .bool (bs.any id) := by
  match ps, e with
  | [.list qs], e =>
    have e' : ((boolsOf qs).map fun bs => PyData.bool (bs.any id)) = some r := e
    cases q : boolsOf qs with
    | none => rw [q] at e'; cases e'
    | some bs =>
      rw [q] at e'
      exact ⟨qs, bs, rfl, q, (Option.some.inj e').symm⟩
theorem bi_all (hc : X.calm = true) : CallR X (.builtin "all") (rBi X.K .all) := by
  intro pins s σ H xs us Q I rx hh
  obtain ⟨μ, ps, r, f, hp, e, n⟩ := hh
  obtain ⟨qs, bs, e1, e2, rfl⟩ := all_inv e
  obtain ⟨v, rfl, a, ws, rfl, ha, hr⟩ := one_of hp e1
  refine cr_all hc pins s σ H _ us Q I rx ⟨a, bs, rfl, ?_, n.bl⟩
  rw [← boolsOf_ok hr e2]
  exact ha
theorem bi_any (hc : X.calm = true) : CallR X (.builtin "any") (rBi X.K .any) := by
  intro pins s σ H xs us Q I rx hh
  obtain ⟨μ, ps, r, f, hp, e, n⟩ := hh
  obtain ⟨qs, bs, e1, e2, rfl⟩ := any_inv e
  obtain ⟨v, rfl, a, ws, rfl, ha, hr⟩ := one_of hp e1
  refine cr_any hc pins s σ H _ us Q I rx ⟨a, bs, rfl, ?_, n.bl⟩
  rw [← boolsOf_ok hr e2]
  exact ha
theorem sum_inv {ps : List PyData} {r : PyData} (e : Bi.ev .sum ps = some r) : ∃ qs bs, ps = [.list qs] ∧ intsOf qs = some bs ∧ r = .int bs.sum := by
  match ps, e with
  | [.list qs], e =>
    have e' : ((intsOf qs).map fun bs => PyData.int bs.sum) = some r := e
    cases q : intsOf qs with
    | none => rw [q] at e'; cases e'
    | some bs =>
      rw [q] at e'
      exact ⟨qs, bs, rfl, q, (Option.some.inj e').symm⟩
theorem bi_sum (hc : X.calm = true) : CallR X (.builtin "sum") (rBi X.K .sum) := by
  intro pins s σ H xs us Q I rx hh
  obtain ⟨μ, ps, r, f, hp, e, n⟩ := hh
  obtain ⟨qs, bs, e1, e2, rfl⟩ := sum_inv e
  obtain ⟨v, rfl, a, ws, rfl, ha, hr⟩ := one_of hp e1
  refine cr_sum hc pins s σ H _ us Q I rx ⟨a, bs, rfl, ?_, n.int⟩
  rw [← intsOf_ok hr e2]
  exact ha
theorem bi_tuple : CallR X (.type "tuple") (rBi X.K .tuple) := by
  intro pins s σ H xs us Q I rx hh
  obtain ⟨μ, ps, r, f, hp, e, n⟩ := hh
  match ps, e with
  | [.list qs], e =>
    cases e
    obtain ⟨v, rfl, a, ws, rfl, ha, hr⟩ := one_of hp rfl
    exact call_tuple_of pins s σ H _ us Q I rx ⟨a, ws, rfl, .inl ⟨ha, fun l hl => n.tup f hr l hl⟩⟩
  | [.tuple qs], e =>
    cases e
    obtain ⟨v, rfl, h1⟩ := one_of hp rfl
    obtain ⟨a, ws, rfl, ha, hr⟩ := repR_tup h1
    exact call_tuple_of pins s σ H _ us Q I rx ⟨a, ws, rfl, .inr ⟨ha.sq, n.same (.tup ha hr)⟩⟩
theorem bi_list : CallR X (.type "list") (rBi X.K .list) := by
  intro pins s σ H xs us Q I rx hh
  obtain ⟨μ, ps, r, f, hp, e, n⟩ := hh
  match ps, e with
  | [.list qs], e =>
    cases e
    obtain ⟨v, rfl, a, ws, rfl, ha, hr⟩ := one_of hp rfl
    exact call_list_of pins s σ H _ us Q I rx ⟨a, ws, rfl, .inl ha, fun l hl => n.lst f hr l hl⟩
  | [.tuple qs], e =>
    cases e
    obtain ⟨v, rfl, h1⟩ := one_of hp rfl
    obtain ⟨a, ws, rfl, ha, hr⟩ := repR_tup h1
    exact call_list_of pins s σ H _ us Q I rx ⟨a, ws, rfl, .inr ha.sq, fun l hl => n.lst f hr l hl⟩
theorem repR_bool {K : PySem.W.Frag} {H : Hp} {μ : Mu} {i : Bool} {x : V} (h : RepR K H μ (.bool i) x) : x = .bl i := by
  cases (show Rep K H μ (.bool i) x from h)
  rfl
theorem bi_int : CallR X (.type "int") (rBi X.K .int) := by
  intro pins s σ H xs us Q I rx hh
  obtain ⟨μ, ps, r, f, hp, e, n⟩ := hh
  match ps, e with
  | [.int i], e =>
    cases e
    obtain ⟨v, rfl, h1⟩ := one_of hp rfl
    cases repR_int h1
    exact call_int1 pins s σ H _ us Q I rx (.inl ⟨i, rfl, n.int⟩)
  | [.bool i], e =>
    cases e
    obtain ⟨v, rfl, h1⟩ := one_of hp rfl
    cases repR_bool h1
    exact call_int1 pins s σ H _ us Q I rx (.inr ⟨i, rfl, n.int⟩)
  | [.str x], e =>
    have e' : (if x.length ≤ 640 then (PySem.intText? x).map PyData.int else none) = some r := e
    split at e'
    · rename_i hl
      cases q : PySem.intText? x with
      | none => rw [q] at e'; cases e'
      | some m =>
        rw [q] at e'
        cases e'
        obtain ⟨v, rfl, h1⟩ := one_of hp rfl
        cases repR_str h1
        exact call_int_str pins s σ H _ us Q I rx ⟨x, m, rfl, q, hl, n.int⟩
    · cases e'
theorem bi_bool : CallR X (.type "bool") (rBi X.K .bool) := by
  intro pins s σ H xs us Q I rx hh
  obtain ⟨μ, ps, r, f, hp, e, n⟩ := hh
  match ps, e with
  | [.bool i], e =>
    cases e
    obtain ⟨v, rfl, h1⟩ := one_of hp rfl
    cases repR_bool h1
    exact call_bool1 pins s σ H _ us Q I rx (.inr ⟨i, rfl, n.bl⟩)
theorem bi_str : CallR X (.type "str") (rBi X.K .str) := by
  intro pins s σ H xs us Q I rx hh
  obtain ⟨μ, ps, r, f, hp, e, n⟩ := hh
  match ps, e with
  | [.int i], e =>
    obtain ⟨hl, rfl⟩ := if_some e
    obtain ⟨v, rfl, h1⟩ := one_of hp rfl
    cases repR_int h1
    exact call_str_int pins s σ H _ us Q I rx ⟨i, rfl, hl, n.str⟩
theorem bi_abs : CallR X (.builtin "abs") (rBi X.K .abs) := by
  intro pins s σ H xs us Q I rx hh
  obtain ⟨μ, ps, r, f, hp, e, n⟩ := hh
  match ps, e with
  | [.int i], e =>
    cases e
    obtain ⟨v, rfl, h1⟩ := one_of hp rfl
    cases repR_int h1
    exact call_abs pins s σ H _ us Q I rx ⟨i, rfl, n.int⟩
theorem bi_ok (hc : X.calm = true) (b : Bi) {x : Str} {f : Value} (e : b.val = some (x, f)) : CallR X f (rBi X.K b) := by
  cases b <;> cases e
  · exact bi_len
  · exact bi_min hc
  · exact bi_max hc
  · exact bi_all hc
  · exact bi_any hc
  · exact bi_tuple
  · exact bi_list
  · exact bi_int
  · exact bi_bool
  · exact bi_str
  · exact bi_abs
  · exact bi_sum hc
theorem bi_boot (b : Bi) {x : Str} {f : Value} (e : b.val = some (x, f)) : bootBuiltins x = some f ∧ x ≠ "__name__" ∧ (x == ("__debug__" : Str)) = false ∧ ((∃ n, f = .builtin n) ∨ ∃ n, f = .type n) := by
  cases b <;> cases e <;> refine ⟨by decide +kernel, by decide, by decide, ?_⟩ <;> first | exact .inl ⟨_, rfl⟩ | exact .inr ⟨_, rfl⟩

/-! ### isinstance -/
def Ty.nm : Ty → String
  | .int => "int"
  | .bool => "bool"
  | .str => "str"
  | .tuple => "tuple"
  | .list => "list"
theorem k5 (a : String) (t : Ty) (b : Bool) (h : kitB a t.nm = some b) {K : PySem.W.Frag} : PySem.W.kitOne K (.type a) (.type t.nm) = some b := kit_ty h
theorem isi_ok (t : Ty) : CallR X (.builtin "isinstance") fun xs H Q => ∃ μ p x b, xs = [x, .ty t.nm] ∧ Rep X.K H μ p x ∧ isiF t p = some b ∧ Q (.bl b) H := by
  intro pins s σ H xs us Q I rx hh
  obtain ⟨μ, p, x, b, rfl, hp, e, q⟩ := hh
  have go : ∀ (a : String), TyX X.K H x (.type a) → kitB a t.nm = some b → wpAny (model X.prog X.w) X.A (call (.builtin "isinstance") us) (EP X pins σ Q) X.xe s := fun a ty k =>
    call_isi pins s σ H _ us Q I rx ⟨x, .ty t.nm, _, _, b, rfl, .ty _, ty, k5 a t b k, q⟩
  cases p with
  | none =>
    cases hp
    refine go "NoneType" (.base .non) ?_
    cases t <;> cases e <;> decide +kernel
  | bool c =>
    cases hp
    refine go "bool" (.base (.bl c)) ?_
    cases t <;> cases e <;> decide +kernel
  | int c =>
    cases hp
    refine go "int" (.base (.int c)) ?_
    cases t <;> cases e <;> decide +kernel
  | str c =>
    cases hp
    refine go "str" (.base (.str c)) ?_
    cases t <;> cases e <;> decide +kernel
  | list c =>
    cases hp with
    | lst n ha hr =>
      refine go "list" (.base (.lst ha)) ?_
      cases t <;> cases e <;> decide +kernel
  | tuple c =>
    cases hp with
    | tup ha hr =>
      refine go "tuple" ?_ ?_
      · rcases ha with ⟨_, ha⟩ | ⟨o, its, n, hk, hc, _⟩
        · exact .base (.tup ha)
        · exact .kTuple hk hc
      · cases t <;> cases e <;> decide +kernel
  | dict c => cases hp
end
end MP
end
section
set_option Elab.async false
set_option linter.all false
set_option autoImplicit false
set_option maxRecDepth 100000
set_option maxHeartbeats 4000000
/-! Mini: the syntax that a term of the language stands for; readings. -/
namespace MP
open PySem PySem.Spec PyProof.Rows L2

/-! ### matching -/
def visB (sc : Scope) (x : Str) : Bool := match sc.names.lookup x with
  | some .local => true
  | some .cell => true
  | some .free => true
  | _ => false
def glB (sc : Scope) (x : Str) : Bool := match sc.names.lookup x with
  | some .globalImplicit => true
  | _ => false
def nmB (x : Str) : Bool := !(x == ("__debug__" : Str)) && !(x == ("__classdict__" : Str))
def notStar : Expr → Bool
  | .Starred .. => false
  | _ => true
def notSet : Expr → Bool
  | .Set .. => false
  | _ => true
def notSlice : Expr → Bool
  | .Slice .. => false
  | _ => true
def notLc : Expr → Bool
  | .ListComp .. => false
  | .SetComp .. => false
  | .DictComp .. => false
  | _ => true
def opIs : O2 → Operator → Bool
  | .add, .Add => true
  | .sub, .Sub => true
  | .mul, .Mult => true
  | .fdiv, .FloorDiv => true
  | .mod, .Mod => true
  | .pow, .Pow => true
  | _, _ => false
def cmIs : Cm → CmpOp → Bool
  | .eq, .Eq => true
  | .ne, .NotEq => true
  | .lt, .Lt => true
  | .le, .LtE => true
  | .gt, .Gt => true
  | .ge, .GtE => true
  | _, _ => false
def isIs : Bool → CmpOp → Bool
  | false, .Is => true
  | true, .IsNot => true
  | _, _ => false
def inIs : Bool → CmpOp → Bool
  | false, .In => true
  | true, .NotIn => true
  | _, _ => false
def ckIs : Option Bool → Const → Bool
  | none, .none => true
  | some b, .bool c => b == c
  | _, _ => false
def fnIs (P : Pg) (f : Nat) (x : Str) : Bool := match P.fns f with
  | some fd => decide (fd.name = x)
  | none => false
def gloIs (P : Pg) (g : Nat) (x : Str) : Bool := match P.glo g with
  | some q => decide (q.1 = x)
  | none => false
def nilE : List Expr → Bool
  | [] => true
  | _ => false
mutual
def mT (N : List Str) (sc : Scope) : Tg → Expr → Bool
  | .n i, e => (match e with
    | .Name x _ => decide (N[i]? = some x) && (match sc.names.lookup x with
      | some .local => true
      | some .cell => true
      | _ => false)
    | _ => false)
  | .t ts, e => (match e with
    | .Tuple es _ _ => mTs N sc ts es
    | _ => false)
def mTs (N : List Str) (sc : Scope) : Tgs → List Expr → Bool
  | .nil, es => nilE es
  | .cons t ts, es => (match es with
    | e :: r => notStar e && (mT N sc t e && mTs N sc ts r)
    | [] => false)
end
mutual
def Tg.sl : Tg → List Nat
  | .n i => [i]
  | .t ts => ts.sl
def Tgs.sl : Tgs → List Nat
  | .nil => []
  | .cons t ts => t.sl ++ ts.sl
end
def testB : Expr → Bool
  | .IfExp .. => false
  | _ => true
def isTup : Expr → Bool
  | .Tuple .. => true
  | _ => false
/-- the law's two tries -/
def tnm (t : Nat) : Str := if t = 0 then "_law_error" else "_law_told"
def noPar (a : Arguments) : Bool := match a.posonlyargs, a.args, a.vararg, a.kwonlyargs, a.kw_defaults, a.kwarg, a.defaults with
  | [], [], none, [], [], none, [] => true
  | _, _, _, _, _, _, _ => false
/-- a lambda's parameters and scope: plain parameters at the places ps; the other names captured or global -/
def lamC (N : List Str) (sc : Scope) (ps : List Nat) (params : Arguments) (scope : Scope) : Bool :=
  ((match params.posonlyargs, params.vararg, params.kwonlyargs, params.kw_defaults, params.kwarg, params.defaults with
    | [], none, [], [], none, [] => true
    | _, _, _, _, _, _ => false) && (decide (ps.map (fun i => N[i]?) = params.args.map fun a => some a.arg) && (decide ps.Nodup && decide (params.args.length ≤ 1)))) &&
  ((match scope.kind with | .function => true | _ => false) && (!scope.isCoroutine && (!scope.isGenerator && ((scope.names.all fun y => match y.2 with
      | .cell => false
      | .local => decide (scope.names.lookup y.1 = some .local) && decide (y.1 ∈ params.args.map (·.arg))
      | .free => (match sc.names.lookup y.1 with | some .cell => true | some .free => true | _ => false)
      | _ => true) && (params.args.all fun a => decide (scope.names.lookup a.arg = some .local))))))
mutual
def mE' (N : List Str) : E → Pg → Scope → Expr → Bool
  | .var i, P, sc, e => (match e with
    | .Name x _ => decide (N[i]? = some x) && (visB sc x && nmB x)
    | _ => false)
  | .non, P, _, e => (match e with
    | .Constant .none _ _ => true
    | _ => false)
  | .bl b, P, _, e => (match e with
    | .Constant (.bool c) _ _ => decide (b = c)
    | _ => false)
  | .int i, P, _, e => (match e with
    | .Constant (.int j) _ _ => decide (i = j)
    | _ => false)
  | .str s, P, _, e => (match e with
    | .Constant (.str t) _ _ => decide (s = t)
    | _ => false)
  | .glo g, P, sc, e => (match e with
    | .Name x _ => glB sc x && (gloIs P g x && nmB x)
    | _ => false)
  | .fnv f, P, sc, e => (match e with
    | .Name x _ => glB sc x && (fnIs P f x && nmB x)
    | _ => false)
  | .op o a b, P, sc, e => (match e with
    | .BinOp l q r _ => opIs o q && (mE' N a P sc l && mE' N b P sc r)
    | _ => false)
  | .catM a b, P, sc, e => (match e with
    | .BinOp l q r _ => opIs .add q && (mE' N a P sc l && mE' N b P sc r)
    | _ => false)
  | .neg a, P, sc, e => (match e with
    | .UnaryOp .USub x _ => mE' N a P sc x
    | _ => false)
  | .cmp c a b, P, sc, e => (match e with
    | .Compare l [q] [r] _ => cmIs c q && (mE' N a P sc l && mE' N b P sc r)
    | _ => false)
  | .chain c c' a b d, P, sc, e => (match e with
    | .Compare l [q, q'] [m, r] _ => (cmIs c q && cmIs c' q') && (mE' N a P sc l && (mE' N b P sc m && mE' N d P sc r))
    | _ => false)
  | .isC ng k a, P, sc, e => (match e with
    | .Compare l [q] [.Constant kk _ _] _ => (isIs ng q && ckIs k kk) && mE' N a P sc l
    | _ => false)
  | .inn ng a b, P, sc, e => (match e with
    | .Compare l [q] [r] _ => (inIs ng q && notSet r) && (mE' N a P sc l && mE' N b P sc r)
    | _ => false)
  | .and a b, P, sc, e => (match e with
    | .BoolOp .And (x :: y :: r) pos => (testB x && mE' N a P sc x) && (match r with
      | [] => testB y && mE' N b P sc y
      | z :: r' => mE' N b P sc (.BoolOp .And (y :: z :: r') pos))
    | _ => false)
  | .or a b, P, sc, e => (match e with
    | .BoolOp .Or (x :: y :: r) pos => (testB x && mE' N a P sc x) && (match r with
      | [] => testB y && mE' N b P sc y
      | z :: r' => mE' N b P sc (.BoolOp .Or (y :: z :: r') pos))
    | _ => false)
  | .not a, P, sc, e => (match e with
    | .UnaryOp .Not x _ => testB x && mE' N a P sc x
    | _ => false)
  | .ifx c a b, P, sc, e => (match e with
    | .IfExp t x y _ => (testB t && mE' N c P sc t) && (mE' N a P sc x && mE' N b P sc y)
    | _ => false)
  | .tup es, P, sc, e => (match e with
    | .Tuple xs _ _ => mEs' N es P sc xs
    | _ => false)
  | .lst es, P, sc, e => (match e with
    | .List xs _ => mEs' N es P sc xs
    | _ => false)
  | .lstM es, P, sc, e => (match e with
    | .List xs _ => mEs' N es P sc xs
    | _ => false)
  | .ix a b, P, sc, e => (match e with
    | .Subscript x y _ => notSlice y && (mE' N a P sc x && mE' N b P sc y)
    | _ => false)
  | .sl a lo hi, P, sc, e => (match e with
    | .Subscript x (.Slice l u none _) _ => mE' N a P sc x && (mO' N lo P sc l && mO' N hi P sc u)
    | _ => false)
  | .rev a, P, sc, e => (match e with
    | .Subscript x (.Slice none none (some (.UnaryOp .USub (.Constant (.int 1) _ _) _)) _) _ => mE' N a P sc x
    | _ => false)
  | .revT a, P, sc, e => (match e with
    | .Subscript x (.Slice none none (some (.UnaryOp .USub (.Constant (.int 1) _ _) _)) _) _ => mE' N a P sc x
    | _ => false)
  | .call f es, P, sc, e => (match e with
    | .Call (.Name x _) xs [] _ => (glB sc x && (fnIs P f x && nmB x)) && mEs' N es P sc xs
    | _ => false)
  | .bi b es, P, sc, e => (match e with
    | .Call (.Name x _) xs [] _ => (match b.val with
      | some q => decide (q.1 = x) && (glB sc x && (!nilE xs && mEs' N es P sc xs))
      | none => (match es with
        | .cons a .nil => (match xs with
          | [.Call (.Name y _) [z] [] _] => (decide (x = "sorted") && (decide (y = "set") && (glB sc x && (glB sc y && notStar z)))) && mE' N a P sc z
          | _ => false)
        | _ => false))
    | _ => false)
  | .callv i es, P, sc, e => (match e with
    | .Call (.Name x _) xs [] _ => (decide (N[i]? = some x) && (visB sc x && nmB x)) && mEs' N es P sc xs
    | _ => false)
  | .calll f ps b es, P, sc, e => (match e with
    | .Call (.Name x _) (.Lambda params body scope _ :: xs) [] _ => ((P.lam N && P.cal) && (glB sc x && (fnIs P f x && nmB x))) && ((lamC N sc ps params scope && mE' N b P.nol scope body) && mEs' N es P sc xs)
    | _ => false)
  | .tryl t b, P, sc, e => (match e with
    | .Call (.Name x _) [.Lambda params body scope _] [] _ => ((P.trs t && decide (x = tnm t)) && (glB sc x && (P.lam N && (noPar params && LamX.lamSB sc scope)))) && mE' N b P.nol scope body
    | _ => false)
  | .isi t a, P, sc, e => (match e with
    | .Call (.Name x _) [y, .Name z _] [] _ => (decide (x = "isinstance") && (decide (z = Str.ofString t.nm) && (glB sc x && (glB sc z && notStar y)))) && mE' N a P sc y
    | _ => false)
  | .lc own tg it ifs elt, P, sc, e => (match e with
    | .ListComp el [⟨t, iter, fs, k⟩] scope _ => (decide (k = 0) && (blkC N sc scope own && (mT N (relS scope sc) tg t && (mT N scope tg t && (notSet iter && tg.sl.all fun i => decide (i ∈ own.map (·.2))))))) && (mI' N it P sc t iter && ((match fs with
      | [] => mO' N ifs P.noc (relS scope sc) none
      | [c] => testB c && mO' N ifs P.noc (relS scope sc) (some c)
      | _ => false) && mE' N elt P.noc (relS scope sc) el))
    | _ => false)
  | .pop0 i, P, sc, e => (match e with
    | .Call (.Attribute (.Name x _) m apos) [.Constant (.int 0) _ _] [] pos => (decide (m = "pop") && (apos.endLine == pos.line)) && (decide (N[i]? = some x) && (visB sc x && nmB x))
    | _ => false)
  | .popL i, P, sc, e => (match e with
    | .Call (.Attribute (.Name x _) m apos) [] [] pos => (decide (m = "pop") && (apos.endLine == pos.line)) && (decide (N[i]? = some x) && (visB sc x && nmB x))
    | _ => false)
  | .frz i, P, sc, e => (match e with
    | .Name x _ => decide (N[i]? = some x) && (visB sc x && nmB x)
    | _ => false)
def mEs' (N : List Str) : Es → Pg → Scope → List Expr → Bool
  | .nil, P, _, xs => nilE xs
  | .cons e es, P, sc, xs => (match xs with
    | x :: r => notStar x && (mE' N e P sc x && mEs' N es P sc r)
    | [] => false)
def mO' (N : List Str) : Eo → Pg → Scope → Option Expr → Bool
  | .no, P, _, o => (match o with
    | none => true
    | some _ => false)
  | .yes e, P, sc, o => (match o with
    | some x => mE' N e P sc x
    | none => false)
def mI' (N : List Str) : It → Pg → Scope → Expr → Expr → Bool
  | .e a, P, sc, _, x => notSet x && mE' N a P sc x
  | .r1 a, P, sc, _, x => (match x with
    | .Call (.Name n _) [y] [] _ => (decide (n = "range") && (glB sc n && notStar y)) && mE' N a P sc y
    | _ => false)
  | .r2 a b, P, sc, _, x => (match x with
    | .Call (.Name n _) [y, z] [] _ => (decide (n = "range") && (glB sc n && (notStar y && notStar z))) && (mE' N a P sc y && mE' N b P sc z)
    | _ => false)
  | .r3 a b d, P, sc, _, x => (match x with
    | .Call (.Name n _) [y, z, u] [] _ => (decide (n = "range") && (glB sc n && (notStar y && (notStar z && notStar u)))) && (mE' N a P sc y && (mE' N b P sc z && mE' N d P sc u))
    | _ => false)
  | .zip a b, P, sc, t, x => (match x with
    | .Call (.Name n _) [y, z] [] _ => (isTup t && (decide (n = "zip") && (glB sc n && (notStar y && notStar z)))) && (mE' N a P sc y && mE' N b P sc z)
    | _ => false)
end

abbrev mE (P : Pg) (N : List Str) (m : E) (sc : Scope) (e : Expr) : Bool := mE' N m P sc e
abbrev mEs (P : Pg) (N : List Str) (m : Es) (sc : Scope) (e : List Expr) : Bool := mEs' N m P sc e
abbrev mO (P : Pg) (N : List Str) (m : Eo) (sc : Scope) (e : Option Expr) : Bool := mO' N m P sc e
abbrev mI (P : Pg) (N : List Str) (m : It) (sc : Scope) (t e : Expr) : Bool := mI' N m P sc t e

/-! ### what is wanted behind an evaluation -/
section
variable (Y : Ax) (W : WX)
def Post {β γ : Type} (R : Hp → Mu → β → γ → Prop) (σ : L2.St) (μ : Mu) (H : Hp) (r : Res β) (Q : γ → Hp → Prop) : Prop := match r with
  | .ok w h' => ∀ v H' μ', HR Y μ' h' H' → Ext μ H μ' H' → R H' μ' w v → Q v H'
  | .exc c h' => ∀ H' μ', HR Y μ' h' H' → Ext μ H μ' H' → W (.ref (Y.er c)) none σ H'
  | .bad => False
def tR {β γ : Type} (R : Hp → Mu → β → γ → Prop) (m : En → Hh → Res β) : L2.St → Hp → (γ → Hp → Prop) → Prop := fun σ H Q => ∃ μ ρ h, HR Y μ h H ∧ ER Y μ H ρ σ ∧ Post Y W R σ μ H (m ρ h) Q
abbrev tG (m : En → Hh → Res Val) : TE := tR Y W (RepV Y) m
abbrev tGs (m : En → Hh → Res (List Val)) : TA := tR Y W (RepVs Y) m
abbrev tGb (m : En → Hh → Res Val) : TT := tR Y W (fun _ _ w b => w = .d (.bool b)) m
end
section
variable {Y : Ax} {W : WX} {β γ β' γ' : Type} {R : Hp → Mu → β → γ → Prop} {R' : Hp → Mu → β' → γ' → Prop} {σ : L2.St} {μ μ' : Mu} {H H' : Hp} {Q Q' : γ → Hp → Prop}
theorem Post.mono {r : Res β} (h : Post Y W R σ μ H r Q) (k : ∀ v H', Q v H' → Q' v H') : Post Y W R σ μ H r Q' := by
  cases r with
  | ok w h' => exact fun v H' μ' a b c => k _ _ (h v H' μ' a b c)
  | exc c h' => exact h
  | bad => exact h
theorem Post.ext {r : Res β} (e : Ext μ H μ' H') (h : Post Y W R σ μ H r Q) : Post Y W R σ μ' H' r Q := by
  cases r with
  | ok w h' => exact fun v H' μ' a b c => h v H' μ' a (e.trans b) c
  | exc c h' => exact fun H' μ' a b => h H' μ' a (e.trans b)
  | bad => exact h
theorem Post.bd {r : Res β} {k : β → Hh → Res β'} {Q : γ' → Hp → Prop} (h : Post Y W R' σ μ H (r.bd k) Q) : Post Y W R σ μ H r fun v H1 => ∃ μ1 h1 w, HR Y μ1 h1 H1 ∧ Ext μ H μ1 H1 ∧ R H1 μ1 w v ∧ Post Y W R' σ μ1 H1 (k w h1) Q := by
  cases r with
  | ok w h' => exact fun v H' μ' a b c => ⟨μ', h', w, a, b, c, Post.ext b h⟩
  | exc c h' => exact h
  | bad => exact h
/-- the value as it is -/
theorem Post.here {w : β} {h : Hh} {v : γ} (R0 : HR Y μ h H) (p : Post Y W R σ μ H (.ok w h) Q) (r : R H μ w v) : Q v H := p v H μ R0 (.refl _ _) r
end
theorem _root_.L2.PE.imp {X : Cx} {e : Expr} {t t' : TE} (h : PE X e t) (k : ∀ σ H Q, t' σ H Q → t σ H Q) : PE X e t' := ⟨fun pins s σ H Q I q => h.run pins s σ H Q I (k σ H Q q)⟩
theorem _root_.L2.PT.imp {X : Cx} {e : Expr} {t t' : TT} (h : PT X e t) (k : ∀ σ H Q, t' σ H Q → t σ H Q) : PT X e t' := ⟨fun pins s σ H Q I q => h.run pins s σ H Q I (k σ H Q q)⟩
theorem _root_.L2.PW.imp {X : Cx} {e : Expr} {t t' : TT} (h : PW X e t) (k : ∀ σ H Q, t' σ H Q → t σ H Q) : PW X e t' := ⟨fun wh pins s σ H Q I q => h.run wh pins s σ H Q I (k σ H Q q)⟩
theorem _root_.L2.PA.imp {X : Cx} {e : List Expr} {t t' : TA} (h : PA X e t) (k : ∀ σ H Q, t' σ H Q → t σ H Q) : PA X e t' := ⟨fun pos pins s σ H Q I q => h.run pos pins s σ H Q I (k σ H Q q)⟩

/-! ### operations behind evaluations -/
section
variable {Y : Ax} {W : WX} {σ : L2.St} {μ : Mu} {H : Hp} {h : Hh} {Q : VK}
theorem okD_new {o : Option PyData} (R0 : HR Y μ h H) (p : Post Y W (RepV Y) σ μ H (okD o h) Q) : ∃ r, o = some r ∧ New Y.K μ H r Q := by
  cases o with
  | none => exact p.elim
  | some r => exact ⟨r, rfl, fun z H' g hz => p z H' μ (R0.gro g) (g.ext μ) hz⟩
theorem on2T_new {f : PyData → PyData → Option PyData} {x y : Val} {v u : V} (R0 : HR Y μ h H) (rx : RepV Y H μ x v) (ry : RepV Y H μ y u) (p : Post Y W (RepV Y) σ μ H (on2T f x y h) Q) :
    rD2 Y.K RepT f v u H Q := by
  unfold on2T at p
  cases ex : datT h x with
  | none => rw [ex] at p; exact p.elim
  | some a =>
    rw [ex] at p
    cases ey : datT h y with
    | none => rw [ey] at p; exact p.elim
    | some b =>
      rw [ey] at p
      obtain ⟨r, e, n⟩ := okD_new R0 p
      exact ⟨μ, a, b, r, R0.frs, datT_ok R0 rx ex, datT_ok R0 ry ey, e, n⟩
theorem on2_new {f : PyData → PyData → Option PyData} {x y : Val} {v u : V} (R0 : HR Y μ h H) (rx : RepV Y H μ x v) (ry : RepV Y H μ y u) (p : Post Y W (RepV Y) σ μ H (on2 f x y h) Q) :
    rD2 Y.K RepR f v u H Q := by
  unfold on2 at p
  cases ex : dat h x with
  | none => rw [ex] at p; exact p.elim
  | some a =>
    rw [ex] at p
    cases ey : dat h y with
    | none => rw [ey] at p; exact p.elim
    | some b =>
      rw [ey] at p
      obtain ⟨r, e, n⟩ := okD_new R0 p
      exact ⟨μ, a, b, r, R0.frs, dat_ok R0 rx ex, dat_ok R0 ry ey, e, n⟩
end
section
variable {X : Cx} {Y : Ax} {W : WX} {a b c : Expr} {ma mb mc : En → Hh → Res Val} {pos : Pos}
/-- two in a row -/
theorem two_tG {r : R2} {k : Val → Val → Hh → Res Val} (hk : ∀ (σ : L2.St) (μ : Mu) (H : Hp) (h : Hh) (x y : Val) (v u : V) (Q : VK), HR Y μ h H → RepV Y H μ x v → RepV Y H μ y u → Post Y W (RepV Y) σ μ H (k x y h) Q → r v u H Q) (σ : L2.St) (H : Hp) (Q : VK)
    (p : tG Y W (fun ρ h => (ma ρ h).bd fun x h1 => (mb ρ h1).bd fun y h2 => k x y h2) σ H Q) : tOp r (tG Y W ma) (tG Y W mb) σ H Q := by
  obtain ⟨μ, ρ, h, R0, er, hm⟩ := p
  refine ⟨μ, ρ, h, R0, er, hm.bd.mono fun v H1 ⟨μ1, h1, w, R1, e1, rx, hm1⟩ => ?_⟩
  refine ⟨μ1, ρ, h1, R1, er.ext e1, hm1.bd.mono fun u H2 ⟨μ2, h2, w2, R2, e2, ry, hm2⟩ => ?_⟩
  exact hk σ μ2 H2 h2 w w2 v u Q R2 (rx.ext e2) ry hm2
theorem two_tGL {r : R2} {k : Val → Val → Hh → Res Val} (hk : ∀ (σ : L2.St) (μ : Mu) (H : Hp) (h : Hh) (x y : Val) (v u : V) (Q : VK), HR Y μ h H → RepV Y H μ x v → RepV Y H μ y u → Post Y W (RepV Y) σ μ H (k x y h) Q → r v u H Q) (σ : L2.St) (H : Hp) (Q : VK)
    (p : tG Y W (fun ρ h => (ma ρ h).bd fun x h1 => (mb ρ h1).bd fun y h2 => k x y h2) σ H Q) : tOp r (tG Y W ma) (tG Y W mb) σ H Q := two_tG hk σ H Q p
theorem s_op (o : O2) (hK : Y.K = X.K) (ha : PE X a (tG Y W ma)) (hb : PE X b (tG Y W mb)) : PE X (.BinOp a o.op b pos) (tG Y W fun ρ h => (ma ρ h).bd fun x h1 => (mb ρ h1).bd fun y h2 => on2T o.ev x y h2) :=
  (pe_op (o2_ok o) ha hb).imp fun σ H Q p => two_tG (k := on2T o.ev) (fun σ μ H h x y v u Q R0 rx ry q => by rw [← hK]; exact on2T_new R0 rx ry q) σ H Q p
theorem s_cmp (o : Cm) (hu : X.A.units + 64 < cLine) (hK : Y.K = X.K) (ha : PE X a (tG Y W ma)) (hb : PE X b (tG Y W mb)) : PE X (.Compare a [o.op] [b] pos) (tG Y W fun ρ h => (ma ρ h).bd fun x h1 => (mb ρ h1).bd fun y h2 => on2 (b2 o.ev) x y h2) :=
  (pe_cmpR (cm_ok hu o) ha hb (by cases o <;> exact nobehind _ (by decide) (by decide))).imp fun σ H Q p => two_tG (k := on2 (b2 o.ev)) (fun σ μ H h x y v u Q R0 rx ry q => by rw [← hK]; exact on2_new R0 rx ry q) σ H Q p
theorem notSet_marks {op : CmpOp} (h : notSet b = true) : behindInMarks op b = false := by
  cases b <;> first | rfl | cases h
theorem s_inn (ng : Bool) (hu : X.A.units + 65 < cLine) (hK : Y.K = X.K) (hb' : notSet b = true) (ha : PE X a (tG Y W ma)) (hb : PE X b (tG Y W mb)) :
    PE X (.Compare a [inOp ng] [b] pos) (tG Y W fun ρ h => (ma ρ h).bd fun x h1 => (mb ρ h1).bd fun y h2 => on2 (fun p q => (innF p q).map fun b => .bool (if ng then !b else b)) x y h2) :=
  (pe_cmpR (inn_ok hu ng) ha hb (notSet_marks hb')).imp fun σ H Q p => two_tG (k := on2 (fun p q => (innF p q).map fun b => .bool (if ng then !b else b))) (fun σ μ H h x y v u Q R0 rx ry q => by rw [← hK]; exact on2_new R0 rx ry q) σ H Q p
theorem plainIx (h : notSlice b = true) : PlainIx b := fun o i => by
  cases b <;> first | rfl | cases h
theorem s_ix (hK : Y.K = X.K) (hb' : notSlice b = true) (ha : PE X a (tG Y W ma)) (hb : PE X b (tG Y W mb)) : PE X (.Subscript a b pos) (tG Y W fun ρ h => (ma ρ h).bd fun x h1 => (mb ρ h1).bd fun y h2 => on2 ixF x y h2) :=
  (pe_ix ix_ok ha hb (plainIx hb')).imp fun σ H Q p => two_tG (k := on2 ixF) (fun σ μ H h x y v u Q R0 rx ry q => by rw [← hK]; exact on2_new R0 rx ry q) σ H Q p
/-- list + list, a cell -/
theorem s_catM (hK : Y.K = X.K) (ha : PE X a (tG Y W ma)) (hb : PE X b (tG Y W mb)) : PE X (.BinOp a .Add b pos) (tG Y W fun ρ h => (ma ρ h).bd fun x h1 => (mb ρ h1).bd fun y h2 => catF (datT h2 x) (datT h2 y) h2) := by
  refine (pe_op op_cat ha hb).imp fun σ H Q p => two_tG (k := fun x y h2 => catF (datT h2 x) (datT h2 y) h2) (fun σ μ H h x y v u Q R0 rx ry q => ?_) σ H Q p
  cases ex : datT h x with
  | none => rw [ex] at q; exact q.elim
  | some a =>
    cases ey : datT h y with
    | none => rw [ex, ey] at q; cases a <;> exact q.elim
    | some b =>
      rw [ex, ey] at q
      cases a with
      | list ps =>
        cases b with
        | list qs =>
          by_cases hl : ps.length + qs.length ≤ big
          · have q : Post Y W (RepV Y) σ μ H (if ps.length + qs.length ≤ big then .ok (.ref h.length) (h ++ [.lst (ps ++ qs)]) else .bad) Q := q
            rw [if_pos hl] at q
            obtain ⟨l, vs, rfl, h1, r1⟩ := datT_ok R0 rx ex
            obtain ⟨m, ws, rfl, h2, r2⟩ := datT_ok R0 ry ey
            refine ⟨l, m, vs, ws, rfl, rfl, h1, h2, ?_, fun p hp => ?_⟩
            · rw [← r1.length, ← r2.length]
              exact Nat.le_trans hl big_line
            · have hc := Reps.ext (Ext.newM (μ := μ) (o := .lst (vs ++ ws)) hp) _ _ (r1.append r2)
              refine q (.ref p) _ (μ.push p) (R0.newC hp ⟨p, vs ++ ws, by simp [Mu.push], upd_same, hc⟩) (Ext.newM hp) ⟨by rw [← R0.len]; simp [Mu.push], fun a z => ?_⟩
              rw [← R0.len] at z
              have : p = a := by simpa [Mu.push] using z
              rw [this]
          · have q : Post Y W (RepV Y) σ μ H (if ps.length + qs.length ≤ big then .ok (.ref h.length) (h ++ [.lst (ps ++ qs)]) else .bad) Q := q
            rw [if_neg hl] at q
            exact q.elim
        | _ => exact q.elim
      | _ => cases b <;> exact q.elim
end
end MP
end
section
set_option Elab.async false
set_option linter.all false
set_option autoImplicit false
set_option maxRecDepth 100000
set_option maxHeartbeats 4000000
/-! Mini: readings of expressions, one by one. -/
namespace MP
open PySem PySem.Spec PyProof.Rows L2
abbrev tGT (Y : Ax) (W : WX) (m : En → Hh → Res Val) : TT := tR Y W (fun _ _ (w b : Bool) => w = b) (fun ρ h => asB (m ρ h) fun k h1 => .ok k h1)
section
variable {Y : Ax} {W : WX} {β γ : Type} {R : Hp → Mu → β → γ → Prop} {σ : L2.St} {μ μ' : Mu} {H H' : Hp} {Q Q' : γ → Hp → Prop}
theorem Post.asB {r : Res Val} {f : Bool → Hh → Res β} (p : Post Y W R σ μ H (asB r f) Q) : Post Y W (RepV Y) σ μ H r fun v H1 => ∃ k, v = .bl k ∧ ∃ μ1 h1, HR Y μ1 h1 H1 ∧ Ext μ H μ1 H1 ∧ Post Y W R σ μ1 H1 (f k h1) Q := by
  cases r with
  | bad => exact p
  | exc c h' => exact p
  | ok w h' =>
    cases w with
    | d q =>
      cases q with
      | bool k =>
        refine fun v H' μ' a b c => ?_
        cases c
        exact ⟨k, rfl, μ', h', a, b, Post.ext b p⟩
      | _ => exact p.elim
    | _ => exact p.elim
theorem Post.asI {r : Res Val} {f : Int → Hh → Res β} (p : Post Y W R σ μ H (asI r f) Q) : Post Y W (RepV Y) σ μ H r fun v H1 => ∃ k, v = .int k ∧ ∃ μ1 h1, HR Y μ1 h1 H1 ∧ Ext μ H μ1 H1 ∧ Post Y W R σ μ1 H1 (f k h1) Q := by
  cases r with
  | bad => exact p
  | exc c h' => exact p
  | ok w h' =>
    cases w with
    | d q =>
      cases q with
      | int k =>
        refine fun v H' μ' a b c => ?_
        cases c
        exact ⟨k, rfl, μ', h', a, b, Post.ext b p⟩
      | _ => exact p.elim
    | _ => exact p.elim
theorem asB_bd (r : Res Val) (f : Bool → Hh → Res β) : asB r f = (asB r fun k h => .ok k h).bd f := by
  cases r with
  | bad => rfl
  | exc c h => rfl
  | ok w h =>
    cases w with
    | d p => cases p <;> rfl
    | _ => rfl
/-- the test behind it -/
theorem Post.tst {r : Res Val} {f : Bool → Hh → Res β} (p : Post Y W R σ μ H (MP.asB r f) Q) : Post Y W (fun _ _ (w b : Bool) => w = b) σ μ H (MP.asB r fun k h => .ok k h) fun k H1 => ∃ μ1 h1, HR Y μ1 h1 H1 ∧ Ext μ H μ1 H1 ∧ Post Y W R σ μ1 H1 (f k h1) Q := by
  rw [asB_bd] at p
  refine p.bd.mono fun v H1 ⟨μ1, h1, w, a, b, e, q⟩ => ?_
  subst e
  exact ⟨μ1, h1, a, b, q⟩
end
section
variable {X : Cx} {Y : Ax} {W : WX} {e a b c : Expr} {m ma mb mc : En → Hh → Res Val} {pos : Pos} {P : Pg} {N : List Str} {n : Nat} {sc : Scope}

/-! ### names and constants -/
theorem tG_pure {w : Val} {v : V} (hw : ∀ H μ, RepV Y H μ w v) (σ : L2.St) (H : Hp) (Q : VK) (p : tG Y W (fun _ h => .ok w h) σ H Q) : Q v H := by
  obtain ⟨μ, ρ, h, R0, er, hm⟩ := p
  exact Post.here R0 hm (hw H μ)
theorem s_non {j : Nat} : PE X (.Constant .none j pos) (tG Y W fun _ h => .ok (.d .none) h) := pe_non.imp fun σ H Q p => tG_pure (w := .d .none) (fun _ _ => Rep.non) σ H Q p
theorem s_bl {k : Bool} {j : Nat} : PE X (.Constant (.bool k) j pos) (tG Y W fun _ h => .ok (.d (.bool k)) h) := pe_bl.imp fun σ H Q p => tG_pure (w := .d (.bool k)) (fun _ _ => Rep.bl k) σ H Q p
theorem s_int {k : Int} {j : Nat} : PE X (.Constant (.int k) j pos) (tG Y W fun _ h => .ok (.d (.int k)) h) := pe_int.imp fun σ H Q p => tG_pure (w := .d (.int k)) (fun _ _ => Rep.int k) σ H Q p
theorem s_str {k : Str} {j : Nat} : PE X (.Constant (.str k) j pos) (tG Y W fun _ h => .ok (.d (.str k)) h) := pe_str.imp fun σ H Q p => tG_pure (w := .d (.str k)) (fun _ _ => Rep.str k) σ H Q p
theorem vis_of {sc : Scope} {x : Str} (h : visB sc x = true) : Vis sc x := by
  unfold visB at h
  split at h <;> first | exact .inl (by assumption) | exact .inr (.inl (by assumption)) | exact .inr (.inr (by assumption)) | cases h
theorem nm_of {x : Str} (h : nmB x = true) : (x == ("__debug__" : Str)) = false ∧ (x == ("__classdict__" : Str)) = false := by
  unfold nmB at h
  rw [Bool.and_eq_true] at h
  exact ⟨by simpa using h.1, by simpa using h.2⟩
theorem s_var {i : Nat} {x : Str} (hN : X.N[i]? = some x) (hv : visB X.env.scope x = true) (hn : nmB x = true) : PE X (.Name x pos) (tG Y W fun ρ h => (match ρ[i]? with
    | some (some v) => .ok v h
    | _ => .bad)) := by
  refine (pe_var hN (vis_of hv) (nm_of hn).1 (nm_of hn).2).imp fun σ H Q p => ?_
  obtain ⟨μ, ρ, h, R0, er, hm⟩ := p
  have hm : Post Y W (RepV Y) σ μ H (match ρ[i]? with
    | some (some v) => Res.ok v h
    | _ => .bad) Q := hm
  cases q : ρ[i]? with
  | none => rw [q] at hm; exact hm.elim
  | some o =>
    rw [q] at hm
    cases o with
    | none => exact hm.elim
    | some w =>
      obtain ⟨v, e1, e2⟩ := er.get i w q
      exact ⟨v, e1, Post.here R0 hm e2⟩
theorem gl_of {x : Str} (h : glB X.env.scope x = true) : Gl X x := by
  unfold glB at h
  split at h
  · assumption
  · cases h
/-- a module's name whose value is data -/
def GloOk (X : Cx) (x : Str) (p : PyData) : Prop := ∃ u v, X.mg x = some u ∧ RelV v u ∧ ∀ H μ, Rep X.K H μ p v
theorem s_glo {x : Str} {p : PyData} {o : Option PyData} (hK : Y.K = X.K) (ho : o = some p) (hg : glB X.env.scope x = true) (hn : nmB x = true) (h : GloOk X x p) : PE X (.Name x pos) (tG Y W fun _ h => okD o h) := by
  obtain ⟨u, v, h1, h2, h3⟩ := h
  subst ho
  exact (pe_glob (gl_of hg) h1 h2 (nm_of hn).1).imp fun σ H Q p => tG_pure (fun H μ => by show Rep Y.K H μ _ v; rw [hK]; exact h3 H μ) σ H Q p
theorem s_fnv {x : Str} {f : Nat} {g : Addr} (hg : glB X.env.scope x = true) (hn : nmB x = true) (hm : X.mg x = some (.ref g)) (hf : Y.fa f = some g) : PE X (.Name x pos) (tG Y W fun _ h => .ok (.fn f) h) :=
  (pe_glob (v := .ref g) (gl_of hg) hm rfl (nm_of hn).1).imp fun σ H Q p => tG_pure (w := .fn f) (fun _ _ => ⟨g, hf, rfl⟩) σ H Q p

/-! ### ints -/
theorem s_neg (ha : PE X a (tG Y W ma)) : PE X (.UnaryOp .USub a pos) (tG Y W fun ρ h => asI (ma ρ h) fun i h1 => .ok (.d (.int (-i))) h1) := by
  refine (pe_un un_neg ha).imp fun σ H Q p => ?_
  obtain ⟨μ, ρ, h, R0, er, hm⟩ := p
  refine ⟨μ, ρ, h, R0, er, hm.asI.mono fun v H1 ⟨k, ev, μ1, h1, R1, e1, q⟩ => ?_⟩
  subst ev
  exact ⟨k, rfl, Post.here R1 q (Rep.int (-k))⟩
theorem lastM {op op' : CmpOp} {b c : Expr} (h1 : op' ≠ .In) (h2 : op' ≠ .NotIn) : lastMarks [op, op'] [b, c] = false := nobehind c h1 h2
/-- comparisons of two ints, as readings of values -/
def rB (f : PyData → PyData → Option Bool) : R2 := fun x y H Q => ∃ i j b, x = .int i ∧ y = .int j ∧ f (.int i) (.int j) = some b ∧ Q (.bl b) H
theorem rB_ok (hu : X.A.units + 64 < cLine) (o : Cm) : OpR X (compareOp o.op) (rB o.ev) := by
  intro pins s σ H x y v u Q I rx ry hh
  obtain ⟨i, j, b, rfl, rfl, e, q⟩ := hh
  cases o with
  | eq =>
    cases e
    exact op_eqD hu pins s σ H _ _ v u Q I rx ry ⟨.int i, .int j, .int i, .int j, rfl, rfl, q⟩
  | ne =>
    cases e
    exact op_neD hu pins s σ H _ _ v u Q I rx ry ⟨.int i, .int j, .int i, .int j, rfl, rfl, q⟩
  | lt =>
    cases e
    exact op_lt pins s σ H _ _ v u Q I rx ry ⟨i, j, rfl, rfl, q⟩
  | le =>
    cases e
    exact op_le pins s σ H _ _ v u Q I rx ry ⟨i, j, rfl, rfl, q⟩
  | gt =>
    cases e
    exact op_gt pins s σ H _ _ v u Q I rx ry ⟨i, j, rfl, rfl, q⟩
  | ge =>
    cases e
    exact op_ge pins s σ H _ _ v u Q I rx ry ⟨i, j, rfl, rfl, q⟩
theorem okb2 {f : PyData → PyData → Option Bool} {p q : PyData} {μ : Mu} {h : Hh} {σ : L2.St} {H : Hp} {Q : VK} (R0 : HR Y μ h H) (k : Post Y W (RepV Y) σ μ H (okD (b2 f p q) h) Q) : ∃ b, f p q = some b ∧ Q (.bl b) H := by
  obtain ⟨r, e, n⟩ := okD_new R0 k
  obtain ⟨b, e1, rfl⟩ := b2_some e
  exact ⟨b, e1, n.bl⟩
abbrev chF (ma mb mc : En → Hh → Res Val) (o o' : Cm) : En → Hh → Res Val := fun ρ h => asI (ma ρ h) fun x h1 => asI (mb ρ h1) fun y h2 => asB (okD (b2 o.ev (.int x) (.int y)) h2) fun k h3 =>
      if k then asI (mc ρ h3) fun z h4 => okD (b2 o'.ev (.int y) (.int z)) h4 else .ok (.d (.bool false)) h3
theorem ch_imp (o o' : Cm) (σ : L2.St) (H : Hp) (Q : VK) (p : tG Y W (chF ma mb mc o o') σ H Q) : tChain (rB o.ev) (rB o'.ev) (tG Y W ma) (tG Y W mb) (tG Y W mc) σ H Q := by
  obtain ⟨μ, ρ, h, R0, er, hm⟩ := p
  refine ⟨μ, ρ, h, R0, er, Post.mono (Post.asI hm) fun v H1 ⟨x, ev, μ1, h1, R1, e1, q1⟩ => ?_⟩
  subst ev
  refine ⟨μ1, ρ, h1, R1, er.ext e1, Post.mono (Post.asI q1) fun v H2 ⟨y, ev, μ2, h2, R2, e2, q2⟩ => ?_⟩
  subst ev
  cases hk : o.ev (.int x) (.int y) with
  | none =>
    unfold b2 at q2
    rw [hk] at q2
    exact q2.elim
  | some k =>
    unfold b2 at q2
    rw [hk] at q2
    have q2 : Post Y W (RepV Y) σ μ2 H2 (if k then asI (mc ρ h2) fun z h4 => okD (b2 o'.ev (.int y) (.int z)) h4 else .ok (.d (.bool false)) h2) Q := q2
    refine ⟨x, y, k, rfl, rfl, hk, k, rfl, ?_⟩
    cases k with
    | false => exact Post.here R2 q2 (Rep.bl false)
    | true =>
      refine ⟨μ2, ρ, h2, R2, (er.ext e1).ext e2, Post.mono (Post.asI q2) fun v H3 ⟨z, ev, μ3, h3, R3, e3, q3⟩ => ?_⟩
      subst ev
      obtain ⟨b, eb, hQ⟩ := okb2 R3 q3
      exact ⟨y, z, b, rfl, rfl, eb, hQ⟩
theorem s_chain (o o' : Cm) (hu : X.A.units + 64 < cLine) (ha : PE X a (tG Y W ma)) (hb : PE X b (tG Y W mb)) (hc : PE X c (tG Y W mc)) : PE X (.Compare a [o.op, o'.op] [b, c] pos) (tG Y W (chF ma mb mc o o')) :=
  (pe_chain (rB_ok hu o) (rB_ok hu o') ha hb hc (lastM (by cases o' <;> decide) (by cases o' <;> decide))).imp (ch_imp o o')

/-! ### from a value to a test -/
theorem tst_of (σ : L2.St) (H : Hp) (Q : Bool → Hp → Prop) (p : tGT Y W m σ H Q) : tB (tG Y W m) σ H Q := by
  obtain ⟨μ, ρ, h, R0, er, hm⟩ := p
  refine ⟨μ, ρ, h, R0, er, Post.mono (Post.asB hm) fun v H1 ⟨k, ev, μ1, h1, R1, e1, q⟩ => ?_⟩
  exact ⟨k, ev, Post.here R1 q rfl⟩
theorem t_plain (h : PE X e (tG Y W m)) (he : ∀ whole, isTrue e X.env whole = (do let v ← whole; standAt e.pos; holding [v] (truthy v))) : PT X e (tGT Y W m) := (pt_val h he).imp tst_of
theorem t_cmp (o : Cm) (hu : X.A.units + 64 < cLine) (hK : Y.K = X.K) (ha : PE X a (tG Y W ma)) (hb : PE X b (tG Y W mb)) : PT X (.Compare a [o.op] [b] pos) (tGT Y W fun ρ h => (ma ρ h).bd fun x h1 => (mb ρ h1).bd fun y h2 => on2 (b2 o.ev) x y h2) :=
  (pt_cmpR (cm_ok hu o) ha hb (by cases o <;> exact nobehind _ (by decide) (by decide))).imp fun σ H Q p =>
    two_tG (k := on2 (b2 o.ev)) (fun σ μ H h x y v u Q R0 rx ry q => by rw [← hK]; exact on2_new R0 rx ry q) σ H _ (tst_of σ H Q p)
theorem t_inn (ng : Bool) (hu : X.A.units + 65 < cLine) (hK : Y.K = X.K) (hb' : notSet b = true) (ha : PE X a (tG Y W ma)) (hb : PE X b (tG Y W mb)) :
    PT X (.Compare a [inOp ng] [b] pos) (tGT Y W fun ρ h => (ma ρ h).bd fun x h1 => (mb ρ h1).bd fun y h2 => on2 (fun p q => (innF p q).map fun b => .bool (if ng then !b else b)) x y h2) :=
  (pt_cmpR (inn_ok hu ng) ha hb (notSet_marks hb')).imp fun σ H Q p =>
    two_tG (k := on2 (fun p q => (innF p q).map fun b => .bool (if ng then !b else b))) (fun σ μ H h x y v u Q R0 rx ry q => by rw [← hK]; exact on2_new R0 rx ry q) σ H _ (tst_of σ H Q p)
theorem t_chain (o o' : Cm) (hu : X.A.units + 64 < cLine) (ha : PE X a (tG Y W ma)) (hb : PE X b (tG Y W mb)) (hc : PE X c (tG Y W mc)) : PT X (.Compare a [o.op, o'.op] [b, c] pos) (tGT Y W (chF ma mb mc o o')) :=
  (pt_chain (rB_ok hu o) (rB_ok hu o') ha hb hc (lastM (by cases o' <;> decide) (by cases o' <;> decide))).imp fun σ H Q p => ch_imp o o' σ H _ (tst_of σ H Q p)

/-! ### is -/
abbrev isF (ng : Bool) (k : Option Bool) (ma : En → Hh → Res Val) : En → Hh → Res Val := fun ρ h => (ma ρ h).bd fun v h1 => (match v with
    | .d p => okB ((isCF k p).map fun b => if ng then !b else b) h1
    | _ => .bad)
def kK : Option Bool → Const
  | none => .none
  | some b => .bool b
theorem kk_pe {k : Option Bool} {j : Nat} : PE X (.Constant (kK k) j pos) (tC (kV3 k)) := by
  cases k with
  | none => exact pe_non
  | some b => exact pe_bl
theorem is_imp (hK : Y.K = X.K) (ng : Bool) (k : Option Bool) (σ : L2.St) (H : Hp) (Q : VK) (p : tG Y W (isF ng k ma) σ H Q) :
    tOp (fun x y H Q => ∃ μ p b, RepR X.K H μ p x ∧ y = kV3 k ∧ isCF k p = some b ∧ Q (.bl (if ng then !b else b)) H) (tG Y W ma) (tC (kV3 k)) σ H Q := by
  obtain ⟨μ, ρ, h, R0, er, hm⟩ := p
  refine ⟨μ, ρ, h, R0, er, Post.mono (Post.bd hm) fun v H1 ⟨μ1, h1, w, R1, e1, r, q⟩ => ?_⟩
  cases w with
  | d p =>
    have q : Post Y W (RepV Y) σ μ1 H1 (okB ((isCF k p).map fun b => if ng then !b else b) h1) Q := q
    cases hb : isCF k p with
    | none => rw [hb] at q; exact q.elim
    | some b =>
      rw [hb] at q
      refine ⟨μ1, p, b, ?_, rfl, hb, Post.here R1 q (Rep.bl _)⟩
      rw [← hK]
      exact Rep.r r
  | _ => exact q.elim
theorem s_isC (hK : Y.K = X.K) (ng : Bool) (k : Option Bool) {j : Nat} {pos' : Pos} (ha : PE X a (tG Y W ma)) : PE X (.Compare a [isOp ng] [.Constant (kK k) j pos'] pos) (tG Y W (isF ng k ma)) :=
  (pe_cmpR (isC_ok ng k) ha kk_pe (by cases ng <;> rfl)).imp (is_imp hK ng k)
theorem t_isC (hK : Y.K = X.K) (ng : Bool) (k : Option Bool) {j : Nat} {pos' : Pos} (ha : PE X a (tG Y W ma)) : PT X (.Compare a [isOp ng] [.Constant (kK k) j pos'] pos) (tGT Y W (isF ng k ma)) :=
  (pt_cmpR (isC_ok ng k) ha kk_pe (by cases ng <;> rfl)).imp fun σ H Q p => is_imp hK ng k σ H _ (tst_of σ H Q p)

/-! ### and, or, not, if -/
abbrev andF (ma mb : En → Hh → Res Val) : En → Hh → Res Val := fun ρ h => asB (ma ρ h) fun k h1 => if k then mb ρ h1 else .ok (.d (.bool false)) h1
abbrev orF (ma mb : En → Hh → Res Val) : En → Hh → Res Val := fun ρ h => asB (ma ρ h) fun k h1 => if k then .ok (.d (.bool true)) h1 else mb ρ h1
theorem and_imp (σ : L2.St) (H : Hp) (Q : VK) (p : tG Y W (andF ma mb) σ H Q) : tAndV (tG Y W ma) (tG Y W mb) σ H Q := by
  obtain ⟨μ, ρ, h, R0, er, hm⟩ := p
  refine ⟨μ, ρ, h, R0, er, Post.mono (Post.asB hm) fun v H1 ⟨k, ev, μ1, h1, R1, e1, q⟩ => ⟨k, ev, ?_⟩⟩
  cases k with
  | true => exact ⟨μ1, ρ, h1, R1, er.ext e1, q⟩
  | false => exact Post.here R1 q (Rep.bl false)
theorem or_imp (σ : L2.St) (H : Hp) (Q : VK) (p : tG Y W (orF ma mb) σ H Q) : tOrV (tG Y W ma) (tG Y W mb) σ H Q := by
  obtain ⟨μ, ρ, h, R0, er, hm⟩ := p
  refine ⟨μ, ρ, h, R0, er, Post.mono (Post.asB hm) fun v H1 ⟨k, ev, μ1, h1, R1, e1, q⟩ => ⟨k, ev, ?_⟩⟩
  cases k with
  | true => exact Post.here R1 q (Rep.bl true)
  | false => exact ⟨μ1, ρ, h1, R1, er.ext e1, q⟩
theorem asB_asB {β : Type} (r : Res Val) (f : Bool → Hh → Res Val) (g : Bool → Hh → Res β) : asB (asB r f) g = asB r fun k h => asB (f k h) g := by
  cases r with
  | bad => rfl
  | exc c h => rfl
  | ok w h =>
    cases w with
    | d p => cases p <;> rfl
    | _ => rfl
theorem andT_imp (σ : L2.St) (H : Hp) (Q : Bool → Hp → Prop) (p : tGT Y W (andF ma mb) σ H Q) : tAnd (tGT Y W ma) (tGT Y W mb) σ H Q := by
  obtain ⟨μ, ρ, h, R0, er, hm⟩ := p
  have hm : Post Y W (fun _ _ (w b : Bool) => w = b) σ μ H (asB (asB (ma ρ h) fun k h1 => if k then mb ρ h1 else .ok (.d (.bool false)) h1) fun k h1 => .ok k h1) Q := hm
  rw [asB_asB] at hm
  refine ⟨μ, ρ, h, R0, er, Post.mono (Post.tst hm) fun k H1 ⟨μ1, h1, R1, e1, q⟩ => ?_⟩
  cases k with
  | true => exact ⟨μ1, ρ, h1, R1, er.ext e1, q⟩
  | false => exact Post.here R1 (w := false) q rfl
theorem orT_imp (σ : L2.St) (H : Hp) (Q : Bool → Hp → Prop) (p : tGT Y W (orF ma mb) σ H Q) : tOr (tGT Y W ma) (tGT Y W mb) σ H Q := by
  obtain ⟨μ, ρ, h, R0, er, hm⟩ := p
  have hm : Post Y W (fun _ _ (w b : Bool) => w = b) σ μ H (asB (asB (ma ρ h) fun k h1 => if k then .ok (.d (.bool true)) h1 else mb ρ h1) fun k h1 => .ok k h1) Q := hm
  rw [asB_asB] at hm
  refine ⟨μ, ρ, h, R0, er, Post.mono (Post.tst hm) fun k H1 ⟨μ1, h1, R1, e1, q⟩ => ?_⟩
  cases k with
  | true => exact Post.here R1 (w := true) q rfl
  | false => exact ⟨μ1, ρ, h1, R1, er.ext e1, q⟩
abbrev notF (ma : En → Hh → Res Val) : En → Hh → Res Val := fun ρ h => asB (ma ρ h) fun k h1 => .ok (.d (.bool (!k))) h1
theorem s_not (ha : PE X a (tG Y W ma)) : PE X (.UnaryOp .Not a pos) (tG Y W (notF ma)) := by
  refine (pe_not ha).imp fun σ H Q p => ?_
  obtain ⟨μ, ρ, h, R0, er, hm⟩ := p
  exact ⟨μ, ρ, h, R0, er, Post.mono (Post.asB hm) fun v H1 ⟨k, ev, μ1, h1, R1, e1, q⟩ => ⟨k, ev, Post.here R1 q (Rep.bl _)⟩⟩
theorem t_not (ha : PT X a (tGT Y W ma)) : PT X (.UnaryOp .Not a pos) (tGT Y W (notF ma)) := by
  refine (pt_not ha).imp fun σ H Q p => ?_
  obtain ⟨μ, ρ, h, R0, er, hm⟩ := p
  have hm : Post Y W (fun _ _ (w b : Bool) => w = b) σ μ H (asB (asB (ma ρ h) fun k h1 => .ok (.d (.bool (!k))) h1) fun k h1 => .ok k h1) Q := hm
  rw [asB_asB] at hm
  exact ⟨μ, ρ, h, R0, er, Post.mono (Post.tst hm) fun k H1 ⟨μ1, h1, R1, e1, q⟩ => Post.here R1 (w := !k) q rfl⟩
abbrev ifF (mc ma mb : En → Hh → Res Val) : En → Hh → Res Val := fun ρ h => asB (mc ρ h) fun k h1 => if k then ma ρ h1 else mb ρ h1
theorem s_ifx (hc : PT X c (tGT Y W mc)) (ha : PE X a (tG Y W ma)) (hb : PE X b (tG Y W mb)) : PE X (.IfExp c a b pos) (tG Y W (ifF mc ma mb)) := by
  refine (pe_ifExp hc ha hb).imp fun σ H Q p => ?_
  obtain ⟨μ, ρ, h, R0, er, hm⟩ := p
  refine ⟨μ, ρ, h, R0, er, Post.mono (Post.tst hm) fun k H1 ⟨μ1, h1, R1, e1, q⟩ => ?_⟩
  cases k with
  | true => exact ⟨μ1, ρ, h1, R1, er.ext e1, q⟩
  | false => exact ⟨μ1, ρ, h1, R1, er.ext e1, q⟩

/-! ### lists of expressions, displays -/
theorem notStar_cons {e : Expr} {es : List Expr} {env : Env} (h : notStar e = true) : starEach (e :: es) env = (false, eval e env) :: starEach es env := by
  cases e <;> first | rfl | cases h
theorem sa_nil : PA X [] (tGs Y W fun _ h => .ok [] h) := pa_nil.imp fun σ H Q p => by
  obtain ⟨μ, ρ, h, R0, er, hm⟩ := p
  exact Post.here R0 hm .nil
abbrev consF (ma : En → Hh → Res Val) (mr : En → Hh → Res (List Val)) : En → Hh → Res (List Val) := fun ρ h => (ma ρ h).bd fun v h1 => (mr ρ h1).bd fun vs h2 => .ok (v :: vs) h2
theorem sa_cons {es : List Expr} {mr : En → Hh → Res (List Val)} (hs : notStar e = true) (ha : PE X e (tG Y W ma)) (hr : PA X es (tGs Y W mr)) : PA X (e :: es) (tGs Y W (consF ma mr)) := by
  refine (pa_cons ha hr (notStar_cons hs)).imp fun σ H Q p => ?_
  obtain ⟨μ, ρ, h, R0, er, hm⟩ := p
  refine ⟨μ, ρ, h, R0, er, Post.mono (Post.bd hm) fun v H1 ⟨μ1, h1, w, R1, e1, r, q⟩ => ?_⟩
  refine ⟨μ1, ρ, h1, R1, er.ext e1, Post.mono (Post.bd q) fun vs H2 ⟨μ2, h2, ws, R2, e2, rs, q2⟩ => ?_⟩
  exact Post.here R2 q2 (.cons (r.ext e2) rs)
theorem pures_ok {H : Hp} {μ : Mu} : ∀ {ws : List Val} {ps : List PyData} {vs : List V}, pures ws = some ps → RepVs Y H μ ws vs → Reps Y.K H μ ps vs
  | [], _, _, e, r => by cases e; cases r; exact .nil
  | .d p :: ws, ps, _, e, r => by
    have e' : (match pures ws with
      | some ps => some (p :: ps)
      | none => none) = some ps := e
    cases q : pures ws with
    | none => rw [q] at e'; cases e'
    | some qs =>
      rw [q] at e'
      cases e'
      cases r with
      | cons r1 r2 => exact .cons r1 (pures_ok q r2)
  | .ref _ :: _, _, _, e, _ => by cases e
  | .fn _ :: _, _, _, e, _ => by cases e
  | .scr _ :: _, _, _, e, _ => by cases e
  | .clo _ _ _ :: _, _, _, e, _ => by cases e
abbrev tupF (g : List PyData → PyData) (ms : En → Hh → Res (List Val)) : En → Hh → Res Val := fun ρ h => (ms ρ h).bd fun vs h1 => (match pures vs with
    | some ps => if ps.length ≤ big then .ok (.d (g ps)) h1 else .bad
    | none => .bad)
theorem disp {es : List Expr} {ms : En → Hh → Res (List Val)} {g : List PyData → PyData} {σ : L2.St} {H : Hp} {Q : VK} {T : List V → Hp → Prop}
    (k : ∀ (μ : Mu) (h : Hh) (H : Hp) (ps : List PyData) (vs : List V), HR Y μ h H → Reps Y.K H μ ps vs → vs.length ≤ sizeLine → Post Y W (RepV Y) σ μ H (.ok (.d (g ps)) h) Q → T vs H) (p : tG Y W (tupF g ms) σ H Q) : tGs Y W ms σ H T := by
  obtain ⟨μ, ρ, h, R0, er, hm⟩ := p
  refine ⟨μ, ρ, h, R0, er, Post.mono (Post.bd hm) fun vs H1 ⟨μ1, h1, ws, R1, e1, r, q⟩ => ?_⟩
  have q : Post Y W (RepV Y) σ μ1 H1 (match pures ws with
    | some ps => if ps.length ≤ big then .ok (.d (g ps)) h1 else .bad
    | none => .bad) Q := q
  cases hp : pures ws with
  | none => rw [hp] at q; exact q.elim
  | some ps =>
    rw [hp] at q
    have q : Post Y W (RepV Y) σ μ1 H1 (if ps.length ≤ big then .ok (.d (g ps)) h1 else .bad) Q := q
    by_cases hl : ps.length ≤ big
    · rw [if_pos hl] at q
      have rr := pures_ok hp r
      exact k μ1 h1 H1 ps vs R1 rr (by rw [← rr.length]; exact Nat.le_trans hl big_line) q
    · rw [if_neg hl] at q
      exact q.elim
theorem s_tup {es : List Expr} {ms : En → Hh → Res (List Val)} {j : Nat} (h : PA X es (tGs Y W ms)) : PE X (.Tuple es j pos) (tG Y W (tupF .tuple ms)) :=
  (pe_tup h).imp fun σ H Q p => disp (es := es) (fun μ h H ps vs R0 r hl q => ⟨hl, fun p hp => q _ _ μ (R0.gro (.new hp)) ((Gro.new hp).ext μ) (Rep.tup (.inl ⟨R0.nin hp, upd_same⟩) (r.upd hp))⟩) p
theorem s_lst {es : List Expr} {ms : En → Hh → Res (List Val)} (h : PA X es (tGs Y W ms)) : PE X (.List es pos) (tG Y W (tupF .list ms)) :=
  (pe_lst h).imp fun σ H Q p => disp (es := es) (fun μ h H ps vs R0 r hl q => ⟨hl, fun p hp => q _ _ μ (R0.gro (.new hp)) ((Gro.new hp).ext μ) (Rep.lst (R0.nin hp) upd_same (r.upd hp))⟩) p
abbrev lstMF (ms : En → Hh → Res (List Val)) : En → Hh → Res Val := fun ρ h => (ms ρ h).bd fun vs h1 => (match pures vs with
    | some ps => if ps.length ≤ big then .ok (.ref h1.length) (h1 ++ [.lst ps]) else .bad
    | none => .bad)
theorem newM_post {μ : Mu} {h : Hh} {H : Hp} {ps : List PyData} {vs : List V} {σ : L2.St} {Q : VK} (R0 : HR Y μ h H) (r : Reps Y.K H μ ps vs) (q : Post Y W (RepV Y) σ μ H (.ok (.ref h.length) (h ++ [.lst ps])) Q) (p : Addr) (hp : H p = none) : Q (.ref p) (upd H p (.lst vs)) := by
  have hc := Reps.ext (Ext.newM (μ := μ) (o := .lst vs) hp) _ _ r
  refine q (.ref p) _ (μ.push p) (R0.newC hp ⟨p, vs, by simp [Mu.push], upd_same, hc⟩) (Ext.newM hp) ⟨by rw [← R0.len]; simp [Mu.push], fun a z => ?_⟩
  rw [← R0.len] at z
  have : p = a := by simpa [Mu.push] using z
  rw [this]
theorem s_lstM {es : List Expr} {ms : En → Hh → Res (List Val)} (hh : PA X es (tGs Y W ms)) : PE X (.List es pos) (tG Y W (lstMF ms)) := by
  refine (pe_lst hh).imp fun σ H Q p => ?_
  obtain ⟨μ, ρ, h, R0, er, hm⟩ := p
  refine ⟨μ, ρ, h, R0, er, Post.mono (Post.bd hm) fun vs H1 ⟨μ1, h1, ws, R1, e1, r, q⟩ => ?_⟩
  have q : Post Y W (RepV Y) σ μ1 H1 (match pures ws with
    | some ps => if ps.length ≤ big then .ok (.ref h1.length) (h1 ++ [.lst ps]) else .bad
    | none => .bad) Q := q
  cases hp : pures ws with
  | none => rw [hp] at q; exact q.elim
  | some ps =>
    rw [hp] at q
    have q : Post Y W (RepV Y) σ μ1 H1 (if ps.length ≤ big then .ok (.ref h1.length) (h1 ++ [.lst ps]) else .bad) Q := q
    by_cases hl : ps.length ≤ big
    · rw [if_pos hl] at q
      have rr := pures_ok hp r
      exact ⟨by rw [← rr.length]; exact Nat.le_trans hl big_line, fun p hp => newM_post R1 rr q p hp⟩
    · rw [if_neg hl] at q
      exact q.elim

/-! ### slices -/
abbrev tO (Y : Ax) (W : WX) (m : En → Hh → Res (Option Int)) : TO := tR Y W (fun _ _ (w b : Option Int) => w = b) m
theorem _root_.L2.PO.imp {e : Option Expr} {t t' : TO} (h : PO X e t) (k : ∀ σ H Q, t' σ H Q → t σ H Q) : PO X e t' := ⟨fun pins s σ H Q I q => h.run pins s σ H Q I (k σ H Q q)⟩
theorem so_no : PO X none (tO Y W fun _ h => .ok none h) := po_none.imp fun σ H Q p => by
  obtain ⟨μ, ρ, h, R0, er, hm⟩ := p
  exact Post.here (w := (none : Option Int)) R0 hm rfl
theorem so_yes (ha : PE X e (tG Y W ma)) : PO X (some e) (tO Y W fun ρ h => asI (ma ρ h) fun i h1 => .ok (some i) h1) := (po_some ha).imp fun σ H Q p => by
  obtain ⟨μ, ρ, h, R0, er, hm⟩ := p
  exact ⟨μ, ρ, h, R0, er, Post.mono (Post.asI hm) fun v H1 ⟨k, ev, μ1, h1, R1, e1, q⟩ => ⟨k, ev, Post.here (w := some k) R1 q rfl⟩⟩
theorem on1_new {f : PyData → Option PyData} {x : Val} {v : V} {μ : Mu} {h : Hh} {H : Hp} {σ : L2.St} {Q : VK} (R0 : HR Y μ h H) (rx : RepV Y H μ x v) (p : Post Y W (RepV Y) σ μ H (on1 f x h) Q) :
    ∃ p r, RepR Y.K H μ p v ∧ f p = some r ∧ New Y.K μ H r Q := by
  unfold on1 at p
  cases ex : dat h x with
  | none => rw [ex] at p; exact p.elim
  | some a =>
    rw [ex] at p
    obtain ⟨r, e, n⟩ := okD_new R0 p
    exact ⟨a, r, dat_ok R0 rx ex, e, n⟩
abbrev slcF (ma : En → Hh → Res Val) (ml mh : En → Hh → Res (Option Int)) : En → Hh → Res Val := fun ρ h => (ma ρ h).bd fun x h1 => (ml ρ h1).bd fun l h2 => (mh ρ h2).bd fun u h3 => on1 (fun p => slF p l u) x h3
theorem s_sl {lo hi : Option Expr} {ml mh : En → Hh → Res (Option Int)} {p2 : Pos} (hK : Y.K = X.K) (ha : PE X a (tG Y W ma)) (hl : PO X lo (tO Y W ml)) (hh : PO X hi (tO Y W mh)) : PE X (.Subscript a (.Slice lo hi none p2) pos) (tG Y W (slcF ma ml mh)) := by
  refine (pe_slice sl_ok ha hl hh).imp fun σ H Q p => ?_
  obtain ⟨μ, ρ, h, R0, er, hm⟩ := p
  refine ⟨μ, ρ, h, R0, er, Post.mono (Post.bd hm) fun v H1 ⟨μ1, h1, w, R1, e1, r, q⟩ => ?_⟩
  refine ⟨μ1, ρ, h1, R1, er.ext e1, Post.mono (Post.bd q) fun l H2 ⟨μ2, h2, wl, R2, e2, el, q2⟩ => ?_⟩
  refine ⟨μ2, ρ, h2, R2, (er.ext e1).ext e2, Post.mono (Post.bd q2) fun u H3 ⟨μ3, h3, wu, R3, e3, eu, q3⟩ => ?_⟩
  subst el eu
  obtain ⟨p, r', hp, e, n⟩ := on1_new R3 ((r.ext e2).ext e3) q3
  rw [hK] at hp n
  exact ⟨μ3, p, r', R3.frs, hp, e, n⟩

/-! ### built-ins -/
theorem dats_ok {h : Hh} {H : Hp} {μ : Mu} (R0 : HR Y μ h H) : ∀ {ws : List Val} {ps : List PyData} {vs : List V}, dats h ws = some ps → RepVs Y H μ ws vs → RepRs Y.K H μ ps vs
  | [], _, _, e, r => by cases e; cases r; exact .nil
  | w :: ws, ps, _, e, r => by
    have e' : (match dat h w, dats h ws with
      | some p, some ps => some (p :: ps)
      | _, _ => none) = some ps := e
    cases q1 : dat h w with
    | none => rw [q1] at e'; cases e'
    | some p =>
      cases q2 : dats h ws with
      | none => rw [q1, q2] at e'; cases e'
      | some qs =>
        rw [q1, q2] at e'
        cases e'
        cases r with
        | cons r1 r2 => exact .cons (dat_ok R0 r1 q1) (dats_ok R0 q2 r2)
abbrev biF (b : Bi) (ms : En → Hh → Res (List Val)) : En → Hh → Res Val := fun ρ h => (ms ρ h).bd fun vs h1 => (match dats h1 vs with
    | some ps => okD (b.ev ps) h1
    | none => .bad)
theorem noStars (es : List Expr) (env : Env) (pos : Pos) : (∀ e ∈ es, notStar e = true) → (backTo pos (starEach es env)).any (·.1) = false := by
  induction es with
  | nil => intro _; rfl
  | cons e es ih =>
    intro h
    rw [notStar_cons (h e List.mem_cons_self)]
    exact ih fun x hx => h x (List.mem_cons_of_mem _ hx)
theorem bi_imp (hK : Y.K = X.K) (b : Bi) {ms : En → Hh → Res (List Val)} (σ : L2.St) (H : Hp) (Q : VK) (p : tG Y W (biF b ms) σ H Q) : tCB (rBi X.K b) (tGs Y W ms) σ H Q := by
  obtain ⟨μ, ρ, h, R0, er, hm⟩ := p
  refine ⟨μ, ρ, h, R0, er, Post.mono (Post.bd hm) fun vs H1 ⟨μ1, h1, ws, R1, e1, r, q⟩ => ?_⟩
  have q : Post Y W (RepV Y) σ μ1 H1 (match dats h1 ws with
    | some ps => okD (b.ev ps) h1
    | none => .bad) Q := q
  cases hp : dats h1 ws with
  | none => rw [hp] at q; exact q.elim
  | some ps =>
    rw [hp] at q
    obtain ⟨r', e, n⟩ := okD_new R1 q
    have hd := dats_ok R1 hp r
    rw [hK] at hd n
    exact ⟨μ1, ps, r', R1.frs, hd, e, n⟩
theorem s_bi (hc : X.calm = true) (hK : Y.K = X.K) (b : Bi) {x : Str} {f : Value} {es : List Expr} {ms : En → Hh → Res (List Val)} {p : Pos} (hv : b.val = some (x, f)) (hg : glB X.env.scope x = true) (hm : X.mg x = none) (hs : ∀ y ∈ e :: es, notStar y = true) (h : PA X (e :: es) (tGs Y W ms)) :
    PE X (.Call (.Name x p) (e :: es) [] pos) (tG Y W (biF b ms)) := by
  obtain ⟨h1, h2, h3, h4⟩ := bi_boot b hv
  have hok := bi_ok (X := X) hc b hv
  have he := notStar_cons (es := es) (env := X.env) (hs e List.mem_cons_self)
  have hpl := noStars es X.env pos fun y hy => hs y (List.mem_cons_of_mem _ hy)
  rcases h4 with ⟨n, rfl⟩ | ⟨n, rfl⟩
  · exact (pe_callB hok (gl_of hg) hm h1 h h2 h3 he hpl).imp (bi_imp hK b)
  · exact (pe_callTy hok (gl_of hg) hm h1 h h2 h3 he hpl).imp (bi_imp hK b)
abbrev isiFF (t : Ty) (ma : En → Hh → Res Val) : En → Hh → Res Val := fun ρ h => (ma ρ h).bd fun v h1 => (match v with
    | .d p => okB (isiF t p) h1
    | _ => .bad)
theorem ty_boot (t : Ty) : bootBuiltins (Str.ofString t.nm) = some (.type t.nm) ∧ (Str.ofString t.nm) ≠ "__name__" ∧ ((Str.ofString t.nm) == ("__debug__" : Str)) = false := by
  cases t <;> exact ⟨by decide +kernel, by decide, by decide⟩
theorem s_isi (hK : Y.K = X.K) (t : Ty) {p p' : Pos} (hs : notStar a = true) (hg : glB X.env.scope "isinstance" = true) (hm : X.mg "isinstance" = none) (hg' : glB X.env.scope (Str.ofString t.nm) = true) (hm' : X.mg (Str.ofString t.nm) = none) (ha : PE X a (tG Y W ma)) :
    PE X (.Call (.Name "isinstance" p) [a, .Name (Str.ofString t.nm) p'] [] pos) (tG Y W (isiFF t ma)) := by
  obtain ⟨h1, h2, h3⟩ := ty_boot t
  have hb : PE X (.Name (Str.ofString t.nm) p') (tC (.ty t.nm)) := pe_bltn (gl_of hg') hm' h1 rfl h2 h3
  refine (pe_callB (isi_ok t) (gl_of hg) hm PyProof.Rows.boot_isinstance (pa_cons ha (pa_cons hb pa_nil) (notStar_cons hs)) (by decide) (by decide) (notStar_cons hs) rfl).imp fun σ H Q p => ?_
  obtain ⟨μ, ρ, h, R0, er, hm⟩ := p
  refine ⟨μ, ρ, h, R0, er, Post.mono (Post.bd hm) fun v H1 ⟨μ1, h1, w, R1, e1, r, q⟩ => ?_⟩
  cases w with
  | d p =>
    have q : Post Y W (RepV Y) σ μ1 H1 (okB (isiF t p) h1) Q := q
    cases hb : isiF t p with
    | none => rw [hb] at q; exact q.elim
    | some b =>
      rw [hb] at q
      refine ⟨μ1, p, v, b, rfl, ?_, hb, Post.here R1 q (Rep.bl _)⟩
      rw [← hK]
      exact r
  | _ => exact q.elim
end
end MP
end
section
set_option Elab.async false
set_option linter.all false
set_option autoImplicit false
set_option maxRecDepth 100000
set_option maxHeartbeats 4000000
/-! Mini: targets, what is walked, comprehensions, calls, changes of cells. -/
namespace MP
open PySem PySem.Spec PyProof.Rows L2

/-! ### targets -/
/-- the names differ at these places alone -/
def Off (ls : List Nat) (σ σ' : L2.St) : Prop := σ'.length = σ.length ∧ ∀ j : Nat, j ∉ ls → σ'[j]? = σ[j]?
theorem Off.refl (ls : List Nat) (σ : L2.St) : Off ls σ σ := ⟨rfl, fun _ _ => rfl⟩
theorem Off.trans {ls ms : List Nat} {σ σ1 σ2 : L2.St} (a : Off ls σ σ1) (b : Off ms σ1 σ2) : Off (ls ++ ms) σ σ2 :=
  ⟨b.1.trans a.1, fun j hj => by
    rw [List.mem_append, not_or] at hj
    exact (b.2 j hj.2).trans (a.2 j hj.1)⟩
section
variable (Y : Ax)
def gT (t : Tg) : TG := fun v σ H Q => ∃ μ w ρ ρ', RepV Y H μ w v ∧ ER Y μ H ρ σ ∧ bindT t w ρ = some ρ' ∧ ∀ σ', ER Y μ H ρ' σ' → Off t.sl σ σ' → Q σ' H
def gTs (ts : Tgs) : TGs := fun vs σ H Q => ∃ μ ws ρ ρ', RepVs Y H μ ws vs ∧ ER Y μ H ρ σ ∧ bindTs ts ws ρ = some ρ' ∧ ∀ σ', ER Y μ H ρ' σ' → Off ts.sl σ σ' → Q σ' H
end
theorem _root_.L2.PG.imp {X : Cx} {e : Expr} {t t' : TG} (h : PG X e t) (k : ∀ v σ H Q, t' v σ H Q → t v σ H Q) : PG X e t' := ⟨fun pins s σ H v u Q I r q => h.run pins s σ H v u Q I r (k v σ H Q q)⟩
theorem _root_.L2.PGs.imp {X : Cx} {e : List Expr} {t t' : TGs} (h : PGs X e t) (k : ∀ v σ H Q, t' v σ H Q → t v σ H Q) : PGs X e t' := ⟨fun pins s σ H v u Q I r q => h.run pins s σ H v u Q I r (k v σ H Q q)⟩
theorem assignEach_len : ∀ (es : List Expr) (env : Env), (assignEach es env).length = es.length
  | [], _ => rfl
  | e :: es, env => by
    have ih := assignEach_len es env
    cases e <;> exact congrArg (· + 1) ih
theorem notStar_assign {e : Expr} {es : List Expr} {env : Env} (h : notStar e = true) : assignEach (e :: es) env = (false, assign e env) :: assignEach es env := by
  cases e <;> first | rfl | cases h
theorem mTs_len {N : List Str} {sc : Scope} : ∀ {ts : Tgs} {es : List Expr}, mTs N sc ts es = true → (∀ x ∈ es, notStar x = true)
  | .nil, [], _ => fun _ h => by cases h
  | .nil, _ :: _, h => by cases h
  | .cons t ts, [], h => by cases h
  | .cons t ts, e :: es, h => by
    have h' : (notStar e && (mT N sc t e && mTs N sc ts es)) = true := h
    rw [Bool.and_eq_true, Bool.and_eq_true] at h'
    intro x hx
    rcases List.mem_cons.mp hx with rfl | hx
    · exact h'.1
    · exact mTs_len h'.2.2 x hx
theorem noStar_find : ∀ (es : List Expr) (env : Env), (∀ x ∈ es, notStar x = true) → (assignEach es env).findIdx? (·.1) = none
  | [], _, _ => rfl
  | e :: es, env, h => by
    rw [notStar_assign (h e List.mem_cons_self), List.findIdx?_cons, noStar_find es env fun x hx => h x (List.mem_cons_of_mem _ hx)]
    rfl
theorem bindTs_len : ∀ {ts : Tgs} {ws : List Val} {ρ ρ' : En} {N : List Str} {sc : Scope} {es : List Expr}, bindTs ts ws ρ = some ρ' → mTs N sc ts es = true → ws.length = es.length
  | .nil, [], _, _, _, _, [], _, _ => rfl
  | .nil, _, _, _, _, _, _ :: _, _, h => by cases h
  | .nil, _ :: _, _, _, _, _, _, e, _ => by cases e
  | .cons t ts, [], _, _, _, _, _, e, _ => by cases e
  | .cons t ts, _ :: _, _, _, _, _, [], _, h => by cases h
  | .cons t ts, w :: ws, ρ, ρ', N, sc, x :: es, e, h => by
    have e' : (match bindT t w ρ with
      | some ρ1 => bindTs ts ws ρ1
      | none => none) = some ρ' := e
    have h' : (notStar x && (mT N sc t x && mTs N sc ts es)) = true := h
    rw [Bool.and_eq_true, Bool.and_eq_true] at h'
    cases q : bindT t w ρ with
    | none => rw [q] at e'; cases e'
    | some ρ1 =>
      rw [q] at e'
      exact congrArg (· + 1) (bindTs_len e' h'.2.2)
theorem reps_vs {Y : Ax} {H : Hp} {μ : Mu} : ∀ {ps : List PyData} {vs : List V}, Reps Y.K H μ ps vs → RepVs Y H μ (ps.map Val.d) vs
  | [], _, h => by cases h; exact .nil
  | p :: ps, _, h => by
    cases h with
    | cons h1 h2 => exact .cons h1 (reps_vs h2)
/-- names that may be stored to -/
def FnOn (X : Cx) (fs : Scope) : Prop := ∀ x : Str, (fs.names.lookup x = some .local ∨ fs.names.lookup x = some .cell) → X.fn x = true ∨ X.env.scope.names.lookup x = some .local
theorem name_of {N : List Str} {sc : Scope} {i : Nat} {e : Expr} (h : mT N sc (.n i) e = true) : ∃ x p, e = .Name x p ∧ N[i]? = some x ∧ (sc.names.lookup x = some .local ∨ sc.names.lookup x = some .cell) := by
  unfold mT at h
  split at h
  · rename_i x p
    rw [Bool.and_eq_true] at h
    refine ⟨x, p, rfl, of_decide_eq_true h.1, ?_⟩
    have h2 := h.2
    split at h2 <;> first | exact .inl (by assumption) | exact .inr (by assumption) | cases h2
  · cases h
theorem tup_of {N : List Str} {sc : Scope} {ts : Tgs} {e : Expr} (h : mT N sc (.t ts) e = true) : ∃ es k p, e = .Tuple es k p ∧ mTs N sc ts es = true := by
  unfold mT at h
  split at h
  · exact ⟨_, _, _, rfl, h⟩
  · cases h
section
variable {X : Cx} {Y : Ax} {fs : Scope}
mutual
theorem s_tg (hK : Y.K = X.K) (hN : X.N.Nodup) (hc : X.calm = true) (hf : FnOn X fs) : ∀ (t : Tg) (e : Expr), mT X.N X.env.scope t e = true → mT X.N fs t e = true → PG X e (gT Y t)
  | .n i, e, h, hfs => by
    obtain ⟨x, p, rfl, hi, hx⟩ := name_of h
    obtain ⟨y, p', e2, _, hy⟩ := name_of hfs
    cases e2
    refine (pg_name hN hi hx (hf _ hy)).imp fun v σ H Q k => ?_
    obtain ⟨μ, w, ρ, ρ', r, er, eb, q⟩ := k
    cases eb
    refine q _ (er.set i r) ⟨by simp, fun j hj => ?_⟩
    exact List.getElem?_set_ne (by intro z; exact hj (by simp [Tg.sl, z]))
  | .t ts, e, h, hfs => by
    obtain ⟨es, k, p, rfl, h1⟩ := tup_of h
    obtain ⟨es', k', p', e2, h2⟩ := tup_of hfs
    cases e2
    refine (pg_tup (n := es.length) hc (s_tgs hK hN hc hf ts es h1 h2) (assignEach_len es X.env) (noStar_find es X.env (mTs_len h1))).imp fun v σ H Q k => ?_
    obtain ⟨μ, w, ρ, ρ', r, er, eb, q⟩ := k
    cases w with
    | d d =>
      cases d with
      | tuple ps =>
        cases (show Rep Y.K H μ (.tuple ps) v from r) with
        | tup ha hr =>
          rename_i a vs
          have eb : bindTs ts (ps.map Val.d) ρ = some ρ' := eb
          refine ⟨a, vs, rfl, ?_, ?_, μ, ps.map Val.d, ρ, ρ', reps_vs hr, er, eb, q⟩
          · rw [← hK]
            exact ha.sq
          · have := bindTs_len eb h1
            rw [List.length_map] at this
            rw [← hr.length]
            exact this
      | _ => cases eb
    | _ => cases eb
theorem s_tgs (hK : Y.K = X.K) (hN : X.N.Nodup) (hc : X.calm = true) (hf : FnOn X fs) : ∀ (ts : Tgs) (es : List Expr), mTs X.N X.env.scope ts es = true → mTs X.N fs ts es = true → PGs X es (gTs Y ts)
  | .nil, [], _, _ => by
    refine pgs_nil.imp fun vs σ H Q k => ?_
    obtain ⟨μ, ws, ρ, ρ', r, er, eb, q⟩ := k
    cases ws with
    | nil =>
      cases eb
      cases r
      exact ⟨rfl, q σ er (Off.refl _ _)⟩
    | cons _ _ => cases eb
  | .nil, _ :: _, h, _ => by cases h
  | .cons _ _, [], h, _ => by cases h
  | .cons t ts, e :: es, h, hfs => by
    have h' : (notStar e && (mT X.N X.env.scope t e && mTs X.N X.env.scope ts es)) = true := h
    have hfs' : (notStar e && (mT X.N fs t e && mTs X.N fs ts es)) = true := hfs
    rw [Bool.and_eq_true, Bool.and_eq_true] at h' hfs'
    refine (pgs_cons (s_tg hK hN hc hf t e h'.2.1 hfs'.2.1) (s_tgs hK hN hc hf ts es h'.2.2 hfs'.2.2) (by rw [notStar_assign h'.1] <;> rfl)).imp fun vs σ H Q k => ?_
    obtain ⟨μ, ws, ρ, ρ', r, er, eb, q⟩ := k
    cases ws with
    | nil => cases eb
    | cons w ws =>
      cases r with
      | cons r1 r2 =>
        have eb : (match bindT t w ρ with
          | some ρ1 => bindTs ts ws ρ1
          | none => none) = some ρ' := eb
        cases q1 : bindT t w ρ with
        | none => rw [q1] at eb; cases eb
        | some ρ1 =>
          rw [q1] at eb
          exact ⟨_, _, rfl, μ, w, ρ, ρ1, r1, er, q1, fun σ1 er1 o1 => ⟨μ, ws, ρ1, ρ', r2, er1, eb, fun σ2 er2 o2 => q σ2 er2 (o1.trans o2)⟩⟩
end
end

/-! ### what is walked -/
/-- J walks xs, whatever is kept -/
def Wk (Y : Ax) (H : Hp) (μ : Mu) (xs : List PyData) (J : L2.It) : Prop := xs.length ≤ sizeLine ∧ ∀ H' μ', Ext0 μ H μ' H' → Frs μ' H' →
  (∀ (i : Nat) (p : PyData), xs[i]? = some p → J.go i H' ∧ ∀ x H'', J.yld i H' x H'' → Gro H' H'' ∧ Rep Y.K H'' μ' p x) ∧ J.stop xs.length H'
abbrev tI (Y : Ax) (W : WX) (m : En → Hh → Res (List PyData)) : TI := fun σ H R => tR Y W (Wk Y) m σ H R
theorem _root_.L2.PI.imp {X : Cx} {tg e : Expr} {t t' : TI} (h : PI X tg e t) (k : ∀ σ H R, t' σ H R → t σ H R) : PI X tg e t' := ⟨fun pins s σ H R I q => h.run pins s σ H R I (k σ H R q)⟩
section
variable {X : Cx} {tg : Expr}
/-- over a list or a tuple -/
theorem pi_seq {l : Expr} {tl : TE} (hl : PE X l tl) : PI X tg l (fun σ H R => tl σ H fun x H1 => ∃ a xs, x = .ref a ∧ xs.length ≤ sizeLine ∧ ((SqL X.K H1 a xs ∧ R (Itl X.K a) H1) ∨ (SqT X.K H1 a xs ∧ R (Itt X.K a) H1))) := by
  refine ⟨fun pins s σ H R I h => ?_⟩
  refine thn (hl.run pins s σ H _ I h) fun v s1 ⟨x, H1, I1, r1, q1⟩ => ?_
  obtain ⟨a, xs, e, _, ⟨hq, q⟩ | ⟨hq, q⟩⟩ := q1
  · subst e
    cases r1
    obtain ⟨its, rv, p, hz⟩ := I1.list hq
    refine wpAny_pyIter_list p.isList ?_
    refine ⟨s1.heap.objs.size, [s1.heap.objs.size], _, _, H1, rfl, I1.kept (t' := s1.toks) fun b o e => Heap.get?_push_of_some _ e, turn_list a _, ⟨_, Heap.get?_push_size _ rfl, rfl, rfl⟩, fun b hb => ?_, q⟩
    have e : b = s1.heap.objs.size := by simpa using hb
    subst e
    exact I1.fpOk (Nat.le_refl _) (I1.hok.fresh (Nat.le_refl _))
  · subst e
    cases r1
    obtain ⟨its, rv, p, hz⟩ := I1.tuple hq
    refine wpAny_pyIter_tuple (show s1.heap.IsTuple a its.toArray from p) ?_
    refine ⟨s1.heap.objs.size, [s1.heap.objs.size], _, _, H1, rfl, I1.kept (t' := s1.toks) fun b o e => Heap.get?_push_of_some _ e, turn_tuple a _, ⟨_, Heap.get?_push_size _ rfl, rfl, rfl⟩, fun b hb => ?_, q⟩
    have e : b = s1.heap.objs.size := by simpa using hb
    subst e
    exact I1.fpOk (Nat.le_refl _) (I1.hok.fresh (Nat.le_refl _))
/-- the sizes that the state itself tells -/
theorem pe_sized {e : Expr} {t : TE} (h : PE X e t) : PE X e (fun σ H Q => t σ H fun v H1 => (∀ a xs, v = .ref a → SqL X.K H1 a xs ∨ SqT X.K H1 a xs → xs.length ≤ sizeLine) → Q v H1) := by
  refine ⟨fun pins s σ H Q I hq => ?_⟩
  refine thn (h.run pins s σ H _ I hq) fun u s1 ⟨v, H1, I1, r, q⟩ => ⟨v, H1, I1, r, q fun a xs _ hs => ?_⟩
  rcases hs with hs | hs
  · obtain ⟨_, _, _, hz⟩ := I1.list hs
    exact hz
  · obtain ⟨_, _, _, hz⟩ := I1.tuple hs
    exact hz
end
section
variable {X : Cx} {Y : Ax} {W : WX} {tg a b c : Expr} {ma mb mc : En → Hh → Res Val} {pos : Pos}
abbrev iE (ma : En → Hh → Res Val) : En → Hh → Res (List PyData) := fun ρ h => (ma ρ h).bd fun v h1 => (match v with
    | .d p => (match itemsF p with
      | some ps => .ok ps h1
      | none => .bad)
    | _ => .bad)
theorem wk_list {H : Hp} {μ : Mu} {a : Addr} {vs : List V} {ps : List PyData} (hK : Y.K = X.K) (hz : vs.length ≤ sizeLine) (n : Nin μ a) (ha : H a = some (.lst vs)) (hr : Reps Y.K H μ ps vs) : Wk Y H μ ps (Itl X.K a) := by
  refine ⟨by rw [hr.length]; exact hz, fun H' μ' e _ => ?_⟩
  obtain ⟨h1, _⟩ := e.keep a _ ha n (fun q z => by cases z)
  have hr' := Reps.ext0 e _ _ hr
  refine ⟨fun i p hp => ?_, ?_⟩
  · obtain ⟨v, e1, e2⟩ := hr'.get hp
    refine ⟨⟨vs, v, SqL.of h1, e1⟩, fun x H'' y => ?_⟩
    obtain ⟨rfl, y⟩ := y
    have := y vs (SqL.of h1)
    rw [e1] at this
    cases this
    exact ⟨.refl _, e2⟩
  · rw [hr.length]
    exact ⟨vs, SqL.of h1, Nat.le_refl _⟩
theorem tupA_ext {H H' : Hp} {μ μ' : Mu} {a : Addr} {vs : List V} {K : PySem.W.Frag} (e : Ext0 μ H μ' H') (h : TupA K H μ a vs) : TupA K H' μ' a vs := by
  rcases h with ⟨n, h⟩ | h
  · obtain ⟨h1, n1⟩ := e.keep a _ h n (fun q z => by cases z)
    exact .inl ⟨n1, h1⟩
  · exact .inr h
theorem wk_tup {H : Hp} {μ : Mu} {a : Addr} {vs : List V} {ps : List PyData} (hK : Y.K = X.K) (hz : vs.length ≤ sizeLine) (ha : TupA Y.K H μ a vs) (hr : Reps Y.K H μ ps vs) : Wk Y H μ ps (Itt X.K a) := by
  refine ⟨by rw [hr.length]; exact hz, fun H' μ' e _ => ?_⟩
  have h1 := (tupA_ext e ha).sq
  rw [hK] at h1
  have hr' := Reps.ext0 e _ _ hr
  refine ⟨fun i p hp => ?_, ?_⟩
  · obtain ⟨v, e1, e2⟩ := hr'.get hp
    refine ⟨⟨vs, v, h1, e1⟩, fun x H'' y => ?_⟩
    obtain ⟨rfl, y⟩ := y
    have := y vs h1
    rw [e1] at this
    cases this
    exact ⟨.refl _, e2⟩
  · rw [hr.length]
    exact ⟨vs, h1, Nat.le_refl _⟩
theorem si_e (hK : Y.K = X.K) (ha : PE X a (tG Y W ma)) : PI X tg a (tI Y W (iE ma)) := by
  refine (pi_seq (pe_sized ha)).imp fun σ H R p => ?_
  obtain ⟨μ, ρ, h, R0, er, hm⟩ := p
  refine ⟨μ, ρ, h, R0, er, Post.mono (Post.bd hm) fun v H1 ⟨μ1, h1, w, R1, e1, r, q⟩ hz => ?_⟩
  cases w with
  | d p =>
    cases p with
    | list ps =>
      cases (show Rep Y.K H1 μ1 (.list ps) v from r) with
      | lst n ha hr =>
        have z := hz _ _ rfl (.inl (SqL.of ha))
        exact ⟨_, _, rfl, z, .inl ⟨SqL.of ha, Post.here (w := ps) R1 q (wk_list hK z n ha hr)⟩⟩
    | tuple ps =>
      cases (show Rep Y.K H1 μ1 (.tuple ps) v from r) with
      | tup ha hr =>
        have hs := ha.sq
        rw [hK] at hs
        have z := hz _ _ rfl (.inr hs)
        exact ⟨_, _, rfl, z, .inr ⟨hs, Post.here (w := ps) R1 q (wk_tup hK z ha hr)⟩⟩
    | _ => exact q.elim
  | _ => exact q.elim

theorem rngF_get {lo : Int} {n i : Nat} {p : PyData} (h : (rngF lo n)[i]? = some p) : i < n ∧ p = .int (lo + (i : Int)) := by
  unfold rngF at h
  rw [List.getElem?_map] at h
  cases q : (List.range n)[i]? with
  | none => rw [q] at h; cases h
  | some k =>
    rw [q] at h
    obtain ⟨h1, h2⟩ := List.getElem?_eq_some_iff.mp q
    rw [List.getElem_range] at h2
    subst h2
    rw [List.length_range] at h1
    exact ⟨h1, (Option.some.inj h).symm⟩
theorem rngDn_get {lo : Int} {n i : Nat} {p : PyData} (h : (rngDn lo n)[i]? = some p) : i < n ∧ p = .int (lo - (i : Int)) := by
  unfold rngDn at h
  rw [List.getElem?_map] at h
  cases q : (List.range n)[i]? with
  | none => rw [q] at h; cases h
  | some k =>
    rw [q] at h
    obtain ⟨h1, h2⟩ := List.getElem?_eq_some_iff.mp q
    rw [List.getElem_range] at h2
    subst h2
    rw [List.length_range] at h1
    exact ⟨h1, (Option.some.inj h).symm⟩
theorem rngF_len (lo : Int) (n : Nat) : (rngF lo n).length = n := by unfold rngF; rw [List.length_map, List.length_range]
theorem rngDn_len (lo : Int) (n : Nat) : (rngDn lo n).length = n := by unfold rngDn; rw [List.length_map, List.length_range]
theorem wk_rng {H : Hp} {μ : Mu} {lo : Int} {n : Nat} (hn : n ≤ big) : Wk Y H μ (rngF lo n) (Itr lo n) := by
  refine ⟨by rw [rngF_len]; exact Nat.le_trans hn big_line, fun H' μ' e _ => ⟨fun i p hp => ?_, ?_⟩⟩
  · obtain ⟨h1, rfl⟩ := rngF_get hp
    refine ⟨h1, fun x H'' y => ?_⟩
    obtain ⟨rfl, rfl⟩ := y
    exact ⟨.refl _, .int _⟩
  · rw [rngF_len]
    exact Nat.le_refl _
theorem wk_rngDn {H : Hp} {μ : Mu} {lo : Int} {n : Nat} (hn : n ≤ big) : Wk Y H μ (rngDn lo n) (Itc lo (-1) n) := by
  refine ⟨by rw [rngDn_len]; exact Nat.le_trans hn big_line, fun H' μ' e _ => ⟨fun i p hp => ?_, ?_⟩⟩
  · obtain ⟨h1, rfl⟩ := rngDn_get hp
    refine ⟨h1, fun x H'' y => ?_⟩
    obtain ⟨rfl, rfl⟩ := y
    have : lo + (i : Int) * -1 = lo - (i : Int) := by omega
    rw [this]
    exact ⟨.refl _, .int _⟩
  · rw [rngDn_len]
    exact Nat.le_refl _
theorem small_of {i : Int} (h : small i = true) : -(2 ^ 62) ≤ i ∧ i < 2 ^ 62 := by
  unfold small at h
  rw [Bool.and_eq_true] at h
  exact ⟨of_decide_eq_true h.1, of_decide_eq_true h.2⟩
abbrev iR1 (ma : En → Hh → Res Val) : En → Hh → Res (List PyData) := fun ρ h => asI (ma ρ h) fun j h1 => if small j && decide (j.toNat ≤ big) then .ok (rngF 0 j.toNat) h1 else .bad
theorem si_r1 {p : Pos} (hs : notStar a = true) (hg : glB X.env.scope "range" = true) (hm : X.mg "range" = none) (ha : PE X a (tG Y W ma)) : PI X tg (.Call (.Name "range" p) [a] [] pos) (tI Y W (iR1 ma)) := by
  refine (pi_range1 (gl_of hg) hm (pa_cons ha pa_nil (notStar_cons hs)) (notStar_cons hs)).imp fun σ H R p => ?_
  obtain ⟨μ, ρ, h, R0, er, hm⟩ := p
  refine ⟨μ, ρ, h, R0, er, Post.mono (Post.asI hm) fun v H1 ⟨j, ev, μ1, h1, R1, e1, q⟩ => ?_⟩
  subst ev
  by_cases c : (small j && decide (j.toNat ≤ big)) = true
  · rw [if_pos c] at q
    rw [Bool.and_eq_true] at c
    obtain ⟨c1, c2⟩ := small_of c.1
    exact ⟨j, rfl, c1, c2, Post.here (w := rngF 0 j.toNat) R1 q (wk_rng (of_decide_eq_true c.2))⟩
  · rw [if_neg c] at q
    exact q.elim
abbrev iR2 (ma mb : En → Hh → Res Val) : En → Hh → Res (List PyData) := fun ρ h => asI (ma ρ h) fun i h1 => asI (mb ρ h1) fun j h2 => if small i && small j && decide ((j - i).toNat ≤ big) then .ok (rngF i (j - i).toNat) h2 else .bad
theorem si_r2 {p : Pos} (hs : notStar a = true) (hs' : notStar b = true) (hg : glB X.env.scope "range" = true) (hm : X.mg "range" = none) (ha : PE X a (tG Y W ma)) (hb : PE X b (tG Y W mb)) : PI X tg (.Call (.Name "range" p) [a, b] [] pos) (tI Y W (iR2 ma mb)) := by
  refine (pi_range2 (gl_of hg) hm (pa_cons ha (pa_cons hb pa_nil (notStar_cons hs')) (notStar_cons hs)) (by rw [notStar_cons hs, notStar_cons hs'] <;> rfl) (by rw [notStar_cons hs'] <;> rfl)).imp fun σ H R p => ?_
  obtain ⟨μ, ρ, h, R0, er, hm⟩ := p
  refine ⟨μ, ρ, h, R0, er, Post.mono (Post.asI hm) fun v H1 ⟨i, ev, μ1, h1, R1, e1, q⟩ => ?_⟩
  subst ev
  refine ⟨μ1, ρ, h1, R1, er.ext e1, Post.mono (Post.asI q) fun v H2 ⟨j, ev, μ2, h2, R2, e2, q⟩ => ?_⟩
  subst ev
  by_cases c : (small i && small j && decide ((j - i).toNat ≤ big)) = true
  · rw [if_pos c] at q
    rw [Bool.and_eq_true, Bool.and_eq_true] at c
    obtain ⟨c1, c2⟩ := small_of c.1.1
    obtain ⟨c3, c4⟩ := small_of c.1.2
    exact ⟨i, j, rfl, ⟨c1, c2, c3, c4⟩, Post.here (w := rngF i (j - i).toNat) R2 q (wk_rng (of_decide_eq_true c.2))⟩
  · rw [if_neg c] at q
    exact q.elim
abbrev iR3 (ma mb mc : En → Hh → Res Val) : En → Hh → Res (List PyData) := fun ρ h => asI (ma ρ h) fun i h1 => asI (mb ρ h1) fun j h2 => asI (mc ρ h2) fun k h3 =>
      if small i && small j && decide (k = -1) && decide ((i - j).toNat ≤ big) then .ok (rngDn i (i - j).toNat) h3 else .bad
theorem si_r3 {p : Pos} (hs : notStar a = true) (hs' : notStar b = true) (hs'' : notStar c = true) (hg : glB X.env.scope "range" = true) (hm : X.mg "range" = none) (ha : PE X a (tG Y W ma)) (hb : PE X b (tG Y W mb)) (hc : PE X c (tG Y W mc)) :
    PI X tg (.Call (.Name "range" p) [a, b, c] [] pos) (tI Y W (iR3 ma mb mc)) := by
  refine (pi_range3 (gl_of hg) hm (pa_cons ha (pa_cons hb (pa_cons hc pa_nil (notStar_cons hs'')) (notStar_cons hs')) (notStar_cons hs)) (notStar_cons hs) (noStars _ _ _ (by
    intro y hy
    rcases List.mem_cons.mp hy with rfl | hy
    · exact hs'
    · rcases List.mem_cons.mp hy with rfl | hy
      · exact hs''
      · cases hy))).imp fun σ H R p => ?_
  obtain ⟨μ, ρ, h, R0, er, hm⟩ := p
  refine ⟨μ, ρ, h, R0, er, Post.mono (Post.asI hm) fun v H1 ⟨i, ev, μ1, h1, R1, e1, q⟩ => ?_⟩
  subst ev
  refine ⟨μ1, ρ, h1, R1, er.ext e1, Post.mono (Post.asI q) fun v H2 ⟨j, ev, μ2, h2, R2, e2, q⟩ => ?_⟩
  subst ev
  refine ⟨μ2, ρ, h2, R2, (er.ext e1).ext e2, Post.mono (Post.asI q) fun v H3 ⟨k, ev, μ3, h3, R3, e3, q⟩ => ?_⟩
  subst ev
  by_cases c : (small i && small j && decide (k = -1) && decide ((i - j).toNat ≤ big)) = true
  · rw [if_pos c] at q
    rw [Bool.and_eq_true, Bool.and_eq_true, Bool.and_eq_true] at c
    obtain ⟨c1, c2⟩ := small_of c.1.1.1
    obtain ⟨c3, c4⟩ := small_of c.1.1.2
    have ek : k = -1 := of_decide_eq_true c.1.2
    subst ek
    exact ⟨i, j, -1, _, rfl, RgC.neg c1 c2 c3 c4, Post.here (w := rngDn i (i - j).toNat) R3 q (wk_rngDn (of_decide_eq_true c.2))⟩
  · rw [if_neg c] at q
    exact q.elim
abbrev iZ (ma mb : En → Hh → Res Val) : En → Hh → Res (List PyData) := fun ρ h => (ma ρ h).bd fun x h1 => (mb ρ h1).bd fun y h2 => (match x, y with
    | .d (.list ps), .d (.list qs) => .ok ((ps.zip qs).map fun z => .tuple [z.1, z.2]) h2
    | _, _ => .bad)
theorem wk_zip {H : Hp} {μ : Mu} {a b : Addr} {vs us : List V} {ps qs : List PyData} (hK : Y.K = X.K) (hz : vs.length ≤ sizeLine) (n : Nin μ a) (ha : H a = some (.lst vs)) (hr : Reps Y.K H μ ps vs) (n' : Nin μ b) (hb : H b = some (.lst us)) (hr' : Reps Y.K H μ qs us) :
    Wk Y H μ ((ps.zip qs).map fun z => .tuple [z.1, z.2]) (Itz X.K a b) := by
  have hl : ((ps.zip qs).map fun z => PyData.tuple [z.1, z.2]).length = min ps.length qs.length := by rw [List.length_map, List.length_zip]
  have h1l := hr.length
  have h2l := hr'.length
  refine ⟨by rw [hl]; omega, fun H' μ' e f => ?_⟩
  obtain ⟨h1, _⟩ := e.keep a _ ha n (fun q z => by cases z)
  obtain ⟨h2, _⟩ := e.keep b _ hb n' (fun q z => by cases z)
  have r1 := Reps.ext0 e _ _ hr
  have r2 := Reps.ext0 e _ _ hr'
  refine ⟨fun i p hp => ?_, ?_⟩
  · rw [List.getElem?_map] at hp
    cases q : (ps.zip qs)[i]? with
    | none => rw [q] at hp; cases hp
    | some z =>
      rw [q] at hp
      obtain ⟨e1, e2⟩ := List.getElem?_zip_eq_some.mp q
      obtain ⟨v, f1, f2⟩ := r1.get e1
      obtain ⟨u, g1, g2⟩ := r2.get e2
      refine ⟨⟨vs, us, v, u, SqL.of h1, SqL.of h2, f1, g1⟩, fun x H'' y => ?_⟩
      obtain ⟨T, x1, y1, rfl, hT, rfl, k1, k2⟩ := y
      have e3 := k1 vs (SqL.of h1)
      have e4 := k2 us (SqL.of h2)
      rw [f1] at e3
      rw [g1] at e4
      cases e3
      cases e4
      cases hp
      have gx := (Gro.new (o := .tup [v, u]) hT).ext μ'
      exact ⟨.new hT, .tup (.inl ⟨f T hT, upd_same⟩) (.cons (Rep.ext gx _ _ f2) (.cons (Rep.ext gx _ _ g2) .nil))⟩
  · rw [hl]
    refine ⟨vs, us, SqL.of h1, SqL.of h2, ?_⟩
    omega
theorem isTup_of {e : Expr} (h : isTup e = true) : ∃ es k p, e = .Tuple es k p := by
  cases e <;> first | exact ⟨_, _, _, rfl⟩ | cases h
theorem si_zip {p : Pos} (hK : Y.K = X.K) (ht : isTup tg = true) (hs : notStar a = true) (hs' : notStar b = true) (hg : glB X.env.scope "zip" = true) (hm : X.mg "zip" = none) (ha : PE X a (tG Y W ma)) (hb : PE X b (tG Y W mb)) : PI X tg (.Call (.Name "zip" p) [a, b] [] pos) (tI Y W (iZ ma mb)) := by
  obtain ⟨es, k, tp, rfl⟩ := isTup_of ht
  refine (pi_zip (gl_of hg) hm (pa_cons (pe_sized ha) (pa_cons hb pa_nil (notStar_cons hs')) (notStar_cons hs)) (notStar_cons hs) (noStars _ _ _ (by
    intro y hy
    rcases List.mem_cons.mp hy with rfl | hy
    · exact hs'
    · cases hy))).imp fun σ H R p => ?_
  obtain ⟨μ, ρ, h, R0, er, hm⟩ := p
  refine ⟨μ, ρ, h, R0, er, Post.mono (Post.bd hm) fun v H1 ⟨μ1, h1, w1, R1, e1, r1, q⟩ hz => ?_⟩
  refine ⟨μ1, ρ, h1, R1, er.ext e1, Post.mono (Post.bd q) fun u H2 ⟨μ2, h2, w2, R2, e2, r2, q⟩ => ?_⟩
  have r1' := r1.ext e2
  cases w1 with
  | d p1 =>
    cases p1 with
    | list ps =>
      cases w2 with
      | d p2 =>
        cases p2 with
        | list qs =>
          cases (show Rep Y.K H1 μ1 (.list ps) v from r1) with
          | lst n ha hr =>
            rename_i a vs
            obtain ⟨hb, n2⟩ := e2.keep _ _ ha n (fun q z => by cases z)
            have hr2 := Reps.ext e2 _ _ hr
            cases (show Rep Y.K H2 μ2 (.list qs) u from r2) with
            | lst n' ha' hr' =>
              have z := hz _ _ rfl (.inl (SqL.of ha))
              exact ⟨_, _, _, _, rfl, SqL.of hb, SqL.of ha', Post.here (w := (ps.zip qs).map fun z => PyData.tuple [z.1, z.2]) R2 q (wk_zip hK z n2 hb hr2 n' ha' hr')⟩
        | _ => exact q.elim
      | _ => exact q.elim
    | _ =>
      cases w2 with
      | d p2 => cases p2 <;> exact q.elim
      | _ => exact q.elim
  | _ =>
    cases w2 with
    | d p2 => cases p2 <;> exact q.elim
    | _ => exact q.elim
end
end MP
end
section
set_option Elab.async false
set_option linter.all false
set_option autoImplicit false
set_option maxRecDepth 100000
set_option maxHeartbeats 4000000
/-! Mini: comprehensions, calls, changes of cells. -/
namespace MP
open PySem PySem.Spec PyProof.Rows L2

theorem wipeE_get {ρ : En} {i : Nat} {w : Val} : ∀ {own : List (Str × Nat)}, (wipeE ρ own)[i]? = some (some w) → ρ[i]? = some (some w) ∧ i ∉ own.map (·.2)
  | [], h => ⟨h, by simp⟩
  | p :: r, h => by
    have h : ((wipeE ρ r).set p.2 none)[i]? = some (some w) := h
    by_cases hi : p.2 = i
    · subst hi
      by_cases hl : p.2 < (wipeE ρ r).length
      · rw [List.getElem?_set_self hl] at h
        cases h
      · rw [List.getElem?_eq_none (by simp; omega)] at h
        cases h
    · rw [List.getElem?_set_ne hi] at h
      obtain ⟨h1, h2⟩ := wipeE_get h
      refine ⟨h1, ?_⟩
      rw [List.map_cons, List.mem_cons, not_or]
      exact ⟨fun e => hi e.symm, h2⟩
theorem wipeE_len (ρ : En) : ∀ own : List (Str × Nat), (wipeE ρ own).length = ρ.length
  | [] => rfl
  | p :: r => by
    show ((wipeE ρ r).set p.2 none).length = _
    rw [List.length_set, wipeE_len ρ r]
section
variable {Y : Ax} {μ : Mu} {H : Hp} {ρ : En} {σ : L2.St}
theorem ER.wipe (er : ER Y μ H ρ σ) (own : List (Str × Nat)) : ER Y μ H (wipeE ρ own) (L2.wipe σ (own.map (·.2))) := by
  refine ⟨by rw [wipeE_len, wipe_length]; exact er.len, fun i w e => ?_⟩
  obtain ⟨h1, h2⟩ := wipeE_get e
  obtain ⟨v, e1, e2⟩ := er.get i w h1
  exact ⟨v, by rw [wipe_out h2]; exact e1, e2⟩
end
theorem wipe_in {σ : L2.St} {j : Nat} : ∀ {vs : List Nat}, j ∈ vs → j < σ.length → (L2.wipe σ vs)[j]? = some none
  | v :: vs, h, hl => by
    show ((L2.wipe σ vs).set v none)[j]? = some none
    by_cases e : v = j
    · subst e
      rw [List.getElem?_set_self (by rw [wipe_length]; exact hl)]
    · rw [List.getElem?_set_ne e]
      rcases List.mem_cons.mp h with z | z
      · exact absurd z.symm e
      · exact wipe_in z hl
theorem wipe_off {σ σ2 : L2.St} {ls vs : List Nat} (o : Off ls (L2.wipe σ vs) σ2) (hs : ∀ i ∈ ls, i ∈ vs) : L2.wipe σ2 vs = L2.wipe σ vs := by
  have hl : σ2.length = σ.length := o.1.trans (wipe_length σ vs)
  apply List.ext_getElem?
  intro j
  by_cases hj : j ∈ vs
  · by_cases h : j < σ.length
    · rw [wipe_in hj (by rw [hl]; exact h), wipe_in hj h]
    · rw [List.getElem?_eq_none (by rw [wipe_length, hl]; omega), List.getElem?_eq_none (by rw [wipe_length]; omega)]
  · rw [wipe_out hj]
    exact o.2 j fun z => hj (hs j z)
abbrev W0 : WX := fun _ _ _ _ => False
abbrev lcFF (own : List (Str × Nat)) (tg : Tg) (mi : En → Hh → Res (List PyData)) (mt me : En → Hh → Res Val) : En → Hh → Res Val := fun ρ h => (mi ρ h).bd fun xs h1 => (compF (lcG own tg mt me ρ) xs h1).bd fun ys h5 => .ok (.d (.list ys)) h5
theorem nox_ok {α : Type} {r : Res α} {a : α} {h : Hh} (e : r.nox = .ok a h) : r = .ok a h := by
  cases r with
  | ok b k => exact e
  | exc c k => cases e
  | bad => cases e
theorem nox_exc {α : Type} {r : Res α} {c : Nat} {h : Hh} (e : r.nox = .exc c h) : False := by
  cases r with
  | ok b k => cases e
  | exc c k => cases e
  | bad => cases e
theorem drop_get {α : Type} {xs : List α} {i : Nat} (h : i < xs.length) : ∃ x, xs[i]? = some x ∧ xs.drop i = x :: xs.drop (i + 1) := ⟨xs[i], by simp [h], List.drop_eq_getElem_cons h⟩
section
variable {X : Cx} {Y : Ax} {W : WX} {tgE iter elt : Expr} {ifs : List Expr} {scope : Scope} {own : List (Str × Nat)} {tg : Tg} {mi : En → Hh → Res (List PyData)} {mt me : En → Hh → Res Val}
/-- the turns -/
theorem lc_imp (hs : ∀ i ∈ tg.sl, i ∈ own.map (·.2)) (σ : L2.St) (H : Hp) (Q : VK) (p : tG Y W (lcFF own tg mi mt me) σ H Q) : tLc (tI Y W mi) (gT Y tg) (tGT Y W0 mt) (tG Y W0 me) (own.map (·.2)) σ H Q := by
  obtain ⟨μ, ρ, h, R0, er, hm⟩ := p
  refine ⟨μ, ρ, h, R0, er, Post.mono (Post.bd hm) fun J H1 ⟨μ1, h1, xs, R1, e1, wk, q⟩ D hD => ?_⟩
  have hDg : D ∉ μ1.g := (R1.nin hD).2
  refine ⟨fun i m H' => m = xs.length - i ∧ i ≤ xs.length ∧ ∃ μ' h' ys vs, μ'.g = D :: μ1.g ∧ HR Y μ' h' H' ∧ Ext0 μ1 H1 μ' H' ∧ (∀ a ∈ μ1.g, ∀ o, H1 a = some o → H' a = some o) ∧ H' D = some (.lst vs) ∧ Reps Y.K H' μ' ys vs ∧ ys.length ≤ i ∧
    Post Y W (RepV Y) σ μ1 H1 ((compF (lcG own tg mt me ρ) (xs.drop i) h').bd fun zs h5 => .ok (.d (.list (ys ++ zs))) h5) Q, ?_, ?_⟩
  · refine ⟨_, rfl, Nat.zero_le _, μ1.hide D, h1, [], [], rfl, R1.hide hD, Ext0.hide hD, fun a ha o hq => by rw [upd_ne (ne_of_none hq hD)]; exact hq, upd_same, .nil, Nat.zero_le _, ?_⟩
    rw [List.drop_zero]
    exact q
  · rintro i m H' ⟨rfl, hi, μ', h', ys, vs, hg', R', x0, xg, hDv, rs, hyl, pq⟩
    have hDm : D ∈ μ'.g := by rw [hg']; exact List.mem_cons_self
    obtain ⟨step, stop⟩ := wk.2 H' μ' x0 R'.frs
    by_cases hlt : i < xs.length
    · obtain ⟨x, hx, hdr⟩ := drop_get hlt
      obtain ⟨go, yld⟩ := step i x hx
      refine .inr ⟨go, fun H'' => i + 1 ≤ xs.length ∧ ∃ μ' h' ys vs, μ'.g = D :: μ1.g ∧ HR Y μ' h' H'' ∧ Ext0 μ1 H1 μ' H'' ∧ (∀ a ∈ μ1.g, ∀ o, H1 a = some o → H'' a = some o) ∧ H'' D = some (.lst vs) ∧ Reps Y.K H'' μ' ys vs ∧ ys.length ≤ i + 1 ∧
        Post Y W (RepV Y) σ μ1 H1 ((compF (lcG own tg mt me ρ) (xs.drop (i + 1)) h').bd fun zs h5 => .ok (.d (.list (ys ++ zs))) h5) Q, fun H'' hN => ⟨xs.length - (i + 1), by omega, rfl, hN.1, hN.2⟩, fun v H2 hy => ?_⟩
      obtain ⟨gr, rx⟩ := yld v H2 hy
      have R2 := R'.gro gr
      have x2 := gr.ext μ'
      rw [hdr] at pq
      have pq : Post Y W (RepV Y) σ μ1 H1 (((lcG own tg mt me ρ x h').bd fun o h2 => (compF (lcG own tg mt me ρ) (xs.drop (i + 1)) h2).bd fun zs h3 => .ok (match o with
        | some y => y :: zs
        | none => zs) h3).bd fun zs h5 => .ok (.d (.list (ys ++ zs))) h5) Q := pq
      -- the target
      cases hb : bindT tg (.d x) (wipeE ρ own) with
      | none =>
        unfold lcG at pq
        rw [hb] at pq
        exact pq.elim
      | some ρ' =>
        have er2 : ER Y μ' H2 (wipeE ρ own) (L2.wipe σ (own.map (·.2))) := (((er.ext e1).ext0 x0).ext x2).wipe own
        refine ⟨μ', .d x, wipeE ρ own, ρ', rx, er2, hb, fun σ2 er3 off => ⟨wipe_off off hs, ?_⟩⟩
        have eG : lcG own tg mt me ρ x h' = (asB (mt ρ' h') fun k h3 => if k then (me ρ' h3).bd fun v h4 => (match v with
            | .d p => .ok (some p) h4
            | _ => .bad) else .ok none h3).nox := by
          unfold lcG
          rw [hb] <;> rfl
        rw [eG, asB_bd] at pq
        refine ⟨μ', ρ', h', R2, er3, ?_⟩
        show Post Y W0 _ σ2 μ' H2 (asB (mt ρ' h') fun k h1 => .ok k h1) _
        cases hmt : (asB (mt ρ' h') fun k h3 => Res.ok k h3) with
        | bad =>
          rw [hmt] at pq
          exact pq.elim
        | exc c k =>
          rw [hmt] at pq
          exact pq.elim
        | ok k h3 =>
          rw [hmt] at pq
          refine fun b H3 μ3 R3 x3 ek => ?_
          subst ek
          have keepD : ∀ {μ4 : Mu} {H4 : Hp}, Ext μ' H2 μ4 H4 → H4 D = some (.lst vs) ∧ μ4.g = D :: μ1.g ∧ Ext0 μ1 H1 μ4 H4 ∧ (∀ a ∈ μ1.g, ∀ o, H1 a = some o → H4 a = some o) ∧ Reps Y.K H4 μ4 ys vs := fun {μ4 H4} x4 => by
            have y4 := x2.trans x4
            exact ⟨y4.kg D hDm _ hDv, y4.gh.trans hg', x0.trans y4.toExt0, fun a ha o hq => y4.kg a (by rw [hg']; exact List.mem_cons_of_mem _ ha) o (xg a ha o hq), Reps.ext y4 _ _ rs⟩
          cases k with
          | false =>
            obtain ⟨z1, z2, z3, z4, z5⟩ := keepD x3
            refine ⟨hlt, μ3, h3, ys, vs, z2, R3, z3, z4, z1, z5, Nat.le_succ_of_le hyl, ?_⟩
            have pq : Post Y W (RepV Y) σ μ1 H1 (((compF (lcG own tg mt me ρ) (xs.drop (i + 1)) h3).bd fun zs h4 => .ok zs h4).bd fun zs h5 => .ok (.d (.list (ys ++ zs))) h5) Q := pq
            cases hc : compF (lcG own tg mt me ρ) (xs.drop (i + 1)) h3 with
            | ok zs h4 => rw [hc] at pq; exact pq
            | exc c h4 => rw [hc] at pq; exact pq
            | bad => rw [hc] at pq; exact pq
          | true =>
            have pq : Post Y W (RepV Y) σ μ1 H1 (((((me ρ' h3).bd fun v h4 => (match v with
                | .d p => .ok (some p) h4
                | _ => .bad)).nox).bd fun o h2 => (compF (lcG own tg mt me ρ) (xs.drop (i + 1)) h2).bd fun zs h3 => .ok (match o with
              | some y => y :: zs
              | none => zs) h3).bd fun zs h5 => .ok (.d (.list (ys ++ zs))) h5) Q := pq
            refine ⟨μ3, ρ', h3, R3, er3.ext x3, ?_⟩
            cases hme : me ρ' h3 with
            | bad =>
              rw [hme] at pq
              exact pq.elim
            | exc c k =>
              rw [hme] at pq
              exact pq.elim
            | ok w h4 =>
              rw [hme] at pq
              cases w with
              | d p =>
                refine fun y H4 μ4 R4 x4 ry => ?_
                obtain ⟨z1, z2, z3, z4, z5⟩ := keepD (x3.trans x4)
                have hDm4 : D ∈ μ4.g := by rw [z2]; exact List.mem_cons_self
                refine ⟨vs, z1, ?_, hlt, μ4, h4, ys ++ [p], vs ++ [y], z2, R4.ghost hDm4, z3.trans (Ext0.ghost hDm4), fun a ha o hq => ?_, upd_same, Reps.ext0 (Ext0.ghost hDm4) _ _ (z5.append (.cons ry .nil)), ?_, ?_⟩
                · rw [← z5.length]
                  exact Nat.lt_of_le_of_lt hyl (Nat.lt_of_lt_of_le hlt wk.1)
                · rw [upd_ne (fun e => hDg (by rw [← e]; exact ha))]
                  exact z4 a ha o hq
                · rw [List.length_append]
                  exact Nat.add_le_add_right hyl 1
                · have pq : Post Y W (RepV Y) σ μ1 H1 (((compF (lcG own tg mt me ρ) (xs.drop (i + 1)) h4).bd fun zs h4 => .ok (p :: zs) h4).bd fun zs h5 => .ok (.d (.list (ys ++ zs))) h5) Q := pq
                  cases hc : compF (lcG own tg mt me ρ) (xs.drop (i + 1)) h4 with
                  | ok zs h5 =>
                    rw [hc] at pq
                    have pq : Post Y W (RepV Y) σ μ1 H1 (.ok (.d (.list (ys ++ p :: zs))) h5) Q := pq
                    show Post Y W (RepV Y) σ μ1 H1 (.ok (.d (.list (ys ++ [p] ++ zs))) h5) Q
                    rw [List.append_assoc]
                    exact pq
                  | exc c h4 => rw [hc] at pq; exact pq
                  | bad => rw [hc] at pq; exact pq
              | _ => exact pq.elim
    · have ei : i = xs.length := by omega
      subst ei
      refine .inl ⟨stop, ?_⟩
      rw [List.drop_length] at pq
      have pq : Post Y W (RepV Y) σ μ1 H1 (.ok (.d (.list (ys ++ []))) h') Q := pq
      rw [List.append_nil] at pq
      have hsub : ∀ a ∈ μ1.g, a ∈ μ'.g := fun a ha => by rw [hg']; exact List.mem_cons_of_mem _ ha
      exact pq (.ref D) H' (μ'.bare μ1.g) (R'.bare hsub) ⟨x0.trans (Ext0.bare hsub), rfl, xg⟩ (Rep.lst ⟨fun j z => R'.dis j D z hDm, hDg⟩ hDv (Reps.ext0 (Ext0.bare hsub) _ _ rs))
theorem folded {e : Expr} {env : Env} (h : notSet e = true) : ∀ x, foldedSetIterable e env x = pure x := by
  intro x
  cases e <;> first | rfl | cases h
theorem s_lc {pos : Pos} (hc : X.calm = true) (hN : X.N.Nodup) (hset : notSet iter = true) (hs : ∀ i ∈ tg.sl, i ∈ own.map (·.2)) (hi : PI X tgE iter (tI Y W mi)) (ok : BlkOk X.N X.env.scope scope own)
    (hg : ∀ (s : Shared) (H : Hp) (C : Addr) (cl : List (Str × Addr)) (fp : List Addr), PG (X.blk s H scope (compEnvC scope cl C X.env) fp) tgE (gT Y tg))
    (ht : ∀ (s : Shared) (H : Hp) (C : Addr) (cl : List (Str × Addr)) (fp : List Addr), PTs (X.blk s H scope (compEnvC scope cl C X.env) fp) ifs (tGT Y W0 mt))
    (he : ∀ (s : Shared) (H : Hp) (C : Addr) (cl : List (Str × Addr)) (fp : List Addr), PE (X.blk s H scope (compEnvC scope cl C X.env) fp) elt (tG Y W0 me)) :
    PE X (.ListComp elt [⟨tgE, iter, ifs, 0⟩] scope pos) (tG Y W (lcFF own tg mi mt me)) :=
  (pe_lc hc hN hi ok hg ht he (folded hset)).imp (lc_imp hs)
end
end MP
end
section
set_option Elab.async false
set_option linter.all false
set_option autoImplicit false
set_option maxRecDepth 100000
set_option maxHeartbeats 4000000
/-! Mini: calls, changes of cells, sorted(set(..)). -/
namespace MP
open PySem PySem.Spec PyProof.Rows L2

/-! ### what a def promises -/
def spF (Y : Ax) (P : Pg) (n f : Nat) : Sp := fun vs H Q E => ∃ μ ws h, HR Y μ h H ∧ RepVs Y H μ ws vs ∧ Post Y (fun cls d _ H' => E cls d H') (RepV Y) [] μ H (callF P.toPc n f ws h) Q
/-- the names of built-ins that a module leaves alone -/
def bltNames : List Str := ["len", "min", "max", "all", "any", "tuple", "list", "int", "bool", "str", "abs", "sum", "isinstance", "range", "zip", "sorted", "set"]
abbrev excB : List Value := [.type "ValueError", .type "Exception", .type "BaseException", .type "object"]
/-- what a lambda's words must be -/
def okF (P : Pg) (ps : List Nat) (b : E) (N : List Str) (F : LF) : Prop := (∃ sc, lamC N sc ps F.params F.scope = true) ∧ mE P.nol N b F.scope F.body = true ∧ N.Nodup
/-- lambdas may be made here -/
def XTb (Y : Ax) (n : Nat) (X : Cx) : Prop := Room (3 * n + 2) X.A ∧ ∃ c T, X.env.code = .ref c ∧ LamX.TabB X.base X.mg c T ∧ (T, X.env.qual ++ "<lambda>") ∈ Y.tb ∧ ∀ p ∈ Y.tb, p.1 = T → p.2 = X.env.qual ++ "<lambda>"
/-- what a closure promises -/
def CloP (Y : Ax) (P : Pg) (n : Nat) (prog : Program) (w : World) (K : PySem.W.Frag) (mg : Str → Option Value) (base : Heap) : Prop :=
  ∀ (A : Around) (outer : List Env) (s : Shared) (H : Hp) (us : List Value) (vs : List V) (ps : List Nat) (b : E) (ρ : En) (f : Addr) (Q : VK) (E : XK), Room (3 * n) A → Env0 prog w K mg base A outer s H → Vals vs us →
    (∃ μ ws h, HR Y μ h H ∧ RepV Y H μ (.clo ps b ρ) (.ref f) ∧ RepVs Y H μ ws vs ∧ Post Y (fun cls d _ H' => E cls d H') (RepV Y) [] μ H ((cfF P.toPc n).clo ps b ρ ws h) Q) →
    codeAny (model prog w) A (.call (.ref f) ⟨us, []⟩) (CR (L2N.CX prog w) outer prog w H s Q E) s
def GrowH (H H' : Hp) : Prop := ∀ b o, H b = some o → H' b = some o
theorem GrowH.refl (H : Hp) : GrowH H H := fun _ _ h => h
theorem GrowH.trans {H H1 H2 : Hp} (a : GrowH H H1) (b : GrowH H1 H2) : GrowH H H2 := fun c o h => b c o (a c o h)
theorem GrowH.upd {H : Hp} {p : Addr} {o : HO} (hp : H p = none) : GrowH H (upd H p o) := fun b u h => by rw [upd_ne (ne_of_none h hp)]; exact h
theorem GrowH.up {H H1 : Hp} {p : Addr} {o : HO} (g : GrowH H H1) (hp : H1 p = none) : GrowH H (L2.upd H1 p o) := fun b u h => by rw [upd_ne (ne_of_none (g b u h) hp)]; exact g b u h
theorem GrowH.put {H H1 : Hp} {p : Addr} {o : HO} (g : GrowH H H1) (hp : H p = none) : GrowH H (L2.upd H1 p o) := fun b u h => by rw [upd_ne (ne_of_none h hp)]; exact g b u h
/-- f may be called, here and later in frames that stand upon outer -/
def CallsOf (prog : Program) (w : World) (K : PySem.W.Frag) (mg : Str → Option Value) (base : Heap) (f : Addr) (S : XK → Hp → VK → Prop) (A : Around) (outer : List Env) (s : Shared) (H : Hp) : Prop :=
  ∀ (env : Env) (s1 : Shared) (E : XK) (Q : VK), A.handled = none → Env0 prog w K mg base (A.deeper env) (env :: outer) s1 H → Un (frs outer) [] H H s.heap s1.heap → s1.heap.NoLimit → S E H Q →
    PySem.W.FnAt f s1.heap ∧ codeAny (model prog w) (A.deeper env) (.call (.ref f) ⟨[], []⟩) (CR (L2N.CX prog w) (env :: outer) prog w H s1 Q E) s1
/-- a try's answer: the value, or the error's name -/
def TrV (t : Nat) (Q : VK) : VK := fun v H => if t = 0 then Q (.str "") H else ∀ p, H p = none → Q (.ref p) (upd H p (.tup [v, .str ""]))
def TrE (Y : Ax) (wd : Nat → Option Str) (t : Nat) (Q : VK) : XK := fun cls d H => ∃ k w, cls = .ref (Y.er k) ∧ d = none ∧ wd k = some w ∧ ∀ H', GrowH H H' → (if t = 0 then Q (.str w) H' else ∀ p, H' p = none → Q (.ref p) (upd H' p (.tup [.non, .str w])))
abbrev noCX : CXT := fun _ _ _ _ _ _ => False
abbrev noE : XK := fun _ _ _ => False
/-- what is more is told -/
def MonoT (S : XK → Hp → VK → Prop) : Prop := ∀ (E E' : XK) (H : Hp) (Q Q' : VK), (∀ c d H, E c d H → E' c d H) → (∀ v H, Q v H → Q' v H) → S E H Q → S E' H Q'
def TryP (Y : Ax) (wd : Nat → Option Str) (t k : Nat) (prog : Program) (w : World) (K : PySem.W.Frag) (mg : Str → Option Value) (base : Heap) : Prop :=
  ∃ g, mg (tnm t) = some (.ref g) ∧ PySem.W.keepIn K (.ref g) = true ∧ ∀ (A : Around) (outer : List Env) (s : Shared) (H : Hp) (f : Addr) (Q : VK) (S : XK → Hp → VK → Prop), Room k A → Env0 prog w K mg base A outer s H →
    MonoT S → CallsOf prog w K mg base f S A outer s H → S (TrE Y wd t Q) H (TrV t Q) → codeAny (model prog w) A (.call (.ref g) ⟨[.ref f], []⟩) (CR noCX outer prog w H s Q noE) s
/-- where code of the language runs -/
structure XOk (Y : Ax) (P : Pg) (n : Nat) (N : List Str) (sc : Scope) (X : Cx) : Prop where
  kK : Y.K = X.K
  nN : X.N = N
  nd : X.N.Nodup
  sc : X.env.scope = sc
  calm : X.calm = true
  room : Room (3 * n) X.A
  blt : ∀ x ∈ bltNames, X.mg x = none
  fns : ∀ f fd, P.fns f = some fd → ∃ a fdat, X.mg fd.name = some (.ref a) ∧ Y.fa f = some a ∧ PySem.W.keepIn X.K (.ref a) = true ∧ Binds X.K fdat fd.ps [] ∧ FnOk X.prog X.w X.K X.mg X.base (L2N.CX X.prog X.w) (3 * n) a fdat fd.ps (spF Y P n f)
  glo : ∀ g q, P.glo g = some q → GloOk X q.1 q.2
  fnd : ∀ f a, Y.fa f = some a → ∃ fd, P.fns f = some fd
  bs : ∀ a, X.base.get? a = Y.bs a
  tb : P.lam N = true → XTb Y n X
  clo : CloP Y P n X.prog X.w X.K X.mg X.base
  ers : ∀ c x, P.ers c = some x → X.mg x = some (.ref (Y.er c)) ∧ PySem.W.excIn X.K (Y.er c) excB "ValueError.__new__" = true ∧ PySem.W.keepIn X.K (.ref (Y.er c)) = true ∧ PySem.W.subIn X.K (.ref (Y.er c)) (.type "BaseException") = some true ∧ PySem.W.typeIn X.K (.ref (Y.er c)) = some (.type "type")
  tr : ∀ t, P.trs t = true → P.lam N = true → TryP Y P.wd t (3 * n + 2) X.prog X.w X.K X.mg X.base
  fnA : P.lam N = true → P.cal = true → ∀ x, X.fn x = true
  mkc : P.lam N = true → ∀ ps b F, okF P ps b N F → Y.ok ps b N F
section
variable {X : Cx} {Y : Ax} {P : Pg} {n : Nat} {N : List Str} {sc : Scope} {W : WX} {pos : Pos}
theorem XOk.u (x : XOk Y P n N sc X) : X.A.units + 65 < cLine := by have := x.room.un; omega
theorem XOk.u64 (x : XOk Y P n N sc X) : X.A.units + 64 < cLine := by have := x.room.un; omega
theorem fnIs_of {f : Nat} {x : Str} (h : fnIs P f x = true) : ∃ fd, P.fns f = some fd ∧ fd.name = x := by
  unfold fnIs at h
  split at h
  · exact ⟨_, by assumption, of_decide_eq_true h⟩
  · cases h
/-- f() -/
theorem pe_call0SD {CX : CXT} {k : Nat} {f : Addr} {fd : FuncData} {ps : List Str} {sp : Sp} {E : L2.St → XK} {x : Str} {p : Pos} (F : FnOk X.prog X.w X.K X.mg X.base CX k f fd ps sp) (hr : Room k X.A) (hg : Gl X x) (hm : X.mg x = some (.ref f)) (hk : PySem.W.keepIn X.K (.ref f) = true) (hb : Binds X.K fd ps []) (hx : ∀ σ, PassesAt CX X σ (E σ))
    (hdb : (x == ("__debug__" : Str)) = false) : PE X (.Call (.Name x p) [] [] pos) (tCallSD sp [] E tNil) := by
  refine ⟨fun pins s σ H Q I h => ?_⟩
  refine wpAny_Call_Name_kw (ld_glob I hg hm ?_ hdb)
  exact PySem.W.callWith_K0 I.kIn hk (run_fnSD (us := []) F hr hb .nil (hx σ) I .nil h)
abbrev callFF (P : Pg) (n f : Nat) (ms : En → Hh → Res (List Val)) : En → Hh → Res Val := fun ρ h => (ms ρ h).bd fun vs h1 => callF P.toPc n f vs h1
theorem call_imp {f : Nat} {ms : En → Hh → Res (List Val)} (σ : L2.St) (H : Hp) (Q : VK) (p : tG Y W (callFF P n f ms) σ H Q) : tCallSD (spF Y P n f) [] (fun σ cls d H' => W cls d σ H') (tGs Y W ms) σ H Q := by
  obtain ⟨μ, ρ, h, R0, er, hm⟩ := p
  refine ⟨μ, ρ, h, R0, er, Post.mono (Post.bd hm) fun vs H1 ⟨μ1, h1, ws, R1, e1, r, q⟩ => ?_⟩
  refine ⟨μ1, ws, h1, R1, by rw [List.append_nil]; exact r, ?_⟩
  cases hc : callF P.toPc n f ws h1 with
  | ok w h2 => rw [hc] at q; exact q
  | exc c h2 => rw [hc] at q; exact q
  | bad => rw [hc] at q; exact q
theorem s_call {f : Nat} {x : Str} {p : Pos} {e : Expr} {es : List Expr} {ms : En → Hh → Res (List Val)} (xo : XOk Y P n N sc X) (tk : L2N.Takes X W) (hg : glB X.env.scope x = true) (hf : fnIs P f x = true) (hn : nmB x = true) (hs : ∀ y ∈ e :: es, notStar y = true) (h : PA X (e :: es) (tGs Y W ms)) :
    PE X (.Call (.Name x p) (e :: es) [] pos) (tG Y W (callFF P n f ms)) := by
  obtain ⟨fd, hfd, rfl⟩ := fnIs_of hf
  obtain ⟨a, fdat, h1, h2, h3, h4, h5⟩ := xo.fns f fd hfd
  exact (pe_callSD (E := fun σ cls d H' => W cls d σ H') h5 xo.room (gl_of hg) h1 h3 h4 .nil (fun σ => L2N.passAt tk σ) h (nm_of hn).1 (notStar_cons (hs e List.mem_cons_self)) (noStars _ _ _ fun y hy => hs y (List.mem_cons_of_mem _ hy))).imp call_imp
theorem s_call0 {f : Nat} {x : Str} {p : Pos} (xo : XOk Y P n N sc X) (tk : L2N.Takes X W) (hg : glB X.env.scope x = true) (hf : fnIs P f x = true) (hn : nmB x = true) :
    PE X (.Call (.Name x p) [] [] pos) (tG Y W (callFF P n f fun _ h => .ok [] h)) := by
  obtain ⟨fd, hfd, rfl⟩ := fnIs_of hf
  obtain ⟨a, fdat, h1, h2, h3, h4, h5⟩ := xo.fns f fd hfd
  refine (pe_call0SD (E := fun σ cls d H' => W cls d σ H') h5 xo.room (gl_of hg) h1 h3 h4 (fun σ => L2N.passAt tk σ) (nm_of hn).1).imp fun σ H Q q => ?_
  obtain ⟨μ, ρ, h', R0, er, hm⟩ := call_imp σ H Q q
  have hm : Post Y W (RepVs Y) σ μ H (.ok [] h') (fun vs H1 => spF Y P n f (vs ++ []) H1 Q fun cls d H' => W cls d σ H') := hm
  exact Post.here R0 hm .nil

/-! ### a name that holds a def or a lambda -/
abbrev callvF (P : Pg) (n i : Nat) (ms : En → Hh → Res (List Val)) : En → Hh → Res Val := fun ρ h => (match ρ[i]? with
    | some (some (.fn f)) => (ms ρ h).bd fun vs h1 => callF P.toPc n f vs h1
    | some (some (.clo ps b ρ')) => (ms ρ h).bd fun vs h1 => (cfF P.toPc n).clo ps b ρ' vs h1
    | _ => .bad)
theorem lm_at {P : Program} {w : World} {H : Hp} {h : Heap} {f : Addr} {F : LF} {o : Obj} (hok : HOk P w H h) (e : H f = some (.frz o (LmO f F))) : ∃ pm ctv, h.get? f = some (PySem.W.kla_obj "<lambda>" F.qual F.params F.body F.scope F.cl pm F.c ctv) := by
  obtain ⟨_, z, _, _⟩ := hok f _ e
  exact z
theorem lm_of {P : Program} {w : World} {H : Hp} {h : Heap} {μ : Mu} {ps : List Nat} {b : E} {ρ : En} {f : Addr} {F : LF} {N : List Str} {σ : L2.St} (hok : HOk P w H h) (hbs : ∀ a o, Y.bs a = some o → h.get? a = some o) (c : CloC Y H μ ps b ρ f F N σ) : ∃ pm ctv, h.get? f = some (PySem.W.kla_obj "<lambda>" F.qual F.params F.body F.scope F.cl pm F.c ctv) := by
  rcases c.fo with ⟨_, fo, _⟩ | ⟨pm, ctv, fo⟩
  · exact lm_at hok fo
  · exact ⟨pm, ctv, hbs f _ fo⟩
theorem clo_fn {pins : List (Addr × Obj)} {σ : L2.St} {H : Hp} {s : Shared} {μ : Mu} {ps : List Nat} {b : E} {ρ : En} {f : Addr} (hbs : ∀ a, X.base.get? a = Y.bs a) (I : Inv X pins σ H s) (r : RepV Y H μ (.clo ps b ρ) (.ref f)) : PySem.W.FnAt f s.heap := by
  have r : RepW Y H μ (.clo ps b ρ) (.ref f) := r
  cases r with
  | base q => exact (show False from q).elim
  | clo c _ =>
    obtain ⟨pm, ctv, e⟩ := lm_of I.hok (fun a o q => I.bk a o (by rw [hbs]; exact q)) c
    exact ⟨_, _, _, _, e⟩
theorem clo_ref {H : Hp} {μ : Mu} {ps : List Nat} {b : E} {ρ : En} {v : V} (r : RepV Y H μ (.clo ps b ρ) v) : ∃ f, v = .ref f := by
  have r : RepW Y H μ (.clo ps b ρ) v := r
  cases r with
  | base q => exact (show False from q).elim
  | clo c _ => exact ⟨_, rfl⟩
/-- f is a def of the module, or a lambda -/
def Cal (X : Cx) (f : Addr) (h : Heap) : Prop := PySem.W.FnAt f h ∨ (PySem.W.keepIn X.K (.ref f) = true ∧ X.K.In h)
theorem cal_keeps {M : Model} {f : Addr} (h : Heap) (c : Cal X f h) : ∃ k, (k = Keeper.frame ∨ k = Keeper.machine ∨ k = Keeper.boundFrame) ∧ PySem.W.Looks M h (keeperOf (.ref f)) k := by
  rcases c with c | ⟨c, k⟩
  · exact PySem.W.keeps_F h c
  · exact PySem.W.keeps_K c h k
/-- what is wanted of the call -/
theorem callv_post {i : Nat} {pins : List (Addr × Obj)} {s : Shared} {σ : L2.St} {H : Hp} {Q : VK} {ms : En → Hh → Res (List Val)} (xo : XOk Y P n N sc X) (tk : L2N.Takes X W) (I : Inv X pins σ H s) (hq : tG Y W (callvF P n i ms) σ H Q) :
    ∃ (f : Addr), σ[i]? = some (some (.ref f)) ∧ Cal X f s.heap ∧ ∃ μ ρ h, HR Y μ h H ∧ ER Y μ H ρ σ ∧ Post Y W (RepVs Y) σ μ H (ms ρ h) fun vs H2 => ∀ us s2, Inv X pins σ H2 s2 → Vals vs us → Cal X f s2.heap ∧ wpAny (model X.prog X.w) X.A (call (.ref f) us) (EP X pins σ Q) X.xe s2 := by
  obtain ⟨μ, ρ, h, R0, er, hm⟩ := hq
  have hm : Post Y W (RepV Y) σ μ H (match ρ[i]? with
    | some (some (.fn f)) => (ms ρ h).bd fun vs h1 => callF P.toPc n f vs h1
    | some (some (.clo ps b ρ')) => (ms ρ h).bd fun vs h1 => (cfF P.toPc n).clo ps b ρ' vs h1
    | _ => .bad) Q := hm
  cases q1 : ρ[i]? with
  | none => rw [q1] at hm; exact hm.elim
  | some o =>
    rw [q1] at hm
    cases o with
    | none => exact hm.elim
    | some w =>
      obtain ⟨v, ev, rv⟩ := er.get i w q1
      cases w with
      | fn g =>
        obtain ⟨a, ha, rfl⟩ := rv
        obtain ⟨fd, hfd⟩ := xo.fnd g a ha
        obtain ⟨a', fdat, h1, h2, h3, h4, h5⟩ := xo.fns g fd hfd
        rw [ha] at h2
        cases h2
        refine ⟨a, ev, .inr ⟨h3, I.kIn⟩, μ, ρ, h, R0, er, Post.mono (Post.bd hm) fun vs H2 ⟨μ2, h2, ws, R2, e2, r2, q⟩ us s2 I2 ru => ⟨.inr ⟨h3, I2.kIn⟩, ?_⟩⟩
        refine run_fnSD (dvs := []) (ds := []) h5 xo.room h4 .nil (L2N.passAt (W := W) tk σ) I2 ru ?_
        refine ⟨μ2, ws, h2, R2, by rw [List.append_nil]; exact r2, ?_⟩
        cases hc : callF P.toPc n g ws h2 with
        | ok w h2 => rw [hc] at q; exact q
        | exc c h2 => rw [hc] at q; exact q
        | bad => rw [hc] at q; exact q
      | clo ps b ρ' =>
        obtain ⟨f, rfl⟩ := clo_ref rv
        refine ⟨f, ev, .inl (clo_fn xo.bs I rv), μ, ρ, h, R0, er, Post.mono (Post.bd hm) fun vs H2 ⟨μ2, h2, ws, R2, e2, r2, q⟩ us s2 I2 ru => ⟨.inl (clo_fn xo.bs I2 (rv.ext e2)), ?_⟩⟩
        refine wpAny_call (codeAny_mono (xo.clo X.A X.stack s2 H2 us vs ps b ρ' f Q (fun cls d H' => W cls d σ H') xo.room I2.env0 ru ⟨μ2, ws, h2, R2, rv.ext e2, r2, ?_⟩) fun r s' hq => ?_)
        · cases hc : (cfF P.toPc n).clo ps b ρ' ws h2 with
          | ok w h2 => rw [hc] at q; exact q
          | exc c h2 => rw [hc] at q; exact q
          | bad => rw [hc] at q; exact q
        · cases r with
          | error e => exact L2N.passAt (W := W) tk σ pins H2 s2 e s' I2 hq
          | ok fl =>
            cases fl with
            | ret u => exact I2.after hq
            | next => exact False.elim hq
            | brk => exact False.elim hq
            | cont => exact False.elim hq
      | _ => exact hm.elim
theorem s_callv {i : Nat} {x : Str} {p : Pos} {e : Expr} {es : List Expr} {ms : En → Hh → Res (List Val)} (xo : XOk Y P n N sc X) (tk : L2N.Takes X W) (hN : X.N[i]? = some x) (hv : visB X.env.scope x = true) (hn : nmB x = true) (hs : ∀ y ∈ e :: es, notStar y = true) (ha : PA X (e :: es) (tGs Y W ms)) :
    PE X (.Call (.Name x p) (e :: es) [] pos) (tG Y W (callvF P n i ms)) := by
  refine ⟨fun pins s σ H Q I hq => ?_⟩
  obtain ⟨f, ev, cf, hA⟩ := callv_post xo tk I hq
  refine wpAny_Call_Name_kw (thn ((pe_var (pos := p) hN (vis_of hv) (nm_of hn).1 (nm_of hn).2).run pins s σ H (fun v H1 => v = .ref f ∧ H1 = H) I ⟨.ref f, ev, rfl, rfl⟩) fun u s1 ⟨v, H1, I1, r1, q1⟩ => ?_)
  obtain ⟨e1, e2⟩ := q1
  subst e1
  rw [e2] at I1
  obtain rfl : u = Value.ref f := r1
  have he := notStar_cons (es := es) (env := X.env) (hs e List.mem_cons_self)
  have hpl := noStars es X.env pos fun y hy => hs y (List.mem_cons_of_mem _ hy)
  have hA2 := ha.run pos pins s1 σ H _ I1 hA
  rw [he] at hA2 ⊢
  refine PySem.W.callWith_of (P := Cal X f) (by show ((false || (backTo pos (starEach es X.env)).any (·.1)) || false) = false; rw [hpl] <;> rfl) cal_keeps (Calls.evalArgs_plain (thn hA2 fun us s2 ⟨vs, H2, I2, ru, q⟩ => ?_))
  obtain ⟨q1, q2⟩ := q us s2 I2 ru
  exact ⟨q1, q2⟩
theorem s_callv0 {i : Nat} {x : Str} {p : Pos} (xo : XOk Y P n N sc X) (tk : L2N.Takes X W) (hN : X.N[i]? = some x) (hv : visB X.env.scope x = true) (hn : nmB x = true) :
    PE X (.Call (.Name x p) [] [] pos) (tG Y W (callvF P n i fun _ h => .ok [] h)) := by
  refine ⟨fun pins s σ H Q I hq => ?_⟩
  obtain ⟨f, ev, cf, μ, ρ, h, R0, er, hA⟩ := callv_post xo tk I hq
  refine wpAny_Call_Name_kw (thn ((pe_var (pos := p) hN (vis_of hv) (nm_of hn).1 (nm_of hn).2).run pins s σ H (fun v H1 => v = .ref f ∧ H1 = H) I ⟨.ref f, ev, rfl, rfl⟩) fun u s1 ⟨v, H1, I1, r1, q1⟩ => ?_)
  obtain ⟨e1, e2⟩ := q1
  subst e1
  rw [e2] at I1
  obtain rfl : u = Value.ref f := r1
  obtain ⟨q1, q2⟩ := Post.here (v := ([] : List V)) R0 hA .nil [] s1 I1 .nil
  exact PySem.W.callWith_of (P := Cal X f) rfl cal_keeps (evalArgs_nil3 ⟨q1, q2⟩)

/-! ### changes of cells -/
theorem cell_of {μ : Mu} {h : Hh} {H : Hp} {r : Nat} {ps : List PyData} {v : V} (R0 : HR Y μ h H) (e : h[r]? = some (.lst ps)) (q : RepV Y H μ (.ref r) v) : ∃ a vs, v = .ref a ∧ μ.c[r]? = some (some a) ∧ H a = some (.lst vs) ∧ Reps Y.K H μ ps vs := by
  obtain ⟨a, vs, e1, e2, e3⟩ := R0.cel r _ e
  exact ⟨a, vs, q.2 a e1, e1, e2, e3⟩
/-- the cell's list becomes qs -/
theorem mut_ok {μ : Mu} {h : Hh} {H : Hp} {r : Nat} {a : Addr} {ps qs : List PyData} {ws : List V} (R0 : HR Y μ h H) (e : μ.c[r]? = some (some a)) (hr : Reps Y.K H μ qs ws) : HR Y μ (h.set r (.lst qs)) (upd H a (.lst ws)) ∧ Ext μ H μ (upd H a (.lst ws)) := by
  have x : Ext μ H μ (upd H a (.lst ws)) := Ext.mut R0 e
  exact ⟨R0.mut e ⟨a, ws, e, upd_same, Reps.ext x _ _ hr⟩, x⟩
abbrev pop0F (i : Nat) : En → Hh → Res Val := fun ρ h => (match ρ[i]? with
    | some (some (.ref r)) => (match h[r]? with
      | some (.lst (p :: ps)) => .ok (.d p) (h.set r (.lst ps))
      | _ => .bad)
    | _ => .bad)
theorem s_pop0 {i : Nat} {x : Str} {p apos p' : Pos} {j : Nat} (hK : Y.K = X.K) (hN : X.N[i]? = some x) (hv : visB X.env.scope x = true) (hn : nmB x = true) (hl : (apos.endLine == pos.line) = true) :
    PE X (.Call (.Attribute (.Name x p) "pop" apos) [.Constant (.int 0) j p'] [] pos) (tG Y W (pop0F i)) := by
  refine (pe_bm PySem.F.plainAttrs_list PySem.F.slot_list_pop PySem.F.type_list_pop mt_popAt (pe_var hN (vis_of hv) (nm_of hn).1 (nm_of hn).2) (pa_cons pe_int pa_nil) rfl rfl hl rfl rfl).imp fun σ H Q q => ?_
  obtain ⟨μ, ρ, h, R0, er, hm⟩ := q
  have hm : Post Y W (RepV Y) σ μ H (match ρ[i]? with
    | some (some (.ref r)) => (match h[r]? with
      | some (.lst (p :: ps)) => .ok (.d p) (h.set r (.lst ps))
      | _ => .bad)
    | _ => .bad) Q := hm
  cases q1 : ρ[i]? with
  | none => rw [q1] at hm; exact hm.elim
  | some o =>
    rw [q1] at hm
    cases o with
    | none => exact hm.elim
    | some w =>
      cases w with
      | ref r =>
        have hm : Post Y W (RepV Y) σ μ H (match h[r]? with
          | some (.lst (p :: ps)) => .ok (.d p) (h.set r (.lst ps))
          | _ => .bad) Q := hm
        cases q2 : h[r]? with
        | none => rw [q2] at hm; exact hm.elim
        | some c =>
          rw [q2] at hm
          cases c with
          | lst qs =>
            cases qs with
            | nil => exact hm.elim
            | cons d ds =>
              obtain ⟨v, e1, e2⟩ := er.get i _ q1
              obtain ⟨a, vs, rfl, e3, e4, e5⟩ := cell_of R0 q2 e2
              cases e5 with
              | cons h1 h2 =>
                rename_i u us
                refine ⟨.ref a, e1, .inl ⟨rfl, _, SqL.of e4⟩, a, _, 0, 0, u, rfl, rfl, e4, by decide, by decide, by simp [seqIndex?], rfl, ?_⟩
                obtain ⟨m1, m2⟩ := mut_ok (ps := d :: ds) R0 e3 h2
                exact hm u _ μ m1 m2 (Rep.ext m2 _ _ h1)
          | _ => exact hm.elim
      | _ => exact hm.elim
abbrev popLF (i : Nat) : En → Hh → Res Val := fun ρ h => (match ρ[i]? with
    | some (some (.ref r)) => (match h[r]? with
      | some (.lst ps) => (match ps[ps.length - 1]? with
        | some p => .ok (.d p) (h.set r (.lst ps.dropLast))
        | none => .bad)
      | _ => .bad)
    | _ => .bad)
theorem s_popL {i : Nat} {x : Str} {p apos : Pos} (hK : Y.K = X.K) (hN : X.N[i]? = some x) (hv : visB X.env.scope x = true) (hn : nmB x = true) (hl : (apos.endLine == pos.line) = true) :
    PE X (.Call (.Attribute (.Name x p) "pop" apos) [] [] pos) (tG Y W (popLF i)) := by
  refine (pe_bm0 PySem.F.plainAttrs_list PySem.F.slot_list_pop PySem.F.type_list_pop mt_pop (pe_var hN (vis_of hv) (nm_of hn).1 (nm_of hn).2) rfl hl).imp fun σ H Q q => ?_
  obtain ⟨μ, ρ, h, R0, er, hm⟩ := q
  have hm : Post Y W (RepV Y) σ μ H (match ρ[i]? with
    | some (some (.ref r)) => (match h[r]? with
      | some (.lst ps) => (match ps[ps.length - 1]? with
        | some p => .ok (.d p) (h.set r (.lst ps.dropLast))
        | none => .bad)
      | _ => .bad)
    | _ => .bad) Q := hm
  cases q1 : ρ[i]? with
  | none => rw [q1] at hm; exact hm.elim
  | some o =>
    rw [q1] at hm
    cases o with
    | none => exact hm.elim
    | some w =>
      cases w with
      | ref r =>
        have hm : Post Y W (RepV Y) σ μ H (match h[r]? with
          | some (.lst ps) => (match ps[ps.length - 1]? with
            | some p => .ok (.d p) (h.set r (.lst ps.dropLast))
            | none => .bad)
          | _ => .bad) Q := hm
        cases q2 : h[r]? with
        | none => rw [q2] at hm; exact hm.elim
        | some c =>
          rw [q2] at hm
          cases c with
          | lst qs =>
            have hm : Post Y W (RepV Y) σ μ H (match qs[qs.length - 1]? with
              | some p => .ok (.d p) (h.set r (.lst qs.dropLast))
              | none => .bad) Q := hm
            cases q3 : qs[qs.length - 1]? with
            | none => rw [q3] at hm; exact hm.elim
            | some d =>
              rw [q3] at hm
              obtain ⟨v, e1, e2⟩ := er.get i _ q1
              obtain ⟨a, vs, rfl, e3, e4, e5⟩ := cell_of R0 q2 e2
              obtain ⟨u, f1, f2⟩ := e5.get q3
              rw [e5.length] at f1
              refine ⟨.ref a, e1, .inl ⟨rfl, _, SqL.of e4⟩, a, _, u, rfl, rfl, e4, f1, ?_⟩
              obtain ⟨m1, m2⟩ := mut_ok (ps := qs) R0 e3 e5.dropLast
              exact hm u _ μ m1 m2 (Rep.ext m2 _ _ f2)
          | _ => exact hm.elim
      | _ => exact hm.elim
abbrev frzF (i : Nat) : En → Hh → Res Val := fun ρ h => (match ρ[i]? with
    | some (some (.ref r)) => (match h[r]? with
      | some (.lst ps) => .ok (.d (.list ps)) (h.set r .dead)
      | _ => .bad)
    | _ => .bad)
theorem s_frz {i : Nat} {x : Str} (hN : X.N[i]? = some x) (hv : visB X.env.scope x = true) (hn : nmB x = true) : PE X (.Name x pos) (tG Y W (frzF i)) := by
  refine (pe_var hN (vis_of hv) (nm_of hn).1 (nm_of hn).2).imp fun σ H Q q => ?_
  obtain ⟨μ, ρ, h, R0, er, hm⟩ := q
  have hm : Post Y W (RepV Y) σ μ H (match ρ[i]? with
    | some (some (.ref r)) => (match h[r]? with
      | some (.lst ps) => .ok (.d (.list ps)) (h.set r .dead)
      | _ => .bad)
    | _ => .bad) Q := hm
  cases q1 : ρ[i]? with
  | none => rw [q1] at hm; exact hm.elim
  | some o =>
    rw [q1] at hm
    cases o with
    | none => exact hm.elim
    | some w =>
      cases w with
      | ref r =>
        have hm : Post Y W (RepV Y) σ μ H (match h[r]? with
          | some (.lst ps) => .ok (.d (.list ps)) (h.set r .dead)
          | _ => .bad) Q := hm
        cases q2 : h[r]? with
        | none => rw [q2] at hm; exact hm.elim
        | some c =>
          rw [q2] at hm
          cases c with
          | lst qs =>
            obtain ⟨v, e1, e2⟩ := er.get i _ q1
            obtain ⟨a, vs, rfl, e3, e4, e5⟩ := cell_of R0 q2 e2
            exact ⟨.ref a, e1, hm (.ref a) H (μ.kill r) (R0.frz (List.getElem?_eq_some_iff.mp e3).1) Ext.frz (Rep.lst (nin_frz R0 e3) e4 (Reps.ext Ext.frz _ _ e5))⟩
          | _ => exact hm.elim
      | _ => exact hm.elim
abbrev revFF (ma : En → Hh → Res Val) : En → Hh → Res Val := fun ρ h => (ma ρ h).bd fun x h1 => on1 revF x h1
theorem s_rev {a : Expr} {ma : En → Hh → Res Val} {k : Nat} {p1 p2 p3 : Pos} (hK : Y.K = X.K) (ha : PE X a (tG Y W ma)) : PE X (.Subscript a (.Slice none none (some (.UnaryOp .USub (.Constant (.int 1) k p1) p2)) p3) pos) (tG Y W (revFF ma)) := by
  refine (pe_revL ha).imp fun σ H Q q => ?_
  obtain ⟨μ, ρ, h, R0, er, hm⟩ := q
  refine ⟨μ, ρ, h, R0, er, Post.mono (Post.bd hm) fun v H1 ⟨μ1, h1, w, R1, e1, r, q⟩ => ?_⟩
  obtain ⟨p, r', hp, e, nw⟩ := on1_new R1 r q
  cases p with
  | list ps =>
    cases e
    obtain ⟨b, vs, rfl, hb, hr⟩ := hp
    rw [hK] at hb
    exact ⟨b, vs, rfl, hb, fun p hp => nw.lst R1.frs hr.reverse p hp⟩
  | _ => cases e
end

/-! ### sorted(set(xs)), xs a list of tuples of ints -/
theorem tupsOf_ok {K : PySem.W.Frag} {H : Hp} {μ : Mu} : ∀ {ps : List PyData} {vs : List V} {ts : List (List Int)}, Reps K H μ ps vs → tupsOf ps = some ts →
    ∃ ks : List (Addr × List Int), vs = ks.map (fun p => V.ref p.1) ∧ ts = ks.map (·.2) ∧ ∀ p ∈ ks, TupA K H μ p.1 (p.2.map V.int)
  | [], _, _, h, e => by cases h; cases e; exact ⟨[], rfl, rfl, fun _ z => by cases z⟩
  | .tuple qs :: ps, _, ts, h, e => by
    have e' : (match intsOf qs, tupsOf ps with
      | some a, some b => some (a :: b)
      | _, _ => none) = some ts := e
    cases q1 : intsOf qs with
    | none => rw [q1] at e'; cases e'
    | some ns =>
      cases q2 : tupsOf ps with
      | none => rw [q1, q2] at e'; cases e'
      | some tr =>
        rw [q1, q2] at e'
        cases e'
        cases h with
        | cons h1 h2 =>
          obtain ⟨ks, e1, e2, e3⟩ := tupsOf_ok h2 q2
          cases h1 with
          | tup ha hr =>
            rename_i a ws
            rw [intsOf_ok hr q1] at ha
            refine ⟨(a, ns) :: ks, by rw [e1]; rfl, by rw [e2]; rfl, fun p hp => ?_⟩
            rcases List.mem_cons.mp hp with rfl | hp
            · exact ha
            · exact e3 p hp
  | .none :: _, _, _, _, e => by cases e
  | .bool _ :: _, _, _, _, e => by cases e
  | .int _ :: _, _, _, _, e => by cases e
  | .str _ :: _, _, _, _, e => by cases e
  | .list _ :: _, _, _, _, e => by cases e
  | .dict _ :: _, _, _, _, e => by cases e
theorem lex_code {B : Int} : ∀ {x y : List Int}, x.length = y.length → TS.Bd B x → TS.Bd B y → (HT.lexLt x y = true ↔ TS.code B x < TS.code B y)
  | [], [], _, _, _ => by
    show (false = true) ↔ (0 : Int) < 0
    exact ⟨fun h => (nomatch h), fun h => absurd h (Int.lt_irrefl _)⟩
  | [], _ :: _, h, _, _ => by cases h
  | _ :: _, [], h, _, _ => by cases h
  | a :: x, b :: y, h, hx, hy => by
    have hl : x.length = y.length := by simpa using h
    rw [HT.lexLt_cons]
    by_cases e : a = b
    · subst e
      rw [if_pos rfl, TS.code_same hl]
      exact lex_code hl hx.tail hy.tail
    · rw [if_neg e, decide_eq_true_iff]
      constructor
      · exact fun z => TS.code_lt hl hx.tail hy.tail z
      · intro z
        rcases Int.lt_trichotomy a b with w | w | w
        · exact w
        · exact absurd w e
        · have := TS.code_lt hl.symm hy.tail hx.tail w
          omega
theorem code_inj {B : Int} : ∀ {x y : List Int}, x.length = y.length → TS.Bd B x → TS.Bd B y → TS.code B x = TS.code B y → x = y
  | [], [], _, _, _, _ => rfl
  | [], _ :: _, h, _, _, _ => by cases h
  | _ :: _, [], h, _, _, _ => by cases h
  | a :: x, b :: y, h, hx, hy, e => by
    have hl : x.length = y.length := by simpa using h
    rcases Int.lt_trichotomy a b with w | w | w
    · have := TS.code_lt hl hx.tail hy.tail w
      omega
    · subst w
      have h1 := not_congr (TS.code_same (B := B) (d := a) hl)
      have h2 := not_congr (TS.code_same (B := B) (d := a) hl.symm)
      have h3 : ¬ TS.code B x < TS.code B y := h1.mp (by omega)
      have h4 : ¬ TS.code B y < TS.code B x := h2.mp (by omega)
      rw [code_inj hl hx.tail hy.tail (by omega)]
    · have := TS.code_lt hl.symm hy.tail hx.tail w
      omega
/-- a strictly ascending list is told by its members -/
theorem asc_unique {α : Type} {f : α → Int} : ∀ {xs ys : List α}, xs.Pairwise (fun a b => f a < f b) → ys.Pairwise (fun a b => f a < f b) → (∀ a, a ∈ xs ↔ a ∈ ys) → xs = ys
  | [], [], _, _, _ => rfl
  | [], y :: ys, _, _, h => by
    have := (h y).mpr List.mem_cons_self
    cases this
  | x :: xs, [], _, _, h => by
    have := (h x).mp List.mem_cons_self
    cases this
  | x :: xs, y :: ys, hx, hy, h => by
    have px := List.pairwise_cons.mp hx
    have py := List.pairwise_cons.mp hy
    have e : x = y := by
      rcases List.mem_cons.mp ((h x).mp List.mem_cons_self) with e | m
      · exact e
      · rcases List.mem_cons.mp ((h y).mpr List.mem_cons_self) with e | m'
        · exact e.symm
        · have a1 := py.1 x m
          have a2 := px.1 y m'
          omega
    subst e
    rw [asc_unique px.2 py.2 fun a => ?_]
    constructor
    · intro m
      rcases List.mem_cons.mp ((h a).mp (List.mem_cons_of_mem _ m)) with e | m'
      · subst e
        have := px.1 a m
        omega
      · exact m'
    · intro m
      rcases List.mem_cons.mp ((h a).mpr (List.mem_cons_of_mem _ m)) with e | m'
      · subst e
        have := py.1 a m
        omega
      · exact m'
theorem mem_insT {x y : List Int} : ∀ {l : List (List Int)}, y ∈ insT x l ↔ y = x ∨ y ∈ l
  | [] => by simp [insT]
  | z :: l => by
    unfold insT
    by_cases h1 : HT.lexLt x z = true
    · rw [if_pos h1]
      simp
    · rw [if_neg h1]
      by_cases h2 : x = z
      · rw [if_pos h2]
        subst h2
        simp
      · rw [if_neg h2, List.mem_cons, mem_insT (l := l), List.mem_cons]
        constructor
        · rintro (h | h | h)
          · exact .inr (.inl h)
          · exact .inl h
          · exact .inr (.inr h)
        · rintro (h | h | h)
          · exact .inr (.inl h)
          · exact .inl h
          · exact .inr (.inr h)
theorem insT_asc {B : Int} {d : Nat} {x : List Int} (hx : x.length = d ∧ TS.Bd B x) : ∀ {l : List (List Int)}, (∀ y ∈ l, y.length = d ∧ TS.Bd B y) → l.Pairwise (fun a b => TS.code B a < TS.code B b) → (insT x l).Pairwise (fun a b => TS.code B a < TS.code B b)
  | [], _, _ => by simp [insT]
  | z :: l, hl, hp => by
    have hz := hl z List.mem_cons_self
    have pz := List.pairwise_cons.mp hp
    have lc := lex_code (hx.1.trans hz.1.symm) hx.2 hz.2
    unfold insT
    by_cases h1 : HT.lexLt x z = true
    · rw [if_pos h1]
      have a1 := lc.mp h1
      refine List.pairwise_cons.mpr ⟨fun w hw => ?_, hp⟩
      rcases List.mem_cons.mp hw with rfl | hw
      · exact a1
      · have := pz.1 w hw
        omega
    · rw [if_neg h1]
      by_cases h2 : x = z
      · rw [if_pos h2]
        exact hp
      · rw [if_neg h2]
        refine List.pairwise_cons.mpr ⟨fun w hw => ?_, insT_asc hx (fun y hy => hl y (List.mem_cons_of_mem _ hy)) pz.2⟩
        rcases mem_insT.mp hw with rfl | hw
        · have n1 : ¬ TS.code B w < TS.code B z := fun q => h1 (lc.mpr q)
          have n2 : ¬ TS.code B w = TS.code B z := fun q => h2 (code_inj (hx.1.trans hz.1.symm) hx.2 hz.2 q)
          omega
        · exact pz.1 w hw
theorem mem_sortT {y : List Int} : ∀ {ts : List (List Int)}, y ∈ sortT ts ↔ y ∈ ts
  | [] => by simp [sortT]
  | t :: ts => by
    show y ∈ insT t (sortT ts) ↔ _
    rw [mem_insT, mem_sortT, List.mem_cons]
theorem sortT_asc {B : Int} {d : Nat} : ∀ {ts : List (List Int)}, (∀ y ∈ ts, y.length = d ∧ TS.Bd B y) → (sortT ts).Pairwise (fun a b => TS.code B a < TS.code B b)
  | [], _ => by simp [sortT]
  | t :: ts, h => by
    show (insT t (sortT ts)).Pairwise _
    exact insT_asc (h t List.mem_cons_self) (fun y hy => h y (List.mem_cons_of_mem _ (mem_sortT.mp hy))) (sortT_asc fun y hy => h y (List.mem_cons_of_mem _ hy))
theorem bound_ints : ∀ ns : List Int, ∃ B : Int, 0 ≤ B ∧ ∀ m ∈ ns, m < B
  | [] => ⟨0, Int.le_refl _, fun _ h => by cases h⟩
  | n :: ns => by
    obtain ⟨B, h0, h1⟩ := bound_ints ns
    by_cases c : n < B
    · refine ⟨B, h0, fun m hm => ?_⟩
      rcases List.mem_cons.mp hm with rfl | hm
      · exact c
      · exact h1 m hm
    · refine ⟨n + 1, by omega, fun m hm => ?_⟩
      rcases List.mem_cons.mp hm with rfl | hm
      · omega
      · have := h1 m hm
        omega
theorem sset_inv {ps : List PyData} {r : PyData} (e : Bi.ev .sset ps = some r) : ∃ qs ts, ps = [.list qs] ∧ tupsOf qs = some ts ∧ (oneLen ts = true ∧ ts.length < 64 ∧ ∀ t ∈ ts, ∀ i ∈ t, 0 ≤ i) ∧ r = .list ((sortT ts).map fun t => .tuple (t.map PyData.int)) := by
  match ps, e with
  | [.list qs], e =>
    have e' : (match tupsOf qs with
      | some ts => if oneLen ts && (decide (ts.length < 64) && ts.all fun t => t.all fun i => decide (0 ≤ i)) then some (PyData.list ((sortT ts).map fun t => .tuple (t.map PyData.int))) else none
      | none => none) = some r := e
    cases q : tupsOf qs with
    | none => rw [q] at e'; cases e'
    | some ts =>
      rw [q] at e'
      obtain ⟨h1, h2⟩ := if_some e'
      rw [Bool.and_eq_true, Bool.and_eq_true] at h1
      refine ⟨qs, ts, rfl, q, ⟨h1.1, of_decide_eq_true h1.2.1, fun t ht i hi => ?_⟩, h2.symm⟩
      exact of_decide_eq_true (List.all_eq_true.mp (List.all_eq_true.mp h1.2.2 t ht) i hi)
theorem oneLen_ok {ts : List (List Int)} (h : oneLen ts = true) : ∃ d, 1 ≤ d ∧ ∀ t ∈ ts, t.length = d := by
  cases ts with
  | nil => exact ⟨1, Nat.le_refl _, fun _ z => by cases z⟩
  | cons x r =>
    have h' : (decide (1 ≤ x.length) && r.all fun y => decide (y.length = x.length)) = true := h
    rw [Bool.and_eq_true] at h'
    refine ⟨x.length, of_decide_eq_true h'.1, fun t ht => ?_⟩
    rcases List.mem_cons.mp ht with rfl | ht
    · rfl
    · exact of_decide_eq_true (List.all_eq_true.mp h'.2 t ht)
section
variable {X : Cx} {Y : Ax} {P : Pg} {n : Nat} {N : List Str} {sc : Scope} {W : WX} {pos : Pos}
theorem reps_of_ks {K : PySem.W.Frag} {H : Hp} {μ : Mu} : ∀ {L : List (Addr × List Int)}, (∀ p ∈ L, TupA K H μ p.1 (p.2.map V.int)) → Reps K H μ ((L.map (·.2)).map fun t => .tuple (t.map PyData.int)) (L.map fun q => V.ref q.1)
  | [], _ => .nil
  | p :: L, h => .cons (.tup (h p List.mem_cons_self) (Reps.of_ints _)) (reps_of_ks fun q hq => h q (List.mem_cons_of_mem _ hq))
theorem s_sset {a : Expr} {ma : En → Hh → Res Val} {p1 p2 pos2 : Pos} (xo : XOk Y P n N sc X) (hs : notStar a = true) (hg : glB X.env.scope "sorted" = true) (hg' : glB X.env.scope "set" = true) (ha : PE X a (tG Y W ma)) :
    PE X (.Call (.Name "sorted" p1) [.Call (.Name "set" p2) [a] [] pos2] [] pos) (tG Y W (biF .sset (consF ma fun _ h => .ok [] h))) := by
  have hm1 : X.mg "sorted" = none := xo.blt _ (by decide)
  have hm2 : X.mg "set" = none := xo.blt _ (by decide)
  have hset : PE X (.Call (.Name "set" p2) [a] [] pos2) _ := pe_callTy (cr_setOfT xo.calm xo.u64) (gl_of hg') hm2 (by decide +kernel) (pa_cons ha pa_nil (notStar_cons hs)) (by decide) (by decide) (notStar_cons hs) rfl
  refine (pe_callB (cr_sortedT xo.calm) (gl_of hg) hm1 (by decide +kernel) (pa_cons hset pa_nil)).imp fun σ H Q p => ?_
  obtain ⟨μ, ρ, h, R0, er, hm⟩ := p
  have hm : Post Y W (RepV Y) σ μ H (((ma ρ h).bd fun v h1 => .ok [v] h1).bd fun vs h1 => (match dats h1 vs with
    | some ps => okD (Bi.ev .sset ps) h1
    | none => .bad)) Q := hm
  have hm2 : Post Y W (RepV Y) σ μ H ((ma ρ h).bd fun v h1 => (match dats h1 [v] with
    | some ps => okD (Bi.ev .sset ps) h1
    | none => .bad)) Q := by
    cases hc : ma ρ h with
    | ok w h1 => rw [hc] at hm; exact hm
    | exc c h1 => rw [hc] at hm; exact hm
    | bad => rw [hc] at hm; exact hm
  refine ⟨μ, ρ, h, R0, er, Post.mono (Post.bd hm2) fun v H1 ⟨μ1, h1, w, R1, e1, r, q⟩ => ?_⟩
  have q : Post Y W (RepV Y) σ μ1 H1 (match dats h1 [w] with
    | some ps => okD (Bi.ev .sset ps) h1
    | none => .bad) Q := q
  cases hd : dats h1 [w] with
  | none => rw [hd] at q; exact q.elim
  | some ps =>
    rw [hd] at q
    have q : Post Y W (RepV Y) σ μ1 H1 (okD (Bi.ev .sset ps) h1) Q := q
    obtain ⟨r', e, _⟩ := okD_new R1 q
    rw [e] at q
    obtain ⟨qs, ts, rfl, e2, ⟨o1, o2, o3⟩, rfl⟩ := sset_inv e
    have nw : ∀ z H' μ', HR Y μ' h1 H' → Ext μ1 H1 μ' H' → RepV Y H' μ' (.d (.list ((sortT ts).map fun t => .tuple (t.map PyData.int)))) z → Q z H' := q
    obtain ⟨v', ev, b, vs, rfl, hb, hr⟩ := one_of (dats_ok R1 hd (.cons r .nil)) rfl
    cases ev
    obtain ⟨ks, rfl, rfl, e3⟩ := tupsOf_ok hr e2
    rw [xo.kK] at hb e3
    obtain ⟨d, hd1, hd2⟩ := oneLen_ok o1
    obtain ⟨B, hB0, hB⟩ := bound_ints (ks.map (·.2)).flatten
    have bd : ∀ p ∈ ks, TS.Bd B p.2 := fun p hp m hm => ⟨o3 p.2 (List.mem_map_of_mem hp) m hm, hB m (List.mem_flatten.mpr ⟨p.2, List.mem_map_of_mem hp, hm⟩)⟩
    have ln : ∀ p ∈ ks, p.2.length = d := fun p hp => hd2 p.2 (List.mem_map_of_mem hp)
    rw [List.length_map] at o2
    refine ⟨b, ks, rfl, hb, fun p hp => (e3 p hp).sq, o2, fun sa L hsa hL1 hL2 => ?_⟩
    have g1 : Gro H1 (upd H1 sa (SetTO X.prog X.w sa L)) := .new hsa
    refine ⟨sa, L, d, B, rfl, upd_same, fun p hp => (tupA_ext (g1.ext μ1).toExt0 (e3 p (hL1 p hp))).sq, hd1, fun p hp => ⟨ln p (hL1 p hp), bd p (hL1 p hp)⟩, fun L' pa hpm hnd hlt hpw hpa => ?_⟩
    have eL : L'.map (·.2) = sortT (ks.map (·.2)) := by
      refine asc_unique (f := TS.code B) ?_ (sortT_asc (d := d) fun y hy => ?_) fun y => ?_
      · rw [List.pairwise_map]
        have hnd' := List.pairwise_map.mp hnd
        refine (hpw.and hnd').imp_of_mem fun {a b} ha hb hab => ?_
        have ha' := hL1 a (hpm.mem_iff.mp ha)
        have hb' := hL1 b (hpm.mem_iff.mp hb)
        have : TS.code B a.2 ≠ TS.code B b.2 := fun z => hab.2 (code_inj ((ln a ha').trans (ln b hb').symm) (bd a ha') (bd b hb') z)
        have := hab.1
        omega
      · obtain ⟨p, hp, rfl⟩ := List.mem_map.mp hy
        exact ⟨ln p hp, bd p hp⟩
      · rw [mem_sortT]
        constructor
        · intro hy
          obtain ⟨p, hp, rfl⟩ := List.mem_map.mp hy
          exact List.mem_map_of_mem (hL1 p (hpm.mem_iff.mp hp))
        · intro hy
          obtain ⟨p, hp, rfl⟩ := List.mem_map.mp hy
          obtain ⟨q, hq, e⟩ := List.mem_map.mp (hL2 p hp)
          rw [← e]
          exact List.mem_map_of_mem (hpm.mem_iff.mpr hq)
    rw [← eL] at nw
    have g2 : Gro (upd H1 sa (SetTO X.prog X.w sa L)) (upd (upd H1 sa (SetTO X.prog X.w sa L)) pa (.lst (L'.map fun q => V.ref q.1))) := .new hpa
    have hrs := reps_of_ks (K := X.K) (H := upd H1 sa (SetTO X.prog X.w sa L)) (μ := μ1) (L := L') fun p hp => tupA_ext (g1.ext μ1).toExt0 (e3 p (hL1 p (hpm.mem_iff.mp hp)))
    have R2 := (R1.gro g1).gro g2
    have hz : Rep X.K (upd (upd H1 sa (SetTO X.prog X.w sa L)) pa (.lst (L'.map fun q => V.ref q.1))) μ1 (.list ((L'.map (·.2)).map fun t => .tuple (t.map PyData.int))) (.ref pa) := .lst ((R1.gro g1).nin hpa) upd_same (hrs.upd hpa)
    rw [← xo.kK] at hz
    exact nw (.ref pa) _ μ1 R2 ((g1.ext μ1).trans (g2.ext μ1)) hz
theorem adjust_dn (n : Nat) : Builtin.Slice.sliceAdjust none none (-1) (n : Int) = ((n : Int) - 1, -1) := rfl
theorem places_dn (n : Nat) : Builtin.Slice.slicePlaces ((n : Int) - 1) (-1) (-1) = n := by
  unfold Builtin.Slice.slicePlaces
  have h1 : ¬ ((-1 : Int) > 0) := by decide
  have e2 : ((n : Int) - 1 - -1 - 1) / (- -1) = (n : Int) - 1 := by
    rw [show (- -1 : Int) = 1 by decide, Int.ediv_one]
    omega
  simp only [h1, if_false, e2]
  split <;> omega
theorem fm_congr {α β : Type} {f g : α → Option β} : ∀ {xs : List α}, (∀ x ∈ xs, f x = g x) → xs.filterMap f = xs.filterMap g
  | [], _ => rfl
  | x :: xs, h => by
    rw [List.filterMap_cons, List.filterMap_cons, h x (List.mem_cons_self ..), fm_congr fun y hy => h y (List.mem_cons_of_mem _ hy)]
theorem pick_dn (xs : Array Value) : ((List.range xs.size).filterMap fun (m : Nat) => xs[(((xs.size : Int) - 1) + (m : Int) * -1).toNat]?) = xs.toList.reverse := by
  have e : ∀ m, m < xs.size → xs[(((xs.size : Int) - 1) + (m : Int) * -1).toNat]? = xs.toList.reverse[m]? := fun m hm => by
    have e1 : (((xs.size : Int) - 1) + (m : Int) * -1).toNat = xs.size - 1 - m := by omega
    rw [e1, List.getElem?_reverse (by rw [Array.length_toList]; exact hm), Array.length_toList, Array.getElem?_toList]
  have e2 : (List.range xs.size).filterMap (fun (m : Nat) => xs[(((xs.size : Int) - 1) + (m : Int) * -1).toNat]?) = (List.range xs.size).filterMap fun m => xs.toList.reverse[m]? :=
    fm_congr fun m hm => e m (List.mem_range.mp hm)
  rw [e2]
  have h := PySem.W.krv_all xs.toList.reverse.toArray
  rw [List.size_toArray, List.length_reverse, Array.length_toList] at h
  refine Eq.trans (fm_congr fun m _ => ?_) h
  rw [List.getElem?_toArray]
theorem sliceApplied_dn {prog : Program} {w : World} {A : Around} {E : Value → Shared → Prop} {s : Shared} {sl : Addr} {vl vu vs : Value} {n : Nat} {Q : Int × Int × Nat → Shared → Prop} (hs : s.heap.IsSliceOf sl vl vu vs) (pl : IsPart vl none) (pu : IsPart vu none) (ps : IsPart vs (some (-1)))
    (h : Q ((n : Int) - 1, -1, n) s) : wpAny (model prog w) A (Builtin.Slice.sliceApplied (.ref sl) (pure (n : Int))) Q E s := by
  obtain ⟨os, hos, hcs, hds⟩ := id hs
  unfold Builtin.Slice.sliceApplied Builtin.Slice.sliceFields
  refine wpAny_bind (wpAny_bind (wpAny_field hos hds (x := vl) rfl (wpAny_bind (wpAny_field hos hds (x := vu) rfl (wpAny_bind (wpAny_field hos hds (x := vs) rfl (wpAny_pure ?_)))))))
  refine wpAny_bind (HT.slicePart_ ps ?_)
  show wpAny _ _ (if ((-1 : Int) == 0) = true then _ else _) _ _ s
  rw [if_neg (by decide)]
  refine wpAny_bind (HT.slicePart_ pl (wpAny_bind (HT.slicePart_ pu (wpAny_bind (wpAny_pure ?_)))))
  show wpAny _ _ (match Builtin.Slice.sliceAdjust none none (-1) (n : Int) with | (lo, hi) => pure (lo, (-1 : Int), Builtin.Slice.slicePlaces lo hi (-1))) _ _ s
  rw [adjust_dn n]
  show wpAny _ _ (pure ((n : Int) - 1, (-1 : Int), Builtin.Slice.slicePlaces ((n : Int) - 1) (-1) (-1))) _ _ s
  rw [places_dn]
  exact wpAny_pure h
theorem getItem_tuple_dn {prog : Program} {w : World} {A : Around} {E : Value → Shared → Prop} {s : Shared} {t sl : Addr} {items : Array Value} {vl vu vs : Value} {Q : Value → Shared → Prop} (ht : IsTup s.heap t items) (hs : s.heap.IsSliceOf sl vl vu vs) (pl : IsPart vl none) (pu : IsPart vu none) (ps : IsPart vs (some (-1)))
    (h : Q (.ref s.heap.objs.size) { s with heap := s.heap.push { cls := .type "tuple", data := .seq items.toList.reverse.toArray } })
    (hsz : items.size ≤ sizeLine) : wpAny (model prog w) A (getItem (.ref t) (.ref sl)) Q E s := by
  have htake : sizeOk (.seq items.toList.reverse.toArray) := by
    show items.toList.reverse.toArray.size ≤ sizeLine
    rw [List.size_toArray, List.length_reverse, Array.length_toList]
    exact hsz
  obtain ⟨os, hos, hcs, hds⟩ := id hs
  have hTs : s.TypeIs (.ref sl) "slice" := ⟨os, hos, hcs⟩
  unfold getItem
  try with_reducible refine wpAny_holding ?_
  first | refine wpAny_bind (wpAny_pure ?_) | skip
  refine wpAny_bind (wpAny_sequenceKey ht.typeIs (by decide) ?_)
  refine wpAny_bind (wpAny_callSpecial?_slot (name := Str.ofString "__getitem__") ht.typeIs PyProof.Rows.slot_tuple_getitem
    (wpAny_call_entry PyProof.Rows.slot_tuple_getitem ht.typeIs entry_tuple_getitem ?_ (args_tuple_getitem _ _)))
  show wpAny _ _ (Builtin.Tuple.tupleItemsOf (.ref t) >>= _) _ _ s
  refine wpAny_bind (tupleItemsOf_ ht ?_)
  refine wpAny_bind (wpAny_typeOf hTs ?_)
  rw [if_pos (by decide)]
  refine wpAny_bind (sliceApplied_dn hs pl pu ps ?_)
  have hno : ¬ (((items.size : Int) - 1 == 0 && (-1 : Int) == 1 && items.size == items.size) = true) := by
    intro q
    rw [Bool.and_eq_true, Bool.and_eq_true] at q
    exact absurd q.1.2 (by decide)
  show wpAny _ _ (if ((items.size : Int) - 1 == 0 && (-1 : Int) == 1 && items.size == items.size) = true then _ else _) _ _ s
  rw [if_neg hno, pick_dn]
  first
    | exact wpAny_bind (m := Builtin.Tuple.tupleExact _) (wpAny_newObj_type (wpAny_pure ⟨_, rfl, wpAny_pure h⟩) htake)
    | exact wpAny_bind (m := Builtin.Tuple.tupleExact _) (wpAny_newObj_type (wpAny_bind (wpAny_pure (wpAny_pure ⟨_, rfl, wpAny_pure h⟩))) htake)
    | exact wpAny_bind (wpAny_bind (m := Builtin.Tuple.tupleExact _) (wpAny_newObj_type (wpAny_pure (wpAny_pure ⟨_, rfl, wpAny_pure h⟩)) htake))
    | exact wpAny_bind (wpAny_bind (m := Builtin.Tuple.tupleExact _) (wpAny_newObj_type (wpAny_pure ⟨_, rfl, wpAny_pure h⟩) htake))
def tRevT (K : PySem.W.Frag) (te : TE) : TE := fun σ H Q => te σ H fun x H1 => ∃ a xs, x = .ref a ∧ SqT K H1 a xs ∧ ∀ p, H1 p = none → Q (.ref p) (upd H1 p (.tup xs.reverse))
theorem pe_revT {e : Expr} {te : TE} {k : Nat} {p1 p2 p3 pos : Pos} (he : PE X e te) : PE X (.Subscript e (.Slice none none (some (.UnaryOp .USub (.Constant (.int 1) k p1) p2)) p3) pos) (tRevT X.K te) := by
  refine ⟨fun pins s σ H Q I h => ?_⟩
  refine Subscript_ (thn (he.run pins s σ H _ I h) fun v s1 ⟨x, H1, I1, r1, q1⟩ => ?_)
  obtain ⟨a, xs, ex, hx, q⟩ := q1
  subst ex
  cases r1
  have hst : PO X (some (.UnaryOp .USub (.Constant (.int 1) k p1) p2)) (tPart (tUn (rU fun i => .int (-i)) (tC (.int 1)))) := po_some (pe_un un_neg pe_int)
  refine wpAny_Slice (thn (po_none.run pins s1 σ H1 (fun o H2 => o = none ∧ H2 = H1) I1 ⟨rfl, rfl⟩) fun vl s2 ⟨l, H2, I2, pl, el, e2⟩ => ?_)
  subst el e2
  refine thn (po_none.run pins s2 σ H2 (fun o H3 => o = none ∧ H3 = H2) I2 ⟨rfl, rfl⟩) fun vu s3 ⟨u, H3, I3, pu, eu, e3⟩ => ?_
  subst eu e3
  refine thn (hst.run pins s3 σ H3 (fun o H4 => o = some (-1) ∧ H4 = H3) I3 ⟨1, rfl, -1, rfl, rfl, rfl⟩) fun vs s4 ⟨o, H4, I4, ps, eo, e4⟩ => ?_
  subst eo e4
  have I5 : Inv X pins σ H4 { s4 with heap := s4.heap.push { cls := .type "slice", data := .fields #[vl, vu, vs] } } := I4.kept (t' := s4.toks) fun b ob q => Heap.get?_push_of_some _ q
  obtain ⟨its, r, ht, hz⟩ := I5.tuple hx
  have hlen := r.length
  show wpAny (model X.prog X.w) X.A (subscriptTail e (.Slice none none (some (.UnaryOp .USub (.Constant (.int 1) k p1) p2)) p3) (.ref a) (.ref s4.heap.objs.size)) (EP X pins σ Q) X.xe { s4 with heap := s4.heap.push { cls := .type "slice", data := .fields #[vl, vu, vs] } }
  refine tail_any (ops := [.ref a, .ref s4.heap.objs.size]) ht.typeIs (PySem.F.slot_tuple_getitem.lookup) ?_ (by with_unfolding_all rfl)
  refine getItem_tuple_dn ht (Heap.IsSliceOf.new _ vl vu vs) pl pu ps ?_ (by rw [List.size_toArray]; omega)
  refine ⟨.ref _, _, I5.laid (t' := s4.toks) (o := .tup xs.reverse) (fun b ob q => Heap.get?_push_of_some _ q) (Nat.le_refl _) ?_, rfl, q _ (I5.hok.fresh (Nat.le_refl _))⟩
  exact ⟨by rw [List.length_reverse]; omega, _, r.reverse, IsTup.new _ _⟩
abbrev revTFF (ma : En → Hh → Res Val) : En → Hh → Res Val := fun ρ h => (ma ρ h).bd fun x h1 => on1 revTF x h1
theorem s_revT {a : Expr} {ma : En → Hh → Res Val} {k : Nat} {p1 p2 p3 : Pos} (hK : Y.K = X.K) (ha : PE X a (tG Y W ma)) : PE X (.Subscript a (.Slice none none (some (.UnaryOp .USub (.Constant (.int 1) k p1) p2)) p3) pos) (tG Y W (revTFF ma)) := by
  refine (pe_revT ha).imp fun σ H Q q => ?_
  obtain ⟨μ, ρ, h, R0, er, hm⟩ := q
  refine ⟨μ, ρ, h, R0, er, Post.mono (Post.bd hm) fun v H1 ⟨μ1, h1, w, R1, e1, r, q⟩ => ?_⟩
  obtain ⟨p, r', hp, e, nw⟩ := on1_new R1 r q
  cases p with
  | tuple ps =>
    cases e
    obtain ⟨b, vs, rfl, hb, hr⟩ := repR_tup hp
    rw [hK] at hb
    exact ⟨b, vs, rfl, hb.sq, fun p hp => nw.tup R1.frs hr.reverse p hp⟩
  | _ => cases e
end
end MP
end
section
set_option Elab.async false
set_option linter.all false
set_option autoImplicit false
set_option maxRecDepth 100000
set_option maxHeartbeats 4000000
/-! Mini: what is left behind. -/
namespace MP
open PySem PySem.Spec PyProof.Rows L2

/-! ### the cells of a def are left behind -/
section
variable {Y : Ax} {K : PySem.W.Frag} {μ μ' : Mu} {H H' : Hp} {h : Hh}
mutual
theorem Rep.nin (hn : ∀ b, Nin μ b → Nin μ' b) : ∀ (p : PyData) (v : V), Rep K H μ p v → Rep K H μ' p v
  | .none, _, h => by cases h; exact .non
  | .bool b, _, h => by cases h; exact .bl b
  | .int i, _, h => by cases h; exact .int i
  | .str x, _, h => by cases h; exact .str x
  | .list ps, _, h => by
    cases h with
    | lst n ha hr => exact .lst (hn _ n) ha (Reps.nin hn ps _ hr)
  | .tuple ps, _, h => by
    cases h with
    | tup ha hr =>
      refine .tup ?_ (Reps.nin hn ps _ hr)
      rcases ha with ⟨n, ha⟩ | ha
      · exact .inl ⟨hn _ n, ha⟩
      · exact .inr ha
  | .dict _, _, h => by cases h
theorem Reps.nin (hn : ∀ b, Nin μ b → Nin μ' b) : ∀ (ps : List PyData) (vs : List V), Reps K H μ ps vs → Reps K H μ' ps vs
  | [], _, h => by cases h; exact .nil
  | p :: ps, _, h => by
    cases h with
    | cons h1 h2 => exact .cons (Rep.nin hn p _ h1) (Reps.nin hn ps _ h2)
end
theorem FldR.nin (hn : ∀ b, Nin μ b → Nin μ' b) : ∀ {fs : List (Str × PyData)} {gs : List (Str × V)}, FldR Y H μ fs gs → FldR Y H μ' fs gs
  | _, _, .nil => .nil
  | _, _, .cons r t => .cons ⟨r.1, Rep.nin hn _ _ r.2⟩ (FldR.nin hn t)
theorem CelR.nin (hn : ∀ b, Nin μ b → Nin μ' b) {i j : Nat} {c : Cell} (em : μ'.c[j]? = μ.c[i]?) (x : CelR Y H μ i c) : CelR Y H μ' j c := by
  cases c with
  | dead => exact em.trans x
  | lst ps =>
    obtain ⟨a, vs, q1, q2, q3⟩ := x
    exact ⟨a, vs, em.trans q1, q2, Reps.nin hn _ _ q3⟩
  | ins C fs =>
    obtain ⟨a, dx, vs, q1, q2, q3⟩ := x
    exact ⟨a, dx, vs, em.trans q1, q2, FldR.nin hn q3⟩
theorem nin_upto {n : Nat} (b : Addr) (h : Nin μ b) : Nin (μ.upto n) b := nin_take h
theorem HR.upto (R : HR Y μ h H) (n : Nat) : HR Y (μ.upto n) (h.take n) H := by
  refine ⟨R.tab, R.gl, fun i a e => R.dis i a (take_get e).1, by simp [Mu.upto, R.len], fun i j a e1 e2 => R.inj i j a (take_get e1).1 (take_get e2).1, fun i c e => ?_⟩
  obtain ⟨e1, hi⟩ := take_get e
  exact CelR.nin (fun b hb => nin_take hb) (List.getElem?_take_of_lt hi) (R.cel i c e1)
/-- all but the cell at c is left behind; that one stands behind them -/
theorem HR.only (R : HR Y μ h H) {n c : Nat} {a : Addr} {ps : List PyData} (hn : n ≤ c) (hc : h[c]? = some (.lst ps)) (ha : μ.c[c]? = some (some a)) : HR Y ((μ.upto n).push a) (h.take n ++ [.lst ps]) H := by
  have hl := (List.getElem?_eq_some_iff.mp hc).1
  have len1 : (h.take n).length = n := by simp; omega
  have len2 : (μ.upto n).c.length = n := by
    have := R.len
    simp [Mu.upto]
    omega
  have nn : ∀ b, Nin μ b → Nin ((μ.upto n).push a) b := fun b hb => ⟨fun i z => by
    rcases key_push z with ⟨_, z⟩ | ⟨_, z⟩
    · exact hb.1 i (take_get z).1
    · rw [z] at hb
      exact hb.1 c ha, hb.2⟩
  have away : ∀ {i : Nat} {b : Addr}, (μ.upto n).c[i]? = some (some b) → μ.c[i]? = some (some b) ∧ i < n := fun z => take_get z
  refine ⟨R.tab, R.gl, fun i b e => ?_, by show ((μ.upto n).c ++ [some a]).length = _; simp only [List.length_append, len1, len2, List.length_singleton], fun i j b e1 e2 => ?_, fun i d e => ?_⟩
  · rcases key_push e with ⟨_, z⟩ | ⟨_, z⟩
    · exact R.dis i b (away z).1
    · rw [z]
      exact R.dis c a ha
  · rcases key_push e1 with ⟨_, x1⟩ | ⟨x1, x2⟩ <;> rcases key_push e2 with ⟨_, y1⟩ | ⟨y1, y2⟩
    · exact R.inj i j b (away x1).1 (away y1).1
    · have := R.inj i c b (away x1).1 (by rw [y2]; exact ha)
      have := (away x1).2
      omega
    · have := R.inj j c b (away y1).1 (by rw [x2]; exact ha)
      have := (away y1).2
      omega
    · omega
  · by_cases hi : i < n
    · rw [List.getElem?_append_left (by omega)] at e
      refine CelR.nin nn ?_ (R.cel i d (take_get e).1)
      show ((μ.upto n).c ++ [some a])[i]? = _
      rw [List.getElem?_append_left (by omega)]
      exact List.getElem?_take_of_lt hi
    · rw [List.getElem?_append_right (by omega), len1] at e
      cases hq : i - n with
      | zero =>
        rw [hq] at e
        have e3 : Cell.lst ps = d := by simpa using e
        have e4 : i = n := by omega
        subst e3
        subst e4
        refine CelR.nin nn ?_ (R.cel c _ hc)
        show ((μ.upto i).c ++ [some a])[i]? = _
        rw [List.getElem?_append_right (by omega), len2, ha]
        simp
      | succ m =>
        rw [hq] at e
        simp at e
theorem Ext.only (R : HR Y μ' h H') (e : Ext μ H μ' H') {c : Nat} {a : Addr} (ha : μ'.c[c]? = some (some a)) (hc : μ.c.length ≤ c) : Ext μ H ((μ'.upto μ.c.length).push a) H' := by
  have hl := (List.getElem?_eq_some_iff.mp ha).1
  have len2 : (μ'.upto μ.c.length).c.length = μ.c.length := by
    simp [Mu.upto]
    omega
  refine ⟨⟨by show _ ≤ ((μ'.upto μ.c.length).c ++ [some a]).length; simp only [List.length_append, len2]; omega, fun i b hi q => ?_, fun b o hb n t => ?_⟩, e.gh, e.kg⟩
  · rcases key_push q with ⟨_, z⟩ | ⟨z, _⟩
    · exact e.pre i b hi (take_get z).1
    · omega
  · obtain ⟨h1, n1⟩ := e.keep b o hb n t
    refine ⟨h1, fun i z => ?_, n1.2⟩
    rcases key_push z with ⟨_, z⟩ | ⟨_, z⟩
    · exact n1.1 i (take_get z).1
    · rw [z] at n1
      exact n1.1 c ha
theorem Ext.upto (e : Ext μ H μ' H') : Ext μ H (μ'.upto μ.c.length) H' := by
  refine ⟨⟨?_, fun i a hi q => e.pre i a hi (take_get q).1, fun a o ha n t => ?_⟩, e.gh, e.kg⟩
  · have := e.len
    simp [Mu.upto]
    omega
  · obtain ⟨h1, n1⟩ := e.keep a o ha n t
    exact ⟨h1, nin_take n1⟩
end

theorem fin_ok {Y : Ax} {W : WX} {σ : L2.St} {μ μ' : Mu} {H H' : Hp} {h h1 : Hh} {m : Bool} {w : Val} {v : V} {Q : VK} (hl : μ.c.length = h.length) (R1 : HR Y μ' h1 H') (e : Ext μ H μ' H') (r : RepV Y H' μ' w v) (p : Post Y W (RepV Y) σ μ H (fin m h.length w h1) Q) : Q v H' := by
  have R2 := R1.upto h.length
  have x2 : Ext μ H (μ'.upto h.length) H' := by rw [← hl]; exact e.upto
  cases w with
  | d d => exact p v H' _ R2 x2 (Rep.nin (fun b => nin_take) d v r)
  | ref c =>
    have p : Post Y W (RepV Y) σ μ H (if c < h.length then .bad else (match h1[c]? with
      | some (.lst ps) => if m then .ok (.ref h.length) (h1.take h.length ++ [.lst ps]) else .ok (.d (.list ps)) (h1.take h.length)
      | _ => .bad)) Q := p
    by_cases hc : c < h.length
    · rw [if_pos hc] at p
      exact p.elim
    · rw [if_neg hc] at p
      cases q : h1[c]? with
      | none => rw [q] at p; exact p.elim
      | some cc =>
        rw [q] at p
        cases cc with
        | lst ps =>
          obtain ⟨a, vs, rfl, k1, k2, k3⟩ := cell_of R1 q r
          have hn : Nin (μ'.upto h.length) a := ⟨fun i z => by
            obtain ⟨z1, z2⟩ := take_get z
            have := R1.inj i c a z1 k1
            omega, R1.dis c a k1⟩
          have p : Post Y W (RepV Y) σ μ H (if m then .ok (.ref h.length) (h1.take h.length ++ [.lst ps]) else .ok (.d (.list ps)) (h1.take h.length)) Q := p
          cases m with
          | false => exact p (.ref a) H' _ R2 x2 (Rep.lst hn k2 (Reps.nin (fun b => nin_take) _ _ k3))
          | true =>
            have p : Post Y W (RepV Y) σ μ H (.ok (.ref h.length) (h1.take h.length ++ [.lst ps])) Q := p
            have hc' : h.length ≤ c := by omega
            have x3 : Ext μ H ((μ'.upto h.length).push a) H' := by
              rw [← hl]
              exact e.only R1 k1 (by omega)
            have R3 := R1.only hc' q k1
            refine p (.ref a) H' _ R3 x3 ⟨?_, fun b z => ?_⟩
            · have := R3.len
              rw [this, List.length_append, List.length_take]
              have := (List.getElem?_eq_some_iff.mp q).1
              simp
              omega
            · have len2 : (μ'.upto h.length).c.length = h.length := by
                have := (List.getElem?_eq_some_iff.mp k1).1
                simp [Mu.upto]
                omega
              rcases key_push z with ⟨z, _⟩ | ⟨_, z⟩
              · omega
              · rw [z]
        | _ => exact p.elim
  | fn _ => exact p.elim
  | scr _ => exact p.elim
  | clo _ _ _ => exact p.elim
theorem _root_.L2.PS.imp {X : Cx} {e : Stmt} {t t' : TS} (h : PS X e t) (k : ∀ D σ H, t' D σ H → t D σ H) : PS X e t' := ⟨fun pins s σ H D I q => h.run pins s σ H D I (k D σ H q)⟩
theorem _root_.L2.PSs.imp {X : Cx} {e : List Stmt} {t t' : TS} (h : PSs X e t) (k : ∀ D σ H, t' D σ H → t D σ H) : PSs X e t' := ⟨fun pins s σ H D I q => h.run pins s σ H D I (k D σ H q)⟩
/-- around a body nothing is let out -/
theorem takes0 {X : Cx} : L2N.Takes X W0 := fun _ _ x => by
  obtain ⟨_, _, _, _, _, _, _, _, _, _, _, _, _, _, _, _, z⟩ := x
  exact z.elim
end MP
end
section
set_option Elab.async false
set_option linter.all false
set_option autoImplicit false
set_option maxRecDepth 100000
set_option maxHeartbeats 4000000
/-! Mini: a lambda without parameters handed to one of the law's tries. -/
namespace MP
open PySem PySem.Spec PyProof.Rows L2 LamX

/-- where a lambda's body runs: as LamX.lamCx, its errors' contexts known -/
abbrev lamN (X : Cx) (A : Around) (outer : List Env) (s : Shared) (H : Hp) (E : XK) (scope : Scope) (f c' : Addr) : Cx :=
  (lamCx X A outer s H E scope f c').wish fun e s' => wpAny (model X.prog X.w) (A.deeper (lamEnv X scope s.heap.objs.size f c')) (leaving (lamEnv X scope s.heap.objs.size f c') e) (fun _ s2 => L2N.CX X.prog X.w outer H s E e s2) (fun e2 s2 => L2N.CX X.prog X.w outer H s E e2 s2) s'
theorem lamN_takes (X : Cx) (A : Around) (outer : List Env) (s : Shared) (H : Hp) (E : XK) (scope : Scope) (f c' : Addr) : L2N.Takes (lamN X A outer s H E scope f c') (fun cls d _ H' => E cls d H') := L2N.takes_of rfl rfl rfl rfl
section
variable {Y : Ax} {P : Pg} {n : Nat} {N : List Str} {sc : Scope} {X : Cx}
theorem XOk.lam (xo : XOk Y P n N sc X) (A : Around) (outer : List Env) (s : Shared) (H : Hp) (E : XK) (scope : Scope) (f c' : Addr) (hr : Room (3 * n) (A.deeper (lamEnv X scope s.heap.objs.size f c'))) : XOk Y P.nol n N scope (lamN X A outer s H E scope f c') :=
  ⟨xo.kK, xo.nN, xo.nd, rfl, rfl, hr, xo.blt, xo.fns, xo.glo, xo.fnd, xo.bs, fun z => (nomatch z), xo.clo, xo.ers, fun _ _ z => (nomatch z), fun z => (nomatch z), fun z => (nomatch z)⟩
end
section
variable {X : Cx} {pins : List (Addr × Obj)} {σ : L2.St} {H H1 : Hp} {s s1 : Shared}
/-- the lambda made at s is called from the frames outer, where its cells stand as they stood -/
theorem lam_run {A : Around} {outer : List Env} {E : XK} {params : Arguments} {body : Expr} {scope : Scope} {f c' : Addr} {pm ctv : Value} {tb : TE} {Q : VK} (I : Inv X pins σ H s) (L : LamS X.env.scope scope) (dp : A.depth < recursionLimit) (hd : A.handled = none)
    (e0 : Env0 X.prog X.w X.K X.mg X.base A outer s1 H1) (un : Un (frs X.stack) [] H H1 s.heap s1.heap) (lim : s1.heap.NoLimit) (fo : s1.heap.get? f = some (PySem.W.kla_obj "<lambda>" (X.env.qual ++ "<lambda>") params body scope (cloFrom X.env.cells scope.names []) pm c' ctv)) (co : H1 c' = some (CodeO c' (X.env.qual ++ "<lambda>")))
    (nb : bindArgs (PySem.W.kla_fn "<lambda>" (X.env.qual ++ "<lambda>") params body scope (cloFrom X.env.cells scope.names []) pm (.ref c') ctv) ⟨[], []⟩ = pure []) (pb : PE (lamN X A outer s1 H1 E scope f c') body tb) (q : tb σ H1 Q) :
    codeAny (model X.prog X.w) A (.call (.ref f) ⟨[], []⟩) (CR (L2N.CX X.prog X.w) outer X.prog X.w H1 s1 Q E) s1 := by
  obtain ⟨⟨o, us, tk, g1, g2, g3⟩, _, _⟩ := e0.hok c' _ co
  refine PySem.W.kla_callFunE dp fo rfl L.co L.gen rfl ⟨c', o, us, tk, rfl, g1, g2, g3⟩ ?_
  rw [nb]
  refine wpAny_pure (wpAny_newFunctionEnv (fun y hy => (L.own y hy).2) (fun y hy => (nomatch hy)) (fun hp ns sb => ⟨lim.fresh _ sb, ?_⟩) L.kind)
  have kept : ∀ a u, s1.heap.get? a = some u → hp.get? a = some u := fun a u z => sb.extBut a u (Nat.ne_of_lt (Heap.lt_size z)) (Heap.get?_push_of_some _ z)
  have J := lam_start2 (E := E) (f := f) (c' := c') (tk := s1.toks + ([] : List (Str × Value)).length) I L e0 hd un ns kept
  have z := pb.run [] _ σ H1 Q (J.wish _) q
  refine PySem.W.kla_codeExpr (wpAny_mono z (fun v s2 h2 => ?_) fun _ _ h2 => h2)
  obtain ⟨x, H2, J2, r, k⟩ := h2
  exact ⟨x, H2, J2.os, J2.bare, J2.base, J2.hok, r, k⟩
end

/-! ### the tries -/
section
variable {Y : Ax} {μ : Mu} {H H1 : Hp} {h : Hh}
theorem HR.extN (R : HR Y μ h H) (e : ExtN H H1) (t : Tabs Y.tb H1) : HR Y μ h H1 ∧ Ext μ H μ H1 := by
  have x0 : Ext0 μ H μ H1 := ⟨Nat.le_refl _, fun _ _ _ z => z, fun a o ha n t => ⟨e a o ha t, n⟩⟩
  have kl : ∀ {a : Addr}, Soft H a → (∃ o, H a = some o) → H1 a = H a := fun {a} sf ⟨o, ho⟩ => by
    rw [ho]
    refine e a o ho fun ps z => ?_
    subst z
    rcases sf with q | ⟨xs, q⟩ | ⟨C, d, fs, q⟩ <;> rw [ho] at q <;> cases q
  have kg : ∀ a ∈ μ.g, H1 a = H a := fun a ha => kl (.inr (.inl (R.gl a ha))) (let ⟨xs, q⟩ := R.gl a ha; ⟨_, q⟩)
  refine ⟨⟨t, fun a ha => ?_, R.dis, R.len, R.inj, fun i c q => (R.cel i c q).new x0 rfl fun a z => kl (R.soft z) (R.live z)⟩, x0, rfl, fun a ha o z => (kg a ha).trans z⟩
  obtain ⟨xs, q⟩ := R.gl a ha
  exact ⟨xs, (kg a ha).trans q⟩
end
section
variable {Y : Ax} {P : Pg} {n : Nat} {N : List Str} {sc : Scope} {X : Cx} {W : WX} {pos : Pos}
abbrev trylF (wd : Nat → Option Str) (t : Nat) (mb : En → Hh → Res Val) : En → Hh → Res Val := fun ρ h => tryF wd t h.length (mb ρ h)
theorem noPar_of {a : Arguments} (h : noPar a = true) : a = ⟨[], [], none, [], [], none, []⟩ := by
  obtain ⟨a1, a2, a3, a4, a5, a6, a7⟩ := a
  unfold noPar at h
  dsimp only at h
  split at h
  · rfl
  · cases h
/-- what the law's try makes of what the lambda is worth -/
theorem try_post {σ : L2.St} {μ : Mu} {H : Hp} {h : Hh} {t : Nat} {wd : Nat → Option Str} {r : Res Val} {Q : VK} (R0 : HR Y μ h H) (p : Post Y W (RepV Y) σ μ H (tryF wd t h.length r) Q) :
    Post Y (fun cls d _ H' => TrE Y wd t Q cls d H') (RepV Y) σ μ H r (TrV t Q) := by
  have tup : ∀ {H' : Hp} {μ' : Mu} {h' : Hh} {d e : PyData} {v z : V}, HR Y μ' h' H' → Ext μ H μ' H' → Rep Y.K H' μ' d v → Rep Y.K H' μ' e z → Post Y W (RepV Y) σ μ H (.ok (.d (.tuple [d, e])) h') Q → ∀ p, H' p = none → Q (.ref p) (upd H' p (.tup [v, z])) := fun {H' μ' h' d e v z} R' x' r1 r2 q p hp => by
    have g := Gro.new (o := HO.tup [v, z]) hp
    have y := g.ext μ'
    exact q _ _ μ' (R'.gro g) (x'.trans y) (Rep.tup (.inl ⟨R'.nin hp, upd_same⟩) (.cons (Rep.ext y _ _ r1) (.cons (Rep.ext y _ _ r2) .nil)))
  cases r with
  | bad => exact p
  | exc k h1 =>
    have p : Post Y W (RepV Y) σ μ H (match wd k with
      | some w => .ok (.d (exT t w)) (h1.take h.length)
      | none => .bad) Q := p
    cases hw : wd k with
    | none => rw [hw] at p; exact p.elim
    | some w =>
      rw [hw] at p
      refine fun H' μ' R1 e1 => ⟨k, w, rfl, rfl, hw, fun H2 g => ?_⟩
      have R2' := R1.upto h.length
      obtain ⟨R2, x3⟩ := R2'.extN (ExtN.of g) (R2'.tab.ext g)
      have x2 : Ext μ H (μ'.upto h.length) H2 := (by rw [← R0.len]; exact e1.upto : Ext μ H (μ'.upto h.length) H').trans x3
      have p : Post Y W (RepV Y) σ μ H (.ok (.d (exT t w)) (h1.take h.length)) Q := p
      by_cases ht : t = 0
      · have et : exT t w = .str w := if_pos ht
        rw [et] at p
        rw [if_pos ht]
        exact p _ _ _ R2 x2 (Rep.str w)
      · have et : exT t w = .tuple [.none, .str w] := if_neg ht
        rw [et] at p
        rw [if_neg ht]
        exact tup R2 x2 Rep.non (Rep.str w) p
  | ok w h1 =>
    have p : Post Y W (RepV Y) σ μ H (match fin false h.length w h1 with
      | .ok (.d p) h2 => .ok (.d (okT t p)) h2
      | _ => .bad) Q := p
    refine fun v H' μ' R1 e1 rv => fin_ok (W := W) (σ := σ) (m := false) R0.len R1 e1 rv (Q := TrV t Q) ?_
    cases hf : fin false h.length w h1 with
    | bad => rw [hf] at p; exact p.elim
    | exc k h2 => rw [hf] at p; exact p.elim
    | ok w2 h2 =>
      rw [hf] at p
      cases w2 with
      | d d =>
        have p : Post Y W (RepV Y) σ μ H (.ok (.d (okT t d)) h2) Q := p
        refine fun z H2 μ2 R2 x2 rz => ?_
        unfold TrV
        by_cases ht : t = 0
        · have et : okT t d = .str "" := if_pos ht
          rw [et] at p
          rw [if_pos ht]
          exact p _ _ _ R2 x2 (Rep.str _)
        · have et : okT t d = .tuple [d, .str ""] := if_neg ht
          rw [et] at p
          rw [if_neg ht]
          exact tup R2 x2 rz (Rep.str _) p
      | _ => exact p.elim
theorem s_tryl {t : Nat} {wd : Nat → Option Str} {p lpos : Pos} {params : Arguments} {body : Expr} {scope : Scope} {mb : En → Hh → Res Val} (xo : XOk Y P n N sc X) (tb : XTb Y n X) (tr : TryP Y wd t (3 * n + 2) X.prog X.w X.K X.mg X.base) (hg : glB X.env.scope (tnm t) = true) (hn : nmB (tnm t) = true) (np : noPar params = true) (ls : lamSB X.env.scope scope = true)
    (hb : ∀ (A : Around) (outer : List Env) (s : Shared) (H : Hp) (E : XK) (f c' : Addr), Room (3 * n) (A.deeper (lamEnv X scope s.heap.objs.size f c')) → PE (lamN X A outer s H E scope f c') body (tG Y (fun cls d _ H' => E cls d H') mb)) :
    PE X (.Call (.Name (tnm t) p) [.Lambda params body scope lpos] [] pos) (tG Y W (trylF wd t mb)) := by
  obtain ⟨hr, c, T, hcode, TB, hmT, hu⟩ := tb
  obtain ⟨g, hm, hk, run⟩ := tr
  have L := lamS_by ls
  cases noPar_of np
  refine ⟨fun pins s σ H Q I hq => ?_⟩
  obtain ⟨μ, ρ, h, R0, er, q⟩ := hq
  refine wpAny_Call_Name_kw (ld_glob I (gl_of hg) hm ?_ (nm_of hn).1)
  refine PySem.W.callWith_K (h₀ := X.base) I.ok.mod.kin hk ?_ rfl rfl
  show wpAny _ _ (spliced ((false, eval (.Lambda ⟨[], [], none, [], [], none, []⟩ body scope lpos) X.env) :: backTo pos (starEach [] X.env))) _ _ s
  refine Calls.spliced_cons (lam_make2 I TB hcode hmT hu R0.tab rfl (L.has I.ok) fun f c' pm ctv H1 s1 I1 eN T1 fo fn0 ffr co => Calls.spliced_nil ⟨I1.kIn, ?_⟩)
  obtain ⟨R1, x1⟩ := R0.extN eN T1
  have mono : MonoT (fun E H' Q' => H' = H1 → tG Y (fun cls d _ H' => E cls d H') mb σ H' Q') := fun E E' H2 Q2 Q3 hE hQ z e => by
    obtain ⟨μ, ρ, h, R, er, q⟩ := z e
    refine ⟨μ, ρ, h, R, er, ?_⟩
    cases hm : mb ρ h with
    | ok w h2 => rw [hm] at q; exact fun v H3 μ3 a b c => hQ _ _ (q v H3 μ3 a b c)
    | exc c h2 => rw [hm] at q; exact fun H3 μ3 a b => hE _ _ _ (q H3 μ3 a b)
    | bad => rw [hm] at q; exact q
  have go := run X.A X.stack s1 H1 f Q (fun E H' Q' => H' = H1 → tG Y (fun cls d _ H' => E cls d H') mb σ H' Q') hr I1.env0 mono (fun env s2 E Q2 hd e0 un lim hS => ?_) fun _ => ?_
  · refine wpAny_call (codeAny_mono go fun r s' hr' => ?_)
    cases r with
    | error e => exact (show False from hr').elim
    | ok fl =>
      cases fl with
      | ret u => exact I1.after hr'
      | next => exact False.elim hr'
      | brk => exact False.elim hr'
      | cont => exact False.elim hr'
  · have fo2 := un.keep f _ fo fn0 ffr (by simp)
    refine ⟨⟨_, _, _, _, fo2⟩, ?_⟩
    have hr1 : Room (3 * n + 1) (X.A.deeper env) := hr.deeper env
    exact lam_run I1 L hr1.depth hd e0 un lim fo2 co rfl (hb _ _ s2 H1 E f c' (hr1.deeper _)) (hS rfl)
  · exact ⟨μ, ρ, h, R1, er.ext x1, try_post R1 (Post.ext x1 q)⟩
end
end MP
end
section
set_option Elab.async false
set_option linter.all false
set_option autoImplicit false
set_option maxRecDepth 100000
set_option maxHeartbeats 4000000
/-! Mini: closures: what they captured stands aside, known and unchanging, while others run. -/
namespace MP
open PySem PySem.Spec PyProof.Rows L2 LamX

/-! ### a heap with further things, a heap without them -/
def ovl (H F : Hp) : Hp := fun b => match F b with
  | some o => some o
  | none => H b
def del (H F : Hp) : Hp := fun b => match F b with
  | some _ => none
  | none => H b
section
variable {P : Program} {w : World} {K : PySem.W.Frag} {mg : Str → Option Value} {base : Heap} {A : Around} {outer : List Env} {s s' : Shared} {H H' F : Hp} {h h' : Heap} {b : Addr} {o x : HO} {Q Q' : VK} {E E' : XK} {u : Value}
theorem ovl_in (e : F b = some x) : ovl H F b = some x := by unfold ovl; rw [e]
theorem ovl_out (e : F b = none) : ovl H F b = H b := by unfold ovl; rw [e]
theorem del_in (e : F b = some x) : del H F b = none := by unfold del; rw [e]
theorem del_out (e : F b = none) : del H F b = H b := by unfold del; rw [e]
theorem del_some (e : del H F b = some o) : F b = none ∧ H b = some o := by
  cases q : F b with
  | some y => rw [del_in q] at e; cases e
  | none => rw [del_out q] at e; exact ⟨rfl, e⟩
/-- F: things of the heap h that are known to the object -/
def FrzF (P : Program) (w : World) (F : Hp) (h : Heap) : Prop := ∀ b x, F b = some x → ∃ o u, x = .frz o u ∧ (∀ xs, u ≠ .lst xs) ∧ h.get? b = some o ∧ ∀ (H' : Hp) (h' : Heap), h'.get? b = some o → ObjOk P w H' h' b u
/-- F is no part of H -/
def OutF (F H : Hp) : Prop := ∀ b x, F b = some x → H b = none
/-- F is a part of H -/
def InF (F H : Hp) : Prop := ∀ b x, F b = some x → H b = some x
theorem OutF.no (r : OutF F H) (e : H b = some o) : F b = none := by
  cases q : F b with
  | some y => rw [r b y q] at e; cases e
  | none => rfl
theorem InF.no (r : InF F H) (f : FrzF P w F h) (e : H b = some o) (n : ∀ ob u, o ≠ .frz ob u) : F b = none := by
  cases q : F b with
  | some y =>
    rw [r b y q] at e
    cases e
    obtain ⟨ob, u, z, _⟩ := f b _ q
    exact absurd z (n ob u)
  | none => rfl
theorem hok_ovl (k : HOk P w H h) (f : FrzF P w F h) (r : OutF F H) : HOk P w (ovl H F) h := fun a o e => by
  cases q : F a with
  | some y =>
    rw [ovl_in q] at e
    cases e
    obtain ⟨ob, u, rfl, _, e1, st⟩ := f a _ q
    exact ⟨e1, st _ _ e1⟩
  | none =>
    rw [ovl_out q] at e
    exact (k a o e).stay (fun b u _ q => q) (fun b q => by rw [ovl_out (r.no q)]; exact q) fun b xs q => by rw [ovl_out (r.no q)]; exact q
theorem hok_del (k : HOk P w H h) {g : Heap} (f : FrzF P w F g) (r : InF F H) : HOk P w (del H F) h := fun a o e => by
  obtain ⟨_, e⟩ := del_some e
  exact (k a o e).stay (fun b u _ q => q) (fun b q => by rw [del_out (r.no f q fun _ _ z => by cases z)]; exact q) fun b xs q => by rw [del_out (r.no f q fun _ _ z => by cases z)]; exact q
theorem env0_ovl (e0 : Env0 P w K mg base A outer s H) (f : FrzF P w F s.heap) (r : OutF F H) (fr : ∀ b x, F b = some x → b ∉ frs outer ∧ base.get? b = none) : Env0 P w K mg base A outer s (ovl H F) := by
  refine ⟨e0.frames, e0.mod, fun b o q => ⟨(e0.bs b o q).1, ?_⟩, e0.bsz, e0.funs, fun b hb => ?_, hok_ovl e0.hok f r, e0.bare⟩
  · cases z : F b with
    | some y => rw [(fr b y z).2] at q; cases q
    | none => rw [ovl_out z]; exact (e0.bs b o q).2
  · cases z : F b with
    | some y => exact absurd hb (fr b y z).1
    | none => rw [ovl_out z]; exact e0.frf b hb
theorem del_none (e : H b = none) : del H F b = none := by
  cases z : F b with
  | some y => exact del_in z
  | none => rw [del_out z]; exact e
theorem env0_del (e0 : Env0 P w K mg base A outer s H) (f : FrzF P w F s.heap) (r : InF F H) : Env0 P w K mg base A outer s (del H F) :=
  ⟨e0.frames, e0.mod, fun b o q => ⟨(e0.bs b o q).1, del_none (e0.bs b o q).2⟩, e0.bsz, e0.funs, fun b hb => del_none (e0.frf b hb), hok_del e0.hok f r, e0.bare⟩
theorem InF.of_frz {H2 : Hp} (f : FrzF P w F h) (k : ∀ b o u, ovl H F b = some (.frz o u) → H2 b = some (.frz o u)) : InF F H2 := fun b x q => by
  obtain ⟨ob, u, rfl, _⟩ := f b x q
  exact k b ob u (ovl_in q)
/-- a call with F known is over -/
theorem ce_ovl (f : FrzF P w F s.heap) (r : OutF F H) (fr : ∀ b x, F b = some x → b ∉ frs outer) (c : CE outer P w (ovl H F) s Q' u s') (k : ∀ v H2, InF F H2 → Q' v H2 → Q v (del H2 F)) : CE outer P w H s Q u s' := by
  obtain ⟨v, H2, os, bare, un, hok, rv, q⟩ := c
  have i2 : InF F H2 := .of_frz f un.frzs
  refine ⟨v, del H2 F, os, bare, ⟨fun b o e n hb hx => ?_, fun b o e n hb hx => ?_, fun b o e n hx => ?_, un.there, fun b xs e => ?_, fun b o u e => ?_, fun b ps e => ?_⟩, hok_del hok f i2, rv, k v H2 i2 q⟩
  · cases z : F b with
    | some y =>
      obtain ⟨ob, u, rfl, _, e1, _⟩ := f b _ z
      rw [e] at e1
      cases e1
      exact (show ObjOk P w H2 s'.heap b (.frz o u) from hok b _ (i2 b _ z)).1
    | none => exact un.keep b o e (by rw [ovl_out z]; exact n) hb hx
  · cases z : F b with
    | some y => exact absurd hb (fr b y z)
    | none => exact un.slot b o e (by rw [ovl_out z]; exact n) hb hx
  · cases z : F b with
    | some y => exact del_in z
    | none => rw [del_out z]; exact un.free b o e (by rw [ovl_out z]; exact n) hx
  · have z := r.no e
    rw [del_out z]
    exact un.tups b xs (by rw [ovl_out z]; exact e)
  · have z := r.no e
    rw [del_out z]
    exact un.frzs b o u (by rw [ovl_out z]; exact e)
  · have z := r.no e
    rw [del_out z]
    exact un.tbls b ps (by rw [ovl_out z]; exact e)
/-- a call with F aside is over -/
theorem ce_del (e0 : Env0 P w K mg base A outer s H) (f : FrzF P w F s.heap) (r : InF F H) (c : CE outer P w (del H F) s Q' u s') (k : ∀ v H2, OutF F H2 → Q' v H2 → Q v (ovl H2 F)) : CE outer P w H s Q u s' := by
  obtain ⟨v, H2, os, bare, un, hok, rv, q⟩ := c
  have nfs : ∀ b x, F b = some x → b ∉ frs outer := fun b x z hb => by
    have := e0.frf b hb
    rw [r b x z] at this
    cases this
  have o2 : OutF F H2 := fun b x z => by
    obtain ⟨ob, u, rfl, _, e1, _⟩ := f b _ z
    exact un.free b ob e1 (del_in z) (by simp)
  have f2 : FrzF P w F s'.heap := fun b x z => by
    obtain ⟨ob, u, e, nl, e1, st⟩ := f b _ z
    exact ⟨ob, u, e, nl, un.keep b ob e1 (del_in z) (nfs b x z) (by simp), st⟩
  have no : ∀ {b : Addr}, H b = none → F b = none := fun {b} n => by
    cases z : F b with
    | some y => rw [r b y z] at n; cases n
    | none => rfl
  refine ⟨v, ovl H2 F, os, bare, ⟨fun b o e n hb hx => ?_, fun b o e n hb hx => ?_, fun b o e n hx => ?_, un.there, fun b xs e => ?_, fun b o u e => ?_, fun b ps e => ?_⟩, hok_ovl hok f2 o2, rv, k v H2 o2 q⟩
  · exact un.keep b o e (del_none n) hb hx
  · exact un.slot b o e (del_none n) hb hx
  · rw [ovl_out (no n)]
    exact un.free b o e (del_none n) hx
  · have z := r.no f e fun _ _ z => by cases z
    rw [ovl_out z]
    exact un.tups b xs (by rw [del_out z]; exact e)
  · cases z : F b with
    | some y =>
      rw [ovl_in z]
      rw [r b y z] at e
      exact e
    | none =>
      rw [ovl_out z]
      exact un.frzs b o u (by rw [del_out z]; exact e)
  · have z := r.no f e fun _ _ z => by cases z
    rw [ovl_out z]
    exact un.tbls b ps (by rw [del_out z]; exact e)
theorem cx_del (e0 : Env0 P w K mg base A outer s H) (f : FrzF P w F s.heap) (r : InF F H) (c : L2N.CX P w outer (del H F) s E' u s') (k : ∀ cls d H2, OutF F H2 → E' cls d H2 → E cls d (ovl H2 F)) : L2N.CX P w outer H s E u s' := by
  obtain ⟨a, B, H2, cls, d, ea, fl, hok, ub, na, os, bare, q⟩ := c
  have nfs : ∀ b x, F b = some x → b ∉ frs outer := fun b x z hb => by
    have := e0.frf b hb
    rw [r b x z] at this
    cases this
  have o2 : OutF F H2 := fun b x z => by
    obtain ⟨ob, u, rfl, _, e1, _⟩ := f b _ z
    exact ub.free b ob e1 (del_in z)
  have f2 : FrzF P w F B := fun b x z => by
    obtain ⟨ob, u, e, nl, e1, st⟩ := f b _ z
    exact ⟨ob, u, e, nl, ub.keep b ob e1 (del_in z) (nfs b x z), st⟩
  have no : ∀ {b : Addr}, H b = none → F b = none := fun {b} n => by
    cases z : F b with
    | some y => rw [r b y z] at n; cases n
    | none => rfl
  refine ⟨a, B, ovl H2 F, cls, d, ea, fl, hok_ovl hok f2 o2, ⟨fun b o e n hb => ?_, ub.slot, fun b o e n => ?_, ub.there, fun b xs e => ?_, fun b o u e => ?_, fun b ps e => ?_⟩, ?_, os, bare, k cls d H2 o2 q⟩
  · exact ub.keep b o e (del_none n) hb
  · rw [ovl_out (no n)]
    exact ub.free b o e (del_none n)
  · have z := r.no f e fun _ _ z => by cases z
    rw [ovl_out z]
    exact ub.tups b xs (by rw [del_out z]; exact e)
  · cases z : F b with
    | some y =>
      rw [ovl_in z]
      rw [r b y z] at e
      exact e
    | none =>
      rw [ovl_out z]
      exact ub.frzs b o u (by rw [del_out z]; exact e)
  · have z := r.no f e fun _ _ z => by cases z
    rw [ovl_out z]
    exact ub.tbls b ps (by rw [del_out z]; exact e)
  · cases z : F a with
    | some y =>
      obtain ⟨ob, u, _, _, e1, _⟩ := f2 a _ z
      rw [fl.2.1] at e1
      cases e1
    | none => rw [ovl_out z]; exact na
end
/-! ### what values, cells stand for there -/
section
variable {Y : Ax} {K : PySem.W.Frag} {μ μ' : Mu} {H H' F : Hp} {h : Hh} {P : Program} {w : World} {g : Heap}
/-- lists and tuples stand as they stood -/
def KeepLT (H H' : Hp) : Prop := (∀ a xs, H a = some (.lst xs) → H' a = some (.lst xs)) ∧ ∀ a xs, H a = some (.tup xs) → H' a = some (.tup xs)
mutual
theorem Rep.lt (k : KeepLT H H') : ∀ (p : PyData) (v : V), Rep K H μ p v → Rep K H' μ p v
  | .none, _, h => by cases h; exact .non
  | .bool b, _, h => by cases h; exact .bl b
  | .int i, _, h => by cases h; exact .int i
  | .str x, _, h => by cases h; exact .str x
  | .list ps, _, h => by
    cases h with
    | lst n ha hr => exact .lst n (k.1 _ _ ha) (Reps.lt k ps _ hr)
  | .tuple ps, _, h => by
    cases h with
    | tup ha hr =>
      refine .tup ?_ (Reps.lt k ps _ hr)
      rcases ha with ⟨n, ha⟩ | ha
      · exact .inl ⟨n, k.2 _ _ ha⟩
      · exact .inr ha
  | .dict _, _, h => by cases h
theorem Reps.lt (k : KeepLT H H') : ∀ (ps : List PyData) (vs : List V), Reps K H μ ps vs → Reps K H' μ ps vs
  | [], _, h => by cases h; exact .nil
  | p :: ps, _, h => by
    cases h with
    | cons h1 h2 => exact .cons (Rep.lt k p _ h1) (Reps.lt k ps _ h2)
end
theorem FldR.lt (k : KeepLT H H') : ∀ {fs : List (Str × PyData)} {gs : List (Str × V)}, FldR Y H μ fs gs → FldR Y H' μ fs gs
  | _, _, .nil => .nil
  | _, _, .cons r t => .cons ⟨r.1, Rep.lt k _ _ r.2⟩ (FldR.lt k t)
theorem keep_del (f : FrzF P w F g) (r : InF F H) : KeepLT H (del H F) :=
  ⟨fun a xs e => by rw [del_out (r.no f e fun _ _ z => by cases z)]; exact e, fun a xs e => by rw [del_out (r.no f e fun _ _ z => by cases z)]; exact e⟩
theorem keep_ovl (r : OutF F H) : KeepLT H (ovl H F) :=
  ⟨fun a xs e => by rw [ovl_out (r.no e)]; exact e, fun a xs e => by rw [ovl_out (r.no e)]; exact e⟩
theorem HR.del (R : HR Y μ h H) (f : FrzF P w F g) (r : InF F H) : HR Y μ h (del H F) := by
  have k := keep_del f r
  have ki : ∀ a C d fs, H a = some (.ins C d fs) → MP.del H F a = some (.ins C d fs) := fun a C d fs e => by rw [del_out (r.no f e fun _ _ z => by cases z)]; exact e
  refine ⟨fun p hp => ?_, fun a ha => let ⟨xs, e⟩ := R.gl a ha; ⟨xs, k.1 a xs e⟩, R.dis, R.len, R.inj, fun i c e => ?_⟩
  · obtain ⟨ps, h1, h2, h3⟩ := R.tab p hp
    refine ⟨ps, by rw [del_out (r.no f h1 fun _ _ z => by cases z)]; exact h1, h2, fun pos cv hc => ?_⟩
    obtain ⟨c, e1, e2⟩ := h3 pos cv hc
    exact ⟨c, e1, by rw [del_out (r.no f e2 fun _ _ z => by unfold CodeO at z; cases z)]; exact e2⟩
  · have x := R.cel i c e
    cases c with
    | dead => exact x
    | lst ps =>
      obtain ⟨a, vs, e1, e2, e3⟩ := x
      exact ⟨a, vs, e1, k.1 a vs e2, Reps.lt k _ _ e3⟩
    | ins C fs =>
      obtain ⟨a, dx, vs, e1, e2, e3⟩ := x
      exact ⟨a, dx, vs, e1, ki _ _ _ _ e2, FldR.lt k e3⟩
theorem HR.ovl (R : HR Y μ h H) (r : OutF F H) : HR Y μ h (ovl H F) ∧ Ext μ H μ (ovl H F) :=
  R.extN (ExtN.of fun b o e => by rw [ovl_out (r.no e)]; exact e) (R.tab.ext fun b o e => by rw [ovl_out (r.no e)]; exact e)
/-- from H with F known to what is behind a call -/
theorem ext_ovl {H2 : Hp} (r : OutF F H) (r2 : InF F H2) (e : Ext μ (ovl H F) μ' H2) : Ext μ H μ' (del H2 F) :=
  ⟨⟨e.len, e.pre, fun a o ha n t => by
    have z := r.no ha
    obtain ⟨h1, h2⟩ := e.keep a o (by rw [ovl_out z]; exact ha) n t
    exact ⟨by rw [del_out z]; exact h1, h2⟩⟩, e.gh, fun a ha o h => by
    have z := r.no h
    rw [del_out z]
    exact e.kg a ha o (by rw [ovl_out z]; exact h)⟩
/-- from H without F to what is behind a call -/
theorem ext_del {H2 : Hp} {h2 : Hh} (r : InF F H) (R2 : HR Y μ' h2 H2) (r2 : OutF F H2) (e : Ext μ (del H F) μ' H2) : Ext μ H μ' (ovl H2 F) :=
  ⟨⟨e.len, e.pre, fun a o ha n t => by
    cases z : F a with
    | some y =>
      rw [r a y z] at ha
      exact ⟨by rw [ovl_in z]; exact ha, R2.nin (r2 a y z)⟩
    | none =>
      obtain ⟨h1, h2⟩ := e.keep a o (by rw [del_out z]; exact ha) n t
      exact ⟨by rw [ovl_out z]; exact h1, h2⟩⟩, e.gh, fun a ha o h => by
    cases z : F a with
    | some y =>
      rw [r a y z] at h
      rw [ovl_in z]
      exact h
    | none =>
      rw [ovl_out z]
      exact e.kg a ha o (by rw [del_out z]; exact h)⟩
end

/-! ### a lambda's words -/
structure LamK (N : List Str) (sc : Scope) (ps : List Nat) (params : Arguments) (scope : Scope) : Prop where
  par : params = ⟨[], params.args, none, [], [], none, []⟩
  at_ : ps.map (fun i => N[i]?) = params.args.map fun a => some a.arg
  one : params.args.length ≤ 1
  kind : scope.kind = .function
  co : scope.isCoroutine = false
  gen : scope.isGenerator = false
  cel : ∀ y ∈ scope.names, y.2 ≠ .cell
  loc : ∀ y, scope.names.lookup y = some .local → y ∈ params.args.map (·.arg)
  fre : ∀ y, (y, NameKind.free) ∈ scope.names → sc.names.lookup y = some .cell ∨ sc.names.lookup y = some .free
  pl : ∀ a ∈ params.args, scope.names.lookup a.arg = some .local
theorem lamC_ok {N : List Str} {sc : Scope} {ps : List Nat} {params : Arguments} {scope : Scope} (h : lamC N sc ps params scope = true) : LamK N sc ps params scope := by
  obtain ⟨a1, a2, a3, a4, a5, a6, a7⟩ := params
  unfold lamC at h
  simp only [Bool.and_eq_true, decide_eq_true_eq, List.all_eq_true, Bool.not_eq_true'] at h
  obtain ⟨⟨h1, h2, h3, h4⟩, h5, h6, h7, h8, h9⟩ := h
  have e1 : a1 = [] ∧ a3 = none ∧ a4 = [] ∧ a5 = [] ∧ a6 = none ∧ a7 = [] := by
    split at h1
    · exact ⟨rfl, rfl, rfl, rfl, rfl, rfl⟩
    · cases h1
  obtain ⟨rfl, rfl, rfl, rfl, rfl, rfl⟩ := e1
  have kind : scope.kind = .function := by
    split at h5
    · assumption
    · cases h5
  refine ⟨rfl, h2, h4, kind, h6, h7, fun y hy e => ?_, fun y hy => ?_, fun y hy => ?_, h9⟩
  · have := h8 y hy
    rw [e] at this
    cases this
  · have := h8 _ (PySem.mem_of_lookup hy)
    simp only [Bool.and_eq_true, decide_eq_true_eq] at this
    exact this.2
  · have := h8 _ hy
    dsimp only at this
    split at this
    · exact .inl (by assumption)
    · exact .inr (by assumption)
    · cases this
theorem zip_has : ∀ {ns : List Str} {us : List Value}, us.length = ns.length → ∀ n ∈ ns, ((ns.zip us).lookup n).isNone = false
  | [], _, _, _, h => by cases h
  | m :: ns, [], h, _, _ => by cases h
  | m :: ns, u :: us, h, n, hn => by
    rw [List.zip_cons_cons, List.lookup_cons]
    cases e : n == m with
    | true => rfl
    | false =>
      rcases List.mem_cons.mp hn with rfl | hn
      · simp at e
      · exact zip_has (by simpa using h) n hn
theorem zip_all : ∀ {ns : List Str} {us : List Value}, ns.Nodup → us.length = ns.length → (ns.filterMap fun n => ((ns.zip us).lookup n).map fun u => (n, u)) = ns.zip us
  | [], _, _, _ => rfl
  | m :: ns, [], _, h => by cases h
  | m :: ns, u :: us, nd, h => by
    have nd := List.nodup_cons.mp nd
    have e1 : (((m, u) :: ns.zip us).lookup m) = some u := by rw [List.lookup_cons]; simp
    rw [List.zip_cons_cons, List.filterMap_cons_some (b := (m, u)) (by rw [e1] <;> rfl)]
    refine congrArg ((m, u) :: ·) (Eq.trans ?_ (zip_all nd.2 (by simpa using h)))
    have cg : ∀ {l : List Str} {f g : Str → Option (Str × Value)}, (∀ n ∈ l, f n = g n) → l.filterMap f = l.filterMap g := by
      intro l f g
      induction l with
      | nil => intro _; rfl
      | cons a l ih =>
        intro hfg
        rw [List.filterMap_cons, List.filterMap_cons, hfg a List.mem_cons_self, ih fun n hn => hfg n (List.mem_cons_of_mem _ hn)]
    refine cg fun n hn => ?_
    have ne : (n == m) = false := by
      rw [beq_eq_false_iff_ne]
      exact fun e => nd.1 (e ▸ hn)
    rw [List.lookup_cons, ne]
theorem lam_bind {qual : Str} {as : List Arg} {body : Expr} {scope : Scope} {cl : List (Str × Addr)} {pm cdv ct : Value} {us : List Value} (hl : us.length = as.length) (nd : (as.map (·.arg)).Nodup) :
    bindArgs (PySem.W.kla_fn "<lambda>" qual ⟨[], as, none, [], [], none, []⟩ body scope cl pm cdv ct) ⟨us, []⟩ = pure ((as.map (·.arg)).zip us) := by
  have hl2 : us.length = (as.map (·.arg)).length := by rw [List.length_map]; exact hl
  have miss : ((as.map (·.arg)).filter fun n => (((as.map (·.arg)).zip us).lookup n).isNone) = [] := List.filter_eq_nil_iff.mpr fun n hn => by rw [zip_has hl2 n hn]; decide
  have all := zip_all nd hl2
  have lt : (decide (us.length > (as.map (·.arg)).length)) = false := decide_eq_false (by omega)
  have n0 : notAStandIn Value.none = pure () := rfl
  unfold bindArgs PySem.W.kla_fn
  simp only [List.map_nil, List.nil_append, List.forIn_nil, pure_bind, seqItems?, List.length_nil, List.drop_nil, Nat.sub_zero, List.zip_nil_right, n0, lt, Bool.false_and, Option.getD_none, List.append_nil]
  generalize as.map (·.arg) = ns at *
  rw [List.take_length, miss]
  simp only [List.isEmpty_nil, Bool.not_true, Bool.false_eq_true, if_false]
  rw [all]

/-! ### where a closure's body runs -/
abbrev cloEnv (F : LF) (L f : Addr) : Env := PySem.W.envX F.qual F.scope L f (.ref F.c) F.cl
def cloCx (prog : Program) (w : World) (K : PySem.W.Frag) (mg : Str → Option Value) (base : Heap) (N : List Str) (F : LF) (f : Addr) (A : Around) (outer : List Env) (s : Shared) (H : Hp) (E : XK) : Cx where
  prog := prog
  w := w
  K := K
  mg := mg
  base := base
  A := A.deeper (cloEnv F s.heap.objs.size f)
  N := N
  s_0 := s
  H_0 := H
  env := cloEnv F s.heap.objs.size f
  outer := outer
  stack := cloEnv F s.heap.objs.size f :: outer
  ex := []
  fn := fun _ => false
  calm := true
  pn := []
  xe := fun e s' => wpAny (model prog w) (A.deeper (cloEnv F s.heap.objs.size f)) (leaving (cloEnv F s.heap.objs.size f) e) (fun _ s2 => L2N.CX prog w outer H s E e s2) (fun e2 s2 => L2N.CX prog w outer H s E e2 s2) s'
section
variable {prog : Program} {w : World} {K : PySem.W.Frag} {mg : Str → Option Value} {base : Heap} {N : List Str} {F : LF} {f : Addr} {A : Around} {outer : List Env} {s : Shared} {H : Hp} {E : XK}
theorem cloCx_takes : L2N.Takes (cloCx prog w K mg base N F f A outer s H E) (fun cls d _ H' => E cls d H') := L2N.takes_of rfl rfl rfl rfl
theorem clo_inv {σ : L2.St} {h1 : Heap} {tk : Nat} {m : Str → Option Value} (e0 : Env0 prog w K mg base A outer s H) (hd : A.handled = none) (kind : F.scope.kind = .function) (inj : ∀ x y c, F.cl.lookup x = some c → F.cl.lookup y = some c → x = y)
    (has : ∀ y, F.scope.names.lookup y = some .free → ∃ c, F.cl.lookup y = some c) (nc : ∀ y ∈ F.scope.names, y.2 ≠ .cell) (cells : ∀ y c, F.cl.lookup y = some c → H c = none ∧ ∃ v, s.heap.IsCell c v)
    (ns : h1.Ns s.heap.objs.size m) (kp : ∀ b o, s.heap.get? b = some o → h1.get? b = some o)
    (loc : ∀ (i : Nat) (y : Str) (v : V), N[i]? = some y → σ[i]? = some (some v) → Vis F.scope y → ∃ u, RelV v u ∧ Look (cloEnv F s.heap.objs.size f) h1 m y u) (len : σ.length = N.length) :
    Inv (cloCx prog w K mg base N F f A outer s H E) [] σ H { s with heap := h1, toks := tk } := by
  have ok : (cloCx prog w K mg base N F f A outer s H E).Ok := {
    mod := e0.mod
    kind := kind
    glob := rfl
    blt := rfl
    above := Nat.le_refl _
    inj := inj
    has := fun y hy => hy.elim (fun q => absurd rfl (nc _ (PySem.mem_of_lookup q))) fun q => has y q
    cab := fun x c z => (nomatch (show false = true from z))
    hd := fun _ => hd
    frames := Around.frames_deeper e0.frames
    stk := .inr ⟨rfl, rfl⟩
    exf := fun b hb => (nomatch (show b ∈ ([] : List Addr) from hb))
    bs := e0.bs
    bsz := e0.bsz
    noex := fun b o _ hb => (nomatch (show b ∈ ([] : List Addr) from hb))
    exfs := fun b hb => (nomatch (show b ∈ ([] : List Addr) from hb))
    funs := e0.funs
    frf := e0.frf }
  exact {
    ok := ok
    os := rfl
    bare := e0.bare
    base := Un.kept kp
    loc := ⟨m, ns, loc⟩
    cell := fun y c e => let ⟨v, o, ho, hd⟩ := (cells y c e).2; ⟨v, o, kp c o ho, hd⟩
    free := e0.hok.fresh (Nat.le_refl _)
    freeC := fun y c e => (cells y c e).1
    pin := fun q hq => (nomatch (show q ∈ ([] : List (Addr × Obj)) ++ [] from hq))
    hok := e0.hok.kept kp
    len := len }
end
/-- the parameters' slots -/
def setAllV (σ : L2.St) : List Nat → List V → L2.St
  | p :: ps, v :: vs => setAllV (σ.set p (some v)) ps vs
  | _, _ => σ
theorem er_setAll {Y : Ax} {μ : Mu} {H : Hp} : ∀ {ps : List Nat} {ws : List Val} {vs : List V} {ρ : En} {σ : L2.St}, ER Y μ H ρ σ → RepVs Y H μ ws vs → ER Y μ H (setAll ρ ps ws) (setAllV σ ps vs)
  | [], _, _, _, _, e, _ => by
    unfold setAll setAllV
    exact e
  | p :: ps, _, _, _, _, e, .nil => by
    unfold setAll setAllV
    exact e
  | p :: ps, _, _, _, _, e, .cons r t => by
    unfold setAll setAllV
    exact er_setAll (e.set p r) t
theorem pures_data {Y : Ax} {μ : Mu} {H H' : Hp} (k : KeepLT H H') : ∀ {ws : List Val} {vs : List V}, (pures ws).isSome = true → RepVs Y H μ ws vs → RepVs Y H' μ ws vs
  | _, _, _, .nil => .nil
  | w :: ws, _, h, .cons r t => by
    cases w with
    | d p =>
      have h2 : (pures ws).isSome = true := by
        unfold pures at h
        cases q : pures ws with
        | none => rw [q] at h; cases h
        | some _ => rfl
      exact .cons (Rep.lt k p _ r) (pures_data k h2 t)
    | _ => cases h

/-! ### f(lambda ..: .., ..) -/
section
variable {Y : Ax} {P : Pg} {n : Nat} {N : List Str} {sc : Scope} {X : Cx} {W : WX} {pos : Pos}
abbrev calllF (P : Pg) (n f : Nat) (ps : List Nat) (b : E) (ms : En → Hh → Res (List Val)) : En → Hh → Res Val := fun ρ h => (ms ρ h).bd fun vs h1 => dOnly (callF P.toPc n f (.clo ps b ρ :: vs) h1)
theorem Inv.unpin {pins : List (Addr × Obj)} {p : Addr × Obj} {σ : L2.St} {H : Hp} {s : Shared} (I : Inv X (p :: pins) σ H s) : Inv X pins σ H s :=
  ⟨I.ok, I.os, I.bare, I.base, I.loc, I.cell, I.free, I.freeC, fun q hq => I.pin q ((List.mem_append.mp hq).elim (fun z => List.mem_append_left _ z) fun z => List.mem_append_right _ (List.mem_cons_of_mem _ z)), I.hok, I.len⟩
theorem ext_nin {μ : Mu} {H : Hp} {h : Hh} {a : Addr} {φ : Heap → Prop} (R : HR Y μ h H) (e : H a = some (.ext φ)) : Nin μ a := by
  refine ⟨fun i z => ?_, fun z => ?_⟩
  · rcases R.soft z with q | ⟨xs, q⟩ | ⟨C, d, fs, q⟩ <;> rw [e] at q <;> cases q
  · obtain ⟨xs, q⟩ := R.gl a z
    rw [e] at q
    cases q
theorem s_calll {f : Nat} {x : Str} {p lpos : Pos} {params : Arguments} {body : Expr} {scope : Scope} {ps : List Nat} {b : E} {es : List Expr} {ms : En → Hh → Res (List Val)} (xo : XOk Y P n N sc X) (tb : XTb Y n X) (fnA : ∀ x, X.fn x = true) (mkc : ∀ ps b F, okF P ps b N F → Y.ok ps b N F)
    (hg : glB X.env.scope x = true) (hf : fnIs P f x = true) (hn : nmB x = true) (lc : lamC N X.env.scope ps params scope = true) (hb : mE P.nol N b scope body = true) (hs : ∀ y ∈ es, notStar y = true) (ha : PA X es (tGs Y W ms)) :
    PE X (.Call (.Name x p) (.Lambda params body scope lpos :: es) [] pos) (tG Y W (calllF P n f ps b ms)) := by
  obtain ⟨hr, c, T, hcode, TB, hmT, hu⟩ := tb
  obtain ⟨fd, hfd, rfl⟩ := fnIs_of hf
  obtain ⟨ga, fdat, h1, h2, h3, h4, h5⟩ := xo.fns f fd hfd
  have LK := lamC_ok lc
  have hfree : ∀ {pins : List (Addr × Obj)} {σ : L2.St} {H : Hp} {s : Shared}, Inv X pins σ H s → ∀ y ∈ scope.names, y.2 = .free → ∃ c, X.env.cells.lookup y.1 = some c := fun {pins σ H s} I y hy e => by
    obtain ⟨y1, y2⟩ := y
    cases e
    exact I.ok.has _ (LK.fre y1 hy)
  have hdef : defaultsOf params X.env = ([], []) := by rw [LK.par] <;> rfl
  refine ⟨fun pins s σ H Q I hq => ?_⟩
  obtain ⟨μ, ρ, h, R0, er, q⟩ := hq
  refine wpAny_Call_Name_kw (ld_glob I (gl_of hg) h1 ?_ (nm_of hn).1)
  refine PySem.W.callWith_K (h₀ := X.base) I.ok.mod.kin h3 ?_ rfl (noStars _ _ _ fun y hy => hs y hy)
  show wpAny _ _ (spliced ((false, eval (.Lambda params body scope lpos) X.env) :: backTo pos (starEach es X.env))) _ _ s
  refine Calls.spliced_cons (lam_make2 I TB hcode hmT hu R0.tab hdef (hfree I) fun fa c' pm ctv H1 s1 I1 eN T1 fo fn0 ffr co => ?_)
  obtain ⟨R1, x1⟩ := R0.extN eN T1
  have nfa : fa ≠ X.env.locals := fun z => by
    obtain ⟨m, ⟨o, es, ep, ho, hd, _⟩, _⟩ := I1.loc
    rw [← z, fo] at ho
    cases ho
    cases hd
  have hpin : ∀ q ∈ X.pn ++ ((fa, (PySem.W.kla_obj "<lambda>" (X.env.qual ++ "<lambda>") params body scope (cloFrom X.env.cells scope.names []) pm c' ctv)) :: pins), s1.heap.get? q.1 = some q.2 ∧ H1 q.1 = none ∧ q.1 ≠ X.env.locals ∧ q.1 ∉ X.fs ∧ ∀ v, q.2.data ≠ .cell v := by
    intro q hq
    rcases List.mem_append.mp hq with z | z
    · exact I1.pin q (List.mem_append_left _ z)
    · rcases List.mem_cons.mp z with rfl | z
      · refine ⟨fo, fn0, nfa, fun m => ?_, fun v z => by cases z⟩
        rcases I1.ok.stk with e | ⟨e, _⟩
        · exact ffr (by rw [e]; exact m)
        · refine ffr ?_
          rw [e]
          have m : fa ∈ X.outer.filterMap (·.frame) := m
          show fa ∈ (X.env :: X.outer).filterMap (·.frame)
          rw [List.filterMap_cons]
          split
          · exact m
          · exact List.mem_cons_of_mem _ m
      · exact I1.pin q (List.mem_append_right _ z)
  have I1p : Inv X ((fa, (PySem.W.kla_obj "<lambda>" (X.env.qual ++ "<lambda>") params body scope (cloFrom X.env.cells scope.names []) pm c' ctv)) :: pins) σ H1 s1 := ⟨I1.ok, I1.os, I1.bare, I1.base, I1.loc, I1.cell, I1.free, I1.freeC, hpin, I1.hok, I1.len⟩
  have hA : tGs Y W ms σ H1 _ := ⟨μ, ρ, h, R1, er.ext x1, Post.bd (Post.ext x1 q)⟩
  refine thn (ha.run pos _ s1 σ H1 _ I1p hA) fun us s2 ⟨vs, H2, I2, ru, qv⟩ => ⟨I2.kIn, ?_⟩
  obtain ⟨μ2, h2', ws, R2, e2, r2, p2⟩ := qv
  have er2 : ER Y μ2 H2 ρ σ := (er.ext x1).ext e2
  -- what it captured
  have cm : ∀ {y c}, (cloFrom X.env.cells scope.names []).lookup y = some c → X.env.cells.lookup y = some c ∧ (y, NameKind.free) ∈ scope.names := fun {y c} e => by
    rcases cloFrom_mem (PySem.mem_of_lookup e) with hm | ⟨k1, k2⟩
    · cases hm
    · obtain ⟨c1, hc⟩ := hfree I2 _ k1 rfl
      have hc : X.env.cells.lookup y = some c1 := hc
      rw [k2, hc]
      exact ⟨rfl, k1⟩
  have cab : ∀ {y c}, (cloFrom X.env.cells scope.names []).lookup y = some c → X.s_0.heap.objs.size ≤ c := fun {y c} e => I2.ok.cab y c (fnA y) (cm e).1
  have cbs : ∀ {y c}, (cloFrom X.env.cells scope.names []).lookup y = some c → X.base.get? c = none := fun {y c} e => Heap.get?_none_of_le (Nat.le_trans I2.ok.bsz (cab e))
  have cfs : ∀ {y c}, (cloFrom X.env.cells scope.names []).lookup y = some c → c ∉ frs X.stack := fun {y c} e m => by
    rcases List.mem_cons.mp (I2.stkSub c m) with z | z
    · exact I2.cne y c (cm e).1 z
    · obtain ⟨_, o, ho, _⟩ := I2.ok.funs.mem z
      exact absurd (Nat.lt_of_lt_of_le (Heap.lt_size ho) (cab e)) (Nat.lt_irrefl _)
  obtain ⟨pn1, pn2, _, _, _⟩ := I2.pin _ (List.mem_append_right _ List.mem_cons_self)
  have pn1 : s2.heap.get? fa = some (PySem.W.kla_obj "<lambda>" (X.env.qual ++ "<lambda>") params body scope (cloFrom X.env.cells scope.names []) pm c' ctv) := pn1
  have pn2 : H2 fa = none := pn2
  obtain ⟨LF0, hLF⟩ : ∃ F : LF, F = ⟨X.env.qual ++ "<lambda>", params, body, scope, cloFrom X.env.cells scope.names [], c'⟩ := ⟨_, rfl⟩
  obtain ⟨Fz, hF1, hF2, hF3⟩ : ∃ Fz : Hp, (X.base.get? fa = none → Fz fa = some (.frz (PySem.W.kla_obj "<lambda>" (X.env.qual ++ "<lambda>") params body scope (cloFrom X.env.cells scope.names []) pm c' ctv) (LmO fa LF0))) ∧ (∀ y c o, (cloFrom X.env.cells scope.names []).lookup y = some c → s2.heap.get? c = some o → c ≠ fa → Fz c = some (.frz o (.own c))) ∧
      ∀ b x, Fz b = some x → (b = fa ∧ x = .frz (PySem.W.kla_obj "<lambda>" (X.env.qual ++ "<lambda>") params body scope (cloFrom X.env.cells scope.names []) pm c' ctv) (LmO fa LF0) ∧ X.base.get? fa = none) ∨ (∃ y o, (cloFrom X.env.cells scope.names []).lookup y = some b ∧ s2.heap.get? b = some o ∧ x = .frz o (.own b)) := by
    classical
    refine ⟨fun b => if b = fa then (if X.base.get? fa = none then some (.frz (PySem.W.kla_obj "<lambda>" (X.env.qual ++ "<lambda>") params body scope (cloFrom X.env.cells scope.names []) pm c' ctv) (LmO fa LF0)) else none) else if (∃ y, (cloFrom X.env.cells scope.names []).lookup y = some b) then (s2.heap.get? b).map fun o => .frz o (.own b) else none, fun z => ?_, fun y c o e e1 ne => ?_, fun b x e => ?_⟩
    · show (if fa = fa then _ else _) = _
      rw [if_pos rfl, if_pos z]
    · show (if c = fa then _ else _) = _
      rw [if_neg ne, if_pos ⟨y, e⟩, e1] <;> rfl
    · have e : (if b = fa then (if X.base.get? fa = none then some (.frz (PySem.W.kla_obj "<lambda>" (X.env.qual ++ "<lambda>") params body scope (cloFrom X.env.cells scope.names []) pm c' ctv) (LmO fa LF0)) else none) else if (∃ y, (cloFrom X.env.cells scope.names []).lookup y = some b) then (s2.heap.get? b).map fun o => HO.frz o (.own b) else none) = some x := e
      by_cases hb : b = fa
      · rw [if_pos hb] at e
        by_cases z : X.base.get? fa = none
        · rw [if_pos z] at e
          exact .inl ⟨hb, (Option.some.inj e).symm, z⟩
        · rw [if_neg z] at e
          cases e
      · rw [if_neg hb] at e
        by_cases hc : ∃ y, (cloFrom X.env.cells scope.names []).lookup y = some b
        · rw [if_pos hc] at e
          obtain ⟨y, hy⟩ := hc
          cases z : s2.heap.get? b with
          | none => rw [z] at e; cases e
          | some o =>
            rw [z] at e
            exact .inr ⟨y, o, hy, rfl, (Option.some.inj e).symm⟩
        · rw [if_neg hc] at e
          cases e
  have cellD : ∀ {y c}, (cloFrom X.env.cells scope.names []).lookup y = some c → ∃ v o, s2.heap.get? c = some o ∧ o.data = .cell v ∧ c ≠ fa ∧ H2 c = none := fun {y c} e => by
    obtain ⟨v, o, ho, hd⟩ := I2.cell y c (cm e).1
    refine ⟨v, o, ho, hd, fun z => ?_, I2.freeC y c (cm e).1⟩
    rw [z, pn1] at ho
    cases ho
    cases hd
  have fz : FrzF X.prog X.w Fz s2.heap := fun b x e => by
    rcases hF3 b x e with ⟨rfl, rfl, _⟩ | ⟨y, o, hy, ho, rfl⟩
    · refine ⟨_, _, rfl, fun xs z => (by unfold LmO at z; cases z), pn1, fun H' h' e' => ?_⟩
      rw [hLF]
      exact ⟨⟨pm, ctv, e'⟩, ⟨_, e'⟩, fun g1 g2 ⟨pm, ctv, z⟩ st => ⟨pm, ctv, st _ z⟩⟩
    · exact ⟨_, _, rfl, fun xs z => (nomatch z), ho, fun H' h' e' => ⟨o, e'⟩⟩
  have outF : OutF Fz H2 := fun b x e => by
    rcases hF3 b x e with ⟨rfl, rfl, _⟩ | ⟨y, o, hy, ho, rfl⟩
    · exact pn2
    · exact I2.freeC y b (cm hy).1
  have frF : ∀ b x, Fz b = some x → b ∉ frs X.stack ∧ X.base.get? b = none := fun b x e => by
    rcases hF3 b x e with ⟨rfl, rfl, z⟩ | ⟨y, o, hy, ho, rfl⟩
    · exact ⟨ffr, z⟩
    · exact ⟨cfs hy, cbs hy⟩
  have e0f := env0_ovl I2.env0 fz outF frF
  obtain ⟨R3, x3⟩ := R2.ovl outF
  have co' : H1 c' = some (.ext fun h => ∃ (oc : Obj) (vs : Array Value) (t : Tok), h.get? c' = some oc ∧ oc.data = .fields vs ∧ vs[1]? = some (.str (X.env.qual ++ "<lambda>") t)) := co
  obtain ⟨co2, cn2⟩ := e2.keep c' _ co (ext_nin R1 co') codeO_ne
  have isc : (cloFrom X.env.cells scope.names []) = LF0.cl := by rw [hLF]
  have clo : RepV Y (ovl H2 Fz) μ2 (.clo ps b ρ) (.ref fa) := by
    have cc : CloC Y (ovl H2 Fz) μ2 ps b ρ fa LF0 N σ := {
      fo := by
        cases z : X.base.get? fa with
        | none => exact .inl ⟨_, ovl_in (hF1 z), R2.nin pn2⟩
        | some o =>
          have z2 := I2.bk fa o z
          rw [pn1] at z2
          cases z2
          rw [xo.bs] at z
          rw [hLF]
          exact .inr ⟨pm, ctv, z⟩
      co := by
        rw [hLF]
        show ovl H2 Fz c' = _
        rw [ovl_out (outF.no co2)]
        exact co2
      cn := by
        rw [hLF]
        exact cn2
      ok := mkc ps b LF0 (by
        rw [hLF]
        exact ⟨⟨X.env.scope, lc⟩, hb, by rw [← xo.nN]; exact xo.nd⟩)
      len := er2.len
      lenN := by rw [← xo.nN]; exact I2.len
      cell := fun y c hy => by
        rw [← isc] at hy
        obtain ⟨v, o, ho, hd, ne, hn⟩ := cellD hy
        refine ⟨o, v, .inl ⟨by rw [← xo.bs]; exact cbs hy, R2.nin hn, ovl_in (hF2 y c o hy ho ne)⟩, hd, fun i x e1 e2 => ?_⟩
        obtain ⟨m, hns, hl⟩ := I2.loc
        have vis : Vis X.env.scope y := (LK.fre y (cm hy).2).elim (fun k => .inr (.inl k)) fun k => .inr (.inr k)
        obtain ⟨u, r, lk⟩ := hl i y x (by rw [xo.nN]; exact e1) e2 vis
        refine ⟨u, ?_, r⟩
        rcases lk with ⟨k', _⟩ | ⟨_, c3, e', z⟩
        · have k' : X.env.scope.names.lookup y = some .local := k'
          rcases LK.fre y (cm hy).2 with k2 | k2 <;> rw [k2] at k' <;> cases k'
        · rw [(cm hy).1] at e'
          cases e'
          obtain ⟨o', ho', hd'⟩ := z
          rw [ho] at ho'
          cases ho'
          rw [hd] at hd'
          cases hd'
          rfl
      inj := fun y z c e1 e2 => by
        rw [← isc] at e1 e2
        exact I2.ok.inj y z c (cm e1).1 (cm e2).1
      has := fun y hy => by
        rw [← isc]
        have hy : scope.names.lookup y = some .free := by rw [hLF] at hy; exact hy
        exact mem_lookup (cloFrom_has (PySem.mem_of_lookup hy))
      val := fun i w e => let ⟨v, e1, _⟩ := er2.get i w e; ⟨v, e1⟩ }
    refine (RepW.clo cc fun i w v q1 q2 => ?_).v
    obtain ⟨v', e1, rv⟩ := er2.get i w q1
    rw [e1] at q2
    cases q2
    refine (rv.ext0 ⟨Nat.le_refl _, fun _ _ _ h => h, fun a o ha n t => ⟨?_, n⟩⟩).w
    unfold subH
    by_cases hc : MP.cellD Y LF0.cl a
    · obtain ⟨⟨y, hy⟩, _⟩ := hc
      rw [← isc] at hy
      rw [I2.freeC y a (cm hy).1] at ha
      cases ha
    · rw [if_neg hc, ovl_out (outF.no ha)]
      exact ha
  have hsp : spF Y P n f (.ref fa :: vs) (ovl H2 Fz) (fun v H3 => InF Fz H3 → Q v (del H3 Fz)) (fun _ _ _ => False) := by
    refine ⟨μ2, .clo ps b ρ :: ws, h2', R3, .cons clo (r2.ext x3), ?_⟩
    have p2 : Post Y W (RepV Y) σ μ2 H2 (dOnly (callF P.toPc n f (.clo ps b ρ :: ws) h2')) Q := p2
    cases hc : callF P.toPc n f (.clo ps b ρ :: ws) h2' with
    | bad => rw [hc] at p2; exact p2
    | exc k h3 => rw [hc] at p2; exact p2.elim
    | ok w h3 =>
      rw [hc] at p2
      cases w with
      | d d =>
        have p2 : Post Y W (RepV Y) σ μ2 H2 (.ok (.d d) h3) Q := p2
        intro v H3 μ3 R4 e4 rv i3
        have f3 : FrzF X.prog X.w Fz s2.heap := fz
        exact p2 v (del H3 Fz) μ3 (R4.del f3 i3) (ext_ovl outF i3 e4) (Rep.lt (keep_del f3 i3) d v rv)
      | _ => exact p2.elim
  have hl : (Value.ref fa :: us).length = fd.ps.length := by
    have := h5.len _ _ _ _ hsp
    have r := ru.length
    simp only [List.length_cons] at this ⊢
    omega
  refine wpAny_call (codeAny_mono (h5.run X.A X.stack s2 (ovl H2 Fz) ⟨.ref fa :: us, []⟩ (.ref fa :: us) (.ref fa :: vs) _ _ xo.room e0f (by have := h4 s2 (.ref fa :: us) I2.kIn (by simpa using hl); simpa using this) (.cons rfl ru) hsp) fun r s' hq => ?_)
  cases r with
  | error e =>
    obtain ⟨_, _, _, _, _, _, _, _, _, _, _, _, z⟩ := hq
    exact z.elim
  | ok fl =>
    cases fl with
    | ret u => exact (MP.Inv.unpin I2).after (ce_ovl fz outF (fun b x e => (frF b x e).1) hq fun v H3 i3 q => q i3)
    | next => exact False.elim hq
    | brk => exact False.elim hq
    | cont => exact False.elim hq
end
end MP
end
section
set_option Elab.async false
set_option linter.all false
set_option autoImplicit false
set_option maxRecDepth 100000
set_option maxHeartbeats 4000000
/-! Mini: iteration's ends while an error is handled. -/
namespace MP
open PySem PySem.Spec PyProof.Rows L2 HotX L2H

section
variable {prog : Program} {w : World} {A : Around} {E : Value → Shared → Prop} {s : Shared} {x1 : Addr}
/-- StopIteration is made and raised -/
theorem stopH {α : Type} {Q : α → Shared → Prop} (hot : HotAt A x1 s.heap) (hE : ∀ hp e, (∀ b o, s.heap.get? b = some o → hp.get? b = some o) → (∃ o, hp.get? e = some o ∧ o.cls = .type "StopIteration") → E (.ref e) { s with heap := hp }) :
    wpAny (model prog w) A (newExc (.type "StopIteration") [] >>= fun e => (raiseNew e : Sem α)) Q E s := by
  obtain ⟨hh, o1, us, g1, g2, g3⟩ := hot
  refine wpAny_bind ?_
  simp only [newExc, newTuple]
  refine wpAny_bind (wpAny_newObj_type ?_ (by size_fits))
  refine wpAny_bind (m := firstArgMember _ _) (wpAny_of_eq (a := Value.none) (by first | rfl | (simp only [firstArgMember]; rfl)) ?_)
  refine wpAny_newObj_type ?_ (by size_fits)
  have up : ∀ {x y : Obj} (b : Addr) (o : Obj), s.heap.get? b = some o → ((s.heap.push x).push y).get? b = some o := fun b o z => Heap.get?_push_of_some _ (Heap.get?_push_of_some _ z)
  have g4 := up (x := { cls := .type "tuple", data := .seq #[] }) (y := { cls := .type "StopIteration", data := .fields #[.none, .none, .none, .none, .bool false, .none] }) x1 o1 g1
  refine raiseNew_hot ⟨hh, o1, us, up x1 o1 g1, g2, g3⟩ (Nat.ne_of_lt (Heap.lt_size (Heap.get?_push_of_some _ g1))) (Heap.get?_push_size _ rfl) rfl (by first | (simp; done) | (simp; omega) | (simp only [Array.size_append]; simp; omega)) ?_
  refine hE _ _ (fun b o z => ?_) ⟨_, Heap.get?_update_self _ (Heap.get?_push_size _ rfl) rfl, rfl⟩
  rw [Heap.get?_update_other _ _ (Nat.ne_of_gt (Heap.lt_size (Heap.get?_push_of_some _ z)))]
  exact up b o z
/-- a list's iterator has come to the end -/
theorem nextL_end {it l : Addr} {i : Nat} {xs : Array Value} {Q : Value → Shared → Prop} (hot : HotAt A x1 s.heap) (ne : x1 ≠ it) (hi : s.heap.IsListIter it l i) (hl : s.heap.IsList l xs) (hx : xs[i]? = none)
    (hE : ∀ hp e, Heap.ExtBut it s.heap hp → (∃ o, hp.get? e = some o ∧ o.cls = .type "StopIteration") → E (.ref e) { s with heap := hp }) : wpAny (model prog w) A (Builtin.SmallTypes.nextOf (.ref it)) Q E s := by
  obtain ⟨o, g1, g2, g3⟩ := id hi
  obtain ⟨ol, g4, _, n, g5⟩ := hl
  obtain ⟨hh, o1, us, k1, k2, k3⟩ := hot
  unfold Builtin.SmallTypes.nextOf
  refine wpAny_bind (wpAny_callSpecial?_slot (name := Str.ofString "__next__") hi.typeIs slot_listiter_next (wpAny_call_entry slot_listiter_next hi.typeIs entry_listiter_next ?_ (args_listiter_next _)))
  show wpAny _ _ (field (.ref it) 0 >>= _) _ _ s
  refine wpAny_bind (wpAny_field g1 g3 (x := .ref l) rfl ?_)
  show wpAny _ _ (if (Value.ref l == Value.none) = true then _ else _) _ _ s
  rw [if_neg (show ¬ ((Value.ref l == Value.none) = true) from Bool.false_ne_true)]
  show wpAny _ _ (field (.ref it) 1 >>= _) _ _ s
  refine wpAny_bind (wpAny_field g1 g3 (x := .int i 0) rfl ?_)
  show wpAny _ _ (seqItems? (.ref l) >>= _) _ _ s
  refine wpAny_bind (wpAny_seqItems g4 g5 ?_)
  simp only [Int.toNat_natCast, hx]
  refine wpAny_bind (wpAny_rule (wpAny_bind (wpAny_setField g1 g3 (by simp) ?_)))
  show wpAny _ _ (newExc (.type "StopIteration") [] >>= _) _ _ _
  refine stopH (x1 := x1) ⟨hh, o1, us, (Heap.get?_update_other _ _ (Ne.symm ne)).trans k1, k2, k3⟩ fun hp e kp he => hE hp e (fun b u hb z => kp b u ?_) he
  exact (Heap.get?_update_other _ _ (Ne.symm hb)).trans z
/-- a tuple's iterator has come to the end -/
theorem nextT_end {it t : Addr} {i : Nat} {xs : Array Value} {Q : Option Value → Shared → Prop} (hot : HotAt A x1 s.heap) (ne : x1 ≠ it) (hi : IsTupIter s.heap it t i) (ht : IsTup s.heap t xs) (hx : xs[i]? = none)
    (hQ : ∀ hp, Heap.ExtBut it s.heap hp → Q none { s with heap := hp }) : wpAny (model prog w) A (pyNext (.ref it)) Q E s := by
  obtain ⟨o, g1, g2, g3⟩ := id hi
  obtain ⟨ol, g4, _, n, g5⟩ := ht
  obtain ⟨hh, o1, us, k1, k2, k3⟩ := hot
  unfold pyNext
  refine wpAny_bind (wpAny_attempt (wpAny_callSpecial?_slot (name := Str.ofString "__next__") hi.typeIs slot_tupleiter_next (wpAny_call_entry slot_tupleiter_next hi.typeIs entry_tupleiter_next ?_ (args_tupleiter_next _))))
  show wpAny _ _ (field (.ref it) 0 >>= _) _ _ s
  refine wpAny_bind (wpAny_field g1 g3 (x := .ref t) rfl ?_)
  show wpAny _ _ (if (Value.ref t == Value.none) = true then _ else _) _ _ s
  rw [if_neg (show ¬ ((Value.ref t == Value.none) = true) from Bool.false_ne_true)]
  show wpAny _ _ (field (.ref it) 1 >>= _) _ _ s
  refine wpAny_bind (wpAny_field g1 g3 (x := .int i 0) rfl ?_)
  show wpAny _ _ (seqItems? (.ref t) >>= _) _ _ s
  refine wpAny_bind (wpAny_seqItems g4 g5 ?_)
  simp only [Int.toNat_natCast, hx]
  refine wpAny_bind (wpAny_rule (wpAny_bind (wpAny_setField g1 g3 (by simp) ?_)))
  show wpAny _ _ (newExc (.type "StopIteration") [] >>= _) _ _ _
  refine stopH (x1 := x1) ⟨hh, o1, us, (Heap.get?_update_other _ _ (Ne.symm ne)).trans k1, k2, k3⟩ fun hp e kp he => ?_
  obtain ⟨oe, e1, e2⟩ := he
  refine wpAny_bind (wpAny_isInstance (T := "StopIteration") (b := true) ⟨oe, e1, e2⟩ isSubtype_stop ?_)
  refine wpAny_pure (hQ hp fun b u hb z => kp b u ?_)
  exact (Heap.get?_update_other _ _ (Ne.symm hb)).trans z
/-- a, b = a pair, while an error is handled -/
theorem unpackH {t : Addr} {xs : Array Value} {Q : List Value → Shared → Prop} (hot : HotAt A x1 s.heap) (ht : IsTup s.heap t xs) (hQ : ∀ hp, Heap.ExtBut s.heap.objs.size s.heap hp → Q xs.toList { s with heap := hp }) :
    wpAny (model prog w) A (unpackItems (.ref t) xs.size none) Q E s := by
  obtain ⟨hh, o1, us, k1, k2, k3⟩ := hot
  have tl : t ≠ s.heap.objs.size := by
    obtain ⟨o, ho, _⟩ := ht
    exact Nat.ne_of_lt (Heap.lt_size ho)
  have nx : x1 ≠ s.heap.objs.size := Nat.ne_of_lt (Heap.lt_size k1)
  unfold unpackItems
  refine wpAny_bind ?_
  unfold notIterableAtAll
  refine wpAny_bind (wpAny_specialOf ht.typeIs slot_tuple_iter.lookup (wpAny_pure ?_))
  simp only [Bool.false_eq_true, if_false]
  refine wpAny_bind (wpAny_holding (iter_tuple ht ?_))
  refine wpAny_bind (wpAny_holding (draw_tuple tl xs.size 0 _ _ ⟨_, Heap.get?_push_size _ rfl, rfl, rfl⟩ (ht.push _) (by omega) fun h1 g1 sb => ?_))
  have all : List.take xs.size (List.drop 0 xs.toList) = xs.toList := by
    rw [List.drop_zero]
    exact List.take_of_length_le (by simp)
  rw [all, if_neg (by simp)]
  have t1 : IsTup h1 t xs := (ht.push _).extBut sb.extBut tl
  refine wpAny_bind (wpAny_holding (nextT_end (s := { s with heap := h1 }) ⟨hh, o1, us, sb.extBut _ _ nx (Heap.get?_push_of_some _ k1), k2, k3⟩ nx g1 t1 (by simp) fun h2 e2 => ?_))
  simp only [Option.isSome_none, Bool.false_eq_true, if_false]
  exact wpAny_pure (hQ h2 fun b u hb z => e2 b u hb (sb.extBut b u hb (Heap.get?_push_of_some _ z)))
theorem assignH {env : Env} {es : List Expr} {k : Nat} {pos : Pos} {t : Addr} {xs : Array Value} {Q : Unit → Shared → Prop} (hot : HotAt A x1 s.heap) (ht : IsTup s.heap t xs) (hn : (assignEach es env).length = xs.size) (hst : (assignEach es env).findIdx? (·.1) = none)
    (h : ∀ hp, Heap.ExtBut s.heap.objs.size s.heap hp → wpAny (model prog w) A (assignInOrder ((assignEach es env).map (·.2)) xs.toList) Q E { s with heap := hp }) : wpAny (model prog w) A (assign (.Tuple es k pos) env (.ref t)) Q E s := by
  rw [assign_Tuple]
  refine wpAny_bind (wpAny_standAt ?_)
  unfold unpack
  rw [hn, hst]
  exact wpAny_bind (wpAny_holding (unpackH hot ht h))
/-- zip over two lists, the first at its end -/
theorem nextZ_end {z TI TO i1 i2 l1 l2 : Addr} {k1 : Nat} {xs : Array Value} {a b : Value} {Q : Option Value → Shared → Prop} (hot : HotAt A x1 s.heap) (nz : x1 ≠ z) (n1 : x1 ≠ i1) (D : ZipApart z TI TO i1 i2 l1 l2)
    (hz : IsZip s.heap z TI TO .none) (hTI : IsPair s.heap TI (.ref i1) (.ref i2)) (hTO : IsPair s.heap TO a b) (h1 : s.heap.IsListIter i1 l1 k1) (hl1 : s.heap.IsList l1 xs) (hend : xs[k1]? = none)
    (hQ : ∀ hp, (∀ c o, c ≠ z → c ≠ i1 → s.heap.get? c = some o → hp.get? c = some o) → Q none { s with heap := hp }) : wpAny (model prog w) A (pyNext (.ref z)) Q E s := by
  obtain ⟨hh, o1, us, q1, q2, q3⟩ := hot
  have hT : s.TypeIs (.ref z) "zip" := ⟨_, hz, rfl⟩
  unfold pyNext
  refine wpAny_bind (wpAny_attempt (wpAny_callSpecial?_slot (name := Str.ofString "__next__") hT F.slot_zip_next (wpAny_call_entry F.slot_zip_next hT F.entry_zip_next ?_ (F.args_zip_next_1 _))))
  show wpAny _ _ (field (.ref z) 2 >>= _) _ _ _
  refine wpAny_bind (wpAny_field hz rfl (x := .bool false) rfl ?_)
  show wpAny _ _ (field (.ref z) 3 >>= _) _ _ _
  refine wpAny_bind (wpAny_field hz rfl (x := .ref TI) rfl (wpAny_bind (wpAny_seqItems hTI rfl ?_)))
  show wpAny _ _ (Builtin.SmallTypes.ownedTupleIsFree (.ref z) >>= _) _ _ _
  refine wpAny_bind ?_
  unfold Builtin.SmallTypes.ownedTupleIsFree
  refine wpAny_bind (wpAny_field hz rfl (x := .none) rfl (wpAny_pure ?_))
  simp only [if_true]
  refine wpAny_bind (wpAny_rule (wpAny_bind (wpAny_field hz rfl (x := .ref TO) rfl (wpAny_bind (wpAny_setField_rec hz (by simp) fun g1 z1 s1 => ?_)))))
  replace z1 : IsZip g1 z TI TO .ellipsis := z1
  refine wpAny_bind ?_
  simp only [List.zipIdx_cons, List.zipIdx_nil, List.forIn_cons, List.forIn_nil]
  refine wpAny_bind (wpAny_bind (wpAny_onRaise ?_))
  show wpAny _ _ (Builtin.SmallTypes.nextOf (.ref i1) >>= _) _ _ _
  refine wpAny_bind (nextL_end (s := { s with heap := g1 }) (x1 := x1) ⟨hh, o1, us, s1.extBut _ _ nz q1, q2, q3⟩ n1 (h1.extBut s1.extBut D.i1z) (hl1.extBut s1.extBut D.l1z) hend fun g2 e s2 he => ?_)
  obtain ⟨oe, e1, e2⟩ := he
  have z2 : IsZip g2 z TI TO .ellipsis := s2 _ _ D.i1z.symm z1
  have nez : e ≠ z := fun q => by
    subst q
    rw [z2] at e1
    cases e1
    simp at e2
  refine wpAny_setField_rec z2 (by simp) fun g3 _ s3 => ?_
  have e4 : g3.get? e = some oe := s3.extBut _ _ nez e1
  refine wpAny_bind (wpAny_isInstance (T := "StopIteration") (b := true) ⟨oe, e4, e2⟩ isSubtype_stop ?_)
  exact wpAny_pure (hQ g3 fun c o c1 c2 q => s3.extBut _ _ c1 (s2 _ _ c2 (s1.extBut _ _ c1 q)))
end
end MP
end
section
set_option Elab.async false
set_option linter.all false
set_option autoImplicit false
set_option maxRecDepth 100000
set_option maxHeartbeats 4000000
/-! Mini: [x for x, y in zip(xs, ys) if ..] while an error is handled. -/
namespace MP
open PySem PySem.Spec PyProof.Rows L2 HotX L2H

/-- an error is handled in every state of this context -/
def HotI (X : Cx) : Prop := ∀ (pins : List (Addr × Obj)) (σ : L2.St) (H : Hp) (s : Shared), Inv X pins σ H s → ∃ x1, HotAt X.A x1 s.heap
theorem hotI_of {X : Cx} (c : HotC X) : HotI X := fun _ _ _ _ I => c.at I
theorem pg_tupH {X : Cx} {es : List Expr} {k n : Nat} {t : TGs} {pos : Pos} (c : HotI X) (h : PGs X es t) (hn : (assignEach es X.env).length = n) (hst : (assignEach es X.env).findIdx? (·.1) = none) : PG X (.Tuple es k pos) (gTup X.K n t) := by
  refine ⟨fun pins s σ H v u Q I r hw => ?_⟩
  obtain ⟨a, xs, rfl, hq, hl, hw⟩ := hw
  cases r
  obtain ⟨x1, hot⟩ := c pins σ H s I
  obtain ⟨its, rv, ht, _⟩ := I.tuple hq
  refine assignH hot ht (by simp [hn, ← hl, rv.length]) hst fun hp hx => ?_
  exact h.run pins _ σ H xs _ Q (I.kept (t' := s.toks) fun b o z => hx b o (Nat.ne_of_lt (Heap.lt_size z)) z) (by simpa using rv) hw
section
variable {X : Cx} {pins : List (Addr × Obj)} {σ : L2.St} {H : Hp} {s : Shared} {E : Value → Shared → Prop}
/-- how the iterator of a zip stands -/
abbrev ZipS (z TI TO i1 i2 a b : Addr) (i : Nat) (h : Heap) : Prop := IsZip h z TI TO .none ∧ IsPair h TI (.ref i1) (.ref i2) ∧ (∃ x y, IsPair h TO x y) ∧ h.IsListIter i1 a i ∧ h.IsListIter i2 b i
theorem zipS_keep {z TI TO i1 i2 a b : Addr} {i : Nat} {h h' : Heap} (st : ZipS z TI TO i1 i2 a b i h) (k : ∀ c ∈ [z, TI, TO, i1, i2], ∀ o, h.get? c = some o → h'.get? c = some o) : ZipS z TI TO i1 i2 a b i h' :=
  let ⟨q1, q2, ⟨x, y, q3⟩, q4, q5⟩ := st
  ⟨k z (by simp) _ q1, k TI (by simp) _ q2, ⟨x, y, k TO (by simp) _ q3⟩, q4.at fun o q => k i1 (by simp) o q, q5.at fun o q => k i2 (by simp) o q⟩
theorem zipS_obj {z TI TO i1 i2 a b : Addr} {i : Nat} {h : Heap} (st : ZipS z TI TO i1 i2 a b i h) : ∀ c ∈ [z, TI, TO, i1, i2], ∃ o, h.get? c = some o ∧ ∀ v, o.data ≠ .cell v := by
  obtain ⟨q1, q2, ⟨x, y, q3⟩, ⟨o4, q4, _, d4⟩, ⟨o5, q5, _, d5⟩⟩ := st
  intro c hc
  simp only [List.mem_cons, List.not_mem_nil, or_false] at hc
  rcases hc with rfl | rfl | rfl | rfl | rfl
  · exact ⟨_, q1, fun v q => (nomatch q)⟩
  · exact ⟨_, q2, fun v q => (nomatch q)⟩
  · exact ⟨_, q3, fun v q => (nomatch q)⟩
  · exact ⟨o4, q4, fun v q => by rw [d4] at q; cases q⟩
  · exact ⟨o5, q5, fun v q => by rw [d5] at q; cases q⟩
/-- a turn: a new pair -/
theorem zipS_item {elts : List Expr} {kk i : Nat} {tp : Pos} {z TI TO i1 i2 a b : Addr} {xs ys : List V} {x y : V} (D : ZipApart z TI TO i1 i2 a b) (I : Inv X pins σ H s) (hf : ∀ c ∈ [z, TI, TO, i1, i2], FpOk X pins H c) (st : ZipS z TI TO i1 i2 a b i s.heap) (qa : SqL X.K H a xs) (qb : SqL X.K H b ys) (hx : xs[i]? = some x) (hy : ys[i]? = some y) :
    wpAny (model X.prog X.w) X.A (pyNext (.ref z)) (fun r s1 => ∃ u, r = some u ∧ wpAny (model X.prog X.w) X.A (letOwnedTupleGo (.Tuple elts kk tp) (.ref z) u) (fun _ s2 => ∃ T, H T = none ∧ u = .ref T ∧ Inv X pins σ (upd H T (.tup [x, y])) s2 ∧ ZipS z TI TO i1 i2 a b (i + 1) s2.heap ∧ ∀ c ∈ [z, TI, TO, i1, i2], upd H T (.tup [x, y]) c = none) E s1) E s := by
  obtain ⟨q1, q2, ⟨x0, y0, q3⟩, q4, q5⟩ := st
  obtain ⟨us, ra, pa, _⟩ := I.list qa
  obtain ⟨ws, rb, pb, _⟩ := I.list qb
  obtain ⟨u, hu, ru⟩ := ra.get hx
  obtain ⟨w, hw, rw'⟩ := rb.get hy
  have zl : z < s.heap.objs.size := Heap.lt_size q1
  refine wpAny_pyNext_zip_item D q1 q2 q3 q4 q5 pa.isList pb.isList (x := u) (y := w) (by simpa using hu) (by simpa using hw) fun h1 z1 t1 l1 l2 n1 _ k1 => ?_
  refine ⟨_, rfl, wpAny_letOwnedTupleGo_zip (s := { s with heap := h1 }) z1 fun h2 z2 sb => ?_⟩
  have n2 : h2.get? s.heap.objs.size = some { cls := .type "tuple", data := .seq #[u, w] } := (sb.2 _ (Nat.ne_of_gt zl)).trans n1
  have ob : ObjOk X.prog X.w (upd H s.heap.objs.size (.tup [x, y])) h2 s.heap.objs.size (.tup [x, y]) := ⟨by show 2 ≤ sizeLine; decide, [u, w], .cons ru (.cons rw' .nil), ⟨_, n2, rfl, _, rfl⟩⟩
  have kp : ∀ c o, c ∉ [z, TI, TO, i1, i2] → s.heap.get? c = some o → h2.get? c = some o := fun c o hc q => by
    simp only [List.mem_cons, List.not_mem_nil, or_false, not_or] at hc
    exact (sb.2 c hc.1).trans (k1 c o hc.1 hc.2.2.1 hc.2.2.2.1 hc.2.2.2.2 q)
  refine ⟨_, I.hok.fresh (Nat.le_refl _), rfl, I.turnedNew (t' := s.toks) (ch := [z, TI, TO, i1, i2]) kp hf (Nat.le_refl _) ob, ⟨z2, (sb.2 _ D.TIz).trans (k1 _ _ D.TIz D.TITO D.TIi1 D.TIi2 q2), ⟨u, w, (sb.2 _ D.TOz).trans t1⟩, l1.at fun o q => (sb.2 _ D.i1z).trans q, l2.at fun o q => (sb.2 _ D.i2z).trans q⟩, fun c hc => ?_⟩
  rw [upd_ne]
  · exact (hf c hc).1
  · simp only [List.mem_cons, List.not_mem_nil, or_false] at hc
    obtain ⟨o4, e4, _⟩ := q4
    obtain ⟨o5, e5, _⟩ := q5
    rcases hc with rfl | rfl | rfl | rfl | rfl
    · exact Nat.ne_of_lt zl
    · exact Nat.ne_of_lt (Heap.lt_size q2)
    · exact Nat.ne_of_lt (Heap.lt_size q3)
    · exact Nat.ne_of_lt (Heap.lt_size e4)
    · exact Nat.ne_of_lt (Heap.lt_size e5)
/-- the end -/
theorem zipS_end {i : Nat} {z TI TO i1 i2 a b x1 : Addr} {xs : List V} (D : ZipApart z TI TO i1 i2 a b) (hot : HotAt X.A x1 s.heap) (nx : x1 ∉ [z, TI, TO, i1, i2]) (I : Inv X pins σ H s) (hf : ∀ c ∈ [z, TI, TO, i1, i2], FpOk X pins H c) (st : ZipS z TI TO i1 i2 a b i s.heap) (qa : SqL X.K H a xs) (hx : xs.length ≤ i) :
    wpAny (model X.prog X.w) X.A (pyNext (.ref z)) (fun r s1 => r = none ∧ Inv X pins σ H s1) E s := by
  obtain ⟨q1, q2, ⟨x0, y0, q3⟩, q4, q5⟩ := st
  obtain ⟨us, ra, pa, _⟩ := I.list qa
  simp only [List.mem_cons, List.not_mem_nil, or_false, not_or] at nx
  have ra' := ra.length
  refine nextZ_end hot nx.1 nx.2.2.2.1 D q1 q2 q3 q4 pa.isList (by simp; omega) fun h1 k1 => ⟨rfl, I.turnedL (t' := s.toks) (ch := [z, TI, TO, i1, i2]) (fun c o hc q => ?_) hf⟩
  simp only [List.mem_cons, List.not_mem_nil, or_false, not_or] at hc
  exact k1 c o hc.1 hc.2.2.2.1 q
end
/-- what is wanted: Pv by the turn -/
def tLcZ (K : PySem.W.Frag) (ta : TA) (g : TG) (tt : TT) (te : TE) (vs : List Nat) : TE := fun σ H Q => ta σ H fun us H1 => ∃ a b xs ys, us = [.ref a, .ref b] ∧ SqL K H1 a xs ∧ SqL K H1 b ys ∧ xs.length = ys.length ∧ ∀ D, H1 D = none → ∃ Pv : Nat → Hp → Prop, Pv 0 (upd H1 D (.lst [])) ∧
  (∀ i H, Pv i H → SqL K H a xs ∧ SqL K H b ys) ∧ (∀ i H x y T, Pv i H → xs[i]? = some x → ys[i]? = some y → H T = none → g (.ref T) (wipe σ vs) (upd H T (.tup [x, y])) fun σ2 H2 => wipe σ2 vs = wipe σ vs ∧ tt σ2 H2 fun c H3 =>
    if c = true then te σ2 H3 fun v H4 => ∃ acc, H4 D = some (.lst acc) ∧ acc.length < sizeLine ∧ Pv (i + 1) (upd H4 D (.lst (acc ++ [v]))) else Pv (i + 1) H3) ∧ ∀ H, Pv xs.length H → Q (.ref D) H
section
variable {X : Cx} {elt e1 e2 : Expr} {elts ifs : List Expr} {kk : Nat} {tp zp zpos pos : Pos} {scope : Scope} {own : List (Str × Nat)} {ta : TA} {g : TG} {tt : TT} {te : TE}
theorem lcZ_loop {pins : List (Addr × Obj)} {σ : L2.St} {H1 : Hp} {t2 : Shared} {p : Addr × Obj} {us0 : Array Value} {z TI TO i1 i2 a b : Addr} {xs ys : List V} {Q : VK} (hh : X.A.handled = some (.ref p.1)) (d0 : p.2.data = .fields us0) (c0 : us0[2]? = some .none) (hp : p ∈ X.pn) (hN : X.N.Nodup) (I2 : Inv X pins σ H1 t2) (ok : BlkOk X.N X.env.scope scope own)
    (free : ∀ y ∈ scope.names, y.2 = .free → ∃ c, X.env.cells.lookup y.1 = some c) (DD : ZipApart z TI TO i1 i2 a b) (st2 : ZipS z TI TO i1 i2 a b 0 t2.heap) (f2 : ∀ c ∈ [z, TI, TO, i1, i2], FpOk X pins H1 c) (lt2 : ∀ c ∈ [z, TI, TO, i1, i2], c < t2.heap.objs.size) (qa : SqL X.K H1 a xs) (qb : SqL X.K H1 b ys) (leq : xs.length = ys.length)
    (hgt : ∀ (s : Shared) (H : Hp) (C : Addr) (cl : List (Str × Addr)) (fp : List Addr), HotI (X.blk s H scope (compEnvC scope cl C X.env) fp) → PG (X.blk s H scope (compEnvC scope cl C X.env) fp) (.Tuple elts kk tp) g)
    (ht : ∀ (s : Shared) (H : Hp) (C : Addr) (cl : List (Str × Addr)) (fp : List Addr), PTs (X.blk s H scope (compEnvC scope cl C X.env) fp) ifs tt) (he : ∀ (s : Shared) (H : Hp) (C : Addr) (cl : List (Str × Addr)) (fp : List Addr), PE (X.blk s H scope (compEnvC scope cl C X.env) fp) elt te)
    (q : ∀ D, H1 D = none → ∃ Pv : Nat → Hp → Prop, Pv 0 (upd H1 D (.lst [])) ∧ (∀ i H, Pv i H → SqL X.K H a xs ∧ SqL X.K H b ys) ∧ (∀ i H x y T, Pv i H → xs[i]? = some x → ys[i]? = some y → H T = none → g (.ref T) (wipe σ (own.map (·.2))) (upd H T (.tup [x, y])) fun σ2 H2 => wipe σ2 (own.map (·.2)) = wipe σ (own.map (·.2)) ∧ tt σ2 H2 fun c H3 =>
      if c = true then te σ2 H3 fun v H4 => ∃ acc, H4 D = some (.lst acc) ∧ acc.length < sizeLine ∧ Pv (i + 1) (upd H4 D (.lst (acc ++ [v]))) else Pv (i + 1) H3) ∧ ∀ H, Pv xs.length H → Q (.ref D) H) :
    wpAny (model X.prog X.w) X.A (newList []) (fun acc s₃ => wpAny (model X.prog X.w) X.A (newFunctionEnv scope X.env.globals (cloFrom X.env.cells scope.names []) [] X.env.qual none .none (some X.env)) (fun cenv s₄ =>
        codeAny (model X.prog X.w) X.A (.compStart (.ListComp elt [⟨.Tuple elts kk tp, .Call (.Name "zip" zp) [e1, e2] [] zpos, ifs, 0⟩] scope pos) 0 (.ref z) acc { cenv with scope := relabel scope X.env }) (compPost (model X.prog X.w) X.A X.xe none (EP X pins σ Q) acc cenv.locals) s₄) X.xe s₃) X.xe t2 := by
  refine wpAny_newObj_type (newEnv_comp ?_) (by show 0 ≤ sizeLine; decide)
  generalize hD : t2.heap.objs.size = D
  have nD : H1 D = none := I2.hok.fresh (Nat.le_of_eq hD)
  obtain ⟨Pv, p0, pl, step, fin⟩ := q D nD
  generalize e3 : ({ t2 with heap := t2.heap.push { cls := .type "list", data := .seq ([] : List Value).toArray } } : Shared) = t3
  have h3 : t3.heap = t2.heap.push { cls := .type "list", data := .seq ([] : List Value).toArray } := by rw [← e3]
  have I3 : Inv X pins σ (upd H1 D (.lst [])) t3 := by
    rw [← e3]
    refine I2.laid (t' := t2.toks) (fun c o k => Heap.get?_push_of_some _ k) (Nat.le_of_eq hD) ⟨Nat.zero_le _, [], 0, .nil, ?_⟩
    rw [← hD]
    exact Heap.get?_push_size _ rfl
  have f3 : ∀ c ∈ [z, TI, TO, i1, i2], FpOk X pins (upd H1 D (.lst [])) c ∧ c < t3.heap.objs.size := fun c hc => by
    have lt := lt2 c hc
    refine ⟨⟨?_, (f2 c hc).2⟩, by rw [h3, Heap.size_push]; exact Nat.lt_succ_of_lt lt⟩
    rw [upd_ne (by rw [← hD]; exact Nat.ne_of_lt lt)]
    exact (f2 c hc).1
  have st3 : ZipS z TI TO i1 i2 a b 0 t3.heap := zipS_keep st2 fun c _ o k => by rw [h3]; exact Heap.get?_push_of_some _ k
  have I4 := block_start I3 ok hN f3
  -- the handled error
  have P3 := I3.pin p (List.mem_append_left _ hp)
  have pfs : p.1 ∉ frs X.stack := fun m => (List.mem_cons.mp (I3.stkSub p.1 m)).elim P3.2.2.1 P3.2.2.2.1
  have pfp : p.1 ∉ [z, TI, TO, i1, i2] := fun m => (f3 _ m).1.2.2.2.2.2 p (List.mem_append_left _ hp) rfl
  generalize hce : compEnvC scope (cellsFrom (t3.heap.objs.size + 1) scope.names (cloFrom X.env.cells scope.names [])) t3.heap.objs.size X.env = ce at I4
  have hot : ∀ (pins' : List (Addr × Obj)) (σ' : L2.St) (H' : Hp) (s' : Shared), Inv (X.blk t3 (upd H1 D (.lst [])) scope ce [z, TI, TO, i1, i2]) pins' σ' H' s' → HotAt X.A p.1 s'.heap := fun pins' σ' H' s' J => ⟨hh, p.2, us0, J.base.keep p.1 p.2 P3.1 P3.2.1 pfs pfp, d0, c0⟩
  have pg := hgt t3 (upd H1 D (.lst [])) t3.heap.objs.size (cellsFrom (t3.heap.objs.size + 1) scope.names (cloFrom X.env.cells scope.names [])) [z, TI, TO, i1, i2] (by rw [hce]; exact fun pins' σ' H' s' J => ⟨p.1, hot pins' σ' H' s' J⟩)
  have pt := ht t3 (upd H1 D (.lst [])) t3.heap.objs.size (cellsFrom (t3.heap.objs.size + 1) scope.names (cloFrom X.env.cells scope.names [])) [z, TI, TO, i1, i2]
  have pe := he t3 (upd H1 D (.lst [])) t3.heap.objs.size (cellsFrom (t3.heap.objs.size + 1) scope.names (cloFrom X.env.cells scope.names [])) [z, TI, TO, i1, i2]
  show codeAny _ _ (.compStart _ 0 (.ref z) (.ref D) (compEnvC scope (cellsFrom (t3.heap.objs.size + 1) scope.names (cloFrom X.env.cells scope.names [])) t3.heap.objs.size X.env)) (compPost (model X.prog X.w) X.A X.xe none (EP X pins σ Q) (.ref D) t3.heap.objs.size) { t3 with heap := pushCells (t3.heap.push { cls := .type "dict", data := .dict #[] }) scope.names }
  rw [hce] at pg pt pe ⊢
  have cL : ce.locals = t3.heap.objs.size := by subst hce; rfl
  generalize e4 : ({ t3 with heap := pushCells (t3.heap.push { cls := .type "dict", data := .dict #[] }) scope.names } : Shared) = t4 at I4 ⊢
  have st4 : ZipS z TI TO i1 i2 a b 0 t4.heap := zipS_keep st3 fun c _ o k => by rw [← e4]; exact pushCells_keeps _ _ _ _ (Heap.get?_push_of_some _ k)
  have stat : ∀ {pins' : List (Addr × Obj)} {σ' : L2.St} {H' : Hp} {s' : Shared}, Inv (X.blk t3 (upd H1 D (.lst [])) scope ce [z, TI, TO, i1, i2]) [] σ' H' s' → (∀ c ∈ [z, TI, TO, i1, i2], H' c = none) → ∀ c ∈ [z, TI, TO, i1, i2], FpOk (X.blk t3 (upd H1 D (.lst [])) scope ce [z, TI, TO, i1, i2]) [] H' c := fun {_ σ' H' s'} J nn c hc =>
    ⟨nn c hc, (J.ok.exf c hc).1, J.ok.exfs c hc, .inl hc, fun x y k => (J.ok.exf c hc).2 x y k, fun r hr => (nomatch (show r ∈ ([] : List (Addr × Obj)) from hr))⟩
  have loop : codeAny (model X.prog X.w) X.A (.compLoop (.ListComp elt [⟨.Tuple elts kk tp, .Call (.Name "zip" zp) [e1, e2] [] zpos, ifs, 0⟩] scope pos) 0 (.ref z) (.ref D) ce) (compPost (model X.prog X.w) X.A X.xe none (EP X pins σ Q) (.ref D) t3.heap.objs.size) t4 := by
    refine compLoop_any (fun m s' => ∃ i H', m = xs.length - i ∧ i ≤ xs.length ∧ Inv (X.blk t3 (upd H1 D (.lst [])) scope ce [z, TI, TO, i1, i2]) [] (wipe σ (own.map (·.2))) H' s' ∧ ZipS z TI TO i1 i2 a b i s'.heap ∧ (∀ c ∈ [z, TI, TO, i1, i2], H' c = none) ∧ Pv i H') ?_ xs.length ⟨0, upd H1 D (.lst []), rfl, Nat.zero_le _, I4, st4, fun c hc => (f3 c hc).1.1, p0⟩
    rintro m s5 ⟨i, H5, rfl, hi, I5, st5, n5, w5⟩
    obtain ⟨qa5, qb5⟩ := pl i H5 w5
    by_cases lt : i < xs.length
    · refine thnF (zipS_item (X := X.blk t3 (upd H1 D (.lst [])) scope ce [z, TI, TO, i1, i2]) (E := fun _ _ => False) (elts := elts) (kk := kk) (tp := tp) (x := xs[i]) (y := ys[i]'(by omega)) DD I5 (stat (pins' := []) I5 n5) st5 qa5 qb5 (by simp [lt]) (by simp [← leq, lt])) fun r s6 ⟨u, hr, h6⟩ => ?_
      subst hr
      refine thnF h6 fun _ s7 ⟨T, nT, eu, I7, st7, n7⟩ => ?_
      subst eu
      have I7' := I7.pinned (stat (pins' := []) I7 n7) (zipS_obj st7)
      refine thnF (pg.run _ s7 _ _ (.ref T) _ _ I7' rfl (step i H5 _ _ T w5 (by simp [lt]) (by simp [← leq, lt]) nT)) fun _ s8 ⟨σ8, H8, I8, hw8, q8⟩ => ?_
      refine thnF (pt.run _ s8 σ8 H8 _ I8 q8) fun c s9 ⟨H9, I9, q9⟩ => ?_
      have again : ∀ {s' : Shared} {H' : Hp}, Inv (X.blk t3 (upd H1 D (.lst [])) scope ce [z, TI, TO, i1, i2]) ([] ++ pinsAt [z, TI, TO, i1, i2] s7.heap) σ8 H' s' → Pv (i + 1) H' → ∃ m, m < xs.length - i ∧ ∃ i H', m = xs.length - i ∧ i ≤ xs.length ∧ Inv (X.blk t3 (upd H1 D (.lst [])) scope ce [z, TI, TO, i1, i2]) [] (wipe σ (own.map (·.2))) H' s' ∧ ZipS z TI TO i1 i2 a b i s'.heap ∧ (∀ c ∈ [z, TI, TO, i1, i2], H' c = none) ∧ Pv i H' := fun {s' H'} J nx => by
        have pin : ∀ c ∈ [z, TI, TO, i1, i2], ∀ o, s7.heap.get? c = some o → s'.heap.get? c = some o ∧ H' c = none := fun c hc o k =>
          have r := J.pin (c, o) (List.mem_append_right _ (List.mem_append_right _ (mem_pinsAt hc k)))
          ⟨r.1, r.2.1⟩
        have len8 : (wipe σ (own.map (·.2))).length = σ8.length := by rw [← hw8, wipe_length]
        refine ⟨xs.length - (i + 1), by omega, i + 1, H', rfl, lt, (J.unpinned (pins := [])).weak len8 (fun j v k => ?_), zipS_keep st7 fun c hc o k => (pin c hc o k).1, fun c hc => ?_, nx⟩
        · rw [← hw8] at k
          exact (wipe_some k).1
        · obtain ⟨o, k, _⟩ := zipS_obj st7 c hc
          exact (pin c hc o k).2
      cases c with
      | false =>
        simp only [Bool.false_eq_true, if_false] at q9 ⊢
        exact again I9 q9
      | true =>
        simp only [if_true] at q9 ⊢
        refine thnF (pe.run _ s9 σ8 H9 _ I9 q9) fun v s10 ⟨y, H10, I10, r10, acc, dD, dz, nx⟩ => ?_
        exact app_ok (X := X.blk t3 (upd H1 D (.lst [])) scope ce [z, TI, TO, i1, i2]) I10 dD dz r10 fun s11 I11 => again I11 nx
    · have ei : i = xs.length := by omega
      refine thnF (zipS_end (X := X.blk t3 (upd H1 D (.lst [])) scope ce [z, TI, TO, i1, i2]) (E := fun _ _ => False) DD (hot _ _ _ _ I5) pfp I5 (stat (pins' := []) I5 n5) st5 qa5 (by omega)) fun r s6 ⟨hr, I6⟩ => ?_
      subst hr
      have I7 : Inv X pins σ H5 s6 := I3.call' (ch := [z, TI, TO, i1, i2]) I6.os I6.base I6.hok I6.bare fun c hc => ⟨(f3 c hc).1.2.2.2.1, (f3 c hc).1.2.1, (f3 c hc).1.2.2.2.2.1, (f3 c hc).1.2.2.2.2.2⟩
      have nC : H5 t3.heap.objs.size = none := by
        have k : H5 ce.locals = none := I6.free
        rw [cL] at k
        exact k
      obtain ⟨m, ns, _⟩ := I6.loc
      have ns : s6.heap.Ns ce.locals m := ns
      rw [cL] at ns
      obtain ⟨g0, g1, g2, g3, g4, g5⟩ := I3.fpOk (b := t3.heap.objs.size) (Nat.le_refl _) nC
      rw [ei] at w5
      exact ⟨m, ns, fun h8 sb => ⟨.ref D, H5, I7.turned (t' := s6.toks) (fun c o hc k => (sb.2 c hc).trans k) g0 g1 g3 g4 g5, rfl, fin H5 w5⟩⟩
  exact codeAny_compStart_list loop (wpAny_pyIter_zip st4.1 loop)
theorem pe_lcZ (hc : HotC X) (hN : X.N.Nodup) (hg : Gl X "zip") (hm : X.mg "zip" = none) (ha : PA X [e1, e2] ta) (s1 : notStar e1 = true) (s2 : notStar e2 = true) (ok : BlkOk X.N X.env.scope scope own)
    (hgt : ∀ (s : Shared) (H : Hp) (C : Addr) (cl : List (Str × Addr)) (fp : List Addr), HotI (X.blk s H scope (compEnvC scope cl C X.env) fp) → PG (X.blk s H scope (compEnvC scope cl C X.env) fp) (.Tuple elts kk tp) g)
    (ht : ∀ (s : Shared) (H : Hp) (C : Addr) (cl : List (Str × Addr)) (fp : List Addr), PTs (X.blk s H scope (compEnvC scope cl C X.env) fp) ifs tt) (he : ∀ (s : Shared) (H : Hp) (C : Addr) (cl : List (Str × Addr)) (fp : List Addr), PE (X.blk s H scope (compEnvC scope cl C X.env) fp) elt te) :
    PE X (.ListComp elt [⟨.Tuple elts kk tp, .Call (.Name "zip" zp) [e1, e2] [] zpos, ifs, 0⟩] scope pos) (tLcZ X.K ta g tt te (own.map (·.2))) := by
  refine ⟨fun pins s σ H Q I h => ?_⟩
  obtain ⟨p, ⟨hh, us0, d0, c0⟩, hp⟩ := hc
  have free : ∀ y ∈ scope.names, y.2 = .free → ∃ c, X.env.cells.lookup y.1 = some c := fun y hy e => (ok.free y hy e).elim (fun k => I.ok.has _ (.inl k)) fun k => I.ok.has _ (.inr k)
  rw [eval_ListComp]
  refine wpAny_comprehension_free (use := none) rfl (fun _ => rfl) (closure_ok free) ok.kind (fun y hy e => by rw [ok.uniq y hy, e]) ?_
  show wpAny _ _ (eval (.Call (.Name "zip" zp) [e1, e2] [] zpos) X.env) _ _ s
  refine Call_ (ld_blt I hg hm PyProof.Rows.boot_zip (PyProof.Rows.callWith_type1 (thn (ha.run zpos pins s σ H _ I h) fun us t1 ⟨vs, H1, I1, r1, q1⟩ => ?_) (notStar_cons s1) (noStars _ _ _ (by
    intro y hy
    rcases List.mem_cons.mp hy with rfl | hy
    · exact s2
    · cases hy))))
  obtain ⟨a, b, xs, ys, rfl, qa, qb, leq, q⟩ := q1
  cases r1 with
  | cons ra rr =>
    cases rr with
    | cons rb rr =>
      cases rr
      cases ra
      cases rb
      obtain ⟨u1, ru1, pa, _⟩ := I1.list qa
      obtain ⟨u2, ru2, pb, _⟩ := I1.list qb
      have la : a < t1.heap.objs.size := pa.lt
      have lb : b < t1.heap.objs.size := pb.lt
      refine call_zip_2 pa.isList pb.isList fun h2 z1 z2 z3 z4 z5 _ k2 => wpAny_pyIter_zip z1 ?_
      have DD := PySem.W.ktu_apart t1.heap.objs.size a b la lb
      have st2 : ZipS (t1.heap.objs.size + 4) (t1.heap.objs.size + 2) (t1.heap.objs.size + 3) t1.heap.objs.size (t1.heap.objs.size + 1) a b 0 h2 := ⟨z1, z2, ⟨_, _, z3⟩, z4, z5⟩
      have I2 : Inv X pins σ H1 { t1 with heap := h2 } := I1.kept (t' := t1.toks) k2
      have ge : ∀ c ∈ [t1.heap.objs.size + 4, t1.heap.objs.size + 2, t1.heap.objs.size + 3, t1.heap.objs.size, t1.heap.objs.size + 1], t1.heap.objs.size ≤ c := fun c hc => by
        simp only [List.mem_cons, List.not_mem_nil, or_false] at hc
        omega
      have f2 : ∀ c ∈ [t1.heap.objs.size + 4, t1.heap.objs.size + 2, t1.heap.objs.size + 3, t1.heap.objs.size, t1.heap.objs.size + 1], FpOk X pins H1 c := fun c hc => I1.fpOk (ge c hc) (I1.hok.fresh (ge c hc))
      exact lcZ_loop (Q := Q) hh d0 c0 hp hN I2 ok free DD st2 f2 (fun c hc => by
        have zz := zipS_obj st2 c hc
        obtain ⟨o, e, _⟩ := zz
        exact Heap.lt_size e) qa qb leq hgt ht he q
end
end MP
end
section
set_option Elab.async false
set_option linter.all false
set_option autoImplicit false
set_option maxRecDepth 100000
set_option maxHeartbeats 4000000
/-! Mini: the error's name; the law's two tries. -/
namespace MP
open PySem PySem.Spec PyProof.Rows L2 HotX L2H

def en (k : Nat) : Str := (["BounceError", "InvalidLane", "InvalidBall", "InvalidShare", "InvalidScript", "InvalidCell", "InvalidNumber", "InvalidFacts", "InvalidText", "NothingToUndo"] : List Str).getD k ""
theorem ewd_le {k : Nat} {v : Str} (h : ewd k = some v) : 1 ≤ k ∧ k ≤ 9 := by
  unfold ewd at h
  split at h
  · rename_i h1
    have := (List.getElem?_eq_some_iff.mp h).1
    have e : wordsL.length = 9 := rfl
    omega
  · cases h
/-- what the module must tell of its error classes -/
structure ErF (K : PySem.W.Frag) (mg : Str → Option Value) (er : Nat → Addr) : Prop where
  mg : ∀ j, j < 10 → mg (en j) = some (.ref (er j))
  exc : ∀ k, 1 ≤ k → k ≤ 9 → ExcC K (er k)
  kit : ∀ k j, 1 ≤ k → k ≤ 9 → 1 ≤ j → j ≤ 9 → PySem.W.kitOne K (.ref (er k)) (.ref (er j)) = some (decide (j = k))
  kitV : ∀ k, 1 ≤ k → k ≤ 9 → PySem.W.kitOne K (.ref (er k)) (.type "ValueError") = some true
  exm : ∀ k, 1 ≤ k → k ≤ 9 → PySem.W.exmOne K (.ref (er k)) (.ref (er 0)) = some true
/-- isinstance(e, c), e the error at a, which the context bears -/
theorem call_isEG {X : Cx} {a D : Addr} {oe : Obj} (hp : (a, oe) ∈ X.pn) (C : ExcC X.K D) (h1 : oe.cls = .ref D) (h2 : oe.dict = none) (hf : ∃ us, oe.data = .fields us) : CallR X (.builtin "isinstance") (rIsE X.K D a) := by
  intro pins s σ H xs us Q I r h
  obtain ⟨c, cv, b, rfl, hcv, e, q⟩ := h
  cases r with
  | cons ra rr =>
    cases rr with
    | cons rc rr =>
      cases rr
      cases ra
      cases hcv _ rc
      have g := (I.pin (a, oe) (List.mem_append_left _ hp)).1
      obtain ⟨vs, hv⟩ := hf
      have J : PySem.W.InstAt s.heap a oe D none := by
        obtain ⟨oc, od, oda, osl⟩ := oe
        dsimp only at h1 h2 hv
        subst h1 h2 hv
        exact ⟨g, rfl, rfl, trivial⟩
      exact PySem.W.kia_one (PySem.W.handS_kitx_exc C.hg C.hk C.hs C.hd C.ha C.hn C.ht C.hm) I.kIn J e (fun z => nomatch z) fun tk => ⟨.bl b, H, I.kept (t' := tk) fun _ _ z => z, rfl, q⟩
section
variable {X : Cx} {er : Nat → Addr} {p : Addr × Obj} {k : Nat}
/-- isinstance(e, one of the law's error classes) -/
theorem pe_isE {i j : Nat} {x : Str} {p1 p2 p3 p4 : Pos} (F : ErF X.K X.mg er) (hp : p ∈ X.pn) (h1 : p.2.cls = .ref (er k)) (h2 : p.2.dict = none) (hf : ∃ us, p.2.data = .fields us) (k1 : 1 ≤ k) (k9 : k ≤ 9) (j1 : 1 ≤ j) (j9 : j ≤ 9) (hN : X.N[i]? = some x) (hv : visB X.env.scope x = true) (hx : nmB x = true)
    (hi : glB X.env.scope "isinstance" = true) (hm : X.mg "isinstance" = none) (hg : glB X.env.scope (en j) = true) (hnj : nmB (en j) = true) :
    PE X (.Call (.Name "isinstance" p1) [.Name x p2, .Name (en j) p3] [] p4) (fun σ H Q => σ[i]? = some (some (.ref p.1)) ∧ Q (.bl (decide (j = k))) H) := by
  have hc : PE X (.Name (en j) p3) (tC (.ref (er j))) := pe_glob (gl_of hg) (F.mg j (by omega)) rfl (nm_of hnj).1
  refine (pe_callB (call_isEG (a := p.1) (oe := p.2) hp (F.exc k k1 k9) h1 h2 hf) (gl_of hi) hm boot_isinstance (pa_cons (pe_var hN (vis_of hv) (nm_of hx).1 (nm_of hx).2) (pa_cons hc pa_nil))).imp fun σ H Q h => ?_
  exact ⟨_, h.1, .ref (er j), .ref (er j), _, rfl, fun u r => r, F.kit k j k1 k9 j1 j9, h.2⟩
end
/-! ### the def of the law that names an error -/
/-- isinstance(e, c) -/
abbrev xIs (c : Str) (p1 p2 p3 p4 : Pos) : Expr := .Call (.Name "isinstance" p1) [.Name "e" p2, .Name c p3] [] p4
/-- its body -/
structure NePos where
  a : Nat → Pos
abbrev neBody (P : NePos) (sc : Scope) : List Stmt :=
  [.Assign [.Name "some" (P.a 0)] (.List [xIs (en 1) (P.a 1) (P.a 2) (P.a 3) (P.a 4), xIs (en 2) (P.a 5) (P.a 6) (P.a 7) (P.a 8), xIs (en 3) (P.a 9) (P.a 10) (P.a 11) (P.a 12)] (P.a 13)) (P.a 14),
   .Assign [.Name "some" (P.a 15)] (.BinOp (.Name "some" (P.a 16)) .Add (.List [xIs (en 4) (P.a 17) (P.a 18) (P.a 19) (P.a 20), xIs (en 5) (P.a 21) (P.a 22) (P.a 23) (P.a 24), xIs (en 6) (P.a 25) (P.a 26) (P.a 27) (P.a 28)] (P.a 29)) (P.a 30)) (P.a 31),
   .Assign [.Name "some" (P.a 32)] (.BinOp (.Name "some" (P.a 33)) .Add (.List [xIs (en 7) (P.a 34) (P.a 35) (P.a 36) (P.a 37), xIs (en 8) (P.a 38) (P.a 39) (P.a 40) (P.a 41), xIs (en 9) (P.a 42) (P.a 43) (P.a 44) (P.a 45)] (P.a 46)) (P.a 47)) (P.a 48),
   .Assign [.Name "words" (P.a 49)] (.Constant (.str "lane ball share script cell number facts text undo") 0 (P.a 50)) (P.a 51),
   .Return (some (.Call (.Attribute (.Constant (.str " ") 0 (P.a 52)) "join" (P.a 53)) [.ListComp (.Name "word" (P.a 54)) [⟨.Tuple [.Name "word" (P.a 55), .Name "good" (P.a 56)] 0 (P.a 57), .Call (.Name "zip" (P.a 58)) [.Call (.Attribute (.Name "words" (P.a 59)) "split" (P.a 60)) [.Constant (.str " ") 0 (P.a 61)] [] (P.a 62), .Name "some" (P.a 63)] [] (P.a 64), [.Name "good" (P.a 65)], 0⟩] sc (P.a 66)] [] (P.a 67))) (P.a 68)]
abbrev neN : List Str := ["e", "some", "words", "word", "good"]
/-- what its scopes must be -/
structure NeS (P : NePos) (S sc : Scope) : Prop where
  fs : FnScope neN ["e"] S
  vis : visB S "e" = true ∧ visB S "some" = true ∧ visB S "words" = true
  loc : S.names.lookup ("some" : Str) = some .local ∧ S.names.lookup ("words" : Str) = some .local
  gl : glB S "isinstance" = true ∧ glB S "zip" = true ∧ ∀ j, 1 ≤ j → j ≤ 9 → glB S (en j) = true
  blk : blkC neN S sc [("word", 3), ("good", 4)] = true
  tg : (relS sc S).names.lookup ("word" : Str) = some .local ∧ (relS sc S).names.lookup ("good" : Str) = some .local
  ln : ((P.a 60).endLine == (P.a 62).line) = true ∧ ((P.a 53).endLine == (P.a 67).line) = true
theorem ewd_get {k : Nat} {v : Str} (h : ewd k = some v) : Txt.join " " ((wordsL.zip ((List.range 9).map fun j => decide (j + 1 = k))).filterMap fun q => if q.2 then some q.1 else none) = v := by
  obtain ⟨h1, h9⟩ := ewd_le h
  have hk : k = 1 ∨ k = 2 ∨ k = 3 ∨ k = 4 ∨ k = 5 ∨ k = 6 ∨ k = 7 ∨ k = 8 ∨ k = 9 := by omega
  rcases hk with rfl | rfl | rfl | rfl | rfl | rfl | rfl | rfl | rfl <;> (cases h; decide +kernel)
theorem split_words : Txt.split "lane ball share script cell number facts text undo" " " = wordsL := by decide +kernel
theorem is_names {j : Nat} (j9 : j ≤ 9) : nmB (en j) = true := by
  have hj : j = 0 ∨ j = 1 ∨ j = 2 ∨ j = 3 ∨ j = 4 ∨ j = 5 ∨ j = 6 ∨ j = 7 ∨ j = 8 ∨ j = 9 := by omega
  rcases hj with rfl | rfl | rfl | rfl | rfl | rfl | rfl | rfl | rfl | rfl <;> decide
abbrev bsK (k : Nat) : List Bool := (List.range 9).map fun j => decide (j + 1 = k)
abbrev pick (bs : List Bool) : List Str := (wordsL.zip bs).filterMap fun q => if q.2 then some q.1 else none
theorem pick_small {k : Nat} (h1 : 1 ≤ k) (h9 : k ≤ 9) : ((pick (bsK k)).map (·.length)).sum + (pick (bsK k)).length * (" " : Str).length ≤ 16777216 := by
  have hk : k = 1 ∨ k = 2 ∨ k = 3 ∨ k = 4 ∨ k = 5 ∨ k = 6 ∨ k = 7 ∨ k = 8 ∨ k = 9 := by omega
  rcases hk with rfl | rfl | rfl | rfl | rfl | rfl | rfl | rfl | rfl <;> decide +kernel
theorem take_snoc {α : Type} {xs : List α} {i : Nat} {x : α} (h : xs[i]? = some x) : xs.take (i + 1) = xs.take i ++ [x] := by
  rw [List.take_add_one, h] <;> rfl
/-- the last two rows -/
theorem ne_last {K : PySem.W.Frag} {D : Ends} {H5 : Hp} {a5 : Addr} {σ : L2.St} {k : Nat} {v : Str} (hv : ewd k = some v) (h5 : H5 a5 = some (.lst ((bsK k).map V.bl))) (hl : σ.length = 5) (hs : σ[1]? = some (some (.ref a5))) (hD : ∀ H', GrowH H5 H' → D.rt (.str v) H') :
    tSeq (tAsg (tC (V.str "lane ball share script cell number facts text undo")) (gName 2)) (tRet (tM1 (fun x xs H Q => ∃ a p, ∃ ys : List Str, x = V.str a ∧ xs = [V.ref p] ∧ (SqL K H p (ys.map V.str) ∨ SqT K H p (ys.map V.str)) ∧ (ys.map (·.length)).sum + ys.length * a.length ≤ 16777216 ∧ Q (V.str (Txt.join a ys)) H) (tC (V.str " "))
      (tLcZ K (tCons (tM1 (fun x xs H Q => ∃ a b, x = V.str a ∧ xs = [V.str b] ∧ (b.length == 0) = false ∧ a.length + 2 ≤ sizeLine ∧ rNewStrs (Txt.split a b) H Q) (tVar 2) (tC (V.str " "))) (tCons (tVar 1) tNil)) (gTup K 2 (gCons (gName 3) (gCons (gName 4) gNil))) (tB (tVar 4)) (tVar 3) [3, 4]))) D σ H5 := by
  obtain ⟨k1, k9⟩ := ewd_le hv
  have jn := ewd_get hv
  refine ⟨⟨_, rfl⟩, .str "lane ball share script cell number facts text undo", List.getElem?_set_self (by omega), ⟨_, rfl⟩, _, _, rfl, rfl, rfl, by decide +kernel, fun pw nw => ?_⟩
  rw [split_words]
  refine ⟨.ref a5, by rw [List.getElem?_set_ne (by decide)]; exact hs, pw, a5, wordsL.map V.str, (bsK k).map V.bl, rfl, SqL.of upd_same, SqL.of ((GrowH.upd nw) _ _ h5), by simp [wordsL, bsK], fun D' nD => ?_⟩
  refine ⟨fun i H' => GrowH (upd H5 pw (.lst (wordsL.map V.str))) H' ∧ H' D' = some (.lst (((wordsL.zip (bsK k)).take i).filterMap fun q => if q.2 then some (V.str q.1) else none)), ⟨GrowH.upd nD, upd_same⟩, fun i H' hP => ⟨SqL.of (hP.1 _ _ upd_same), SqL.of (hP.1 _ _ ((GrowH.upd nw) _ _ h5))⟩, fun i H' x y T hP hx hy nT => ?_, fun H' hP => ?_⟩
  · obtain ⟨g, hd⟩ := hP
    rw [List.getElem?_map] at hx hy
    cases ex : wordsL[i]? with
    | none => rw [ex] at hx; cases hx
    | some w =>
      cases ey : (bsK k)[i]? with
      | none => rw [ey] at hy; cases hy
      | some b =>
        rw [ex] at hx
        rw [ey] at hy
        cases hx
        cases hy
        have tk := take_snoc (xs := wordsL.zip (bsK k)) (i := i) (x := (w, b)) (List.getElem?_zip_eq_some.mpr ⟨ex, ey⟩)
        have gT : GrowH H' (upd H' T (.tup [V.str w, V.bl b])) := GrowH.upd nT
        have wl : (wipe (σ.set 2 (some (.str "lane ball share script cell number facts text undo"))) [3, 4]).length = 5 := by rw [wipe_length]; simp [hl]
        generalize hw : wipe (σ.set 2 (some (.str "lane ball share script cell number facts text undo"))) [3, 4] = τ at wl ⊢
        refine ⟨T, _, rfl, SqT.of upd_same, rfl, V.str w, [V.bl b], rfl, V.bl b, [], rfl, rfl, ?_, ?_⟩
        · rw [← hw]
          refine wipe_off (ls := [3, 4]) ⟨by rw [List.length_set, List.length_set], fun j hj => ?_⟩ fun i hi => hi
          simp only [List.mem_cons, List.not_mem_nil, or_false, not_or] at hj
          rw [List.getElem?_set_ne (Ne.symm hj.2), List.getElem?_set_ne (Ne.symm hj.1)]
        · refine ⟨.bl b, List.getElem?_set_self (by simp [wl]), b, rfl, ?_⟩
          cases b with
          | false =>
            refine ⟨g.trans gT, ?_⟩
            rw [tk, List.filterMap_append]
            simpa using gT _ _ hd
          | true =>
            have nTD : D' ≠ T := ne_of_none hd nT
            refine ⟨.str w, by rw [List.getElem?_set_ne (by decide)]; exact List.getElem?_set_self (by omega), _, gT _ _ hd, ?_, (g.trans gT).put nD, ?_⟩
            · refine Nat.lt_of_le_of_lt (List.length_filterMap_le _ _) ?_
              rw [List.length_take]
              have : (wordsL.zip (bsK k)).length = 9 := by simp [wordsL, bsK]
              have : (1000 : Nat) ≤ sizeLine := by decide
              omega
            · rw [upd_same, tk, List.filterMap_append]
              rfl
  · obtain ⟨g, hd⟩ := hP
    have all : (wordsL.zip (bsK k)).take (wordsL.map V.str).length = wordsL.zip (bsK k) := List.take_of_length_le (by simp [wordsL, bsK])
    rw [all] at hd
    refine ⟨_, D', pick (bsK k), rfl, rfl, .inl (SqL.of ?_), pick_small k1 k9, ?_⟩
    · rw [hd, List.map_filterMap]
      refine congrArg (fun f => some (HO.lst (List.filterMap f _))) (funext fun q => ?_)
      cases q.2 <;> rfl
    · rw [jn]
      exact hD H' ((GrowH.upd nw).trans g)
section
variable {X : Cx} {er : Nat → Addr} {p : Addr × Obj} {k : Nat} {P : NePos} {S sc : Scope}
/-- three of them, in a list -/
theorem pe_is3 {j : Nat} {q : Nat → Pos} {lp : Pos} (F : ErF X.K X.mg er) (hp : p ∈ X.pn) (h1 : p.2.cls = .ref (er k)) (h2 : p.2.dict = none) (hf : ∃ us, p.2.data = .fields us) (k1 : 1 ≤ k) (k9 : k ≤ 9) (hN : X.N = neN) (hS : X.env.scope = S) (ns : NeS P S sc) (hb : ∀ x ∈ bltNames, X.mg x = none) (j1 : 1 ≤ j) (j7 : j ≤ 7) :
    PE X (.List [xIs (en j) (q 0) (q 1) (q 2) (q 3), xIs (en (j + 1)) (q 4) (q 5) (q 6) (q 7), xIs (en (j + 2)) (q 8) (q 9) (q 10) (q 11)] lp)
      (fun σ H Q => σ[0]? = some (some (.ref p.1)) ∧ ∀ a, H a = none → Q (.ref a) (upd H a (.lst [.bl (decide (j = k)), .bl (decide (j + 1 = k)), .bl (decide (j + 2 = k))]))) := by
  have one : ∀ {i : Nat} {p1 p2 p3 p4 : Pos}, 1 ≤ i → i ≤ 9 → PE X (xIs (en i) p1 p2 p3 p4) (fun σ H Q => σ[0]? = some (some (.ref p.1)) ∧ Q (.bl (decide (i = k))) H) := fun {i p1 p2 p3 p4} i1 i9 =>
    pe_isE F hp h1 h2 hf k1 k9 i1 i9 (by rw [hN] <;> rfl) (by rw [hS]; exact ns.vis.1) (by decide) (by rw [hS]; exact ns.gl.1) (hb _ (by decide)) (by rw [hS]; exact ns.gl.2.2 i i1 i9) (is_names i9)
  refine (pe_lst (pa_cons (one j1 (by omega)) (pa_cons (one (by omega) (by omega)) (pa_cons (one (by omega) (by omega)) pa_nil)))).imp fun σ H Q h => ?_
  exact ⟨h.1, h.1, h.1, by show 3 ≤ sizeLine; decide, h.2⟩
theorem ne_pss (F : ErF X.K X.mg er) (hot : HotC X) (hp : p ∈ X.pn) (h1 : p.2.cls = .ref (er k)) (h2 : p.2.dict = none) (hf : ∃ us, p.2.data = .fields us) {v : Str} (hv : ewd k = some v) (hN : X.N = neN) (hS : X.env.scope = S) (hfn : ∀ x, X.fn x = true) (ns : NeS P S sc) (hb : ∀ x ∈ bltNames, X.mg x = none) :
    PSs X (neBody P sc) (fun D σ H => σ = start neN [.ref p.1] ∧ ∀ H', GrowH H H' → D.rt (.str v) H') := by
  obtain ⟨k1, k9⟩ := ewd_le hv
  have nd : X.N.Nodup := by rw [hN]; exact ns.fs.nd
  have is3 : ∀ {j : Nat} {q : Nat → Pos} {lp : Pos}, 1 ≤ j → j ≤ 7 → PE X (.List [xIs (en j) (q 0) (q 1) (q 2) (q 3), xIs (en (j + 1)) (q 4) (q 5) (q 6) (q 7), xIs (en (j + 2)) (q 8) (q 9) (q 10) (q 11)] lp) _ := fun {j q lp} j1 j7 => pe_is3 F hp h1 h2 hf k1 k9 hN hS ns hb j1 j7
  have vSome : ∀ {q : Pos}, PE X (.Name "some" q) (tVar 1) := fun {q} => pe_var (by rw [hN] <;> rfl) (vis_of (by rw [hS]; exact ns.vis.2.1))
  have vWords : ∀ {q : Pos}, PE X (.Name "words" q) (tVar 2) := fun {q} => pe_var (by rw [hN] <;> rfl) (vis_of (by rw [hS]; exact ns.vis.2.2))
  have lSome : X.env.scope.names.lookup ("some" : Str) = some .local := by rw [hS]; exact ns.loc.1
  have lWords : X.env.scope.names.lookup ("words" : Str) = some .local := by rw [hS]; exact ns.loc.2
  have bs : ∀ (s : Shared) (H : Hp) (C : Addr) (cl : List (Str × Addr)) (fp : List Addr), (X.blk s H sc (compEnvC sc cl C X.env) fp).env.scope.names.lookup ("word" : Str) = some .local ∧ (X.blk s H sc (compEnvC sc cl C X.env) fp).env.scope.names.lookup ("good" : Str) = some .local := fun s H C cl fp => by
    have e : (X.blk s H sc (compEnvC sc cl C X.env) fp).env.scope = relS sc S := by rw [← hS] <;> rfl
    rw [e]
    exact ns.tg
  have lc : PE X (.ListComp (.Name "word" (P.a 54)) [⟨.Tuple [.Name "word" (P.a 55), .Name "good" (P.a 56)] 0 (P.a 57), .Call (.Name "zip" (P.a 58)) [.Call (.Attribute (.Name "words" (P.a 59)) "split" (P.a 60)) [.Constant (.str " ") 0 (P.a 61)] [] (P.a 62), .Name "some" (P.a 63)] [] (P.a 64), [.Name "good" (P.a 65)], 0⟩] sc (P.a 66)) _ :=
    pe_lcZ (g := gTup X.K 2 (gCons (gName 3) (gCons (gName 4) gNil))) (tt := tB (tVar 4)) (te := tVar 3) (own := [("word", 3), ("good", 4)]) hot nd (gl_of (by rw [hS]; exact ns.gl.2.1)) (hb _ (by decide)) (pa_cons (pe_split vWords pe_str rfl rfl ns.ln.1) (pa_cons vSome pa_nil)) rfl rfl (blkOk_by (by rw [hN, hS]; exact ns.blk))
      (fun s H C cl fp hi => pg_tupH hi (pgs_cons (pg_name nd (by show X.N[3]? = _; rw [hN] <;> rfl) (.inl (bs s H C cl fp).1) (.inr (bs s H C cl fp).1)) (pgs_cons (pg_name nd (by show X.N[4]? = _; rw [hN] <;> rfl) (.inl (bs s H C cl fp).2) (.inr (bs s H C cl fp).2)) pgs_nil)) rfl rfl)
      (fun s H C cl fp => pts_one (pt_val (pe_var (by show X.N[4]? = _; rw [hN] <;> rfl) (.inl (bs s H C cl fp).2)))) (fun s H C cl fp => pe_var (by show X.N[3]? = _; rw [hN] <;> rfl) (.inl (bs s H C cl fp).1))
  refine (pss_cons (ps_set nd (i := 1) (by rw [hN] <;> rfl) (.inl lSome) (is3 (j := 1) (q := fun n => P.a (n + 1)) (by decide) (by decide)) rfl (.inr lSome)) (pss_cons (ps_set nd (i := 1) (by rw [hN] <;> rfl) (.inl lSome) (pe_op op_cat vSome (is3 (j := 4) (q := fun n => P.a (n + 17)) (by decide) (by decide))) rfl (.inr lSome))
    (pss_cons (ps_set nd (i := 1) (by rw [hN] <;> rfl) (.inl lSome) (pe_op op_cat vSome (is3 (j := 7) (q := fun n => P.a (n + 34)) (by decide) (by decide))) rfl (.inr lSome)) (pss_cons (ps_set nd (i := 2) (by rw [hN] <;> rfl) (.inl lWords) pe_str rfl (.inr lWords)) (pss_one (ps_ret (pe_join pe_str lc rfl rfl ns.ln.2))))))).imp fun D σ H h => ?_
  obtain ⟨rfl, hD⟩ := h
  refine ⟨rfl, fun a1 n1 => ⟨.ref a1, rfl, rfl, fun a2 n2 => ?_⟩⟩
  refine ⟨a1, a2, _, _, rfl, rfl, (GrowH.upd n2) _ _ upd_same, upd_same, by show 6 ≤ sizeLine; decide, fun a3 n3 => ⟨.ref a3, rfl, rfl, fun a4 n4 => ?_⟩⟩
  refine ⟨a3, a4, _, _, rfl, rfl, (GrowH.upd n4) _ _ upd_same, upd_same, by show 9 ≤ sizeLine; decide, fun a5 n5 => ?_⟩
  exact ne_last (a5 := a5) hv (by rw [upd_same] <;> rfl) rfl rfl fun H' g => hD H' ((((((GrowH.refl H).up n1).up n2).up n3).up n4).up n5 |>.trans g)
end
end MP
end
section
set_option Elab.async false
set_option linter.all false
set_option autoImplicit false
set_option maxRecDepth 100000
set_option maxHeartbeats 4000000
/-! Mini: the law's two tries keep their promise. -/
namespace MP
open PySem PySem.Spec PyProof.Rows L2 HotX L2H

/-- what the def that names an error promises -/
def NEP (er : Nat → Addr) (prog : Program) (w : World) (K : PySem.W.Frag) (mg : Str → Option Value) (base : Heap) : Prop :=
  ∃ g, mg "_law_named_error" = some (.ref g) ∧ PySem.W.keepIn K (.ref g) = true ∧ ∀ (A : Around) (outer : List Env) (s : Shared) (H : Hp) (p : Addr × Obj) (k : Nat) (v : Str) (Q : VK), RoomH 1 A → Hot1 A p → PinOk outer H s p → Env0 prog w K mg base A outer s H →
    p.2.cls = .ref (er k) → p.2.dict = none → ewd k = some v → (∀ H', GrowH H H' → Q (.str v) H') → codeAny (model prog w) A (.call (.ref g) ⟨[.ref p.1], []⟩) (CR noCX outer prog w H s Q noE) s
theorem ne_ok {er : Nat → Addr} {prog : Program} {w : World} {K : PySem.W.Frag} {mg : Str → Option Value} {base : Heap} {g : Addr} {qual : Str} {params : Arguments} {P : NePos} {S sc : Scope} {fd : FuncData} (F : ErF K mg er) (hg : mg "_law_named_error" = some (.ref g)) (hb : ∀ x ∈ bltNames, mg x = none)
    (D : FunD K "_law_named_error" qual params (neBody P sc) S [] [] g fd) (B : Binds K fd ["e"] []) (ns : NeS P S sc) : NEP er prog w K mg base := by
  refine ⟨g, hg, D.kp, fun A outer s H p k v Q hr hot pin e0 h1 h2 hv hQ => ?_⟩
  obtain ⟨oc, od, dV, kV, doc, pm, an, cdv, ct, osl, rfl, lk, hcd, _, _⟩ := D.ex
  have KX : K.In s.heap := e0.mod.kin.keeps fun b o e => (e0.bs b o e).1
  have lim : s.heap.NoLimit := e0.mod.nolimit.keeps fun b o e => (e0.bs b o e).1
  have bt := B s [.ref p.1] KX rfl
  have kinds : ∀ y ∈ (["e"] : List Str).zip [Value.ref p.1], S.names.lookup y.1 = some .local ∨ (S.names.lookup y.1 = some .cell ∧ ((cellsFrom (s.heap.objs.size + 1) S.names []).lookup y.1).isSome = true) := fun ⟨n, u⟩ hy => (ns.fs.par n (List.of_mem_zip hy).1).elim .inl fun q => .inr ⟨q, PySem.W.cellsFrom_some _ _ _ (.inl q)⟩
  refine codeAny_call_function hr.depth (KX _ _ lk) rfl ns.fs.co ns.fs.gen rfl (PySem.W.codeRec_of KX hcd) (bt _ _ _ _ ?_)
  refine wpAny_newFunctionEnv_cells ns.fs.kind kinds fun env he s1 x => ?_
  subst he
  refine ⟨lim.keeps x.toInCall.keep, codeAny_func ?_⟩
  have I : Inv (cxH noCX prog w K mg base neN qual S g cdv A outer s H noE p) [] (L2.start neN [.ref p.1]) H s1 := inv_startH ns.fs pin e0 rfl (.cons rfl .nil) x
  have body := ne_pss (X := cxH noCX prog w K mg base neN qual S g cdv A outer s H noE p) (p := p) F ⟨p, hot, List.mem_cons_self⟩ List.mem_cons_self h1 h2 (let ⟨us, hu, _⟩ := hot.2; ⟨us, hu⟩) hv rfl rfl (fun _ => rfl) ns hb
  refine wpAny_mono (body.run [] s1 _ H { nx := fun _ _ => False, rt := Q } I ⟨rfl, hQ⟩) (fun fl s2 hs => ?_) fun _ _ z => z
  cases fl with
  | ret u =>
    obtain ⟨y, σ', H', J, rv, q⟩ := hs
    exact ⟨y, H', J.os, J.bare, J.base, J.hok, rv, q⟩
  | next =>
    obtain ⟨_, _, _, q⟩ := hs
    exact q.elim
  | brk =>
    obtain ⟨_, _, _, q⟩ := hs
    exact q.elim
  | cont =>
    obtain ⟨_, _, _, q⟩ := hs
    exact q.elim
/-- .. called in an except suite: the error in the slot i -/
theorem pe_ne {X : Cx} {er : Nat → Addr} {i k : Nat} {a : Addr} {oe : Obj} {pn : List (Addr × Obj)} {v : Str} {x : Str} {p1 p2 p3 : Pos} (N : NEP er X.prog X.w X.K X.mg X.base) (hr : RoomH 1 X.A) (zn : L2N.Zn (.ref (er k)) none oe) (hf : ∃ us, oe.data = .fields us) (hv : ewd k = some v) (hN : X.N[i]? = some x) (hvis : visB X.env.scope x = true) (hx : nmB x = true) (hg : glB X.env.scope "_law_named_error" = true) :
    PE (X.suite a ((a, oe) :: pn)) (.Call (.Name "_law_named_error" p1) [.Name x p2] [] p3) (fun σ H Q => σ[i]? = some (some (.ref a)) ∧ ∀ H', GrowH H H' → Q (.str v) H') := by
  obtain ⟨g, hm, hk, run⟩ := N
  obtain ⟨us, hu⟩ := hf
  refine ⟨fun pins s σ H Q I h => ?_⟩
  refine wpAny_Call_Name_kw (ld_glob (X := X.suite a ((a, oe) :: pn)) I (gl_of hg) hm ?_)
  have ha : PA (X.suite a ((a, oe) :: pn)) [.Name x p2] (tCons (tVar i) tNil) := pa_cons (pe_var hN (vis_of hvis) (nm_of hx).1 (nm_of hx).2) pa_nil
  refine PySem.W.callWith_K (h₀ := X.base) I.ok.mod.kin hk (thn (ha.run p3 pins s σ H (fun vs H1 => vs = [.ref a] ∧ H1 = H) I ⟨_, h.1, rfl, rfl⟩) fun ws s1 ⟨vs, H1, I1, r, q⟩ => ?_) rfl rfl
  obtain ⟨rfl, rfl⟩ := q
  refine ⟨I1.kIn, ?_⟩
  cases r with
  | cons ra rr =>
    cases rr
    cases ra
    have P1 := I1.pin (a, oe) (List.mem_append_left _ List.mem_cons_self)
    have stk : a ∉ frs X.stack := fun m => (List.mem_cons.mp (I1.stkSub a m)).elim P1.2.2.1 P1.2.2.2.1
    refine wpAny_call (codeAny_mono (run (X.A.mark (some (.ref a))) X.stack s1 H1 (a, oe) k v Q ⟨hr.dp, hr.un⟩ ⟨rfl, us, hu, zn.2.2 us hu⟩ ⟨P1.1, P1.2.1, stk, P1.2.2.2.2⟩ I1.env0 zn.1 zn.2.1 hv h.2) fun r s' hq => ?_)
    cases r with
    | error e => exact (show False from hq).elim
    | ok fl =>
      cases fl with
      | ret u => exact I1.after hq
      | next => exact False.elim hq
      | brk => exact False.elim hq
      | cont => exact False.elim hq

/-! ### the bodies of the tries -/
structure TrS (S : Scope) : Prop where
  fs : FnScope ["call", "e"] ["call"] S
  vis : visB S "call" = true ∧ visB S "e" = true
  loc : S.names.lookup ("e" : Str) = some .local
  gl : glB S "isinstance" = true ∧ glB S "ValueError" = true ∧ glB S "_law_named_error" = true ∧ glB S "BounceError" = true
abbrev erBody (q : Nat → Pos) : List Stmt :=
  [.Try [.Expr (.Call (.Name "call" (q 0)) [] [] (q 1)) (q 2)] [.ExceptHandler (some (.Name "BounceError" (q 3))) (some "e") [.Return (some (.IfExp (.Call (.Name "isinstance" (q 4)) [.Name "e" (q 5), .Name "ValueError" (q 6)] [] (q 7)) (.Call (.Name "_law_named_error" (q 8)) [.Name "e" (q 9)] [] (q 10)) (.Constant (.str "odd") 0 (q 11)) (q 12))) (q 13)] (q 14)] [] [] (q 15), .Return (some (.Constant (.str "") 0 (q 16))) (q 17)]
abbrev tdBody (q : Nat → Pos) : List Stmt :=
  [.Try [.Return (some (.Tuple [.Call (.Name "call" (q 0)) [] [] (q 1), .Constant (.str "") 0 (q 2)] 0 (q 3))) (q 4)] [.ExceptHandler (some (.Name "BounceError" (q 5))) (some "e") [.Return (some (.Tuple [.Constant .none 0 (q 6), .Call (.Name "_law_named_error" (q 7)) [.Name "e" (q 8)] [] (q 9)] 0 (q 10))) (q 11)] (q 12)] [] [] (q 13)]
section
variable {Y : Ax} {prog : Program} {w : World} {K : PySem.W.Frag} {mg : Str → Option Value} {base : Heap} {qual : Str} {S : Scope} {g f : Addr} {cd : Value} {A : Around} {outer : List Env} {s : Shared} {H : Hp}
/-- where a try's body runs -/
abbrev trCx (prog : Program) (w : World) (K : PySem.W.Frag) (mg : Str → Option Value) (base : Heap) (qual : Str) (S : Scope) (g : Addr) (cd : Value) (A : Around) (outer : List Env) (s : Shared) (H : Hp) : Cx := cxOf noCX prog w K mg base ["call", "e"] qual S g cd A outer s H noE
/-- call(), the first thing that it does -/
theorem pe_itsCall {W : WX} {pn : List (Addr × Obj)} {xe : Value → Shared → Prop} {T : XK → Hp → VK → Prop} {p1 p2 : Pos} (ts : TrS S) (hd : A.handled = none) (cal : CallsOf prog w K mg base f T A outer s H) (tk : L2N.Takes ((trCx prog w K mg base qual S g cd A outer s H).tr pn xe) W) :
    PE ((trCx prog w K mg base qual S g cd A outer s H).tr pn xe) (.Call (.Name "call" p1) [] [] p2) (fun σ H' Q => σ[0]? = some (some (.ref f)) ∧ H' = H ∧ T (fun cls d H2 => W cls d σ H2) H Q) := by
  refine ⟨fun pins s1 σ H1 Q I h => ?_⟩
  obtain ⟨h0, rfl, hT⟩ := h
  refine wpAny_Call_Name_kw (thn ((pe_var (pos := p1) (i := 0) (x := "call") rfl (vis_of ts.vis.1)).run pins s1 σ H1 (fun v H2 => v = .ref f ∧ H2 = H1) I ⟨.ref f, h0, rfl, rfl⟩) fun u s2 ⟨v, H2, I2, r2, q2⟩ => ?_)
  obtain ⟨e1, e2⟩ := q2
  subst e1
  rw [e2] at I2
  obtain rfl : u = Value.ref f := r2
  obtain ⟨c1, c2⟩ := cal (envOfC qual S s.heap.objs.size g cd) s2 (fun cls d H3 => W cls d σ H3) Q hd I2.env0 I2.base I2.nolimit hT
  refine PySem.W.callWith_of (P := PySem.W.FnAt f) rfl PySem.W.keeps_F (evalArgs_nil3 ⟨c1, ?_⟩)
  refine wpAny_call (codeAny_mono c2 fun r s3 hq => ?_)
  cases r with
  | error e => exact L2N.passAt tk σ pins H1 s2 e s3 I2 hq
  | ok fl =>
    cases fl with
    | ret u => exact I2.after hq
    | next => exact False.elim hq
    | brk => exact False.elim hq
    | cont => exact False.elim hq
/-- what the suite tells -/
def tsOf (Y : Ax) (t : Nat) (a : Addr) (cls : Value) (d : Option Addr) : TS := fun D σ H => σ[1]? = some (some (.ref a)) ∧ ∃ k v, cls = .ref (Y.er k) ∧ d = none ∧ ewd k = some v ∧ ∀ H', GrowH H H' → (if t = 0 then D.rt (.str v) H' else ∀ p, H' p = none → D.rt (.ref p) (upd H' p (.tup [.non, .str v])))
theorem roomH_1 {k : Nat} (hr : Room k A) (env : Env) (hk : 2 ≤ k) : RoomH 1 (A.deeper env) := by
  have h := hr.mono hk
  have h2 : Room 1 (A.deeper env) := Room.deeper (k := 1) h env
  exact roomH_of h2
theorem suite0 {q : Nat → Pos} {a : Addr} {oe : Obj} {cls : Value} {d : Option Addr} {pn : List (Addr × Obj)} (ts : TrS S) (F : ErF K mg Y.er) (N : NEP Y.er prog w K mg base) (hv : mg "ValueError" = none) (hi : mg "isinstance" = none) (hr : RoomH 1 (A.deeper (envOfC qual S s.heap.objs.size g cd))) (zn : L2N.Zn cls d oe) (hf : ∃ us, oe.data = .fields us) :
    PSs ((trCx prog w K mg base qual S g cd A outer s H).suite a ((a, oe) :: pn)) [.Return (some (.IfExp (.Call (.Name "isinstance" (q 4)) [.Name "e" (q 5), .Name "ValueError" (q 6)] [] (q 7)) (.Call (.Name "_law_named_error" (q 8)) [.Name "e" (q 9)] [] (q 10)) (.Constant (.str "odd") 0 (q 11)) (q 12))) (q 13)] (tsOf Y 0 a cls d) := by
  refine ⟨fun pins s1 σ H1 D I h => ?_⟩
  obtain ⟨h1, k, v, rfl, rfl, hk, hD⟩ := h
  obtain ⟨k1, k9⟩ := ewd_le hk
  have pv : PE ((trCx prog w K mg base qual S g cd A outer s H).suite a ((a, oe) :: pn)) (.Name "ValueError" (q 6)) (tC (.ty "ValueError")) := pe_bltn (gl_of ts.gl.2.1) hv (by decide +kernel) rfl
  have t1 : PE ((trCx prog w K mg base qual S g cd A outer s H).suite a ((a, oe) :: pn)) (.Call (.Name "isinstance" (q 4)) [.Name "e" (q 5), .Name "ValueError" (q 6)] [] (q 7)) (tCB (rIsE K (Y.er k) a) (tCons (tVar 1) (tCons (tC (.ty "ValueError")) tNil))) :=
    pe_callB (call_isEG (X := (trCx prog w K mg base qual S g cd A outer s H).suite a ((a, oe) :: pn)) (a := a) (oe := oe) List.mem_cons_self (F.exc k k1 k9) zn.1 zn.2.1 hf) (gl_of ts.gl.1) hi boot_isinstance (pa_cons (pe_var rfl (vis_of ts.vis.2)) (pa_cons pv pa_nil))
  refine (pss_one (ps_ret (pe_ifExp (pt_val t1) (pe_ne (X := trCx prog w K mg base qual S g cd A outer s H) (i := 1) N hr zn hf hk rfl ts.vis.2 (by decide) ts.gl.2.2.1) pe_str))).run pins s1 σ H1 D I ?_
  exact ⟨_, h1, .ty "ValueError", .type "ValueError", true, rfl, fun u r => r, F.kitV k k1 k9, true, rfl, h1, fun H' gr => hD H' gr⟩
theorem suite1 {q : Nat → Pos} {a : Addr} {oe : Obj} {cls : Value} {d : Option Addr} {pn : List (Addr × Obj)} (ts : TrS S) (N : NEP Y.er prog w K mg base) (hr : RoomH 1 (A.deeper (envOfC qual S s.heap.objs.size g cd))) (zn : L2N.Zn cls d oe) (hf : ∃ us, oe.data = .fields us) :
    PSs ((trCx prog w K mg base qual S g cd A outer s H).suite a ((a, oe) :: pn)) [.Return (some (.Tuple [.Constant .none 0 (q 6), .Call (.Name "_law_named_error" (q 7)) [.Name "e" (q 8)] [] (q 9)] 0 (q 10))) (q 11)] (tsOf Y 1 a cls d) := by
  refine ⟨fun pins s1 σ H1 D I h => ?_⟩
  obtain ⟨h1, k, v, rfl, rfl, hk, hD⟩ := h
  refine (pss_one (ps_ret (pe_tup (pa_cons pe_non (pa_cons (pe_ne (X := trCx prog w K mg base qual S g cd A outer s H) (i := 1) N hr zn hf hk rfl ts.vis.2 (by decide) ts.gl.2.2.1) pa_nil))))).run pins s1 σ H1 D I ?_
  exact ⟨h1, fun H' gr => ⟨by show 2 ≤ sizeLine; decide, fun p hp => hD H' gr p hp⟩⟩
/-- the catch -/
theorem catch_ok {t : Nat} {Q : VK} {D : Ends} {cls : Value} {d : Option Addr} {σ' : L2.St} {H' : Hp} (F : ErF K mg Y.er) (hl : 1 < σ'.length) (hD : D.rt = Q) (h : TrE Y ewd t Q cls d H') : wAs K (.ref (Y.er 0)) 1 (tsOf Y t) W0 D cls d σ' H' := by
  obtain ⟨k, v, rfl, rfl, hk, hQ⟩ := h
  obtain ⟨k1, k9⟩ := ewd_le hk
  refine ⟨true, F.exm k k1 k9, fun _ a _ => ⟨List.getElem?_set_self hl, k, v, rfl, rfl, hk, fun H2 gr => ?_⟩, fun z => (nomatch z)⟩
  have z := hQ H2 gr
  rw [← hD] at z
  exact z
end
section
variable {Y : Ax} {prog : Program} {w : World} {K : PySem.W.Frag} {mg : Str → Option Value} {base : Heap} {qual : Str} {params : Arguments} {S : Scope} {g : Addr} {fd : FuncData} {q : Nat → Pos} {k : Nat}
theorem try0_ok (hk : 2 ≤ k) (F : ErF K mg Y.er) (hb : ∀ x ∈ bltNames, mg x = none) (hv : mg "ValueError" = none) (N : NEP Y.er prog w K mg base) (hg : mg (tnm 0) = some (.ref g)) (D : FunD K "_law_error" qual params (erBody q) S [] [] g fd) (B : Binds K fd ["call"] []) (ts : TrS S) : TryP Y ewd 0 k prog w K mg base := by
  refine ⟨g, hg, D.kp, fun A outer s H f Q T hr e0 mono cal hT => ?_⟩
  obtain ⟨oc, od, dV, kV, doc, pm, an, cdv, ct, osl, rfl, lk, hcd, _, _⟩ := D.ex
  have KX : K.In s.heap := e0.mod.kin.keeps fun b o e => (e0.bs b o e).1
  obtain ⟨k', rfl⟩ : ∃ k', k = k' + 1 := ⟨k - 1, by omega⟩
  refine LamX.run_ofS (N := ["call", "e"]) (ps := ["call"]) (us := [.ref f]) (vs := [.ref f]) lk hcd ts.fs hr e0 (B s [.ref f] KX rfl) (.cons rfl .nil) rfl fun hr' => ?_
  have rh : RoomH 1 (A.deeper (envOfC qual S s.heap.objs.size g cdv)) := roomH_1 hr _ hk
  refine ⟨_, pss_cons (L2N.ps_try_as (i := 1) (c := .ref (Y.er 0)) (ts := tsOf Y 0) (Wout := W0) rfl rfl ts.fs.nd rfl ts.loc ⟨gl_of ts.gl.2.2.2, by decide, .inl (F.mg 0 (by decide))⟩ MP.takes0 (fun W pn xe tk _ => pss_one (ps_expr (pe_itsCall ts hr.hd cal tk))) (fun a oe cls d pn zn hf => suite0 ts F N hv (hb _ (by decide)) rh zn hf)) (pss_one (ps_ret pe_str)), ?_⟩
  exact ⟨rfl, rfl, mono _ _ _ _ _ (fun c d H2 z => catch_ok F (show 1 < 2 by decide) rfl z) (fun v H2 z => z) hT⟩
theorem try1_ok (hk : 2 ≤ k) (F : ErF K mg Y.er) (N : NEP Y.er prog w K mg base) (hg : mg (tnm 1) = some (.ref g)) (D : FunD K "_law_told" qual params (tdBody q) S [] [] g fd) (B : Binds K fd ["call"] []) (ts : TrS S) : TryP Y ewd 1 k prog w K mg base := by
  refine ⟨g, hg, D.kp, fun A outer s H f Q T hr e0 mono cal hT => ?_⟩
  obtain ⟨oc, od, dV, kV, doc, pm, an, cdv, ct, osl, rfl, lk, hcd, _, _⟩ := D.ex
  have KX : K.In s.heap := e0.mod.kin.keeps fun b o e => (e0.bs b o e).1
  obtain ⟨k', rfl⟩ : ∃ k', k = k' + 1 := ⟨k - 1, by omega⟩
  refine LamX.run_ofS (N := ["call", "e"]) (ps := ["call"]) (us := [.ref f]) (vs := [.ref f]) lk hcd ts.fs hr e0 (B s [.ref f] KX rfl) (.cons rfl .nil) rfl fun hr' => ?_
  have rh : RoomH 1 (A.deeper (envOfC qual S s.heap.objs.size g cdv)) := roomH_1 hr _ hk
  refine ⟨_, pss_one (L2N.ps_try_as (i := 1) (c := .ref (Y.er 0)) (ts := tsOf Y 1) (Wout := W0) rfl rfl ts.fs.nd rfl ts.loc ⟨gl_of ts.gl.2.2.2, by decide, .inl (F.mg 0 (by decide))⟩ MP.takes0 (fun W pn xe tk _ => pss_one (ps_ret (pe_tup (pa_cons (pe_itsCall ts hr.hd cal tk) (pa_cons pe_str pa_nil))))) (fun a oe cls d pn zn hf => suite1 ts N rh zn hf)), ?_⟩
  exact ⟨rfl, rfl, mono _ _ _ _ _ (fun c d H2 z => catch_ok F (show 1 < 2 by decide) rfl z) (fun v H2 z => ⟨by show 2 ≤ sizeLine; decide, z⟩) hT⟩
end
end MP
end
section
set_option Elab.async false
set_option linter.all false
set_option autoImplicit false
set_option maxRecDepth 100000
set_option maxHeartbeats 4000000
/-! Mini: every expression that matches is worth what the evaluator says. -/
namespace MP
open PySem PySem.Spec PyProof.Rows L2

def boolB : Expr → Bool
  | .BoolOp .. => true
  | _ => false
/-- no special form as a test -/
def plainB : Expr → Bool
  | .Name .. => true
  | .Constant .. => true
  | .Call .. => true
  | .Subscript .. => true
  | .BinOp .. => true
  | .UnaryOp .USub _ _ => true
  | .Tuple .. => true
  | .List .. => true
  | .ListComp .. => true
  | _ => false
theorem plain_true {e : Expr} {env : Env} (h : plainB e = true) : ∀ whole, isTrue e env whole = (do let v ← whole; standAt e.pos; holding [v] (truthy v)) := by
  intro whole
  cases e with
  | UnaryOp op a p => cases op <;> first | rfl | cases h
  | _ => first | rfl | cases h
structure OkE (X : Cx) (Y : Ax) (W : WX) (e : Expr) (m : En → Hh → Res Val) : Prop where
  pe : PE X e (tG Y W m)
  pt : testB e = true → PT X e (tGT Y W m)
  pw : boolB e = true → PW X e (tGT Y W m)
section
variable {X : Cx} {Y : Ax} {W : WX} {e a b c : Expr} {m ma mb mc : En → Hh → Res Val} {pos : Pos}
theorem plain_bool {e : Expr} (hp : plainB e = true) : boolB e = false := by
  cases e <;> first | rfl | cases hp
theorem OkE.plain (h : PE X e (tG Y W m)) (hp : plainB e = true) : OkE X Y W e m := ⟨h, fun _ => t_plain h (plain_true hp), fun hb => by rw [plain_bool hp] at hb; cases hb⟩
theorem OkE.cmp (h : PE X e (tG Y W m)) (ht : PT X e (tGT Y W m)) (hb : boolB e = false) : OkE X Y W e m := ⟨h, fun _ => ht, fun q => by rw [hb] at q; cases q⟩
theorem OkE.and1 (ha : OkE X Y W a ma) (hta : testB a = true) (hb : OkE X Y W b mb) (htb : testB b = true) : OkE X Y W (.BoolOp .And [a, b] pos) (andF ma mb) := by
  have w : PW X (.BoolOp .And [a, b] pos) (tGT Y W (andF ma mb)) := (pw_and (ha.pt hta) (pw_and1 (hb.pt htb))).imp andT_imp
  exact ⟨(pe_and ha.pe (pe_one hb.pe)).imp and_imp, fun _ => w.pt, fun _ => w⟩
theorem OkE.and2 {r : List Expr} (ha : OkE X Y W a ma) (hta : testB a = true) (hb : OkE X Y W (.BoolOp .And (b :: c :: r) pos) mb) : OkE X Y W (.BoolOp .And (a :: b :: c :: r) pos) (andF ma mb) := by
  have w : PW X (.BoolOp .And (a :: b :: c :: r) pos) (tGT Y W (andF ma mb)) := (pw_and (ha.pt hta) (hb.pw rfl)).imp andT_imp
  exact ⟨(pe_and ha.pe hb.pe).imp and_imp, fun _ => w.pt, fun _ => w⟩
theorem OkE.or1 (ha : OkE X Y W a ma) (hta : testB a = true) (hb : OkE X Y W b mb) (htb : testB b = true) : OkE X Y W (.BoolOp .Or [a, b] pos) (orF ma mb) := by
  have w : PW X (.BoolOp .Or [a, b] pos) (tGT Y W (orF ma mb)) := (pw_or (ha.pt hta) (pw_or1 (hb.pt htb))).imp orT_imp
  exact ⟨(pe_or ha.pe (pe_one hb.pe)).imp or_imp, fun _ => w.pt, fun _ => w⟩
theorem OkE.or2 {r : List Expr} (ha : OkE X Y W a ma) (hta : testB a = true) (hb : OkE X Y W (.BoolOp .Or (b :: c :: r) pos) mb) : OkE X Y W (.BoolOp .Or (a :: b :: c :: r) pos) (orF ma mb) := by
  have w : PW X (.BoolOp .Or (a :: b :: c :: r) pos) (tGT Y W (orF ma mb)) := (pw_or (ha.pt hta) (hb.pw rfl)).imp orT_imp
  exact ⟨(pe_or ha.pe hb.pe).imp or_imp, fun _ => w.pt, fun _ => w⟩
end
section
variable {X : Cx} {Y : Ax} {P : Pg} {n : Nat} {N : List Str} {sc : Scope}
theorem xtb_blk (tb : XTb Y n X) {s : Shared} {H : Hp} {scope : Scope} {C : Addr} {cl : List (Str × Addr)} {fp : List Addr} : XTb Y n (X.blk s H scope (compEnvC scope cl C X.env) fp) := tb
theorem XOk.blk (xo : XOk Y P n N sc X) (s : Shared) (H : Hp) (scope : Scope) (C : Addr) (cl : List (Str × Addr)) (fp : List Addr) : XOk Y P.noc n N (relS scope sc) (X.blk s H scope (compEnvC scope cl C X.env) fp) :=
  ⟨xo.kK, xo.nN, xo.nd, by rw [← xo.sc] <;> rfl, xo.calm, xo.room, xo.blt, xo.fns, xo.glo, xo.fnd, xo.bs, fun h => xtb_blk (xo.tb h), xo.clo, xo.ers, xo.tr, fun _ z => (nomatch z), xo.mkc⟩
theorem blk_on {scope : Scope} (s : Shared) (H : Hp) (C : Addr) (cl : List (Str × Addr)) (fp : List Addr) : FnOn (X.blk s H scope (compEnvC scope cl C X.env) fp) scope := by
  intro x hx
  rcases hx with h | h
  · exact .inr (lookup_relS_keep (by decide) h)
  · exact .inl (by show (scope.names.lookup x == some .cell) = true; rw [h] <;> rfl)
end
abbrev cfOf (P : Pg) (n : Nat) : Cf := cfF P.toPc n
theorem opIs_of {o : O2} {q : Operator} (h : opIs o q = true) : q = o.op := by
  cases o <;> cases q <;> first | rfl | cases h
theorem cmIs_of {o : Cm} {q : CmpOp} (h : cmIs o q = true) : q = o.op := by
  cases o <;> cases q <;> first | rfl | cases h
theorem inIs_of {o : Bool} {q : CmpOp} (h : inIs o q = true) : q = inOp o := by
  cases o <;> cases q <;> first | rfl | cases h
theorem isIs_of {o : Bool} {q : CmpOp} (h : isIs o q = true) : q = isOp o := by
  cases o <;> cases q <;> first | rfl | cases h
theorem ckIs_of {o : Option Bool} {q : Const} (h : ckIs o q = true) : q = kK o := by
  cases o with
  | none => cases q <;> first | rfl | cases h
  | some b =>
    cases q with
    | bool c =>
      have : b = c := by simpa [ckIs] using h
      subst this
      rfl
    | _ => cases h
theorem andB {a b : Bool} (h : (a && b) = true) : a = true ∧ b = true := by rwa [Bool.and_eq_true] at h
theorem gloIs_of {P : Pg} {g : Nat} {x : Str} (h : gloIs P g x = true) : ∃ q, P.glo g = some q ∧ q.1 = x := by
  unfold gloIs at h
  split at h
  · exact ⟨_, by assumption, of_decide_eq_true h⟩
  · cases h
theorem nilE_of {es : List Expr} (h : nilE es = true) : es = [] := by
  cases es <;> first | rfl | cases h
theorem mEs_star {P : Pg} {N : List Str} {sc : Scope} : ∀ {es : Es} {xs : List Expr}, mEs P N es sc xs = true → ∀ y ∈ xs, notStar y = true
  | .nil, [], _ => fun _ h => by cases h
  | .nil, _ :: _, h => by
    unfold mEs mEs' at h
    cases h
  | .cons e es, [], h => by
    unfold mEs mEs' at h
    cases h
  | .cons e es, x :: xs, h => by
    unfold mEs mEs' at h
    obtain ⟨h1, h2⟩ := andB h
    obtain ⟨h2, h3⟩ := andB h2
    intro y hy
    rcases List.mem_cons.mp hy with rfl | hy
    · exact h1
    · exact mEs_star h3 y hy
section
variable {Y : Ax} {P : Pg} {n : Nat} {N : List Str}
def GdE (Y : Ax) (P : Pg) (n : Nat) (N : List Str) (m : E) : Prop := ∀ (X : Cx) (sc : Scope) (W : WX), XOk Y P n N sc X → L2N.Takes X W → ∀ e, mE P N m sc e = true → OkE X Y W e (evE (cfOf P n) m)
def GdEs (Y : Ax) (P : Pg) (n : Nat) (N : List Str) (m : Es) : Prop := ∀ (X : Cx) (sc : Scope) (W : WX), XOk Y P n N sc X → L2N.Takes X W → ∀ e, mEs P N m sc e = true → PA X e (tGs Y W (evEs (cfOf P n) m))
def GdO (Y : Ax) (P : Pg) (n : Nat) (N : List Str) (m : Eo) : Prop := ∀ (X : Cx) (sc : Scope) (W : WX), XOk Y P n N sc X → L2N.Takes X W → ∀ e, mO P N m sc e = true → PO X e (tO Y W (evO (cfOf P n) m)) ∧ (∀ f, e = some f → testB f = true → PT X f (tGT Y W (evT (cfOf P n) m))) ∧ (e = none → ∀ ρ h, evT (cfOf P n) m ρ h = .ok (.d (.bool true)) h)
def GdI (Y : Ax) (P : Pg) (n : Nat) (N : List Str) (m : It) : Prop := ∀ (X : Cx) (sc : Scope) (W : WX), XOk Y P n N sc X → L2N.Takes X W → ∀ t e, mI P N m sc t e = true → PI X t e (tI Y W (evI (cfOf P n) m))
theorem gd_var {i : Nat} : GdE Y P n N (.var i) := fun X sc W xo tk e h => by
  unfold mE mE' at h
  split at h
  · obtain ⟨h1, h2⟩ := andB h
    obtain ⟨h2, h3⟩ := andB h2
    refine .plain (s_var (by rw [xo.nN]; exact of_decide_eq_true h1) (by rw [xo.sc]; exact h2) h3) rfl
  · cases h
theorem gd_non : GdE Y P n N .non := fun X sc W xo tk e h => by
  unfold mE mE' at h
  split at h
  · exact .plain s_non rfl
  · cases h
theorem gd_bl {b : Bool} : GdE Y P n N (.bl b) := fun X sc W xo tk e h => by
  unfold mE mE' at h
  split at h
  · cases of_decide_eq_true h
    exact .plain s_bl rfl
  · cases h
theorem gd_int {b : Int} : GdE Y P n N (.int b) := fun X sc W xo tk e h => by
  unfold mE mE' at h
  split at h
  · cases of_decide_eq_true h
    exact .plain s_int rfl
  · cases h
theorem gd_str {b : Str} : GdE Y P n N (.str b) := fun X sc W xo tk e h => by
  unfold mE mE' at h
  split at h
  · cases of_decide_eq_true h
    exact .plain s_str rfl
  · cases h
theorem gd_glo {g : Nat} : GdE Y P n N (.glo g) := fun X sc W xo tk e h => by
  unfold mE mE' at h
  split at h
  · obtain ⟨h1, h2⟩ := andB h
    obtain ⟨h2, h3⟩ := andB h2
    obtain ⟨q, hq, rfl⟩ := gloIs_of h2
    exact .plain (s_glo xo.kK (o := (cfF P.toPc n).glo g) (by rw [cfF_glo]; show (P.glo g).map (·.2) = some q.2; rw [hq]; rfl) (by rw [xo.sc]; exact h1) h3 (xo.glo g q hq)) rfl
  · cases h
theorem gd_fnv {f : Nat} : GdE Y P n N (.fnv f) := fun X sc W xo tk e h => by
  unfold mE mE' at h
  split at h
  · obtain ⟨h1, h2⟩ := andB h
    obtain ⟨h2, h3⟩ := andB h2
    obtain ⟨fd, hq, rfl⟩ := fnIs_of h2
    obtain ⟨a, fdat, k1, k2, _⟩ := xo.fns f fd hq
    exact .plain (s_fnv (by rw [xo.sc]; exact h1) h3 k1 k2) rfl
  · cases h
theorem gd_op {o : O2} {a b : E} (ga : GdE Y P n N a) (gb : GdE Y P n N b) : GdE Y P n N (.op o a b) := fun X sc W xo tk e h => by
  unfold mE mE' at h
  split at h
  · obtain ⟨h1, h2⟩ := andB h
    obtain ⟨h2, h3⟩ := andB h2
    cases opIs_of h1
    exact .plain (s_op o xo.kK (ga X sc W xo tk _ h2).pe (gb X sc W xo tk _ h3).pe) rfl
  · cases h
theorem gd_catM {a b : E} (ga : GdE Y P n N a) (gb : GdE Y P n N b) : GdE Y P n N (.catM a b) := fun X sc W xo tk e h => by
  unfold mE mE' at h
  split at h
  · obtain ⟨h1, h2⟩ := andB h
    obtain ⟨h2, h3⟩ := andB h2
    cases opIs_of h1
    exact .plain (s_catM xo.kK (ga X sc W xo tk _ h2).pe (gb X sc W xo tk _ h3).pe) rfl
  · cases h
theorem gd_neg {a : E} (ga : GdE Y P n N a) : GdE Y P n N (.neg a) := fun X sc W xo tk e h => by
  unfold mE mE' at h
  split at h
  · exact .plain (s_neg (ga X sc W xo tk _ h).pe) rfl
  · cases h
theorem gd_cmp {o : Cm} {a b : E} (ga : GdE Y P n N a) (gb : GdE Y P n N b) : GdE Y P n N (.cmp o a b) := fun X sc W xo tk e h => by
  unfold mE mE' at h
  split at h
  · obtain ⟨h1, h2⟩ := andB h
    obtain ⟨h2, h3⟩ := andB h2
    cases cmIs_of h1
    exact .cmp (s_cmp o xo.u64 xo.kK (ga X sc W xo tk _ h2).pe (gb X sc W xo tk _ h3).pe) (t_cmp o xo.u64 xo.kK (ga X sc W xo tk _ h2).pe (gb X sc W xo tk _ h3).pe) rfl
  · cases h
theorem gd_chain {o o' : Cm} {a b d : E} (ga : GdE Y P n N a) (gb : GdE Y P n N b) (gd : GdE Y P n N d) : GdE Y P n N (.chain o o' a b d) := fun X sc W xo tk e h => by
  unfold mE mE' at h
  split at h
  · simp only [Bool.and_eq_true] at h
    obtain ⟨⟨h0, h1⟩, h2, h3, h4⟩ := h
    cases cmIs_of h0
    cases cmIs_of h1
    exact .cmp (s_chain o o' xo.u64 (ga X sc W xo tk _ h2).pe (gb X sc W xo tk _ h3).pe (gd X sc W xo tk _ h4).pe) (t_chain o o' xo.u64 (ga X sc W xo tk _ h2).pe (gb X sc W xo tk _ h3).pe (gd X sc W xo tk _ h4).pe) rfl
  · cases h
theorem gd_isC {ng : Bool} {k : Option Bool} {a : E} (ga : GdE Y P n N a) : GdE Y P n N (.isC ng k a) := fun X sc W xo tk e h => by
  unfold mE mE' at h
  split at h
  · simp only [Bool.and_eq_true] at h
    obtain ⟨⟨h0, h1⟩, h2⟩ := h
    cases isIs_of h0
    cases ckIs_of h1
    exact .cmp (s_isC xo.kK ng k (ga X sc W xo tk _ h2).pe) (t_isC xo.kK ng k (ga X sc W xo tk _ h2).pe) rfl
  · cases h
theorem gd_inn {ng : Bool} {a b : E} (ga : GdE Y P n N a) (gb : GdE Y P n N b) : GdE Y P n N (.inn ng a b) := fun X sc W xo tk e h => by
  unfold mE mE' at h
  split at h
  · simp only [Bool.and_eq_true] at h
    obtain ⟨⟨h0, h1⟩, h2, h3⟩ := h
    cases inIs_of h0
    exact .cmp (s_inn ng xo.u xo.kK h1 (ga X sc W xo tk _ h2).pe (gb X sc W xo tk _ h3).pe) (t_inn ng xo.u xo.kK h1 (ga X sc W xo tk _ h2).pe (gb X sc W xo tk _ h3).pe) rfl
  · cases h
theorem gd_and {a b : E} (ga : GdE Y P n N a) (gb : GdE Y P n N b) : GdE Y P n N (.and a b) := fun X sc W xo tk e h => by
  unfold mE mE' at h
  split at h
  · obtain ⟨h1, h2⟩ := andB h
    obtain ⟨h0, h1⟩ := andB h1
    split at h2
    · obtain ⟨h2, h3⟩ := andB h2
      exact .and1 (ga X sc W xo tk _ h1) h0 (gb X sc W xo tk _ h3) h2
    · exact .and2 (ga X sc W xo tk _ h1) h0 (gb X sc W xo tk _ h2)
  · cases h
theorem gd_or {a b : E} (ga : GdE Y P n N a) (gb : GdE Y P n N b) : GdE Y P n N (.or a b) := fun X sc W xo tk e h => by
  unfold mE mE' at h
  split at h
  · obtain ⟨h1, h2⟩ := andB h
    obtain ⟨h0, h1⟩ := andB h1
    split at h2
    · obtain ⟨h2, h3⟩ := andB h2
      exact .or1 (ga X sc W xo tk _ h1) h0 (gb X sc W xo tk _ h3) h2
    · exact .or2 (ga X sc W xo tk _ h1) h0 (gb X sc W xo tk _ h2)
  · cases h
theorem gd_not {a : E} (ga : GdE Y P n N a) : GdE Y P n N (.not a) := fun X sc W xo tk e h => by
  unfold mE mE' at h
  split at h
  · obtain ⟨h1, h2⟩ := andB h
    exact .cmp (s_not (ga X sc W xo tk _ h2).pe) (t_not ((ga X sc W xo tk _ h2).pt h1)) rfl
  · cases h
theorem gd_ifx {c a b : E} (gc : GdE Y P n N c) (ga : GdE Y P n N a) (gb : GdE Y P n N b) : GdE Y P n N (.ifx c a b) := fun X sc W xo tk e h => by
  unfold mE mE' at h
  split at h
  · obtain ⟨h1, h2⟩ := andB h
    obtain ⟨h0, h1⟩ := andB h1
    obtain ⟨h2, h3⟩ := andB h2
    exact ⟨s_ifx ((gc X sc W xo tk _ h1).pt h0) (ga X sc W xo tk _ h2).pe (gb X sc W xo tk _ h3).pe, fun q => (nomatch q), fun q => (nomatch q)⟩
  · cases h
theorem gd_tup {es : Es} (g : GdEs Y P n N es) : GdE Y P n N (.tup es) := fun X sc W xo tk e h => by
  unfold mE mE' at h
  split at h
  · exact .plain (s_tup (g X sc W xo tk _ h)) rfl
  · cases h
theorem gd_lst {es : Es} (g : GdEs Y P n N es) : GdE Y P n N (.lst es) := fun X sc W xo tk e h => by
  unfold mE mE' at h
  split at h
  · exact .plain (s_lst (g X sc W xo tk _ h)) rfl
  · cases h
theorem gd_lstM {es : Es} (g : GdEs Y P n N es) : GdE Y P n N (.lstM es) := fun X sc W xo tk e h => by
  unfold mE mE' at h
  split at h
  · exact .plain (s_lstM (g X sc W xo tk _ h)) rfl
  · cases h
theorem gd_ix {a b : E} (ga : GdE Y P n N a) (gb : GdE Y P n N b) : GdE Y P n N (.ix a b) := fun X sc W xo tk e h => by
  unfold mE mE' at h
  split at h
  · obtain ⟨h1, h2⟩ := andB h
    obtain ⟨h2, h3⟩ := andB h2
    exact .plain (s_ix xo.kK h1 (ga X sc W xo tk _ h2).pe (gb X sc W xo tk _ h3).pe) rfl
  · cases h
theorem gd_sl {a : E} {lo hi : Eo} (ga : GdE Y P n N a) (gl : GdO Y P n N lo) (gh : GdO Y P n N hi) : GdE Y P n N (.sl a lo hi) := fun X sc W xo tk e h => by
  unfold mE mE' at h
  split at h
  · obtain ⟨h1, h2⟩ := andB h
    obtain ⟨h2, h3⟩ := andB h2
    exact .plain (s_sl xo.kK (ga X sc W xo tk _ h1).pe (gl X sc W xo tk _ h2).1 (gh X sc W xo tk _ h3).1) rfl
  · cases h
theorem gd_rev {a : E} (ga : GdE Y P n N a) : GdE Y P n N (.rev a) := fun X sc W xo tk e h => by
  unfold mE mE' at h
  split at h
  · exact .plain (s_rev xo.kK (ga X sc W xo tk _ h).pe) rfl
  · cases h
theorem gd_revT {a : E} (ga : GdE Y P n N a) : GdE Y P n N (.revT a) := fun X sc W xo tk e h => by
  unfold mE mE' at h
  split at h
  · exact .plain (s_revT xo.kK (ga X sc W xo tk _ h).pe) rfl
  · cases h
theorem gd_call {f : Nat} {es : Es} (g : GdEs Y P n N es) : GdE Y P n N (.call f es) := fun X sc W xo tk e h => by
  unfold mE mE' at h
  split at h
  · rename_i x p xs pos
    obtain ⟨h1, h2⟩ := andB h
    obtain ⟨h0, h1⟩ := andB h1
    obtain ⟨h1, h3⟩ := andB h1
    cases xs with
    | nil =>
      cases es with
      | nil => exact .plain (s_call0 xo tk (by rw [xo.sc]; exact h0) h1 h3) rfl
      | cons _ _ =>
        unfold mEs' at h2
        cases h2
    | cons y ys => exact .plain (s_call xo tk (by rw [xo.sc]; exact h0) h1 h3 (mEs_star h2) (g X sc W xo tk _ h2)) rfl
  · cases h
theorem gd_callv {i : Nat} {es : Es} (g : GdEs Y P n N es) : GdE Y P n N (.callv i es) := fun X sc W xo tk e h => by
  unfold mE mE' at h
  split at h
  · rename_i x p xs pos
    obtain ⟨h1, h2⟩ := andB h
    obtain ⟨h0, h1⟩ := andB h1
    obtain ⟨h1, h3⟩ := andB h1
    cases xs with
    | nil =>
      cases es with
      | nil => exact .plain (s_callv0 xo tk (by rw [xo.nN]; exact of_decide_eq_true h0) (by rw [xo.sc]; exact h1) h3) rfl
      | cons _ _ =>
        unfold mEs' at h2
        cases h2
    | cons y ys => exact .plain (s_callv xo tk (by rw [xo.nN]; exact of_decide_eq_true h0) (by rw [xo.sc]; exact h1) h3 (mEs_star h2) (g X sc W xo tk _ h2)) rfl
  · cases h
theorem gd_calll {f : Nat} {ps : List Nat} {b : E} {es : Es} (g : GdEs Y P n N es) : GdE Y P n N (.calll f ps b es) := fun X sc W xo tk e h => by
  unfold mE mE' at h
  split at h
  · rename_i x p params body scope lpos xs pos
    simp only [Bool.and_eq_true] at h
    obtain ⟨⟨⟨h1, h2⟩, h3, h4, h5⟩, ⟨h6, h7⟩, h8⟩ := h
    exact .plain (s_calll xo (xo.tb h1) (xo.fnA h1 h2) (xo.mkc h1) (by rw [xo.sc]; exact h3) h4 h5 (by rw [xo.sc]; exact h6) h7 (mEs_star h8) (g X sc W xo tk _ h8)) rfl
  · cases h
theorem tnm_ok (t : Nat) : nmB (tnm t) = true := by
  unfold tnm
  by_cases h : t = 0
  · rw [if_pos h]
    decide
  · rw [if_neg h]
    decide
theorem gd_tryl {t : Nat} {b : E} (gb : GdE Y P.nol n N b) : GdE Y P n N (.tryl t b) := fun X sc W xo tk e h => by
  unfold mE mE' at h
  split at h
  · simp only [Bool.and_eq_true, decide_eq_true_eq] at h
    obtain ⟨⟨⟨h1, h2⟩, h3, h4, h5, h6⟩, h7⟩ := h
    subst h2
    refine .plain (s_tryl (wd := (cfF P.toPc n).wd) xo (xo.tb h4) (by rw [cfF_wd]; exact xo.tr t h1 h4) (by rw [xo.sc]; exact h3) (tnm_ok t) h5 (by rw [xo.sc]; exact h6) fun A outer s H E f c' hr => ?_) rfl
    exact (gb _ _ _ (xo.lam A outer s H E _ f c' hr) (lamN_takes X A outer s H E _ f c') _ h7).pe
  · cases h
theorem gd_isi {t : Ty} {a : E} (ga : GdE Y P n N a) : GdE Y P n N (.isi t a) := fun X sc W xo tk e h => by
  unfold mE mE' at h
  split at h
  · simp only [Bool.and_eq_true] at h
    obtain ⟨⟨h0, h3, h4, h5, h1⟩, h2⟩ := h
    cases of_decide_eq_true h0
    cases of_decide_eq_true h3
    have hm : X.mg (Str.ofString t.nm) = none := xo.blt _ (by cases t <;> decide)
    exact .plain (s_isi xo.kK t h1 (by rw [xo.sc]; exact h4) (xo.blt _ (by decide)) (by rw [xo.sc]; exact h5) hm (ga X sc W xo tk _ h2).pe) rfl
  · cases h
theorem gd_pop0 {i : Nat} : GdE Y P n N (.pop0 i) := fun X sc W xo tk e h => by
  unfold mE mE' at h
  split at h
  · obtain ⟨h1, h2⟩ := andB h
    obtain ⟨h0, h1⟩ := andB h1
    obtain ⟨h2, h3⟩ := andB h2
    obtain ⟨h3, h4⟩ := andB h3
    cases of_decide_eq_true h0
    exact .plain (s_pop0 xo.kK (by rw [xo.nN]; exact of_decide_eq_true h2) (by rw [xo.sc]; exact h3) h4 h1) rfl
  · cases h
theorem gd_popL {i : Nat} : GdE Y P n N (.popL i) := fun X sc W xo tk e h => by
  unfold mE mE' at h
  split at h
  · obtain ⟨h1, h2⟩ := andB h
    obtain ⟨h0, h1⟩ := andB h1
    obtain ⟨h2, h3⟩ := andB h2
    obtain ⟨h3, h4⟩ := andB h3
    cases of_decide_eq_true h0
    exact .plain (s_popL xo.kK (by rw [xo.nN]; exact of_decide_eq_true h2) (by rw [xo.sc]; exact h3) h4 h1) rfl
  · cases h
theorem gd_frz {i : Nat} : GdE Y P n N (.frz i) := fun X sc W xo tk e h => by
  unfold mE mE' at h
  split at h
  · obtain ⟨h1, h2⟩ := andB h
    obtain ⟨h2, h3⟩ := andB h2
    exact .plain (s_frz (by rw [xo.nN]; exact of_decide_eq_true h1) (by rw [xo.sc]; exact h2) h3) rfl
  · cases h
theorem gd_nil : GdEs Y P n N .nil := fun X sc W xo tk e h => by
  unfold mEs mEs' at h
  cases nilE_of h
  exact sa_nil
theorem gd_cons {e : E} {es : Es} (g : GdE Y P n N e) (gs : GdEs Y P n N es) : GdEs Y P n N (.cons e es) := fun X sc W xo tk e h => by
  unfold mEs mEs' at h
  split at h
  · obtain ⟨h1, h2⟩ := andB h
    obtain ⟨h2, h3⟩ := andB h2
    exact sa_cons h1 (g X sc W xo tk _ h2).pe (gs X sc W xo tk _ h3)
  · cases h
theorem gd_no : GdO Y P n N .no := fun X sc W xo tk e h => by
  unfold mO mO' at h
  split at h
  · exact ⟨so_no, fun f q => (nomatch q), fun _ _ _ => rfl⟩
  · cases h
theorem gd_yes {e : E} (g : GdE Y P n N e) : GdO Y P n N (.yes e) := fun X sc W xo tk e h => by
  unfold mO mO' at h
  split at h
  · exact ⟨so_yes (g X sc W xo tk _ h).pe, fun f q ht => by cases q; exact (g X sc W xo tk _ h).pt ht, fun q => (nomatch q)⟩
  · cases h
theorem gd_ie {a : E} (g : GdE Y P n N a) : GdI Y P n N (.e a) := fun X sc W xo tk t e h => by
  unfold mI mI' at h
  obtain ⟨h1, h2⟩ := andB h
  exact si_e xo.kK (g X sc W xo tk _ h2).pe
theorem gd_r1 {a : E} (g : GdE Y P n N a) : GdI Y P n N (.r1 a) := fun X sc W xo tk t e h => by
  unfold mI mI' at h
  split at h
  · obtain ⟨h1, h2⟩ := andB h
    obtain ⟨h0, h1⟩ := andB h1
    obtain ⟨h1, h3⟩ := andB h1
    cases of_decide_eq_true h0
    exact si_r1 h3 (by rw [xo.sc]; exact h1) (xo.blt _ (by decide)) (g X sc W xo tk _ h2).pe
  · cases h
theorem gd_r2 {a b : E} (g : GdE Y P n N a) (gb : GdE Y P n N b) : GdI Y P n N (.r2 a b) := fun X sc W xo tk t e h => by
  unfold mI mI' at h
  split at h
  · obtain ⟨h1, h2⟩ := andB h
    obtain ⟨h0, h1⟩ := andB h1
    obtain ⟨h1, h3⟩ := andB h1
    obtain ⟨h3, h4⟩ := andB h3
    obtain ⟨h2, h5⟩ := andB h2
    cases of_decide_eq_true h0
    exact si_r2 h3 h4 (by rw [xo.sc]; exact h1) (xo.blt _ (by decide)) (g X sc W xo tk _ h2).pe (gb X sc W xo tk _ h5).pe
  · cases h
theorem gd_r3 {a b d : E} (g : GdE Y P n N a) (gb : GdE Y P n N b) (gd : GdE Y P n N d) : GdI Y P n N (.r3 a b d) := fun X sc W xo tk t e h => by
  unfold mI mI' at h
  split at h
  · obtain ⟨h1, h2⟩ := andB h
    obtain ⟨h0, h1⟩ := andB h1
    obtain ⟨h1, h3⟩ := andB h1
    obtain ⟨h3, h4⟩ := andB h3
    obtain ⟨h4, h6⟩ := andB h4
    obtain ⟨h2, h5⟩ := andB h2
    obtain ⟨h5, h7⟩ := andB h5
    cases of_decide_eq_true h0
    exact si_r3 h3 h4 h6 (by rw [xo.sc]; exact h1) (xo.blt _ (by decide)) (g X sc W xo tk _ h2).pe (gb X sc W xo tk _ h5).pe (gd X sc W xo tk _ h7).pe
  · cases h
theorem gd_zip {a b : E} (g : GdE Y P n N a) (gb : GdE Y P n N b) : GdI Y P n N (.zip a b) := fun X sc W xo tk t e h => by
  unfold mI mI' at h
  split at h
  · obtain ⟨h1, h2⟩ := andB h
    obtain ⟨h0, h1⟩ := andB h1
    obtain ⟨hz, h1⟩ := andB h1
    obtain ⟨h1, h3⟩ := andB h1
    obtain ⟨h3, h4⟩ := andB h3
    obtain ⟨h2, h5⟩ := andB h2
    cases of_decide_eq_true hz
    exact si_zip xo.kK h0 h3 h4 (by rw [xo.sc]; exact h1) (xo.blt _ (by decide)) (g X sc W xo tk _ h2).pe (gb X sc W xo tk _ h5).pe
  · cases h
theorem pts_yes {X : Cx} {W : WX} {m : En → Hh → Res Val} (hm : ∀ ρ h, m ρ h = .ok (.d (.bool true)) h) : PTs X [] (tGT Y W m) := by
  refine ⟨fun pins s σ H Q I h => pts_nil.run pins s σ H Q I ?_⟩
  obtain ⟨μ, ρ, h', R0, er, q⟩ := h
  have q : Post Y W (fun _ _ (w b : Bool) => w = b) σ μ H (asB (m ρ h') fun k h1 => .ok k h1) Q := q
  rw [hm] at q
  exact Post.here (w := true) R0 q rfl
structure LcP (X : Cx) (Y : Ax) (W : WX) (t iter el : Expr) (fs : List Expr) (scope : Scope) (own : List (Str × Nat)) (tg : Tg) (mi : En → Hh → Res (List PyData)) (mt me : En → Hh → Res Val) : Prop where
  set : notSet iter = true
  sl : ∀ i ∈ tg.sl, i ∈ own.map (·.2)
  pi : PI X t iter (tI Y W mi)
  ok : BlkOk X.N X.env.scope scope own
  pg : ∀ (s : Shared) (H : Hp) (C : Addr) (cl : List (Str × Addr)) (fp : List Addr), PG (X.blk s H scope (compEnvC scope cl C X.env) fp) t (gT Y tg)
  pt : ∀ (s : Shared) (H : Hp) (C : Addr) (cl : List (Str × Addr)) (fp : List Addr), PTs (X.blk s H scope (compEnvC scope cl C X.env) fp) fs (tGT Y W0 mt)
  pe : ∀ (s : Shared) (H : Hp) (C : Addr) (cl : List (Str × Addr)) (fp : List Addr), PE (X.blk s H scope (compEnvC scope cl C X.env) fp) el (tG Y W0 me)
theorem lc_parts {own : List (Str × Nat)} {tg : Tg} {it : It} {ifs : Eo} {elt : E} (gi : GdI Y P n N it) (gf : GdO Y P.noc n N ifs) (ge : GdE Y P.noc n N elt) {X : Cx} {sc : Scope} {W : WX} (xo : XOk Y P n N sc X) (tk : L2N.Takes X W) {e : Expr} (h : mE P N (.lc own tg it ifs elt) sc e = true) :
    ∃ el t iter fs scope pos, e = .ListComp el [⟨t, iter, fs, 0⟩] scope pos ∧ LcP X Y W t iter el fs scope own tg (evI (cfOf P n) it) (evT (cfOf P n) ifs) (evE (cfOf P n) elt) := by
  unfold mE mE' at h
  split at h
  · rename_i el t iter fs k scope pos
    obtain ⟨h1, h2⟩ := andB h
    obtain ⟨h0, h1⟩ := andB h1
    obtain ⟨b1, b2⟩ := andB h1
    obtain ⟨b2, b3⟩ := andB b2
    obtain ⟨b3, b4⟩ := andB b3
    obtain ⟨b4, b5⟩ := andB b4
    obtain ⟨h2, h3⟩ := andB h2
    obtain ⟨h3, h4⟩ := andB h3
    cases of_decide_eq_true h0
    have eN := xo.nN
    have eS := xo.sc
    refine ⟨_, _, _, _, _, _, rfl, b4, (fun i hi => of_decide_eq_true (List.all_eq_true.mp b5 i hi)), (gi X sc W xo tk _ _ h2), (blkOk_by (by rw [eN, eS]; exact b1)), (fun s H C cl fp => ?_), (fun s H C cl fp => ?_), fun s H C cl fp => ?_⟩
    · have xb := xo.blk s H scope C cl fp
      have es : (X.blk s H scope (compEnvC scope cl C X.env) fp).env.scope = relS scope sc := xb.sc
      exact s_tg xb.kK xb.nd xb.calm (blk_on s H C cl fp) tg t (by rw [es, xb.nN]; exact b2) (by rw [xb.nN]; exact b3)
    · have xb := xo.blk s H scope C cl fp
      split at h3
      · obtain ⟨_, _, q⟩ := gf _ _ W0 xb MP.takes0 _ h3
        exact pts_yes (q rfl)
      · obtain ⟨h5, h3⟩ := andB h3
        obtain ⟨_, q, _⟩ := gf _ _ W0 xb MP.takes0 _ h3
        exact pts_one (q _ rfl h5)
      · cases h3
    · have xb := xo.blk s H scope C cl fp
      exact (ge _ _ W0 xb MP.takes0 _ h4).pe
  · cases h
theorem gd_lc {own : List (Str × Nat)} {tg : Tg} {it : It} {ifs : Eo} {elt : E} (gi : GdI Y P n N it) (gf : GdO Y P.noc n N ifs) (ge : GdE Y P.noc n N elt) : GdE Y P n N (.lc own tg it ifs elt) := fun X sc W xo tk e h => by
  obtain ⟨el, t, iter, fs, scope, pos, rfl, L⟩ := lc_parts gi gf ge xo tk h
  exact .plain (s_lc xo.calm xo.nd L.set L.sl L.pi L.ok L.pg L.pt L.pe) rfl
theorem bi_names {b : Bi} {q : Str × Value} (h : b.val = some q) : q.1 ∈ bltNames := by
  cases b <;> first | (have e := Option.some.inj h; subst e; decide) | (exact absurd h (by simp [Bi.val]))
theorem gd_bi {b : Bi} {es : Es} (g : GdEs Y P n N es) (g1 : ∀ a, es = .cons a .nil → GdE Y P n N a) : GdE Y P n N (.bi b es) := fun X sc W xo tk e h => by
  unfold mE mE' at h
  split at h
  · rename_i x p xs pos
    split at h
    · rename_i q hq
      simp only [Bool.and_eq_true] at h
      obtain ⟨h1, h2, h3, h4⟩ := h
      have hb := bi_names hq
      cases of_decide_eq_true h1
      cases xs with
      | nil => cases h3
      | cons y ys => exact .plain (s_bi xo.calm xo.kK b (x := q.1) (f := q.2) hq (by rw [xo.sc]; exact h2) (xo.blt _ hb) (mEs_star h4) (g X sc W xo tk _ h4)) rfl
    · rename_i hq
      have eb : b = .sset := by cases b <;> first | rfl | cases hq
      subst eb
      split at h
      · split at h
        · simp only [Bool.and_eq_true] at h
          obtain ⟨⟨h0, h3, h4, h5, h1⟩, h2⟩ := h
          cases of_decide_eq_true h0
          cases of_decide_eq_true h3
          exact .plain (s_sset xo h1 (by rw [xo.sc]; exact h4) (by rw [xo.sc]; exact h5) (g1 _ rfl X sc W xo tk _ h2).pe) rfl
        · cases h
      · cases h
  · cases h
end
section
variable {Y : Ax} {n : Nat} {N : List Str}
mutual
theorem gdE : ∀ (m : E) (P : Pg), GdE Y P n N m
  | .var _ => fun P => gd_var
  | .non => fun P => gd_non
  | .bl _ => fun P => gd_bl
  | .int _ => fun P => gd_int
  | .str _ => fun P => gd_str
  | .glo _ => fun P => gd_glo
  | .fnv _ => fun P => gd_fnv
  | .op _ a b => fun P => gd_op (gdE a P) (gdE b P)
  | .catM a b => fun P => gd_catM (gdE a P) (gdE b P)
  | .neg a => fun P => gd_neg (gdE a P)
  | .cmp _ a b => fun P => gd_cmp (gdE a P) (gdE b P)
  | .chain _ _ a b d => fun P => gd_chain (gdE a P) (gdE b P) (gdE d P)
  | .isC _ _ a => fun P => gd_isC (gdE a P)
  | .inn _ a b => fun P => gd_inn (gdE a P) (gdE b P)
  | .and a b => fun P => gd_and (gdE a P) (gdE b P)
  | .or a b => fun P => gd_or (gdE a P) (gdE b P)
  | .not a => fun P => gd_not (gdE a P)
  | .ifx c a b => fun P => gd_ifx (gdE c P) (gdE a P) (gdE b P)
  | .tup es => fun P => gd_tup (gdEs es P)
  | .lst es => fun P => gd_lst (gdEs es P)
  | .lstM es => fun P => gd_lstM (gdEs es P)
  | .ix a b => fun P => gd_ix (gdE a P) (gdE b P)
  | .sl a lo hi => fun P => gd_sl (gdE a P) (gdO lo P) (gdO hi P)
  | .rev a => fun P => gd_rev (gdE a P)
  | .revT a => fun P => gd_revT (gdE a P)
  | .call _ es => fun P => gd_call (gdEs es P)
  | .bi _ es => fun P => gd_bi (gdEs es P) (match es with
    | .nil => fun _ q => (nomatch q)
    | .cons a .nil => fun b q => by cases q; exact gdE a P
    | .cons a (.cons _ _) => fun _ q => (nomatch q))
  | .callv _ es => fun P => gd_callv (gdEs es P)
  | .calll _ _ _ es => fun P => gd_calll (gdEs es P)
  | .tryl _ b => fun P => gd_tryl (gdE b P.nol)
  | .isi _ a => fun P => gd_isi (gdE a P)
  | .lc _ _ it ifs elt => fun P => gd_lc (gdI it P) (gdO ifs P.noc) (gdE elt P.noc)
  | .pop0 _ => fun P => gd_pop0
  | .popL _ => fun P => gd_popL
  | .frz _ => fun P => gd_frz
theorem gdEs : ∀ (m : Es) (P : Pg), GdEs Y P n N m
  | .nil => fun P => gd_nil
  | .cons e es => fun P => gd_cons (gdE e P) (gdEs es P)
theorem gdO : ∀ (m : Eo) (P : Pg), GdO Y P n N m
  | .no => fun P => gd_no
  | .yes e => fun P => gd_yes (gdE e P)
theorem gdI : ∀ (m : It) (P : Pg), GdI Y P n N m
  | .e a => fun P => gd_ie (gdE a P)
  | .r1 a => fun P => gd_r1 (gdE a P)
  | .r2 a b => fun P => gd_r2 (gdE a P) (gdE b P)
  | .r3 a b d => fun P => gd_r3 (gdE a P) (gdE b P) (gdE d P)
  | .zip a b => fun P => gd_zip (gdE a P) (gdE b P)
end
end
end MP
end
section
set_option Elab.async false
set_option linter.all false
set_option autoImplicit false
set_option maxRecDepth 100000
set_option maxHeartbeats 4000000
/-! Mini: statements. -/
namespace MP
open PySem PySem.Spec PyProof.Rows L2

/-! ### matching -/
def nmsL (sc : Scope) (line : Nat) (ts : List Expr) : List Str := ts.filterMap fun
    | .Name id pos => if sc.names.lookup id == some .local && pos.line == line then some id else none
    | _ => none
def lineOf (ts : List Expr) : Nat := (ts.head?.map (·.pos.line)).getD 0
/-- no swapped stores -/
def swNone (sc : Scope) (ts vs : List Expr) : Bool := !(ts.length == 2 || ts.length == 3) || vs.length != ts.length || ((nmsL sc (lineOf ts) ts).length != ts.length || (nmsL sc (lineOf ts) ts).eraseDups.length != (nmsL sc (lineOf ts) ts).length || vs.all (foldedForSure 8))
def sw2 (sc : Scope) : Tgs → List Expr → List Expr → Bool
  | .cons (.n i) (.cons (.n j) .nil), [.Name x px, .Name y py], [a, b] => (decide (i ≠ j) && (decide (x ≠ y) && (px.line == py.line && (decide (sc.names.lookup x = some .local) && decide (sc.names.lookup y = some .local))))) && (!([a, b].all (foldedForSure 8)) && !([a, b].all (constantsAlone 8)))
  | _, _, _ => false
def sw3 (sc : Scope) : Tgs → List Expr → List Expr → Bool
  | .cons (.n i) (.cons (.n j) (.cons (.n l) .nil)), [.Name x px, .Name y py, .Name z pz], [a, b, c] => ((decide (i ≠ j) && (decide (i ≠ l) && decide (j ≠ l))) && (decide (x ≠ y) && (decide (x ≠ z) && (decide (y ≠ z) && (px.line == py.line && (px.line == pz.line && (decide (sc.names.lookup x = some .local) && (decide (sc.names.lookup y = some .local) && decide (sc.names.lookup z = some .local))))))))) && (!([a, b, c].all (foldedForSure 8)) && !([a, b, c].all (constantsAlone 8)))
  | _, _, _ => false
/-- x = e stores x while e's names are let go -/
def swB (sc : Scope) (x : Str) (px : Pos) : Expr → Bool
  | .ListComp _ _ s pos => sc.names.lookup x == some .local && px.line == pos.line && !(s.names.any fun (n, k) => n == x && (k == .local || k == .cell))
  | _ => false
def ersIs (P : Pg) (c : Nat) (x : Str) : Bool := match P.ers c with
  | some y => decide (y = x)
  | none => false
/-- defs, written one behind another -/
def fnEs : List Nat → Es
  | [] => .nil
  | f :: fs => .cons (.fnv f) (fnEs fs)
mutual
def mS (P : Pg) (N : List Str) : S → Scope → Stmt → Bool
  | .pass, _, s => (match s with
    | .Pass _ => true
    | _ => false)
  | .brk, _, s => (match s with
    | .Break _ => true
    | _ => false)
  | .cont, _, s => (match s with
    | .Continue _ => true
    | _ => false)
  | .set i e, sc, s => (match s with
    | .Assign [.Name x _] v _ => mT N sc (.n i) (.Name x ⟨0, 0, 0, 0⟩) && mE P N e sc v
    | _ => false)
  | .asg t e, sc, s => (match s with
    | .Assign [tg] v _ => (isTup tg && !isTup v) && (mT N sc t tg && mE P N e sc v)
    | _ => false)
  | .par ts es, sc, s => (match s with
    | .Assign [.Tuple tgs _ _] (.Tuple vs _ _) _ => (mTs N sc ts tgs && mEs P N es sc vs) && ((decide (tgs.length ≤ 1000) && swNone sc tgs vs) || (sw2 sc ts tgs vs || sw3 sc ts tgs vs))
    | _ => false)
  | .setix i k e, sc, s => (match s with
    | .Assign [.Subscript (.Name x _) ix _] v _ => (decide (N[i]? = some x) && (visB sc x && (nmB x && notSlice ix))) && (mE P N k sc ix && mE P N e sc v)
    | _ => false)
  | .app i e, sc, s => (match s with
    | .Expr (.Call (.Attribute (.Name x _) m apos) [a] [] pos) _ => ((decide (m = "append") && (apos.endLine == pos.line)) && (decide (N[i]? = some x) && (visB sc x && (nmB x && notStar a)))) && mE P N e sc a
    | _ => false)
  | .exp e, sc, s => (match s with
    | .Expr v _ => notLc v && mE P N e sc v
    | _ => false)
  | .ret e, sc, s => (match s with
    | .Return (some v) _ => mE P N e sc v
    | _ => false)
  | .retN, _, s => (match s with
    | .Return none _ => true
    | _ => false)
  | .ifs c a b, sc, s => (match s with
    | .If t x y _ => (testB t && mE P N c sc t) && (mSs P N a sc x && mSs P N b sc y)
    | _ => false)
  | .fors t it b, sc, s => (match s with
    | .For tg iter body [] _ => (notSet iter && (mT N sc t tg && mI P N it sc tg iter)) && mSs P N b sc body
    | _ => false)
  | .whl c b, sc, s => (match s with
    | .While t body [] _ => (testB t && mE P N c sc t) && mSs P N b sc body
    | _ => false)
  | .forfn i fs b, sc, s => (match s with
    | .For tg (.List es _) body [] _ => (mT N sc (.n i) tg && (mEs P N (fnEs fs) sc es && decide (fs.length ≤ 1000))) && mSs P N b sc body
    | _ => false)
  | .raise c, sc, s => (match s with
    | .Raise (some (.Call (.Name x _) [.Constant (.str _) _ _] [] _)) none _ => glB sc x && (nmB x && ersIs P c x)
    | _ => false)
def mSs (P : Pg) (N : List Str) : Ss → Scope → List Stmt → Bool
  | .nil, _, xs => (match xs with
    | [] => true
    | _ :: _ => false)
  | .cons s ss, sc, xs => (match xs with
    | x :: r => mS P N s sc x && mSs P N ss sc r
    | [] => false)
end

/-! ### what is wanted behind a statement -/
section
variable (Y : Ax) (W : WX)
def PostS (D : Ends) (μ : Mu) (H : Hp) (o : Out) : Prop := match o with
  | .nx ρ h' => ∀ σ' H' μ', HR Y μ' h' H' → Ext μ H μ' H' → ER Y μ' H' ρ σ' → D.nx σ' H'
  | .rt w h' => ∀ v H' μ', HR Y μ' h' H' → Ext μ H μ' H' → RepV Y H' μ' w v → D.rt v H'
  | .bk ρ h' => ∀ σ' H' μ', HR Y μ' h' H' → Ext μ H μ' H' → ER Y μ' H' ρ σ' → D.bk σ' H'
  | .ct ρ h' => ∀ σ' H' μ', HR Y μ' h' H' → Ext μ H μ' H' → ER Y μ' H' ρ σ' → D.ct σ' H'
  | .exc c h' => ∀ σ' H' μ', HR Y μ' h' H' → Ext μ H μ' H' → W (.ref (Y.er c)) none σ' H'
  | .bad => False
def tS (m : En → Hh → Out) : TS := fun D σ H => ∃ μ ρ h, HR Y μ h H ∧ ER Y μ H ρ σ ∧ PostS Y W D μ H (m ρ h)
end
section
variable {Y : Ax} {W : WX} {β γ : Type} {R : Hp → Mu → β → γ → Prop} {σ : L2.St} {μ μ' : Mu} {H H' : Hp} {D : Ends}
theorem PostS.ext {o : Out} (e : Ext μ H μ' H') (h : PostS Y W D μ H o) : PostS Y W D μ' H' o := by
  cases o with
  | nx ρ h' => exact fun σ1 H1 μ1 a b c => h σ1 H1 μ1 a (e.trans b) c
  | rt w h' => exact fun v H1 μ1 a b c => h v H1 μ1 a (e.trans b) c
  | bk ρ h' => exact fun σ1 H1 μ1 a b c => h σ1 H1 μ1 a (e.trans b) c
  | ct ρ h' => exact fun σ1 H1 μ1 a b c => h σ1 H1 μ1 a (e.trans b) c
  | exc c h' => exact fun σ1 H1 μ1 a b => h σ1 H1 μ1 a (e.trans b)
  | bad => exact h
theorem PostS.to {r : Res β} {k : β → Hh → Out} (h : PostS Y W D μ H (r.to k)) : Post Y W R σ μ H r fun v H1 => ∃ μ1 h1 w, HR Y μ1 h1 H1 ∧ Ext μ H μ1 H1 ∧ R H1 μ1 w v ∧ PostS Y W D μ1 H1 (k w h1) := by
  cases r with
  | ok w h' => exact fun v H' μ' a b c => ⟨μ', h', w, a, b, c, PostS.ext b h⟩
  | exc c h' => exact fun H' μ' a b => h σ H' μ' a b
  | bad => exact h
theorem PostS.nx {ρ : En} {h : Hh} (R0 : HR Y μ h H) (er : ER Y μ H ρ σ) (p : PostS Y W D μ H (.nx ρ h)) : D.nx σ H := p σ H μ R0 (.refl _ _) er
/-- other ends -/
theorem PostS.imp {D' : Ends} {o : Out} (hn : ∀ ρ h, o = .nx ρ h → ∀ σ' H' μ', HR Y μ' h H' → Ext μ H μ' H' → ER Y μ' H' ρ σ' → D'.nx σ' H') (hc : ∀ ρ h, o = .ct ρ h → ∀ σ' H' μ', HR Y μ' h H' → Ext μ H μ' H' → ER Y μ' H' ρ σ' → D'.ct σ' H') (hb : ∀ ρ h, o = .bk ρ h → ∀ σ' H' μ', HR Y μ' h H' → Ext μ H μ' H' → ER Y μ' H' ρ σ' → D'.bk σ' H') (hr : ∀ w h, o = .rt w h → ∀ v H' μ', HR Y μ' h H' → Ext μ H μ' H' → RepV Y H' μ' w v → D'.rt v H')
    (he : ∀ c h, o = .exc c h → ∀ σ' H' μ', HR Y μ' h H' → Ext μ H μ' H' → W (.ref (Y.er c)) none σ' H') (hx : o ≠ .bad) : PostS Y W D' μ H o := by
  cases o with
  | nx ρ h => exact hn _ _ rfl
  | ct ρ h => exact hc _ _ rfl
  | bk ρ h => exact hb _ _ rfl
  | rt w h => exact hr _ _ rfl
  | exc c h => exact he _ _ rfl
  | bad => exact hx rfl
end
section
variable {Y : Ax} {W : WX} {P : Pg} {n : Nat} {N : List Str} {X : Cx} {e a b : Expr} {m ma : En → Hh → Res Val} {pos : Pos}

/-! ### small ones -/
theorem d_pass : PS X (.Pass pos) (tS Y W fun ρ h => .nx ρ h) := ps_pass.imp fun D σ H ⟨μ, ρ, h, R0, er, p⟩ => PostS.nx R0 er p
theorem d_brk : PS X (.Break pos) (tS Y W fun ρ h => .bk ρ h) := ps_break.imp fun D σ H ⟨μ, ρ, h, R0, er, p⟩ => p σ H μ R0 (.refl _ _) er
theorem d_cont : PS X (.Continue pos) (tS Y W fun ρ h => .ct ρ h) := ps_continue.imp fun D σ H ⟨μ, ρ, h, R0, er, p⟩ => p σ H μ R0 (.refl _ _) er
abbrev expF (m : En → Hh → Res Val) : En → Hh → Out := fun ρ h => (m ρ h).to fun _ h1 => .nx ρ h1
theorem noSw {v : Expr} {l : Nat} {t : Option Expr} {env : Env} (h : notLc v = true) : swapsWith v t l env = pure false := by
  cases v <;> first | rfl | cases h
theorem d_exp (hl : notLc e = true) (he : PE X e (tG Y W m)) : PS X (.Expr e pos) (tS Y W (expF m)) := by
  refine (ps_expr he (noSw hl)).imp fun D σ H ⟨μ, ρ, h, R0, er, p⟩ => ?_
  exact ⟨μ, ρ, h, R0, er, Post.mono (PostS.to p) fun v H1 ⟨μ1, h1, w, R1, e1, r, q⟩ => PostS.nx R1 (er.ext e1) q⟩
abbrev retF (m : En → Hh → Res Val) : En → Hh → Out := fun ρ h => (m ρ h).to fun v h1 => .rt v h1
theorem d_ret (he : PE X e (tG Y W m)) : PS X (.Return (some e) pos) (tS Y W (retF m)) := by
  refine (ps_ret he).imp fun D σ H ⟨μ, ρ, h, R0, er, p⟩ => ?_
  exact ⟨μ, ρ, h, R0, er, Post.mono (PostS.to p) fun v H1 ⟨μ1, h1, w, R1, e1, r, q⟩ => q v H1 μ1 R1 (.refl _ _) r⟩
theorem d_retN : PS X (.Return none pos) (tS Y W fun _ h => .rt (.d .none) h) := ps_retN.imp fun D σ H ⟨μ, ρ, h, R0, er, p⟩ => p .non H μ R0 (.refl _ _) Rep.non
abbrev setF (i : Nat) (m : En → Hh → Res Val) : En → Hh → Out := fun ρ h => (m ρ h).to fun v h1 => .nx (ρ.set i (some v)) h1
theorem d_set {i : Nat} {x : Str} {px : Pos} (hN : X.N.Nodup) (hi : X.N[i]? = some x) (hx : Loc X.env.scope x) (hf : X.fn x = true ∨ X.env.scope.names.lookup x = some .local) (hs : swapsWith e (some (.Name x px)) pos.line X.env = pure false) (he : PE X e (tG Y W m)) : PS X (.Assign [.Name x px] e pos) (tS Y W (setF i m)) := by
  refine (ps_set hN hi hx he hs hf).imp fun D σ H ⟨μ, ρ, h, R0, er, p⟩ => ?_
  exact ⟨μ, ρ, h, R0, er, Post.mono (PostS.to p) fun v H1 ⟨μ1, h1, w, R1, e1, r, q⟩ => PostS.nx R1 ((er.ext e1).set i r) q⟩
theorem d_setLc {i : Nat} {y : Str} {py : Pos} {t iter el : Expr} {fs : List Expr} {scope : Scope} {own : List (Str × Nat)} {tg : Tg} {mi : En → Hh → Res (List PyData)} {mt me : En → Hh → Res Val} {lpos : Pos} (hc : X.calm = true) (hN : X.N.Nodup) (hi : X.N[i]? = some y) (hk : X.env.scope.kind = .function) (hy : X.env.scope.names.lookup y = some .local)
    (hsw : swapsWith (.ListComp el [⟨t, iter, fs, 0⟩] scope lpos) (some (.Name y py)) pos.line X.env = pure true) (L : LcP X Y W t iter el fs scope own tg mi mt me) :
    PS X (.Assign [.Name y py] (.ListComp el [⟨t, iter, fs, 0⟩] scope lpos) pos) (tS Y W (setF i (lcFF own tg mi mt me))) := by
  refine (ps_setLc hc hN hi hy hsw L.pi L.ok L.pg L.pt L.pe (folded L.set)).imp fun D σ H ⟨μ, ρ, h, R0, er, p⟩ => lc_imp (Y := Y) (W := W) L.sl σ H _ ?_
  exact ⟨μ, ρ, h, R0, er, Post.mono (PostS.to p) fun v H1 ⟨μ1, h1, w, R1, e1, r, q⟩ => PostS.nx R1 ((er.ext e1).set i r) q⟩
abbrev asgF (t : Tg) (m : En → Hh → Res Val) : En → Hh → Out := fun ρ h => (m ρ h).to fun v h1 => (match bindT t v ρ with
    | some ρ1 => .nx ρ1 h1
    | none => .bad)
theorem asg_gT {t : Tg} {w : Val} {v : V} {ρ : En} {μ1 : Mu} {h1 : Hh} {H1 : Hp} {σ : L2.St} {D : Ends} (R1 : HR Y μ1 h1 H1) (er : ER Y μ1 H1 ρ σ) (r : RepV Y H1 μ1 w v) (q : PostS Y W D μ1 H1 (match bindT t w ρ with
    | some ρ1 => .nx ρ1 h1
    | none => .bad)) : gT Y t v σ H1 D.nx := by
  cases hb : bindT t w ρ with
  | none => rw [hb] at q; exact q.elim
  | some ρ1 =>
    rw [hb] at q
    exact ⟨μ1, w, ρ, ρ1, r, er, hb, fun σ' er' _ => PostS.nx R1 er' q⟩
theorem d_asg {t : Tg} {tg : Expr} (ht : isTup tg = true) (hv : isTup e = false) (hg : PG X tg (gT Y t)) (he : PE X e (tG Y W m)) : PS X (.Assign [tg] e pos) (tS Y W (asgF t m)) := by
  obtain ⟨es, k, tp, rfl⟩ := isTup_of ht
  refine (ps_asg he hg (by cases e <;> rfl) (by cases e <;> first | rfl | cases hv)).imp fun D σ H ⟨μ, ρ, h, R0, er, p⟩ => ?_
  exact ⟨μ, ρ, h, R0, er, Post.mono (PostS.to p) fun v H1 ⟨μ1, h1, w, R1, e1, r, q⟩ => asg_gT R1 (er.ext e1) r q⟩
abbrev parF (ts : Tgs) (ms : En → Hh → Res (List Val)) : En → Hh → Out := fun ρ h => (ms ρ h).to fun vs h1 => (match bindTs ts vs ρ with
    | some ρ1 => .nx ρ1 h1
    | none => .bad)
theorem sw_none {ts vs : List Expr} {k k2 : Nat} {p p2 : Pos} {env : Env} (h : swNone env.scope ts vs = true) : swappedStores [.Tuple ts k p] (.Tuple vs k2 p2) env = pure none := by
  unfold swNone at h
  simp only [Bool.or_eq_true] at h
  unfold swappedStores
  dsimp only
  split
  · rfl
  · rename_i c1
    split
    · rfl
    · split
      · rfl
      · rename_i c3
        split
        · rfl
        · rename_i c4
          exfalso
          have c3 : ¬ ((nmsL env.scope (lineOf ts) ts).length != ts.length || (nmsL env.scope (lineOf ts) ts).eraseDups.length != (nmsL env.scope (lineOf ts) ts).length) = true := c3
          simp only [Bool.or_eq_true] at c1 c3
          rcases h with (h | h) | (h | h) | h
          · exact c1 (.inl (.inl (by simpa using h)))
          · exact c1 (.inl (.inr h))
          · exact c3 (.inl h)
          · exact c3 (.inr h)
          · exact c4 h
theorem sa_len {ts : Tgs} {tgs : List Expr} {ws : List Val} {ρ ρ' : En} {sc : Scope} (hb : bindTs ts ws ρ = some ρ') (hm : mTs N sc ts tgs = true) : ws.length = tgs.length := bindTs_len hb hm
theorem rvs_len {H : Hp} {μ : Mu} : ∀ {ws : List Val} {vs : List V}, RepVs Y H μ ws vs → ws.length = vs.length
  | _, _, .nil => rfl
  | _, _, .cons _ t => congrArg (· + 1) (rvs_len t)
theorem d_parN {ts : Tgs} {tgs vs : List Expr} {ms : En → Hh → Res (List Val)} {k k2 : Nat} {p p2 : Pos} (hK : Y.K = X.K) (hc : X.calm = true) (hsw : swNone X.env.scope tgs vs = true) (hm : mTs N X.env.scope ts tgs = true) (hg : PGs X tgs (gTs Y ts)) (hl : ∀ x ∈ tgs, notStar x = true) (hz : tgs.length ≤ 1000) (ha : PA X vs (tGs Y W ms)) :
    PS X (.Assign [.Tuple tgs k p] (.Tuple vs k2 p2) pos) (tS Y W (parF ts ms)) := by
  have pgt : PG X (.Tuple tgs k p) (gTup X.K tgs.length (gTs Y ts)) := pg_tup (n := tgs.length) hc hg (assignEach_len tgs X.env) (noStar_find tgs X.env hl)
  refine (ps_asg (pe_tup ha) pgt rfl (sw_none hsw)).imp fun D σ H ⟨μ, ρ, h, R0, er, p⟩ => ?_
  refine ⟨μ, ρ, h, R0, er, Post.mono (PostS.to p) fun us H1 ⟨μ1, h1, ws, R1, e1, r, q⟩ => ?_⟩
  cases hb : bindTs ts ws ρ with
  | none => rw [hb] at q; exact q.elim
  | some ρ1 =>
    rw [hb] at q
    have hlen : us.length = tgs.length := by rw [← rvs_len r]; exact bindTs_len hb hm
    have lb : (1000 : Nat) ≤ sizeLine := Nat.le_trans (by decide) big_line
    refine ⟨by rw [hlen]; exact Nat.le_trans hz lb, fun T hT => ?_⟩
    have g := Gro.new (o := HO.tup us) hT
    have x := g.ext μ1
    refine ⟨T, us, rfl, SqT.of upd_same, hlen, μ1, ws, ρ, ρ1, r.ext x, (er.ext e1).ext x, hb, fun σ' er' _ => ?_⟩
    exact q σ' _ μ1 (R1.gro g) x er'
theorem nms_hit {sc : Scope} {l : Nat} {x : Str} {px : Pos} {r : List Expr} (hx : sc.names.lookup x = some .local) (hl : (px.line == l) = true) : nmsL sc l (.Name x px :: r) = x :: nmsL sc l r := by
  unfold nmsL
  exact List.filterMap_cons_some (by simp [hx, hl])
theorem sw_some {xs : List Str} {ts vs : List Expr} {kt k2 : Nat} {pt pt2 : Pos} {env : Env} (hk : env.scope.kind = .function) (h1 : (ts.length == 2 || ts.length == 3) = true) (h2 : vs.length = ts.length) (hs : ∀ x ∈ vs, notStar x = true) (hn : nmsL env.scope (lineOf ts) ts = xs) (hl : xs.length = ts.length) (he : xs.eraseDups.length = xs.length)
    (h3 : (vs.all (foldedForSure 8)) = false) (h4 : (vs.all (constantsAlone 8)) = false) : swappedStores [.Tuple ts kt pt] (.Tuple vs k2 pt2) env = pure (some xs) := by
  have hb : env.blockKind = .function := by unfold Env.blockKind; rw [hk]; rfl
  unfold swappedStores
  dsimp only
  split
  · rename_i c1
    rw [h1, h2, hb] at c1
    simp at c1
  · split
    · rename_i c2
      obtain ⟨x, hx, q⟩ := List.any_eq_true.mp c2
      have := hs x hx
      cases x <;> first | exact absurd (show false = true from this) Bool.false_ne_true | exact absurd (show false = true from q) Bool.false_ne_true
    · split
      · rename_i c3
        have c3 : ((nmsL env.scope (lineOf ts) ts).length != ts.length || (nmsL env.scope (lineOf ts) ts).eraseDups.length != (nmsL env.scope (lineOf ts) ts).length) = true := c3
        rw [hn, he, hl] at c3
        simp at c3
      · split
        · rename_i c4
          rw [h3] at c4
          cases c4
        · split
          · rename_i c5
            rw [h4] at c5
            cases c5
          · show (pure (some (nmsL env.scope (lineOf ts) ts)) : Sem (Option (List Str))) = _
            rw [hn]
theorem d_par2 {i j : Nat} {x y : Str} {px py pt pt2 : Pos} {kt k2 : Nat} {a b : Expr} {ms : En → Hh → Res (List Val)} (hc : X.calm = true) (hN : X.N.Nodup) (hk : X.env.scope.kind = .function) (hi : X.N[i]? = some x) (hj : X.N[j]? = some y) (hij : i ≠ j) (hxy : x ≠ y) (hl : (px.line == py.line) = true)
    (hx : X.env.scope.names.lookup x = some .local) (hy : X.env.scope.names.lookup y = some .local) (hs : ∀ x ∈ [a, b], notStar x = true) (h1 : ([a, b].all (foldedForSure 8)) = false) (h2 : ([a, b].all (constantsAlone 8)) = false) (ha : PA X [a, b] (tGs Y W ms)) :
    PS X (.Assign [.Tuple [.Name x px, .Name y py] kt pt] (.Tuple [a, b] k2 pt2) pos) (tS Y W (parF (.cons (.n i) (.cons (.n j) .nil)) ms)) := by
  have hyl : (py.line == px.line) = true := by
    rw [beq_iff_eq] at hl ⊢
    exact hl.symm
  have nm : nmsL X.env.scope (lineOf [.Name x px, .Name y py]) [.Name x px, .Name y py] = [x, y] := by
    show nmsL X.env.scope px.line _ = _
    rw [nms_hit hx (by simp), nms_hit hy hyl] <;> rfl
  have sw := sw_some (ts := [.Name x px, .Name y py]) (vs := [a, b]) (kt := kt) (k2 := k2) (pt := pt) (pt2 := pt2) hk rfl rfl hs nm rfl (by simp [List.eraseDups_cons, Ne.symm hxy]) h1 h2
  refine (ps_par hc hN hi hj hij hx hy ha sw).imp fun D σ H ⟨μ, ρ, h, R0, er, p⟩ => ?_
  refine ⟨μ, ρ, h, R0, er, Post.mono (PostS.to p) fun us H1 ⟨μ1, h1, ws, R1, e1, r, q⟩ => ?_⟩
  cases r with
  | nil => exact q.elim
  | cons r1 r =>
    cases r with
    | nil => exact q.elim
    | cons r2 r =>
      cases r with
      | cons r3 r => exact q.elim
      | nil => exact ⟨_, _, rfl, PostS.nx R1 (((er.ext e1).set i r1).set j r2) q⟩
theorem d_par3 {i j l : Nat} {x y z : Str} {px py pz pt pt2 : Pos} {kt k2 : Nat} {a b c : Expr} {ms : En → Hh → Res (List Val)} (hc : X.calm = true) (hN : X.N.Nodup) (hk : X.env.scope.kind = .function) (hi : X.N[i]? = some x) (hj : X.N[j]? = some y) (hl : X.N[l]? = some z) (hij : i ≠ j) (hil : i ≠ l) (hjl : j ≠ l) (hxy : x ≠ y) (hxz : x ≠ z) (hyz : y ≠ z) (ly : (px.line == py.line) = true) (lz : (px.line == pz.line) = true)
    (hx : X.env.scope.names.lookup x = some .local) (hy : X.env.scope.names.lookup y = some .local) (hz : X.env.scope.names.lookup z = some .local) (hs : ∀ x ∈ [a, b, c], notStar x = true) (h1 : ([a, b, c].all (foldedForSure 8)) = false) (h2 : ([a, b, c].all (constantsAlone 8)) = false) (ha : PA X [a, b, c] (tGs Y W ms)) :
    PS X (.Assign [.Tuple [.Name x px, .Name y py, .Name z pz] kt pt] (.Tuple [a, b, c] k2 pt2) pos) (tS Y W (parF (.cons (.n i) (.cons (.n j) (.cons (.n l) .nil))) ms)) := by
  have hyl : (py.line == px.line) = true := by
    rw [beq_iff_eq] at ly ⊢
    exact ly.symm
  have hzl : (pz.line == px.line) = true := by
    rw [beq_iff_eq] at lz ⊢
    exact lz.symm
  have nm : nmsL X.env.scope (lineOf [.Name x px, .Name y py, .Name z pz]) [.Name x px, .Name y py, .Name z pz] = [x, y, z] := by
    show nmsL X.env.scope px.line _ = _
    rw [nms_hit hx (by simp), nms_hit hy hyl, nms_hit hz hzl] <;> rfl
  have sw := sw_some (ts := [.Name x px, .Name y py, .Name z pz]) (vs := [a, b, c]) (kt := kt) (k2 := k2) (pt := pt) (pt2 := pt2) hk rfl rfl hs nm rfl (by simp [List.eraseDups_cons, hxy, hxz, hyz, Ne.symm hxy, Ne.symm hxz, Ne.symm hyz]) h1 h2
  refine (ps_par3 hc hN hi hj hl hij hil hjl hx hy hz ha sw).imp fun D σ H ⟨μ, ρ, h, R0, er, p⟩ => ?_
  refine ⟨μ, ρ, h, R0, er, Post.mono (PostS.to p) fun us H1 ⟨μ1, h1, ws, R1, e1, r, q⟩ => ?_⟩
  cases r with
  | nil => exact q.elim
  | cons r1 r =>
    cases r with
    | nil => exact q.elim
    | cons r2 r =>
      cases r with
      | nil => exact q.elim
      | cons r3 r =>
        cases r with
        | cons r4 r => exact q.elim
        | nil => exact ⟨_, _, _, rfl, PostS.nx R1 ((((er.ext e1).set i r1).set j r2).set l r3) q⟩
/-! ### lists that change -/
abbrev setixF (i : Nat) (mk me : En → Hh → Res Val) : En → Hh → Out := fun ρ h => (me ρ h).to fun v h1 => (match v, ρ[i]? with
    | .d p, some (some (.ref r)) => (asI (mk ρ h1) fun j h2 => .ok j h2).to fun j h2 => (match h2[r]? with
      | some (.lst ps) => (match ixN ps.length j with
        | some n => .nx ρ (h2.set r (.lst (ps.set n p)))
        | none => .bad)
      | _ => .bad)
    | _, _ => .bad)
theorem d_setix {i : Nat} {x : Str} {px ps : Pos} {k : Expr} {mk : En → Hh → Res Val} (hN : X.N[i]? = some x) (hv : visB X.env.scope x = true) (hn : nmB x = true) (hk : notSlice k = true) (hki : PE X k (tG Y W mk)) (he : PE X e (tG Y W m)) : PS X (.Assign [.Subscript (.Name x px) k ps] e pos) (tS Y W (setixF i mk m)) := by
  have hg : PG X (.Subscript (.Name x px) k ps) _ := pg_sub (pe_var hN (vis_of hv) (nm_of hn).1 (nm_of hn).2) hki set_list (by intro v; cases k <;> first | rfl | cases hk)
  refine (ps_asg he hg (by cases e <;> rfl) (by cases e <;> rfl)).imp fun D σ H ⟨μ, ρ, h, R0, er, p⟩ => ?_
  refine ⟨μ, ρ, h, R0, er, Post.mono (PostS.to p) fun v H1 ⟨μ1, h1, w, R1, e1, r, q⟩ => ?_⟩
  cases w with
  | d d =>
    cases q1 : ρ[i]? with
    | none => rw [q1] at q; exact q.elim
    | some o =>
      rw [q1] at q
      cases o with
      | none => exact q.elim
      | some w2 =>
        cases w2 with
        | ref c =>
          have q : PostS Y W D μ1 H1 ((asI (mk ρ h1) fun j h2 => Res.ok j h2).to fun j h2 => (match h2[c]? with
            | some (.lst ps) => (match ixN ps.length j with
              | some n => .nx ρ (h2.set c (.lst (ps.set n d)))
              | none => .bad)
            | _ => .bad)) := q
          have er1 := er.ext e1
          obtain ⟨o, f1, f2⟩ := er1.get i _ q1
          refine ⟨o, f1, μ1, ρ, h1, R1, er1, ?_⟩
          refine Post.mono (Post.asI (PostS.to (R := fun _ _ (w b : Int) => w = b) q)) fun u H2 ⟨j, ej, μ2, h2, R2, e2, q2⟩ => ?_
          obtain ⟨μ3, h3, j', R3, e3, ejj, q3⟩ := Post.here (w := j) R2 q2 rfl
          subst ejj
          subst ej
          cases q4 : h3[c]? with
          | none => rw [q4] at q3; exact q3.elim
          | some cc =>
            rw [q4] at q3
            cases cc with
            | lst qs =>
              have q3 : PostS Y W D μ3 H2 (match ixN qs.length j' with
                | some n => .nx ρ (h3.set c (.lst (qs.set n d)))
                | none => .bad) := q3
              cases q5 : ixN qs.length j' with
              | none => rw [q5] at q3; exact q3.elim
              | some n =>
                rw [q5] at q3
                have x23 := e3
                obtain ⟨a, vs, ea, g1, g2, g3⟩ := cell_of R3 q4 (f2.ext x23)
                subst ea
                have hd : Rep Y.K H2 μ3 d v := (show RepV Y H1 μ1 (.d d) v from r).ext x23
                obtain ⟨m1, m2⟩ := mut_ok (ps := qs) R3 g1 (g3.set n hd)
                refine ⟨a, vs, j', n, rfl, rfl, g2, by rw [← g3.length]; exact q5, ?_⟩
                exact q3 σ _ μ3 m1 m2 ((er1.ext x23).ext m2)
            | _ => exact q3.elim
        | _ => exact q.elim
  | _ => exact q.elim
abbrev appF (i : Nat) (m : En → Hh → Res Val) : En → Hh → Out := fun ρ h => (match ρ[i]? with
    | some (some (.ref r)) => (match h[r]? with
      | some (.lst _) => (m ρ h).to fun v h1 => (match v, h1[r]? with
        | .d p, some (.lst ps) => if ps.length ≤ big then .nx ρ (h1.set r (.lst (ps ++ [p]))) else .bad
        | _, _ => .bad)
      | _ => .bad)
    | _ => .bad)
theorem d_app {i : Nat} {x : Str} {px apos cpos : Pos} (hK : Y.K = X.K) (hN : X.N[i]? = some x) (hv : visB X.env.scope x = true) (hn : nmB x = true) (hs : notStar e = true) (hl : (apos.endLine == cpos.line) = true) (he : PE X e (tG Y W m)) :
    PS X (.Expr (.Call (.Attribute (.Name x px) "append" apos) [e] [] cpos) pos) (tS Y W (appF i m)) := by
  have pe : PE X (.Call (.Attribute (.Name x px) "append" apos) [e] [] cpos) _ := pe_bm PySem.F.plainAttrs_list PySem.F.slot_list_append PySem.F.type_list_append mt_append (pe_var hN (vis_of hv) (nm_of hn).1 (nm_of hn).2) (pa_cons he pa_nil (notStar_cons hs)) rfl (by rw [notStar_cons hs] <;> rfl) hl (notStar_cons hs) rfl
  refine (ps_expr pe).imp fun D σ H ⟨μ, ρ, h, R0, er, p⟩ => ?_
  have p : PostS Y W D μ H (match ρ[i]? with
    | some (some (.ref r)) => (match h[r]? with
      | some (.lst _) => (m ρ h).to fun v h1 => (match v, h1[r]? with
        | .d p, some (.lst ps) => if ps.length ≤ big then .nx ρ (h1.set r (.lst (ps ++ [p]))) else .bad
        | _, _ => .bad)
      | _ => .bad)
    | _ => .bad) := p
  cases q1 : ρ[i]? with
  | none => rw [q1] at p; exact p.elim
  | some o =>
    rw [q1] at p
    cases o with
    | none => exact p.elim
    | some w2 =>
      cases w2 with
      | ref c =>
        have p : PostS Y W D μ H (match h[c]? with
          | some (.lst _) => (m ρ h).to fun v h1 => (match v, h1[c]? with
            | .d p, some (.lst ps) => if ps.length ≤ big then .nx ρ (h1.set c (.lst (ps ++ [p]))) else .bad
            | _, _ => .bad)
          | _ => .bad) := p
        cases q2 : h[c]? with
        | none => rw [q2] at p; exact p.elim
        | some cc =>
          rw [q2] at p
          cases cc with
          | lst ps0 =>
            have p : PostS Y W D μ H ((m ρ h).to fun v h1 => (match v, h1[c]? with
              | .d p, some (.lst ps) => if ps.length ≤ big then .nx ρ (h1.set c (.lst (ps ++ [p]))) else .bad
              | _, _ => .bad)) := p
            obtain ⟨o, f1, f2⟩ := er.get i _ q1
            obtain ⟨a, vs, ea, g1, g2, g3⟩ := cell_of R0 q2 f2
            subst ea
            refine ⟨.ref a, f1, .inl ⟨rfl, _, SqL.of g2⟩, ?_⟩
            refine ⟨μ, ρ, h, R0, er, Post.mono (PostS.to p) fun v H1 ⟨μ1, h1, w, R1, e1, r, q⟩ => ?_⟩
            cases w with
            | d d =>
              cases q4 : h1[c]? with
              | none => rw [q4] at q; exact q.elim
              | some cc =>
                rw [q4] at q
                cases cc with
                | lst qs =>
                  have q : PostS Y W D μ1 H1 (if qs.length ≤ big then .nx ρ (h1.set c (.lst (qs ++ [d]))) else .bad) := q
                  by_cases hb : qs.length ≤ big
                  · rw [if_pos hb] at q
                    obtain ⟨b, us, eb, k1, k2, k3⟩ := cell_of R1 q4 (f2.ext e1)
                    cases eb
                    obtain ⟨m1, m2⟩ := mut_ok (ps := qs) R1 k1 (k3.append (.cons (show Rep Y.K H1 μ1 d v from r) .nil))
                    refine ⟨a, us, v, rfl, rfl, k2, ?_, ?_⟩
                    · rw [← k3.length]
                      exact Nat.lt_of_le_of_lt hb (by decide)
                    · exact q σ _ μ1 m1 m2 ((er.ext e1).ext m2)
                  · rw [if_neg hb] at q
                    exact q.elim
                | _ => exact q.elim
            | _ => exact q.elim
          | _ => exact p.elim
      | _ => exact p.elim

/-! ### if, blocks -/
abbrev ifsF (mc : En → Hh → Res Val) (ma mb : En → Hh → Out) : En → Hh → Out := fun ρ h => (asB (mc ρ h) fun k h1 => .ok k h1).to fun k h1 => if k then ma ρ h1 else mb ρ h1
theorem d_ifs {c : Expr} {x y : List Stmt} {mc : En → Hh → Res Val} {ma mb : En → Hh → Out} (hc : PT X c (tGT Y W mc)) (ha : PSs X x (tS Y W ma)) (hb : PSs X y (tS Y W mb)) : PS X (.If c x y pos) (tS Y W (ifsF mc ma mb)) := by
  refine (ps_if hc ha hb).imp fun D σ H ⟨μ, ρ, h, R0, er, p⟩ => ?_
  refine ⟨μ, ρ, h, R0, er, Post.mono (PostS.to (R := fun _ _ (w b : Bool) => w = b) p) fun k H1 ⟨μ1, h1, w, R1, e1, ew, q⟩ => ?_⟩
  subst ew
  cases w with
  | true => exact ⟨μ1, ρ, h1, R1, er.ext e1, q⟩
  | false => exact ⟨μ1, ρ, h1, R1, er.ext e1, q⟩
theorem d_nil : PSs X [] (tS Y W fun ρ h => .nx ρ h) := pss_nil.imp fun D σ H ⟨μ, ρ, h, R0, er, p⟩ => PostS.nx R0 er p
abbrev seqF (m1 m2 : En → Hh → Out) : En → Hh → Out := fun ρ h => (match m1 ρ h with
    | .nx ρ1 h1 => m2 ρ1 h1
    | r => r)
theorem d_cons {s : Stmt} {r : List Stmt} {m1 m2 : En → Hh → Out} (h1 : PS X s (tS Y W m1)) (h2 : PSs X r (tS Y W m2)) : PSs X (s :: r) (tS Y W (seqF m1 m2)) := by
  refine (pss_cons h1 h2).imp fun D σ H ⟨μ, ρ, h, R0, er, p⟩ => ?_
  refine ⟨μ, ρ, h, R0, er, ?_⟩
  have p : PostS Y W D μ H (match m1 ρ h with
    | .nx ρ1 h1 => m2 ρ1 h1
    | r => r) := p
  cases q : m1 ρ h with
  | nx ρ1 h1 =>
    rw [q] at p
    exact fun σ' H' μ' a b c => ⟨μ', ρ1, h1, a, c, PostS.ext b p⟩
  | rt w h1 => rw [q] at p; exact p
  | bk ρ1 h1 => rw [q] at p; exact p
  | ct ρ1 h1 => rw [q] at p; exact p
  | exc c h1 => rw [q] at p; exact p
  | bad => rw [q] at p; exact p

/-! ### for, while -/
abbrev stepF (t : Tg) (mb : En → Hh → Out) : PyData → En → Hh → Out := fun x ρ1 h2 => match bindT t (.d x) ρ1 with
    | some ρ2 => mb ρ2 h2
    | none => .bad
abbrev forsF (t : Tg) (mi : En → Hh → Res (List PyData)) (mb : En → Hh → Out) : En → Hh → Out := fun ρ h => (mi ρ h).to fun xs h1 => forF (stepF t mb) xs ρ h1
theorem d_for {t : Tg} {tg iter : Expr} {body : List Stmt} {mi : En → Hh → Res (List PyData)} {mb : En → Hh → Out} (hp : PassesOwn (model X.prog X.w) X.A X.env X.xe) (hc : X.calm = true) (hset : notSet iter = true) (hi : PI X tg iter (tI Y W mi)) (hg : PG X tg (gT Y t)) (hb : PSs X body (tS Y W mb)) :
    PS X (.For tg iter body [] pos) (tS Y W (forsF t mi mb)) := by
  refine (ps_for hp hc hi hg hb (folded hset)).imp fun D σ H ⟨μ, ρ, h, R0, er, p⟩ => ?_
  refine ⟨μ, ρ, h, R0, er, Post.mono (PostS.to p) fun J H1 ⟨μ1, h1, xs, R1, e1, wk, q⟩ => ?_⟩
  refine ⟨fun i m σ' H' => m = xs.length - i ∧ i ≤ xs.length ∧ ∃ μ' ρ' h', HR Y μ' h' H' ∧ Ext μ1 H1 μ' H' ∧ ER Y μ' H' ρ' σ' ∧ PostS Y W D μ' H' (forF (stepF t mb) (xs.drop i) ρ' h'), ⟨_, rfl, Nat.zero_le _, μ1, ρ, h1, R1, .refl _ _, er.ext e1, by rw [List.drop_zero]; exact q⟩, ?_⟩
  rintro i m σ' H' ⟨rfl, hi, μ', ρ', h', R', x', er', pq⟩
  obtain ⟨step, stop⟩ := wk.2 H' μ' x'.toExt0 R'.frs
  by_cases hlt : i < xs.length
  · obtain ⟨x, hx, hdr⟩ := drop_get hlt
    obtain ⟨go, yld⟩ := step i x hx
    refine .inr ⟨go, fun σ'' H'' => i + 1 ≤ xs.length ∧ ∃ μ' ρ' h', HR Y μ' h' H'' ∧ Ext μ1 H1 μ' H'' ∧ ER Y μ' H'' ρ' σ'' ∧ PostS Y W D μ' H'' (forF (stepF t mb) (xs.drop (i + 1)) ρ' h'), fun σ'' H'' hN => ⟨xs.length - (i + 1), by omega, rfl, hN.1, hN.2⟩, fun v H2 hy => ?_⟩
    obtain ⟨gr, rx⟩ := yld v H2 hy
    have x2 := gr.ext μ'
    have R2 := R'.gro gr
    rw [hdr] at pq
    have pq : PostS Y W D μ' H' (match (match bindT t (.d x) ρ' with
      | some ρ2 => mb ρ2 h'
      | none => .bad) with
      | .nx ρ1 h1 => forF (stepF t mb) (xs.drop (i + 1)) ρ1 h1
      | .ct ρ1 h1 => forF (stepF t mb) (xs.drop (i + 1)) ρ1 h1
      | .bk ρ1 h1 => .nx ρ1 h1
      | r => r) := pq
    cases hbd : bindT t (.d x) ρ' with
    | none => rw [hbd] at pq; exact pq.elim
    | some ρ2 =>
      rw [hbd] at pq
      have pq : PostS Y W D μ' H' (match mb ρ2 h' with
        | .nx ρ1 h1 => forF (stepF t mb) (xs.drop (i + 1)) ρ1 h1
        | .ct ρ1 h1 => forF (stepF t mb) (xs.drop (i + 1)) ρ1 h1
        | .bk ρ1 h1 => .nx ρ1 h1
        | r => r) := pq
      refine ⟨μ', .d x, ρ', ρ2, rx, er'.ext x2, hbd, fun σ2 er2 _ => ⟨μ', ρ2, h', R2, er2, ?_⟩⟩
      have nxt : ∀ ρ3 h3, PostS Y W D μ' H' (forF (stepF t mb) (xs.drop (i + 1)) ρ3 h3) → ∀ σ3 H3 μ3, HR Y μ3 h3 H3 → Ext μ' H2 μ3 H3 → ER Y μ3 H3 ρ3 σ3 → i + 1 ≤ xs.length ∧ ∃ μ' ρ' h', HR Y μ' h' H3 ∧ Ext μ1 H1 μ' H3 ∧ ER Y μ' H3 ρ' σ3 ∧ PostS Y W D μ' H3 (forF (stepF t mb) (xs.drop (i + 1)) ρ' h') :=
        fun ρ3 h3 pp σ3 H3 μ3 R3 x3 er3 => ⟨hlt, μ3, ρ3, h3, R3, (x'.trans x2).trans x3, er3, PostS.ext (x2.trans x3) pp⟩
      cases q3 : mb ρ2 h' with
      | nx ρ3 h3 => rw [q3] at pq; exact nxt ρ3 h3 pq
      | ct ρ3 h3 => rw [q3] at pq; exact nxt ρ3 h3 pq
      | bk ρ3 h3 => rw [q3] at pq; exact fun σ3 H3 μ3 R3 x3 er3 => pq σ3 H3 μ3 R3 (x2.trans x3) er3
      | rt w h3 => rw [q3] at pq; exact fun v3 H3 μ3 R3 x3 r3 => pq v3 H3 μ3 R3 (x2.trans x3) r3
      | exc c h3 => rw [q3] at pq; exact fun σ3 H3 μ3 R3 x3 => pq σ3 H3 μ3 R3 (x2.trans x3)
      | bad => rw [q3] at pq; exact pq.elim
  · have ei : i = xs.length := by omega
    subst ei
    rw [List.drop_length] at pq
    exact .inl ⟨stop, PostS.nx R' er' pq⟩
theorem fnEs_ev (c : Cf) : ∀ (fs : List Nat) (ρ : En) (h : Hh), evEs c (fnEs fs) ρ h = .ok (fs.map Val.fn) h
  | [], _, _ => rfl
  | f :: fs, ρ, h => by
    have := fnEs_ev c fs ρ h
    show ((evE c (.fnv f) ρ h).bd fun v h1 => (evEs c (fnEs fs) ρ h1).bd fun vs h2 => .ok (v :: vs) h2) = _
    show ((evEs c (fnEs fs) ρ h).bd fun vs h2 => .ok (Val.fn f :: vs) h2) = _
    rw [this] <;> rfl
theorem rvs_get {H : Hp} {μ : Mu} : ∀ {ws : List Val} {vs : List V} {i : Nat} {w : Val}, RepVs Y H μ ws vs → ws[i]? = some w → ∃ v, vs[i]? = some v ∧ RepV Y H μ w v
  | _, _, i, w, .nil, e => by simp at e
  | _, _, i, w, .cons r t, e => by
    cases i with
    | zero => simp at e; subst e; exact ⟨_, rfl, r⟩
    | succ i =>
      obtain ⟨v, e1, e2⟩ := rvs_get (i := i) t (by simpa using e)
      exact ⟨v, by simpa using e1, e2⟩
abbrev forfnF (i : Nat) (fs : List Nat) (mb : En → Hh → Out) : En → Hh → Out := fun ρ h => forF (fun f ρ1 h2 => mb (ρ1.set i (some (.fn f))) h2) fs ρ h
/-- a loop over defs -/
theorem d_forfn {i : Nat} {fs : List Nat} {tg : Expr} {es : List Expr} {lp : Pos} {body : List Stmt} {mb : En → Hh → Out} (hp : PassesOwn (model X.prog X.w) X.A X.env X.xe) (hc : X.calm = true) (hl : fs.length ≤ 1000) (ha : PA X es (tGs Y W fun _ h => .ok (fs.map Val.fn) h)) (hg : PG X tg (gT Y (.n i))) (hb : PSs X body (tS Y W mb)) :
    PS X (.For tg (.List es lp) body [] pos) (tS Y W (forfnF i fs mb)) := by
  have hi : PI X tg (.List es lp) (fun σ H R => ∃ μ ρ h, HR Y μ h H ∧ ER Y μ H ρ σ ∧ ∀ (μ1 : Mu) (H1 : Hp) (a : Addr) (vs : List V), HR Y μ1 h H1 → Ext μ H μ1 H1 → Nin μ1 a → H1 a = some (.lst vs) → RepVs Y H1 μ1 (fs.map Val.fn) vs → R (Itl X.K a) H1) := by
    refine (pi_seq (pe_sized (pe_lst ha))).imp fun σ H R ⟨μ, ρ, h, R0, er, q⟩ => ?_
    refine ⟨μ, ρ, h, R0, er, fun vs H1 μ1 R1 e1 rv => ⟨?_, fun p hp hz => ?_⟩⟩
    · have := rvs_len rv
      rw [List.length_map] at this
      rw [← this]
      exact Nat.le_trans hl (by decide)
    · have g : Gro H1 (upd H1 p (.lst vs)) := .new hp
      have z := hz p vs rfl (.inl (SqL.of upd_same))
      exact ⟨p, vs, rfl, z, .inl ⟨SqL.of upd_same, q μ1 _ p vs (R1.gro g) (e1.trans (g.ext μ1)) (R1.nin hp) upd_same (rv.ext (g.ext μ1))⟩⟩
  refine (ps_for hp hc hi hg hb (folded rfl)).imp fun D σ H ⟨μ, ρ, h, R0, er, p⟩ => ?_
  refine ⟨μ, ρ, h, R0, er, fun μ1 H1 a vs R1 e1 n1 ha1 rv1 => ?_⟩
  have hvl := rvs_len rv1
  rw [List.length_map] at hvl
  refine ⟨fun j m σ' H' => m = fs.length - j ∧ j ≤ fs.length ∧ ∃ μ' ρ' h', HR Y μ' h' H' ∧ Ext μ1 H1 μ' H' ∧ ER Y μ' H' ρ' σ' ∧ PostS Y W D μ' H' (forF (fun f ρ1 h2 => mb (ρ1.set i (some (.fn f))) h2) (fs.drop j) ρ' h'), ⟨_, rfl, Nat.zero_le _, μ1, ρ, h, R1, .refl _ _, er.ext e1, by rw [List.drop_zero]; exact PostS.ext e1 p⟩, ?_⟩
  rintro j m σ' H' ⟨rfl, hj, μ', ρ', h', R', x', er', pq⟩
  obtain ⟨ha', _⟩ := x'.keep a _ ha1 n1 (fun q z => by cases z)
  by_cases hlt : j < fs.length
  · obtain ⟨f, hx, hdr⟩ := drop_get hlt
    obtain ⟨v, hv, rv⟩ := rvs_get (rv1.ext x') (i := j) (w := .fn f) (by rw [List.getElem?_map, hx] <;> rfl)
    refine .inr ⟨⟨vs, v, SqL.of ha', hv⟩, fun σ'' H'' => j + 1 ≤ fs.length ∧ ∃ μ' ρ' h', HR Y μ' h' H'' ∧ Ext μ1 H1 μ' H'' ∧ ER Y μ' H'' ρ' σ'' ∧ PostS Y W D μ' H'' (forF (fun f ρ1 h2 => mb (ρ1.set i (some (.fn f))) h2) (fs.drop (j + 1)) ρ' h'), fun σ'' H'' hN => ⟨fs.length - (j + 1), by omega, rfl, hN.1, hN.2⟩, fun x H2 hy => ?_⟩
    obtain ⟨rfl, hy⟩ := hy
    have hy := hy vs (SqL.of ha')
    rw [hv] at hy
    cases hy
    rw [hdr] at pq
    have pq : PostS Y W D μ' H2 (match mb (ρ'.set i (some (.fn f))) h' with
      | .nx ρ1 h1 => forF (fun f ρ1 h2 => mb (ρ1.set i (some (.fn f))) h2) (fs.drop (j + 1)) ρ1 h1
      | .ct ρ1 h1 => forF (fun f ρ1 h2 => mb (ρ1.set i (some (.fn f))) h2) (fs.drop (j + 1)) ρ1 h1
      | .bk ρ1 h1 => .nx ρ1 h1
      | r => r) := pq
    refine ⟨μ', .fn f, ρ', ρ'.set i (some (.fn f)), rv, er', rfl, fun σ2 er2 _ => ⟨μ', _, h', R', er2, ?_⟩⟩
    have nxt : ∀ ρ3 h3, PostS Y W D μ' H2 (forF (fun f ρ1 h2 => mb (ρ1.set i (some (.fn f))) h2) (fs.drop (j + 1)) ρ3 h3) → ∀ σ3 H3 μ3, HR Y μ3 h3 H3 → Ext μ' H2 μ3 H3 → ER Y μ3 H3 ρ3 σ3 → j + 1 ≤ fs.length ∧ ∃ μ' ρ' h', HR Y μ' h' H3 ∧ Ext μ1 H1 μ' H3 ∧ ER Y μ' H3 ρ' σ3 ∧ PostS Y W D μ' H3 (forF (fun f ρ1 h2 => mb (ρ1.set i (some (.fn f))) h2) (fs.drop (j + 1)) ρ' h') :=
      fun ρ3 h3 pp σ3 H3 μ3 R3 x3 er3 => ⟨hlt, μ3, ρ3, h3, R3, x'.trans x3, er3, PostS.ext x3 pp⟩
    cases q3 : mb (ρ'.set i (some (.fn f))) h' with
    | nx ρ3 h3 => rw [q3] at pq; exact nxt ρ3 h3 pq
    | ct ρ3 h3 => rw [q3] at pq; exact nxt ρ3 h3 pq
    | bk ρ3 h3 => rw [q3] at pq; exact pq
    | rt w h3 => rw [q3] at pq; exact pq
    | exc c h3 => rw [q3] at pq; exact pq
    | bad => rw [q3] at pq; exact pq.elim
  · have ej : j = fs.length := by omega
    subst ej
    rw [List.drop_length] at pq
    exact .inl ⟨⟨vs, SqL.of ha', by rw [← hvl]; exact Nat.le_refl _⟩, PostS.nx R' er' pq⟩
abbrev whlFF (mc : En → Hh → Res Val) (mb : En → Hh → Out) : En → Hh → Out := fun ρ h => whlF mc mb turns ρ h
theorem d_whl {c : Expr} {body : List Stmt} {mc : En → Hh → Res Val} {mb : En → Hh → Out} (hp : PassesOwn (model X.prog X.w) X.A X.env X.xe) (hc : PT X c (tGT Y W mc)) (hb : PSs X body (tS Y W mb)) : PS X (.While c body [] pos) (tS Y W (whlFF mc mb)) := by
  refine (ps_while hp hc hb).imp fun D σ H ⟨μ, ρ, h, R0, er, p⟩ => ?_
  refine ⟨fun n σ H => ∃ μ ρ h, HR Y μ h H ∧ ER Y μ H ρ σ ∧ PostS Y W D μ H (whlF mc mb n ρ h), ⟨turns, μ, ρ, h, R0, er, p⟩, ?_⟩
  rintro n σ' H' ⟨μ', ρ', h', R', er', pq⟩
  cases n with
  | zero => exact pq.elim
  | succ n =>
    have pq : PostS Y W D μ' H' ((asB (mc ρ' h') fun k h1 => .ok k h1).to fun k h1 => if k then (match mb ρ' h1 with
      | .nx ρ1 h2 => whlF mc mb n ρ1 h2
      | .ct ρ1 h2 => whlF mc mb n ρ1 h2
      | .bk ρ1 h2 => .nx ρ1 h2
      | r => r) else .nx ρ' h1) := pq
    refine ⟨μ', ρ', h', R', er', Post.mono (PostS.to (R := fun _ _ (w b : Bool) => w = b) pq) fun k H1 ⟨μ1, h1, w, R1, e1, ew, q⟩ => ?_⟩
    subst ew
    cases w with
    | false => exact PostS.nx R1 (er'.ext e1) q
    | true =>
      have q : PostS Y W D μ1 H1 (match mb ρ' h1 with
        | .nx ρ1 h2 => whlF mc mb n ρ1 h2
        | .ct ρ1 h2 => whlF mc mb n ρ1 h2
        | .bk ρ1 h2 => .nx ρ1 h2
        | r => r) := q
      refine ⟨fun σ H => ∃ μ ρ h, HR Y μ h H ∧ ER Y μ H ρ σ ∧ PostS Y W D μ H (whlF mc mb n ρ h), fun σ2 H2 hN => ⟨n, Nat.lt_succ_self n, hN⟩, μ1, ρ', h1, R1, er'.ext e1, ?_⟩
      cases q3 : mb ρ' h1 with
      | nx ρ3 h3 => rw [q3] at q; exact fun σ3 H3 μ3 R3 x3 er3 => ⟨μ3, ρ3, h3, R3, er3, PostS.ext x3 q⟩
      | ct ρ3 h3 => rw [q3] at q; exact fun σ3 H3 μ3 R3 x3 er3 => ⟨μ3, ρ3, h3, R3, er3, PostS.ext x3 q⟩
      | bk ρ3 h3 => rw [q3] at q; exact q
      | rt w h3 => rw [q3] at q; exact q
      | exc c h3 => rw [q3] at q; exact q
      | bad => rw [q3] at q; exact q.elim
end
end MP
end
section
set_option Elab.async false
set_option linter.all false
set_option autoImplicit false
set_option maxRecDepth 100000
set_option maxHeartbeats 4000000
/-! Mini: every statement that matches; every def. -/
namespace MP
open PySem PySem.Spec PyProof.Rows L2

theorem lc_only {P : Pg} {N : List Str} {e : E} {sc : Scope} {v : Expr} (h : mE P N e sc v = true) : notLc v = true ∨ ∃ own tg it ifs elt, e = .lc own tg it ifs elt := by
  cases e with
  | lc own tg it ifs elt => exact .inr ⟨_, _, _, _, _, rfl⟩
  | _ =>
    left
    cases v <;> first | rfl | exact absurd (show false = true from h) Bool.false_ne_true
theorem sw_lc {el : Expr} {gs : List Comprehension} {s : Scope} {pos px : Pos} {x : Str} {l : Nat} {env : Env} (hk : env.scope.kind = .function) : swapsWith (.ListComp el gs s pos) (some (.Name x px)) l env = pure (swB env.scope x px (.ListComp el gs s pos)) := by
  have hb : env.blockKind = .function := by unfold Env.blockKind; rw [hk]; rfl
  unfold swapsWith swB
  simp only [hb, Expr.pos]
  rfl
theorem ersIs_of {P : Pg} {c : Nat} {x : Str} (h : ersIs P c x = true) : P.ers c = some x := by
  unfold ersIs at h
  split at h
  · rename_i y q
    rw [q, of_decide_eq_true h]
  · cases h
structure XSt (X : Cx) : Prop where
  po : PassesOwn (model X.prog X.w) X.A X.env X.xe
  fn : ∀ x, X.fn x = true
  kd : X.env.scope.kind = .function
section
variable {Y : Ax} {P : Pg} {n : Nat} {N : List Str}
def GdS (Y : Ax) (P : Pg) (n : Nat) (N : List Str) (m : S) : Prop := ∀ (X : Cx) (sc : Scope) (W : WX), XOk Y P n N sc X → XSt X → L2N.Takes X W → ∀ e, mS P N m sc e = true → PS X e (tS Y W (evS (cfOf P n) m))
def GdSs (Y : Ax) (P : Pg) (n : Nat) (N : List Str) (m : Ss) : Prop := ∀ (X : Cx) (sc : Scope) (W : WX), XOk Y P n N sc X → XSt X → L2N.Takes X W → ∀ e, mSs P N m sc e = true → PSs X e (tS Y W (evSs (cfOf P n) m))
theorem XSt.on {X : Cx} (xs : XSt X) (fs : Scope) : FnOn X fs := fun x _ => .inl (xs.fn x)
theorem gs_pass : GdS Y P n N .pass := fun X sc W xo xs tk e h => by
  unfold mS at h
  split at h
  · exact d_pass
  · cases h
theorem gs_brk : GdS Y P n N .brk := fun X sc W xo xs tk e h => by
  unfold mS at h
  split at h
  · exact d_brk
  · cases h
theorem gs_cont : GdS Y P n N .cont := fun X sc W xo xs tk e h => by
  unfold mS at h
  split at h
  · exact d_cont
  · cases h
theorem gs_set {i : Nat} {v : E} : GdS Y P n N (.set i v) := fun X sc W xo xs tk e h => by
  unfold mS at h
  split at h
  · rename_i x px ev pos
    obtain ⟨h1, h2⟩ := andB h
    obtain ⟨x', p', e1, hi, hx⟩ := name_of h1
    cases e1
    have eN := xo.nN
    have eS := xo.sc
    rw [← eN] at hi
    rw [← eS] at hx
    rcases lc_only h2 with hl | ⟨own, tg, it, ifs, elt, rfl⟩
    · exact d_set xo.nd hi hx (.inl (xs.fn _)) (noSw hl) (gdE v P X sc W xo tk _ h2).pe
    · cases hs : swB X.env.scope x px ev with
      | false =>
        obtain ⟨el, t, iter, fs, scope, lpos, rfl, L⟩ := lc_parts (gdI it P) (gdO ifs P.noc) (gdE elt P.noc) xo tk h2
        exact d_set xo.nd hi hx (.inl (xs.fn _)) (by rw [sw_lc xs.kd, hs]) (gdE _ P X sc W xo tk _ h2).pe
      | true =>
        obtain ⟨el, t, iter, fs, scope, lpos, rfl, L⟩ := lc_parts (gdI it P) (gdO ifs P.noc) (gdE elt P.noc) xo tk h2
        have hy : X.env.scope.names.lookup x = some .local := by
          have q : (X.env.scope.names.lookup x == some .local && px.line == lpos.line && !(scope.names.any fun (n, k) => n == x && (k == .local || k == .cell))) = true := hs
          rw [Bool.and_eq_true, Bool.and_eq_true] at q
          exact eq_of_beq q.1.1
        exact d_setLc xo.calm xo.nd hi xs.kd hy (by rw [sw_lc xs.kd, hs]) L
  · cases h
theorem gs_asg {t : Tg} {v : E} : GdS Y P n N (.asg t v) := fun X sc W xo xs tk e h => by
  unfold mS at h
  split at h
  · obtain ⟨h1, h2⟩ := andB h
    obtain ⟨h1, h3⟩ := andB h1
    obtain ⟨h2, h4⟩ := andB h2
    have eN := xo.nN
    have eS := xo.sc
    rw [← eN] at h2
    rw [← eS] at h2
    exact d_asg h1 (by simpa using h3) (s_tg xo.kK xo.nd xo.calm (xs.on _) t _ h2 h2) (gdE v P X sc W xo tk _ h4).pe
  · cases h
theorem notB {b : Bool} (h : (!b) = true) : b = false := by
  cases b <;> first | rfl | cases h
theorem gs_par {ts : Tgs} {es : Es} : GdS Y P n N (.par ts es) := fun X sc W xo xs tk e h => by
  unfold mS at h
  split at h
  · rename_i tgs k p vs k2 p2 pos
    obtain ⟨h1, h2⟩ := andB h
    obtain ⟨hT, h3⟩ := andB h1
    have ha := gdEs es P X sc W xo tk _ h3
    have hst := mEs_star h3
    have eN := xo.nN
    have eS := xo.sc
    rw [← eN] at hT
    rw [← eS] at hT h2
    rw [Bool.or_eq_true, Bool.or_eq_true] at h2
    rcases h2 with h2 | h2 | h2
    · obtain ⟨h4, h2⟩ := andB h2
      exact d_parN xo.kK xo.calm h2 hT (s_tgs xo.kK xo.nd xo.calm (xs.on _) ts _ hT hT) (mTs_len hT) (of_decide_eq_true h4) ha
    · unfold sw2 at h2
      split at h2
      · simp only [Bool.and_eq_true, decide_eq_true_eq] at h2
        obtain ⟨⟨a1, a2, a3, a4, a5⟩, a6, a7⟩ := h2
        unfold mTs at hT
        obtain ⟨_, hT⟩ := andB hT
        obtain ⟨b1, hT⟩ := andB hT
        unfold mTs at hT
        obtain ⟨_, hT⟩ := andB hT
        obtain ⟨b2, _⟩ := andB hT
        obtain ⟨_, _, e1, c1, _⟩ := name_of b1
        obtain ⟨_, _, e2, c2, _⟩ := name_of b2
        cases e1
        cases e2
        exact d_par2 xo.calm xo.nd xs.kd c1 c2 a1 a2 a3 a4 a5 hst (notB a6) (notB a7) ha
      · cases h2
    · unfold sw3 at h2
      split at h2
      · simp only [Bool.and_eq_true, decide_eq_true_eq] at h2
        obtain ⟨⟨⟨a1, a2, a3⟩, a4, a5, a6, a7, a8, a9, a10, a11⟩, a12, a13⟩ := h2
        unfold mTs at hT
        obtain ⟨_, hT⟩ := andB hT
        obtain ⟨b1, hT⟩ := andB hT
        unfold mTs at hT
        obtain ⟨_, hT⟩ := andB hT
        obtain ⟨b2, hT⟩ := andB hT
        unfold mTs at hT
        obtain ⟨_, hT⟩ := andB hT
        obtain ⟨b3, _⟩ := andB hT
        obtain ⟨_, _, e1, c1, _⟩ := name_of b1
        obtain ⟨_, _, e2, c2, _⟩ := name_of b2
        obtain ⟨_, _, e3, c3, _⟩ := name_of b3
        cases e1
        cases e2
        cases e3
        exact d_par3 xo.calm xo.nd xs.kd c1 c2 c3 a1 a2 a3 a4 a5 a6 a7 a8 a9 a10 a11 hst (notB a12) (notB a13) ha
      · cases h2
  · cases h
theorem gs_setix {i : Nat} {k v : E} : GdS Y P n N (.setix i k v) := fun X sc W xo xs tk e h => by
  unfold mS at h
  split at h
  · simp only [Bool.and_eq_true, decide_eq_true_eq] at h
    obtain ⟨⟨a1, a2, a3, a4⟩, a5, a6⟩ := h
    exact d_setix (by rw [xo.nN]; exact a1) (by rw [xo.sc]; exact a2) a3 a4 (gdE k P X sc W xo tk _ a5).pe (gdE v P X sc W xo tk _ a6).pe
  · cases h
theorem gs_app {i : Nat} {v : E} : GdS Y P n N (.app i v) := fun X sc W xo xs tk e h => by
  unfold mS at h
  split at h
  · simp only [Bool.and_eq_true, decide_eq_true_eq] at h
    obtain ⟨⟨⟨a1, a2⟩, a3, a4, a5, a6⟩, a7⟩ := h
    subst a1
    exact d_app xo.kK (by rw [xo.nN]; exact a3) (by rw [xo.sc]; exact a4) a5 a6 a2 (gdE v P X sc W xo tk _ a7).pe
  · cases h
theorem gs_exp {v : E} : GdS Y P n N (.exp v) := fun X sc W xo xs tk e h => by
  unfold mS at h
  split at h
  · obtain ⟨h1, h2⟩ := andB h
    exact d_exp h1 (gdE v P X sc W xo tk _ h2).pe
  · cases h
theorem gs_ret {v : E} : GdS Y P n N (.ret v) := fun X sc W xo xs tk e h => by
  unfold mS at h
  split at h
  · exact d_ret (gdE v P X sc W xo tk _ h).pe
  · cases h
theorem gs_retN : GdS Y P n N .retN := fun X sc W xo xs tk e h => by
  unfold mS at h
  split at h
  · exact d_retN
  · cases h
theorem gs_ifs {c : E} {a b : Ss} (ga : GdSs Y P n N a) (gb : GdSs Y P n N b) : GdS Y P n N (.ifs c a b) := fun X sc W xo xs tk e h => by
  unfold mS at h
  split at h
  · obtain ⟨h1, h2⟩ := andB h
    obtain ⟨h1, h3⟩ := andB h1
    obtain ⟨h2, h4⟩ := andB h2
    exact d_ifs ((gdE c P X sc W xo tk _ h3).pt h1) (ga X sc W xo xs tk _ h2) (gb X sc W xo xs tk _ h4)
  · cases h
theorem gs_fors {t : Tg} {it : It} {b : Ss} (gb : GdSs Y P n N b) : GdS Y P n N (.fors t it b) := fun X sc W xo xs tk e h => by
  unfold mS at h
  split at h
  · obtain ⟨h1, h2⟩ := andB h
    obtain ⟨h1, h3⟩ := andB h1
    obtain ⟨h3, h4⟩ := andB h3
    have eN := xo.nN
    have eS := xo.sc
    rw [← eN] at h3
    rw [← eS] at h3
    exact d_for xs.po xo.calm h1 (gdI it P X sc W xo tk _ _ h4) (s_tg xo.kK xo.nd xo.calm (xs.on _) t _ h3 h3) (gb X sc W xo xs tk _ h2)
  · cases h
theorem gs_whl {c : E} {b : Ss} (gb : GdSs Y P n N b) : GdS Y P n N (.whl c b) := fun X sc W xo xs tk e h => by
  unfold mS at h
  split at h
  · obtain ⟨h1, h2⟩ := andB h
    obtain ⟨h1, h3⟩ := andB h1
    exact d_whl xs.po ((gdE c P X sc W xo tk _ h3).pt h1) (gb X sc W xo xs tk _ h2)
  · cases h
theorem gs_forfn {i : Nat} {fs : List Nat} {b : Ss} (gb : GdSs Y P n N b) : GdS Y P n N (.forfn i fs b) := fun X sc W xo xs tk e h => by
  unfold mS at h
  split at h
  · rename_i tg es lp body pos
    simp only [Bool.and_eq_true, decide_eq_true_eq] at h
    obtain ⟨⟨h1, h2, h3⟩, h4⟩ := h
    have eN := xo.nN
    have eS := xo.sc
    rw [← eN] at h1
    rw [← eS] at h1
    have ha : PA X es (tGs Y W fun _ h => .ok (fs.map Val.fn) h) := by
      have := gdEs (fnEs fs) P X sc W xo tk _ h2
      refine this.imp fun σ H Q ⟨μ, ρ, h, R0, er, q⟩ => ⟨μ, ρ, h, R0, er, ?_⟩
      rw [fnEs_ev]
      exact q
    exact d_forfn xs.po xo.calm h3 ha (s_tg xo.kK xo.nd xo.calm (xs.on _) (.n i) _ h1 h1) (gb X sc W xo xs tk _ h4)
  · cases h
theorem gs_raise {c : Nat} : GdS Y P n N (.raise c) := fun X sc W xo xs tk e h => by
  unfold mS at h
  split at h
  · obtain ⟨h1, h2⟩ := andB h
    obtain ⟨h2, h3⟩ := andB h2
    obtain ⟨q1, q2, q3, q4, q5⟩ := xo.ers c _ (ersIs_of h3)
    refine (L2N.ps_raise xo.calm tk (L2N.pmk_own PySem.F.excBase_ValueError q2 q1 q3 (raises_own q4 q5) (gl_of (by rw [xo.sc]; exact h1)) (nm_of h2).1)).imp fun D σ H ⟨μ, ρ, h, R0, er, p⟩ => ?_
    exact p σ H μ R0 (.refl _ _)
  · cases h
theorem gs_nil : GdSs Y P n N .nil := fun X sc W xo xs tk e h => by
  unfold mSs at h
  split at h
  · exact d_nil
  · cases h
theorem gs_cons {s : S} {ss : Ss} (g : GdS Y P n N s) (gs : GdSs Y P n N ss) : GdSs Y P n N (.cons s ss) := fun X sc W xo xs tk e h => by
  unfold mSs at h
  split at h
  · obtain ⟨h1, h2⟩ := andB h
    exact d_cons (g X sc W xo xs tk _ h1) (gs X sc W xo xs tk _ h2)
  · cases h
mutual
theorem gdS : ∀ m : S, GdS Y P n N m
  | .pass => gs_pass
  | .brk => gs_brk
  | .cont => gs_cont
  | .set _ _ => gs_set
  | .asg _ _ => gs_asg
  | .par _ _ => gs_par
  | .setix _ _ _ => gs_setix
  | .app _ _ => gs_app
  | .exp _ => gs_exp
  | .ret _ => gs_ret
  | .retN => gs_retN
  | .ifs _ a b => gs_ifs (gdSs a) (gdSs b)
  | .fors _ _ b => gs_fors (gdSs b)
  | .whl _ b => gs_whl (gdSs b)
  | .raise _ => gs_raise
  | .forfn _ _ b => gs_forfn (gdSs b)
theorem gdSs : ∀ m : Ss, GdSs Y P n N m
  | .nil => gs_nil
  | .cons s ss => gs_cons (gdS s) (gdSs ss)
end
end

/-! ### defs -/
/-- the facts of a def, as the head gives them -/
structure DefF (K : PySem.W.Frag) (mg : Str → Option Value) (base : Heap) (Y : Ax) (G : Pg) (f : Nat) (fd : FD) : Prop where
  ex : ∃ (a : Addr) (fdat : FuncData) (qual : Str) (params : Arguments) (body : List Stmt) (scope : Scope), mg fd.name = some (.ref a) ∧ Y.fa f = some a ∧ FunD K fd.name qual params body scope [] [] a fdat ∧ Binds K fdat fd.ps [] ∧ FnScope fd.names fd.ps scope ∧ mSs G fd.names fd.body scope body = true ∧
    (G.lam fd.names = true → ∃ c T, PySem.W.codeIn K fdat.code qual = true ∧ fdat.code = .ref c ∧ LamX.TabB base mg c T ∧ (T, qual ++ ".<locals>." ++ "<lambda>") ∈ Y.tb ∧ ∀ p ∈ Y.tb, p.1 = T → p.2 = qual ++ ".<locals>." ++ "<lambda>")
/-- the module's facts, as the head gives them -/
structure ModF (P : Program) (w : World) (K : PySem.W.Frag) (mg : Str → Option Value) (base : Heap) (Y : Ax) (G : Pg) : Prop where
  kK : Y.K = K
  blt : ∀ x ∈ bltNames, mg x = none
  fns : ∀ f fd, G.fns f = some fd → DefF K mg base Y G f fd ∧ fd.np ≤ fd.names.length
  fnd : ∀ f a, Y.fa f = some a → ∃ fd, G.fns f = some fd
  bs : ∀ a, base.get? a = Y.bs a
  oki : ∀ ps b N F, Y.ok ps b N F → okF G ps b N F
  oko : ∀ ps b N F, okF G ps b N F → Y.ok ps b N F
  glo : ∀ g q, G.glo g = some q → ∃ u v, mg q.1 = some u ∧ RelV v u ∧ ∀ H μ, Rep K H μ q.2 v
  ers : ∀ c x, G.ers c = some x → mg x = some (.ref (Y.er c)) ∧ PySem.W.excIn K (Y.er c) excB "ValueError.__new__" = true ∧ PySem.W.keepIn K (.ref (Y.er c)) = true ∧ PySem.W.subIn K (.ref (Y.er c)) (.type "BaseException") = some true ∧ PySem.W.typeIn K (.ref (Y.er c)) = some (.type "type")
  tr : ∀ t k, G.trs t = true → 2 ≤ k → TryP Y G.wd t k P w K mg base
theorem start_er {Y : Ax} {H : Hp} {μ : Mu} {N : List Str} {ws : List Val} {vs : List V} (r : RepVs Y H μ ws vs) : ER Y μ H (ws.map some ++ List.replicate (N.length - vs.length) none) (L2.start N vs) := by
  have hl := rvs_len r
  have get : ∀ {ws : List Val} {vs : List V} {i : Nat} {w : Val}, RepVs Y H μ ws vs → ws[i]? = some w → ∃ v, vs[i]? = some v ∧ RepV Y H μ w v := by
    intro ws vs i w r
    induction r generalizing i with
    | nil => intro e; simp at e
    | cons r t ih =>
      intro e
      cases i with
      | zero => simp at e; subst e; exact ⟨_, rfl, r⟩
      | succ i =>
        obtain ⟨v, e1, e2⟩ := ih (i := i) (by simpa using e)
        exact ⟨v, by simpa using e1, e2⟩
  refine ⟨by unfold L2.start; simp [hl], fun i w e => ?_⟩
  unfold L2.start
  by_cases hi : i < ws.length
  · rw [List.getElem?_append_left (by simpa using hi), List.getElem?_map] at e
    cases q : ws[i]? with
    | none => rw [q] at e; cases e
    | some w' =>
      rw [q] at e
      cases e
      obtain ⟨v, e1, e2⟩ := get r q
      exact ⟨v, by rw [List.getElem?_append_left (by simp; omega), List.getElem?_map, e1] <;> rfl, e2⟩
  · rw [List.getElem?_append_right (by simpa using hi), List.getElem?_replicate] at e
    split at e <;> cases e
/-- a def of the module keeps its promise -/
def FnL (P : Program) (w : World) (K : PySem.W.Frag) (mg : Str → Option Value) (base : Heap) (Y : Ax) (G : Pg) (n : Nat) : Prop := ∀ (f : Nat) (fd : FD), G.fns f = some fd →
    ∃ a fdat, (∃ oc od osl, K.lookup a = some ⟨oc, od, .func fdat, osl⟩) ∧ mg fd.name = some (.ref a) ∧ Y.fa f = some a ∧ PySem.W.keepIn K (.ref a) = true ∧ Binds K fdat fd.ps [] ∧ FnOk P w K mg base (L2N.CX P w) (3 * n) a fdat fd.ps (spF Y G n f)
theorem nodup_at {N : List Str} (nd : N.Nodup) {i j : Nat} {y : Str} (h1 : N[i]? = some y) (h2 : N[j]? = some y) : i = j :=
  (List.getElem?_inj (List.getElem?_eq_some_iff.mp h1).1 nd).mp (h1.trans h2.symm)
theorem clo_step {P : Program} {w : World} {K : PySem.W.Frag} {mg : Str → Option Value} {base : Heap} {Y : Ax} {G : Pg} (M : ModF P w K mg base Y G) (n : Nat) (fn : FnL P w K mg base Y G n) (cn : CloP Y G n P w K mg base) : CloP Y G (n + 1) P w K mg base := by
  intro A outer s H us vs ps b ρ f Q E hr e0 hv h
  obtain ⟨μ, ws, h, R0, r, rws, p⟩ := h
  have p : Post Y (fun cls d _ H' => E cls d H') (RepV Y) [] μ H (if ws.length = ps.length ∧ (pures ws).isSome = true then (match evE (cfOf G n) b (setAll ρ ps ws) h with
      | .ok v h1 => fin false h.length v h1
      | .exc c h1 => .exc c (h1.take h.length)
      | .bad => .bad) else .bad) Q := p
  by_cases hl : ws.length = ps.length ∧ (pures ws).isSome = true
  case neg =>
    rw [if_neg hl] at p
    exact p.elim
  rw [if_pos hl] at p
  obtain ⟨hl, hpu⟩ := hl
  have r : RepW Y H μ (.clo ps b ρ) (.ref f) := r
  cases r with
  | base q => exact (show False from q).elim
  | @clo _ _ _ _ _ _ F N σ c inner =>
  obtain ⟨⟨sc, lc⟩, mb, nd⟩ := M.oki _ _ _ _ c.ok
  have LK := lamC_ok lc
  obtain ⟨pm, ctv, hfo⟩ := lm_of e0.hok (fun a o q => (e0.bs a o (by rw [M.bs]; exact q)).1) c
  obtain ⟨⟨oc, us', tk, g1, g2, g3⟩, _, _⟩ := e0.hok F.c _ c.co
  have lim : s.heap.NoLimit := e0.mod.nolimit.keeps fun b o e => (e0.bs b o e).1
  -- the captured cells stand aside
  obtain ⟨Fc, hF1, hF2⟩ : ∃ Fc : Hp, (∀ c, MP.cellD Y F.cl c → Fc c = H c) ∧ ∀ c, ¬ MP.cellD Y F.cl c → Fc c = none := by
    classical
    exact ⟨fun c => if MP.cellD Y F.cl c then H c else none, fun c h => if_pos h, fun c h => if_neg h⟩
  have inD : ∀ b x, Fc b = some x → MP.cellD Y F.cl b ∧ H b = some x := fun b x e => by
    by_cases h : MP.cellD Y F.cl b
    · rw [hF1 b h] at e
      exact ⟨h, e⟩
    · rw [hF2 b h] at e
      cases e
  have inF : InF Fc H := fun b x e => (inD b x e).2
  have ownF : ∀ b x, Fc b = some x → ∃ o, x = .frz o (.own b) := fun b x e => by
    obtain ⟨⟨⟨y, hy⟩, hb⟩, e2⟩ := inD b x e
    obtain ⟨o, v, ca, _⟩ := c.cell y b hy
    rcases ca with ⟨_, _, z⟩ | z
    · rw [e2] at z
      exact ⟨o, Option.some.inj z⟩
    · rw [hb] at z
      cases z
  have fz : FrzF P w Fc s.heap := fun b x e => by
    obtain ⟨o, rfl⟩ := ownF b x e
    exact ⟨o, _, rfl, fun xs z => (nomatch z), (show ObjOk P w H s.heap b (.frz o (.own b)) from e0.hok b _ (inF b _ e)).1, fun H' h' e' => ⟨o, e'⟩⟩
  have sub : subH Y F.cl H = del H Fc := by
    funext b
    unfold subH
    by_cases h : MP.cellD Y F.cl b
    · rw [if_pos h]
      cases q : H b with
      | none => exact (del_none q).symm
      | some x => exact (del_in (by rw [hF1 b h]; exact q)).symm
    · rw [if_neg h, del_out (hF2 b h)]
  have e1 := env0_del e0 fz inF
  have cells : ∀ y c', F.cl.lookup y = some c' → del H Fc c' = none ∧ ∃ o v, s.heap.get? c' = some o ∧ o.data = .cell v ∧ ∀ (i : Nat) (x : V), N[i]? = some y → σ[i]? = some (some x) → ∃ u, v = some u ∧ RelV x u := fun y c' hy => by
    obtain ⟨o, v, ca, hd, hv⟩ := c.cell y c' hy
    rcases ca with ⟨hb, _, z⟩ | z
    · have hD : MP.cellD Y F.cl c' := ⟨⟨y, hy⟩, hb⟩
      exact ⟨del_in (by rw [hF1 c' hD]; exact z), o, v, (show ObjOk P w H s.heap c' (.frz o (.own c')) from e0.hok c' _ z).1, hd, hv⟩
    · have z2 := e0.bs c' o (by rw [M.bs]; exact z)
      exact ⟨del_none z2.2, o, v, z2.1, hd, hv⟩
  have hul : us.length = F.params.args.length := by
    have l1 := hv.length
    have l2 := rvs_len rws
    have l3 := congrArg List.length LK.at_
    rw [List.length_map, List.length_map] at l3
    omega
  have ndp : (F.params.args.map (·.arg)).Nodup := by
    have l1 := LK.one
    match F.params.args, l1 with
    | [], _ => exact .nil
    | [a], _ => simp
    | _ :: _ :: _, l1 => simp at l1
  refine PySem.W.kla_callFunE hr.depth hfo rfl LK.co LK.gen rfl ⟨F.c, oc, us', tk, rfl, g1, g2, g3⟩ ?_
  have bnd := lam_bind (qual := F.qual) (as := F.params.args) (body := F.body) (scope := F.scope) (cl := F.cl) (pm := pm) (cdv := .ref F.c) (ct := ctv) (us := us) hul ndp
  rw [← LK.par] at bnd
  rw [bnd]
  refine wpAny_pure (wpAny_newFunctionEnv LK.cel (fun y hy => ?_) (fun hp ns sb => ⟨lim.fresh _ sb, ?_⟩) LK.kind)
  · obtain ⟨y1, y2⟩ := y
    have := (List.of_mem_zip hy).1
    obtain ⟨a, ha, rfl⟩ := List.mem_map.mp this
    exact LK.pl a ha
  have kept : ∀ a u, s.heap.get? a = some u → hp.get? a = some u := fun a u z => sb.extBut a u (Nat.ne_of_lt (Heap.lt_size z)) (Heap.get?_push_of_some _ z)
  have ER0 : ER Y μ (del H Fc) ρ σ := ⟨c.len, fun i w hw => by
    obtain ⟨v, hv⟩ := c.val i w hw
    exact ⟨v, hv, by rw [← sub]; exact (inner i w v hw hv).v⟩⟩
  have rws2 : RepVs Y (del H Fc) μ ws vs := pures_data (keep_del fz inF) hpu rws
  have ER1 := er_setAll (ps := ps) ER0 rws2
  have hs := ER1.len
  -- the names
  have loc : ∀ (i : Nat) (y : Str) (v : V), N[i]? = some y → (setAllV σ ps vs)[i]? = some (some v) → Vis F.scope y → ∃ u, RelV v u ∧ Look (cloEnv F s.heap.objs.size f) hp (fun x => ((F.params.args.map (·.arg)).zip us).reverse.lookup x) y u := by
    intro i y v ei ev vis
    have free : F.scope.names.lookup y = some .free → σ[i]? = some (some v) → ∃ u, RelV v u ∧ Look (cloEnv F s.heap.objs.size f) hp (fun x => ((F.params.args.map (·.arg)).zip us).reverse.lookup x) y u := fun hy es => by
      obtain ⟨c', hc⟩ := c.has y hy
      obtain ⟨_, o, v', ho, hd, hv'⟩ := cells y c' hc
      obtain ⟨u, rfl, r⟩ := hv' i v ei es
      exact ⟨u, r, .inr ⟨.inr hy, c', hc, o, kept _ _ ho, hd⟩⟩
    have l1 := LK.one
    have l3 := LK.at_
    have pl := LK.pl
    have lo := LK.loc
    have l2 := rvs_len rws
    generalize F.params.args = as at *
    match as, l1 with
    | [], _ =>
      have : ps = [] := by simpa using l3
      subst this
      have ev : σ[i]? = some (some v) := ev
      rcases vis with k | k | k
      · have := lo y k
        simp at this
      · exact absurd rfl (LK.cel _ (PySem.mem_of_lookup k))
      · exact free k ev
    | [a], _ =>
      match ps, l3, hl with
      | [p0], l3, hl =>
        have l3 : N[p0]? = some a.arg := by simpa using l3
        match us, hul with
        | [u0], _ =>
          cases hv with
          | cons rv rt =>
            cases rt
            rename_i v0
            have ev : (σ.set p0 (some v0))[i]? = some (some v) := ev
            rcases vis with k | k | k
            · have hy := lo y k
              simp at hy
              subst hy
              have hi := nodup_at nd ei l3
              subst hi
              have hlt : i < σ.length := by
                rw [c.lenN]
                exact (List.getElem?_eq_some_iff.mp ei).1
              rw [List.getElem?_set_self hlt] at ev
              cases ev
              exact ⟨u0, rv, .inl ⟨k, by simp⟩⟩
            · exact absurd rfl (LK.cel _ (PySem.mem_of_lookup k))
            · have hne : i ≠ p0 := fun z => by
                subst z
                rw [l3] at ei
                cases ei
                rw [pl a List.mem_cons_self] at k
                cases k
              rw [List.getElem?_set_ne (Ne.symm hne)] at ev
              exact free k ev
      | [], l4, hl => exact absurd (congrArg List.length l4) (by simp)
      | _ :: _ :: _, l4, hl => exact absurd (congrArg List.length l4) (by simp)
    | _ :: _ :: _, l1 => simp at l1
  have J := clo_inv (N := N) (E := fun cls d H2 => OutF Fc H2 → E cls d (ovl H2 Fc)) (tk := s.toks + ((F.params.args.map (·.arg)).zip us).length) e1 hr.hd LK.kind c.inj c.has LK.cel (fun y c' hy => ⟨(cells y c' hy).1, let ⟨_, o, v, ho, hd, _⟩ := cells y c' hy; ⟨v, o, ho, hd⟩⟩) ns kept loc (by
    have h1 : (setAll ρ ps ws).length = ρ.length := by
      have : ∀ (ps : List Nat) (ws : List Val) (ρ : En), (setAll ρ ps ws).length = ρ.length := by
        intro ps
        induction ps with
        | nil =>
          intro ws ρ
          unfold setAll
          rfl
        | cons p ps ih =>
          intro ws ρ
          cases ws with
          | nil =>
            unfold setAll
            rfl
          | cons w ws =>
            unfold setAll
            rw [ih, List.length_set]
      exact this ps ws ρ
    rw [← hs, h1, c.len, c.lenN])
  have xo : XOk Y G.nol n N F.scope (cloCx P w K mg base N F f A outer s (del H Fc) (fun cls d H2 => OutF Fc H2 → E cls d (ovl H2 Fc))) :=
    ⟨M.kK, rfl, nd, rfl, rfl, ((Room.deeper (k := 3 * n + 2) (hr.mono (by omega)) _).mono (by omega)), M.blt, fun f' fd' hf' => let ⟨a, fdat, _, r⟩ := fn f' fd' hf'; ⟨a, fdat, r⟩, M.glo, M.fnd, M.bs, fun z => (nomatch z), cn, M.ers, fun _ _ z => (nomatch z), fun z => (nomatch z), fun z => (nomatch z)⟩
  have pe := (gdE b G.nol _ _ _ xo cloCx_takes F.body mb).pe
  have z := pe.run [] _ _ (del H Fc) (fun v H2 => OutF Fc H2 → Q v (ovl H2 Fc)) J ⟨μ, _, h, R0.del fz inF, ER1, by
    cases q : evE (cfOf G n) b (setAll ρ ps ws) h with
    | bad => rw [q] at p; exact p
    | exc k h1 =>
      rw [q] at p
      intro H2 μ2 R2 x2 o2
      exact p (ovl H2 Fc) _ ((R2.ovl o2).1.upto _) (by rw [← R0.len]; exact (ext_del inF R2 o2 x2).upto)
    | ok v h1 =>
      rw [q] at p
      intro v' H2 μ2 R2 x2 rv o2
      exact fin_ok R0.len (R2.ovl o2).1 (ext_del inF R2 o2 x2) (rv.ext (R2.ovl o2).2) p⟩
  refine PySem.W.kla_codeExpr (wpAny_mono z (fun v s2 h2 => ?_) fun e s2 h2 => ?_)
  · obtain ⟨x, H2, J2, rv, k⟩ := h2
    exact ce_del (Q' := fun v H2 => OutF Fc H2 → Q v (ovl H2 Fc)) e0 fz inF ⟨x, H2, J2.os, J2.bare, J2.base, J2.hok, rv, k⟩ fun v H2 o2 q => q o2
  · exact wpAny_mono h2 (fun _ s3 q => cx_del (E' := fun cls d H2 => OutF Fc H2 → E cls d (ovl H2 Fc)) e0 fz inF q fun cls d H2 o2 q => q o2) fun _ s3 q => cx_del (E' := fun cls d H2 => OutF Fc H2 → E cls d (ovl H2 Fc)) e0 fz inF q fun cls d H2 o2 q => q o2
theorem fn_0 {P : Program} {w : World} {K : PySem.W.Frag} {mg : Str → Option Value} {base : Heap} {Y : Ax} {G : Pg} (M : ModF P w K mg base Y G) : FnL P w K mg base Y G 0 := fun f fd hf => by
    obtain ⟨⟨a, fdat, qual, params, body, scope, h1, h2, h3, h4, h5, h6, h8⟩, h7⟩ := M.fns f fd hf
    refine ⟨a, fdat, (let ⟨oc, od, _, _, _, _, _, _, _, osl, _, lk, _⟩ := h3.ex; ⟨oc, od, osl, lk⟩), h1, h2, h3.kp, h4, ⟨fun vs H Q E h => ?_, fun A outer s H args us vs Q E _ _ _ _ h => ?_⟩⟩
    · obtain ⟨_, _, _, _, _, p⟩ := h
      exact p.elim
    · obtain ⟨_, _, _, _, _, p⟩ := h
      exact p.elim
theorem fn_step {P : Program} {w : World} {K : PySem.W.Frag} {mg : Str → Option Value} {base : Heap} {Y : Ax} {G : Pg} (M : ModF P w K mg base Y G) (n : Nat) (fn : FnL P w K mg base Y G n) (cn : CloP Y G n P w K mg base) : FnL P w K mg base Y G (n + 1) := fun f fd hf => by
    obtain ⟨⟨a, fdat, qual, params, body, scope, h1, h2, h3, h4, h5, h6, h8⟩, h7⟩ := M.fns f fd hf
    have key : ∀ {vs : List V} {H : Hp} {Q : VK} {E : XK}, spF Y G (n + 1) f vs H Q E → ∃ μ ws hh, HR Y μ hh H ∧ RepVs Y H μ ws vs ∧ ws.length = fd.np ∧ Post Y (fun cls d _ H' => E cls d H') (RepV Y) [] μ H (match evSs (cfOf G n) fd.body (ws.map some ++ List.replicate (fd.names.length - fd.np) none) hh with
        | .rt v h1 => fin fd.keeps hh.length v h1
        | .nx _ h1 => fin fd.keeps hh.length (.d .none) h1
        | .exc c h1 => .exc c (h1.take hh.length)
        | _ => .bad) Q := fun {vs H Q E} h => by
      obtain ⟨μ, ws, hh, R0, r, p⟩ := h
      have p : Post Y (fun cls d _ H' => E cls d H') (RepV Y) [] μ H (match G.fns f with
        | none => .bad
        | some fd => if ws.length = fd.np then (match evSs (cfOf G n) fd.body (ws.map some ++ List.replicate (fd.names.length - fd.np) none) hh with
          | .rt v h1 => fin fd.keeps hh.length v h1
          | .nx _ h1 => fin fd.keeps hh.length (.d .none) h1
          | .exc c h1 => .exc c (h1.take hh.length)
          | _ => .bad) else .bad) Q := p
      rw [hf] at p
      have p : Post Y (fun cls d _ H' => E cls d H') (RepV Y) [] μ H (if ws.length = fd.np then (match evSs (cfOf G n) fd.body (ws.map some ++ List.replicate (fd.names.length - fd.np) none) hh with
          | .rt v h1 => fin fd.keeps hh.length v h1
          | .nx _ h1 => fin fd.keeps hh.length (.d .none) h1
          | .exc c h1 => .exc c (h1.take hh.length)
          | _ => .bad) else .bad) Q := p
      by_cases c : ws.length = fd.np
      · rw [if_pos c] at p
        exact ⟨μ, ws, hh, R0, r, c, p⟩
      · rw [if_neg c] at p
        exact p.elim
    obtain ⟨oc, od, dV, kV, doc, pm, an, cdv, ct, osl, rfl, lk, hcd, _, _⟩ := h3.ex
    refine ⟨a, _, ⟨oc, od, osl, lk⟩, h1, h2, h3.kp, h4, fn_of (k := 3 * n + 2) lk hcd h5 (fun vs H Q E h => ?_) fun A outer s H vs Q E hr h => ?_⟩
    · obtain ⟨μ, ws, hh, R0, r, c, p⟩ := key h
      have hl := rvs_len r
      unfold FD.ps
      rw [List.length_take]
      omega
    · obtain ⟨μ, ws, hh, R0, r, c, p⟩ := key h
      have hl := rvs_len r
      have xo : XOk Y G n fd.names scope (cxOf (L2N.CX P w) P w K mg base fd.names qual scope a cdv A outer s H E) := ⟨M.kK, rfl, h5.nd, rfl, rfl, hr.mono (by omega), M.blt, fun f' fd' hf' => let ⟨a, fdat, _, r⟩ := fn f' fd' hf'; ⟨a, fdat, r⟩, M.glo, M.fnd, M.bs, fun hlam => ⟨hr, ?_⟩, cn, M.ers, fun t ht _ => M.tr t _ ht (by omega), fun _ _ _ => rfl, fun _ ps b F => M.oko ps b fd.names F⟩
      · have xs : XSt (cxOf (L2N.CX P w) P w K mg base fd.names qual scope a cdv A outer s H E) := ⟨passes_of rfl, fun _ => rfl, h5.kind⟩
        have tk : L2N.Takes (cxOf (L2N.CX P w) P w K mg base fd.names qual scope a cdv A outer s H E) (fun cls d _ H => E cls d H) := L2N.takes_of rfl rfl rfl rfl
        refine ⟨_, gdSs fd.body _ scope _ xo xs tk body h6, μ, _, hh, R0, start_er (N := fd.names) r, ?_⟩
        rw [← hl, c]
        cases q : evSs (cfOf G n) fd.body (ws.map some ++ List.replicate (fd.names.length - fd.np) none) hh with
        | nx ρ1 g1 =>
          rw [q] at p
          exact fun σ' H' μ' R1 e1 _ => fin_ok (w := .d .none) R0.len R1 e1 Rep.non p
        | rt v g1 =>
          rw [q] at p
          exact fun v' H' μ' R1 e1 rv => fin_ok R0.len R1 e1 rv p
        | exc c g1 =>
          rw [q] at p
          refine fun σ' H' μ' R1 e1 => p H' _ (R1.upto _) ?_
          rw [← R0.len]
          exact e1.upto
        | bk _ _ => rw [q] at p; exact p.elim
        | ct _ _ => rw [q] at p; exact p.elim
        | bad => rw [q] at p; exact p.elim
      · obtain ⟨c, T, _, q1, q2, q3, q4⟩ := h8 hlam
        exact ⟨c, T, q1, q2, q3, q4⟩
theorem clo_0 {P : Program} {w : World} {K : PySem.W.Frag} {mg : Str → Option Value} {base : Heap} {Y : Ax} {G : Pg} : CloP Y G 0 P w K mg base := by
  intro A outer s H us vs ps b ρ f Q E _ _ _ h
  obtain ⟨_, _, _, _, _, _, p⟩ := h
  exact p.elim
theorem all_okL {P : Program} {w : World} {K : PySem.W.Frag} {mg : Str → Option Value} {base : Heap} {Y : Ax} {G : Pg} (M : ModF P w K mg base Y G) : ∀ n : Nat, FnL P w K mg base Y G n ∧ CloP Y G n P w K mg base
  | 0 => ⟨fn_0 M, clo_0⟩
  | n + 1 => ⟨fn_step M n (all_okL M n).1 (all_okL M n).2, clo_step M n (all_okL M n).1 (all_okL M n).2⟩
theorem fn_okL {P : Program} {w : World} {K : PySem.W.Frag} {mg : Str → Option Value} {base : Heap} {Y : Ax} {G : Pg} (M : ModF P w K mg base Y G) (n : Nat) : FnL P w K mg base Y G n := (all_okL M n).1
end MP
end
section
set_option Elab.async false
set_option linter.all false
set_option autoImplicit false
set_option maxRecDepth 100000
set_option maxHeartbeats 4000000
/-! Mini: from what the head tells to the law. -/
namespace MP
open PySem PySem.Spec PyProof.Rows L2

/-! ### the module's constants -/
def dvOf : PyData → He.Dv
  | .bool b => .bl b
  | .int i => .int i
  | .str x => .str x
  | _ => .non
def flatB : PyData → Bool
  | .none => true
  | .bool _ => true
  | .int _ => true
  | .str _ => true
  | _ => false
def gloB (K : PySem.W.Frag) (q : Str × PyData) : Bool := match q.2 with
  | .int i => (He.Fa.int q.1 i).ok K
  | .tuple ps => (He.Fa.glo q.1).ok K && (ps.all flatB && He.tupB K q.1 (ps.map dvOf))
  | _ => false
theorem reps_flat {K : PySem.W.Frag} {H : Hp} {μ : Mu} : ∀ {ps : List PyData}, ps.all flatB = true → Reps K H μ ps ((ps.map dvOf).map (He.Dv.v K))
  | [], _ => .nil
  | p :: ps, h => by
    rw [List.all_cons, Bool.and_eq_true] at h
    refine .cons ?_ (reps_flat h.2)
    cases p <;> first | exact .non | exact .bl _ | exact .int _ | exact .str _ | cases h.1
theorem gloB_ok {K : PySem.W.Frag} {h : Heap} {mg : Str → Option Value} {q : Str × PyData} (X : K.In h) (G : h.Ns mainGlobals mg) (c : gloB K q = true) : ∃ u v, mg q.1 = some u ∧ RelV v u ∧ ∀ H μ, Rep K H μ q.2 v := by
  obtain ⟨x, p⟩ := q
  unfold gloB at c
  cases p with
  | int i =>
    obtain ⟨t, e⟩ := He.int_ok X G c
    exact ⟨_, .int i, e, ⟨t, rfl⟩, fun _ _ => .int i⟩
  | tuple ps =>
    have c : ((He.Fa.glo x).ok K && (ps.all flatB && He.tupB K x (ps.map dvOf))) = true := c
    rw [Bool.and_eq_true, Bool.and_eq_true] at c
    refine ⟨_, .ref (He.ga K x), He.glo_ok X G c.1, rfl, fun H μ => .tup (.inr ?_) (reps_flat c.2.1)⟩
    rcases He.tupB_ok c.2.2 (fun _ => none) with h | h
    · rcases h with h | ⟨_, h⟩ <;> cases h
    · exact h
  | _ => cases c
/-! ### the error classes -/
def excCB (K : PySem.W.Frag) (D : Addr) : Bool :=
  (decide (PySem.W.findIn K (.ref D) "__getattribute__" = some (some (.builtin "BaseException.__getattribute__"))) && (decide (PySem.W.findIn K (.ref D) "__getattr__" = some none) && (decide (PySem.W.subIn K (.ref D) (.type "BaseException") = some true) && PySem.W.hasDictIn K D))) &&
  (decide (PySem.W.findIn K (.ref D) "__class__" = some (some (.builtin "object.__class__"))) && (decide (PySem.W.specialIn K (.builtin "object.__class__") "__get__" = some (some (.builtin "getset_descriptor.__get__"))) && (decide (PySem.W.takesIn K (.builtin "object.__class__") = some true) && decide (PySem.W.mroIn K D (.type "object") = some true))))
theorem excCB_ok {K : PySem.W.Frag} {D : Addr} (h : excCB K D = true) : ExcC K D := by
  unfold excCB at h
  simp only [Bool.and_eq_true, decide_eq_true_eq] at h
  obtain ⟨⟨a1, a2, a3, a4⟩, a5, a6, a7, a8⟩ := h
  exact ⟨a1, a2, a3, a4, a5, a6, a7, a8⟩
abbrev erA (K : PySem.W.Frag) (k : Nat) : Addr := He.ga K (en k)
def ks : List Nat := [1, 2, 3, 4, 5, 6, 7, 8, 9]
theorem mem_ks {k : Nat} (h1 : 1 ≤ k) (h9 : k ≤ 9) : k ∈ ks := by
  have : k = 1 ∨ k = 2 ∨ k = 3 ∨ k = 4 ∨ k = 5 ∨ k = 6 ∨ k = 7 ∨ k = 8 ∨ k = 9 := by omega
  rcases this with rfl | rfl | rfl | rfl | rfl | rfl | rfl | rfl | rfl <;> decide
def errB (K : PySem.W.Frag) : Bool := ks.all fun k => excCB K (erA K k) && ((ks.all fun j => decide (PySem.W.kitOne K (.ref (erA K k)) (.ref (erA K j)) = some (decide (j = k)))) && (decide (PySem.W.kitOne K (.ref (erA K k)) (.type "ValueError") = some true) && decide (PySem.W.exmOne K (.ref (erA K k)) (.ref (erA K 0)) = some true)))
theorem errB_ok {K : PySem.W.Frag} {mg : Str → Option Value} (h : errB K = true) (hm : ∀ j, j < 10 → mg (en j) = some (.ref (erA K j))) : ErF K mg (erA K) := by
  unfold errB at h
  rw [List.all_eq_true] at h
  have one := fun k h1 h9 => h k (mem_ks (k := k) h1 h9)
  simp only [Bool.and_eq_true, decide_eq_true_eq, List.all_eq_true] at one
  exact ⟨hm, fun k h1 h9 => excCB_ok (one k h1 h9).1, fun k j h1 h9 j1 j9 => (one k h1 h9).2.1 j (mem_ks j1 j9), fun k h1 h9 => (one k h1 h9).2.2.1, fun k h1 h9 => (one k h1 h9).2.2.2⟩
/-! ### the defs -/
def plainPar (a : Arguments) (ps : List Str) : Bool := (match a.posonlyargs, a.vararg, a.kwonlyargs, a.kw_defaults, a.kwarg, a.defaults with
  | [], none, [], [], none, [] => true
  | _, _, _, _, _, _ => false) && (decide (a.args.map (·.arg) = ps) && decide (a.args.length ≤ 8))
theorem plain_bind0 {x qual : Str} {as : List Arg} {body : List Stmt} {scope : Scope} (kV doc pm : Value) (an : Option Addr) (cdv ct : Value) (us : List Value) (hl : us.length = as.length) (nd : (as.map (·.arg)).Nodup) :
    bindArgs (PySem.W.fnOf x qual ⟨[], as, none, [], [], none, []⟩ body scope .none kV doc pm an cdv ct) ⟨us, []⟩ = pure ((as.map (·.arg)).zip us) := by
  have hl2 : us.length = (as.map (·.arg)).length := by rw [List.length_map]; exact hl
  have miss : ((as.map (·.arg)).filter fun n => (((as.map (·.arg)).zip us).lookup n).isNone) = [] := List.filter_eq_nil_iff.mpr fun n hn => by rw [zip_has hl2 n hn]; decide
  have all := zip_all nd hl2
  have lt : (decide (us.length > (as.map (·.arg)).length)) = false := decide_eq_false (by omega)
  have n0 : notAStandIn Value.none = pure () := rfl
  unfold bindArgs PySem.W.fnOf
  simp only [List.map_nil, List.nil_append, List.forIn_nil, pure_bind, seqItems?, List.length_nil, List.drop_nil, Nat.sub_zero, List.zip_nil_right, n0, lt, Bool.false_and, Option.getD_none, List.append_nil]
  generalize as.map (·.arg) = ns at *
  rw [List.take_length, miss]
  simp only [List.isEmpty_nil, Bool.not_true, Bool.false_eq_true, if_false]
  rw [all]
theorem plain_bind {x qual : Str} {a : Arguments} {ps : List Str} {body : List Stmt} {scope : Scope} (h : plainPar a ps = true) (nd : ps.Nodup) (kV doc pm : Value) (an : Option Addr) (cdv ct : Value) (us : List Value) (hl : us.length = ps.length) :
    bindArgs (PySem.W.fnOf x qual a body scope .none kV doc pm an cdv ct) ⟨us, []⟩ = pure (ps.zip us) := by
  obtain ⟨a1, a2, a3, a4, a5, a6, a7⟩ := a
  unfold plainPar at h
  rw [Bool.and_eq_true, Bool.and_eq_true] at h
  obtain ⟨h1, h2, _⟩ := h
  have h4 := of_decide_eq_true h2
  dsimp only at h1 h4
  clear h2
  split at h1
  · subst h4
    exact plain_bind0 kV doc pm an cdv ct us (by rw [hl, List.length_map]) nd
  · cases h1
def fnScB (N ps : List Str) (sc : Scope) : Bool :=
  (match sc.kind with | .function => true | _ => false) && (!sc.isCoroutine && (!sc.isGenerator && (decide N.Nodup && (decide (N.take ps.length = ps) && ((ps.all fun x => match sc.names.lookup x with | some .local => true | some .cell => true | _ => false) && sc.names.all fun y => match y.2 with | .free => false | _ => true)))))
theorem fnScB_ok {N ps : List Str} {sc : Scope} (h : fnScB N ps sc = true) : FnScope N ps sc := by
  unfold fnScB at h
  simp only [Bool.and_eq_true, Bool.not_eq_true', decide_eq_true_eq, List.all_eq_true] at h
  obtain ⟨h1, h2, h3, h4, h5, h6, h7⟩ := h
  refine ⟨?_, h2, h3, h4, h5, fun x hx => ?_, fun y hy e => ?_⟩
  · split at h1
    · assumption
    · cases h1
  · have q := h6 x hx
    split at q <;> first | exact .inl (by assumption) | exact .inr (by assumption) | cases q
  · have q := h7 y hy
    rw [e] at q
    cases q
/-- a def of the language and where it stands -/
abbrev Pd := Nat × FD × He.DefD
def okP (G : Pg) (q : Pd) : Bool := (decide (q.2.2.name = q.2.1.name) && (decide (q.2.2.at_ = (q.2.1.name, none)) && (decide (q.2.2.qual = q.2.1.name) && ((match q.2.2.dfl, q.2.2.kwd with | [], [] => true | _, _ => false) && plainPar q.2.2.params q.2.1.ps)))) && (decide (q.2.1.np ≤ q.2.1.names.length) && (fnScB q.2.1.names q.2.1.ps q.2.2.scope && mSs G q.2.1.names q.2.1.body q.2.2.scope q.2.2.body))

/-! ### all together -/
structure Pack where
  G : Pg
  ps : List Pd
  gl : List (Nat × (Str × PyData))
  es : List Nat
  tf : List He.Defn
/-- the tables' entries -/
abbrev Pack.tbl (p : Pack) (K : PySem.W.Frag) : List (Addr × Str) := p.tf.map fun q => ((He.cT K q).2, q.1 ++ ".<locals>." ++ "<lambda>")
def Pack.ax (p : Pack) (K : PySem.W.Frag) (base : Heap) : Ax := ⟨K, fun f => (p.ps.lookup f).map fun q => He.fAd K q.2.at_, fun _ => 0, erA K, base.get?, p.tbl K, okF p.G⟩
/-- what is looked at besides -/
def Pack.ex (p : Pack) (K : PySem.W.Frag) : Bool := p.gl.all (fun q => gloB K q.2) && (errB K && decide ((p.tf.map fun q => (He.cT K q).2).Nodup))
/-- what must be so of the text alone -/
structure Pack.Ok (p : Pack) : Prop where
  fns : ∀ f fd, p.G.fns f = some fd → ∃ d, p.ps.lookup f = some (fd, d)
  fnd : ∀ f q, p.ps.lookup f = some q → p.G.fns f = some q.1
  ok : p.ps.all (fun q => okP p.G q && (!p.G.lam q.2.1.names || decide ((q.2.1.name, none) ∈ p.tf))) = true
  glo : ∀ g q, p.G.glo g = some q → (g, q) ∈ p.gl
  ers : ∀ c x, p.G.ers c = some x → c < 10 ∧ x = en c
  wd : p.G.wd = ewd
  tf : ∀ q ∈ p.tf, q.2 = none
/-- what the head's list of facts must hold -/
structure Pack.Fa (p : Pack) (fa : List He.Fa) (fn : List He.DefD) : Prop where
  def_ : ∀ q ∈ p.ps, q.2.2 ∈ fn ∧ He.Fa.glo q.2.1.name ∈ fa
  en : ∀ j, j < 10 → He.Fa.glo (en j) ∈ fa ∧ He.Fa.exc (MP.en j) ∈ fa
  blt : ∀ x ∈ bltNames, He.Fa.free x ∈ fa
theorem lookup_in {α : Type} {f : Nat} {q : α} : ∀ {l : List (Nat × α)}, l.lookup f = some q → (f, q) ∈ l
  | [], h => by cases h
  | (k, v) :: r, h => by
    rw [List.lookup_cons] at h
    cases e : f == k with
    | true =>
      rw [e] at h
      cases h
      rw [eq_of_beq e]
      exact List.mem_cons_self
    | false =>
      rw [e] at h
      exact List.mem_cons_of_mem _ (lookup_in h)
section
variable {p : Pack} {P : Program} {w : World} {K : PySem.W.Frag} {h base : Heap} {mg : Str → Option Value} {fa : List He.Fa} {fn : List He.DefD}
theorem mod_of (O : p.Ok) (Fp : p.Fa fa fn) (S : He.SaysX fa fn [] p.tf p.ex w h K) (KX : K.In h) (G : h.Ns mainGlobals mg) (TB : ∀ q ∈ p.tf, LamX.TabB base mg (He.cT K q).1 (He.cT K q).2) (tr : ∀ t k, p.G.trs t = true → 2 ≤ k → TryP (p.ax K base) ewd t k P w K mg base) : ModF P w K mg base (p.ax K base) p.G := by
  have SD := S.t.d
  have more := S.more
  unfold Pack.ex at more
  simp only [Bool.and_eq_true, decide_eq_true_eq, List.all_eq_true] at more
  obtain ⟨m1, m2, m3⟩ := more
  refine ⟨rfl, fun x hx => He.free_ok KX G (SD.facts (Fp.blt x hx)), fun f fd hf => ?_, fun f a ha => ?_, fun _ => rfl, fun _ _ _ _ z => z, fun _ _ _ _ z => z, fun g q hg => gloB_ok KX G (m1 _ (O.glo g q hg)), fun c x hc => ?_, fun t k ht hk => by rw [O.wd]; exact tr t k ht hk⟩
  · obtain ⟨d, hd⟩ := O.fns f fd hf
    have hm := lookup_in hd
    have hok := List.all_eq_true.mp O.ok _ hm
    unfold okP at hok
    simp only [Bool.and_eq_true, decide_eq_true_eq, Bool.or_eq_true, Bool.not_eq_true'] at hok
    obtain ⟨⟨⟨a1, a2, a3, a4, a5⟩, b1, b2, b3⟩, c1⟩ := hok
    obtain ⟨f1, f2⟩ := Fp.def_ _ hm
    obtain ⟨fdat, F⟩ := SD.defs f1
    have e1 : d.dvs K = [] ∧ d.kws K = [] := by
      unfold He.DefD.dvs He.DefD.kws
      split at a4
      · rename_i z1 z2
        have z1 : d.dfl = [] := z1
        have z2 : d.kwd = [] := z2
        rw [z1, z2]
        exact ⟨rfl, rfl⟩
      · cases a4
    have F : FunD K d.name d.qual d.params d.body d.scope (d.dvs K) (d.kws K) (He.fAd K d.at_) fdat := F
    rw [e1.1, e1.2] at F
    have a1 : d.name = fd.name := a1
    have a2 : d.at_ = (fd.name, none) := a2
    have a3 : d.qual = fd.name := a3
    rw [a1, a3] at F
    have hB : Binds K fdat fd.ps [] := FunD.bindsN (ps := fd.ps) F fun kV doc pm an cdv ct us hl => plain_bind a5 (by have q := (fnScB_ok b2); rw [← q.pre]; exact q.nd.sublist (List.take_sublist _ _)) kV doc pm an cdv ct us hl
    have adr : He.fAd K d.at_ = He.ga K fd.name := by rw [a2] <;> rfl
    refine ⟨⟨He.fAd K d.at_, fdat, fd.name, d.params, d.body, d.scope, ?_, ?_, F, hB, fnScB_ok b2, b3, fun hl => ?_⟩, b1⟩
    · rw [adr]
      exact He.glo_ok KX G (SD.facts f2)
    · show (p.ps.lookup f).map (fun q => He.fAd K q.2.at_) = _
      rw [hd] <;> rfl
    · have hin : (fd.name, none) ∈ p.tf := by
        rcases c1 with c1 | c1
        · rw [hl] at c1
          cases c1
        · exact c1
      obtain ⟨oc, od, dV, kV, doc, pm, an, cdv, ct, osl, rfl, lk, hcd, _, _⟩ := F.ex
      obtain ⟨c, rfl⟩ := He.codeIn_ref hcd
      have ec : (He.cT K (fd.name, none)).1 = c := by
        rw [a2] at lk
        exact He.codeOf_eq lk rfl
      refine ⟨c, (He.cT K (fd.name, none)).2, hcd, rfl, ?_, List.mem_map.mpr ⟨_, hin, rfl⟩, fun z hz e => ?_⟩
      · rw [← ec]
        exact TB _ hin
      · obtain ⟨y, hy, rfl⟩ := List.mem_map.mp hz
        have key : ∀ {l : List He.Defn} {x y : He.Defn}, (l.map fun q => (He.cT K q).2).Nodup → x ∈ l → y ∈ l → (He.cT K x).2 = (He.cT K y).2 → x = y := by
          intro l
          induction l with
          | nil => intro x y _ h _ _; cases h
          | cons a l ih =>
            intro x y nd hx hy e
            rw [List.map_cons, List.nodup_cons] at nd
            rcases List.mem_cons.mp hx with hx1 | hx1 <;> rcases List.mem_cons.mp hy with hy1 | hy1
            · rw [hx1, hy1]
            · rw [hx1] at e
              exact absurd (List.mem_map.mpr ⟨y, hy1, e.symm⟩) nd.1
            · rw [hy1] at e
              exact absurd (List.mem_map.mpr ⟨x, hx1, e⟩) nd.1
            · exact ih nd.2 hx1 hy1 e
        have := key m3 hy hin e
        rw [this]
  · have ha : (p.ps.lookup f).map (fun q => He.fAd K q.2.at_) = some a := ha
    cases hq : p.ps.lookup f with
    | none => rw [hq] at ha; cases ha
    | some q => exact ⟨q.1, O.fnd f q hq⟩
  · obtain ⟨c1, rfl⟩ := O.ers c x hc
    obtain ⟨e1, e2⟩ := Fp.en c c1
    obtain ⟨q1, q2, q3, q4⟩ := He.exc_ok (SD.facts e2)
    exact ⟨He.glo_ok KX G (SD.facts e1), q1, q2, q3, q4⟩
theorem errF_of (Fp : p.Fa fa fn) (S : He.SaysX fa fn [] p.tf p.ex w h K) (KX : K.In h) (G : h.Ns mainGlobals mg) : ErF K mg (p.ax K base).er := by
  have more := S.more
  unfold Pack.ex at more
  simp only [Bool.and_eq_true, decide_eq_true_eq, List.all_eq_true] at more
  exact errB_ok more.2.1 fun j hj => He.glo_ok KX G (S.t.d.facts (Fp.en j hj).1)
end
/-- the law's promise -/
theorem law_at {l : PySem.W.OpenLaw} {p : Pack} {w : World} {K : PySem.W.Frag} {h : Heap} {mg : Str → Option Value} {fa : List He.Fa} {fn : List He.DefD} {f : Addr} {n m id : Nat} {fd : FD} (O : p.Ok) (Fp : p.Fa fa fn) (S : He.SaysX fa fn [] p.tf p.ex w h K) (KX : K.In h) (G : h.Ns mainGlobals mg) (hf : p.G.fns id = some fd) (hn : fd.name = "law") (hp : fd.ps = [("script" : Str)]) (hm : mg "law" = some (.ref f))
    (tr : ∀ base : Heap, K.In base → base.Ns mainGlobals mg → (∀ q ∈ p.tf, LamX.TabB base mg (He.cT K q).1 (He.cT K q).2) → ∀ t k, p.G.trs t = true → 2 ≤ k → TryP (p.ax K base) ewd t k l.prog w K mg base)
    (ev : ∀ xs : List Int, xs.length ≤ m → (∀ z ∈ xs, Builtin.Int.intBits z ≤ 1048576) → callF p.G.toPc n id [.scr xs] [] = .ok (.d (.bool true)) []) : LamX.LawAtS l w K (L2N.CX l.prog w) (3 * n) m "script" mg f h := by
  have SD := S.t.d
  obtain ⟨d, hd⟩ := O.fns id fd hf
  have hin := lookup_in hd
  obtain ⟨f1, f2⟩ := Fp.def_ _ hin
  obtain ⟨fdat, F⟩ := SD.defs f1
  have hok := List.all_eq_true.mp O.ok _ hin
  unfold okP at hok
  simp only [Bool.and_eq_true, decide_eq_true_eq, Bool.or_eq_true, Bool.not_eq_true'] at hok
  obtain ⟨⟨⟨a1, a2, a3, a4, a5⟩, b1, b2, b3⟩, c1⟩ := hok
  have e1 : d.dvs K = [] ∧ d.kws K = [] := by
    unfold He.DefD.dvs He.DefD.kws
    split at a4
    · rename_i z1 z2
      have z1 : d.dfl = [] := z1
      have z2 : d.kwd = [] := z2
      rw [z1, z2]
      exact ⟨rfl, rfl⟩
    · cases a4
  have F : FunD K d.name d.qual d.params d.body d.scope (d.dvs K) (d.kws K) (He.fAd K d.at_) fdat := F
  rw [e1.1, e1.2] at F
  have a2 : d.at_ = (fd.name, none) := a2
  have adr : He.fAd K d.at_ = f := by
    rw [a2]
    have z := He.glo_ok KX G (SD.facts f2)
    have z : mg fd.name = some (.ref (He.ga K fd.name)) := z
    rw [hn] at z
    rw [hm] at z
    have : f = He.ga K "law" := Value.ref.inj (Option.some.inj z)
    rw [this, hn] <;> rfl
  have bnd := FunD.bindsA (ps := ["script"]) F fun kV doc pm an cdv ct us hl => by
    rw [← hp] at hl ⊢
    exact plain_bind a5 (by have q := (fnScB_ok b2); rw [← q.pre]; exact q.nd.sublist (List.take_sublist _ _)) kV doc pm an cdv ct us hl
  refine ⟨fdat, p.tf.map fun q => He.cT K q, fun vs H Q E => ∃ a ns, vs = [.ref a] ∧ ns.length ≤ m ∧ (∀ z ∈ ns, Builtin.Int.intBits z ≤ 1048576) ∧ (∀ q ∈ p.tf.map fun q => He.cT K q, H q.2 = some (.tbl #[])) ∧ SqL K H a (ns.map V.int) ∧ ∀ H', Q (.bl true) H', ?_, ?_, ?_, fun s u => bnd s [u] rfl, fun H a ns h1 h2 h3 h4 => ⟨a, ns, rfl, h1, h2, h3, h4, fun _ => rfl⟩, fun base hb hbn hT => ?_⟩
  · intro q hq
    obtain ⟨z, hz, rfl⟩ := List.mem_map.mp hq
    exact S.empty z hz
  · intro q hq
    obtain ⟨z, hz, rfl⟩ := List.mem_map.mp hq
    exact S.out z hz
  · intro q hq
    obtain ⟨z, hz, rfl⟩ := List.mem_map.mp hq
    exact PySem.W.codeHd_of_K KX (S.hd z hz)
  · have TB : ∀ q ∈ p.tf, LamX.TabB base mg (He.cT K q).1 (He.cT K q).2 := fun q hq => hT _ (List.mem_map.mpr ⟨q, hq, rfl⟩)
    have M := mod_of (P := l.prog) (w := w) (base := base) O Fp S KX G TB (tr base hb hbn TB)
    obtain ⟨a', fdat', ⟨oc, od, osl, lk⟩, k1, k2, k3, k4, k5⟩ := fn_okL M n id fd hf
    have ea : a' = f := by
      rw [hn, hm] at k1
      exact (Value.ref.inj (Option.some.inj k1)).symm
    subst ea
    have ef : fdat' = fdat := by
      obtain ⟨oc2, od2, dV, kV, doc, pm, an, cdv, ct, osl2, rfl, lk2, _⟩ := F.ex
      rw [adr, lk] at lk2
      cases lk2
      rfl
    rw [ef, hp] at k5
    refine k5.imp fun vs H Q E hsp => ?_
    obtain ⟨a, ns, rfl, hl, hbits, htab, hS, hQ⟩ := hsp
    have tabs : LamX.Tabs (p.ax K base).tb H := fun q hq => by
      obtain ⟨z, hz, rfl⟩ := List.mem_map.mp hq
      exact LamX.TabS.nil (htab _ (List.mem_map.mpr ⟨z, hz, rfl⟩))
    refine ⟨⟨[], []⟩, [.scr ns], [], ⟨tabs, fun _ z => (nomatch z), fun i a z => by simp at z, rfl, fun i j a z => by simp at z, fun i c z => by simp at z⟩, .cons ⟨a, rfl, ?_⟩ .nil, ?_⟩
    · rcases hS with hS | hS
      · exact .inl ⟨⟨fun i z => by simp at z, fun z => (nomatch z)⟩, hS⟩
      · exact .inr hS
    · have z := ev ns hl hbits
      rw [show callF p.G.toPc n id [.scr ns] [] = _ from z]
      exact fun v H' μ' _ _ r => by
        cases (show Rep _ H' μ' (.bool true) v from r)
        exact hQ H'
end MP
end
section
set_option Elab.async false
set_option linter.all false
set_option autoImplicit false
set_option maxRecDepth 100000
set_option maxHeartbeats 4000000
/-! Mini: packs by lists. -/
namespace MP
open PySem PySem.Spec PyProof.Rows L2
def mkG (fl : FdL) (gl : List (Nat × (Str × PyData))) (lm : List (List Str)) (tr : List Nat) : Pg :=
  { toPc := mkPc fl gl, ers := fun c => if c < 10 then some (en c) else none, lam := fun ns => decide (ns ∈ lm), trs := fun t => decide (t ∈ tr), cal := true }
def mkPs (mkD : Str → Nat → He.DefD) (fl : FdL) : List Pd := fl.map fun q => (q.1, (q.2.1, mkD q.2.1.name q.2.2))
theorem lookup_mk {mkD : Str → Nat → He.DefD} {f : Nat} : ∀ {fl : FdL}, (mkPs mkD fl).lookup f = (fl.lookup f).map fun z => (z.1, mkD z.1.name z.2)
  | [] => rfl
  | (k, v) :: r => by
    show List.lookup f ((k, (v.1, mkD v.1.name v.2)) :: mkPs mkD r) = _
    rw [List.lookup_cons, List.lookup_cons]
    cases f == k with
    | true => rfl
    | false => exact lookup_mk (fl := r)
def mkPack (mkD : Str → Nat → He.DefD) (fl : FdL) (gl : List (Nat × (Str × PyData))) (lm : List (List Str)) (tr : List Nat) (tf : List Str) : Pack :=
  ⟨mkG fl gl lm tr, mkPs mkD fl, gl, [], tf.map fun x => (x, none)⟩
theorem mkPack_ok {mkD : Str → Nat → He.DefD} {fl : FdL} {gl : List (Nat × (Str × PyData))} {lm : List (List Str)} {tr : List Nat} {tf : List Str}
    (h : (mkPs mkD fl).all (fun q => okP (mkG fl gl lm tr) q && (!(mkG fl gl lm tr).lam q.2.1.names || decide ((q.2.1.name, none) ∈ tf.map fun x => ((x, none) : He.Defn)))) = true) : (mkPack mkD fl gl lm tr tf).Ok := by
  refine ⟨fun f fd hf => ?_, fun f q hq => ?_, h, fun g q hg => lookup_in hg, fun c x hc => ?_, rfl, fun q hq => ?_⟩
  · have hf : (fl.lookup f).map (fun z => z.1) = some fd := hf
    cases e : fl.lookup f with
    | none => rw [e] at hf; cases hf
    | some z =>
      rw [e] at hf
      cases hf
      exact ⟨mkD z.1.name z.2, by show (mkPs mkD fl).lookup f = _; rw [lookup_mk, e]; rfl⟩
  · have hq : (mkPs mkD fl).lookup f = some q := hq
    rw [lookup_mk] at hq
    show (fl.lookup f).map (fun z => z.1) = some q.1
    cases e : fl.lookup f with
    | none => rw [e] at hq; cases hq
    | some z =>
      rw [e] at hq
      cases hq
      rfl
  · have hc : (if c < 10 then some (en c) else none) = some x := hc
    split at hc
    · rename_i h10
      cases hc
      exact ⟨h10, rfl⟩
    · cases hc
  · obtain ⟨x, _, rfl⟩ := List.mem_map.mp hq
    rfl
/-- the head's lists -/
def mkFn (mkD : Str → Nat → He.DefD) (fl : FdL) (sp : List (Str × Nat)) : List He.DefD := ((mkPs mkD fl).map fun q => q.2.2) ++ sp.map fun q => mkD q.1 q.2
def mkFa (fl : FdL) (sp : List (Str × Nat)) (xs : List Str) : List He.Fa :=
  (fl.map fun q => .glo q.2.1.name) ++ ((sp.map fun q => .glo q.1) ++ (((List.range 10).map fun j => .glo (en j)) ++ (((List.range 10).map fun j => .exc (en j)) ++ ((bltNames.map fun x => .free x) ++ xs.map fun x => .free x))))
theorem mkPack_fa {mkD : Str → Nat → He.DefD} {fl : FdL} {gl : List (Nat × (Str × PyData))} {lm : List (List Str)} {tr : List Nat} {tf : List Str} {sp : List (Str × Nat)} {xs : List Str} : (mkPack mkD fl gl lm tr tf).Fa (mkFa fl sp xs) (mkFn mkD fl sp) := by
  refine ⟨fun q hq => ⟨List.mem_append_left _ (List.mem_map.mpr ⟨q, hq, rfl⟩), ?_⟩, fun j hj => ⟨?_, ?_⟩, fun x hx => ?_⟩
  · obtain ⟨z, hz, rfl⟩ := List.mem_map.mp (show q ∈ fl.map _ from hq)
    exact List.mem_append_left _ (List.mem_map.mpr ⟨z, hz, rfl⟩)
  · exact List.mem_append_right _ (List.mem_append_right _ (List.mem_append_left _ (List.mem_map.mpr ⟨j, List.mem_range.mpr hj, rfl⟩)))
  · exact List.mem_append_right _ (List.mem_append_right _ (List.mem_append_right _ (List.mem_append_left _ (List.mem_map.mpr ⟨j, List.mem_range.mpr hj, rfl⟩))))
  · exact List.mem_append_right _ (List.mem_append_right _ (List.mem_append_right _ (List.mem_append_right _ (List.mem_append_left _ (List.mem_map.mpr ⟨x, hx, rfl⟩)))))
section
variable {p : Pack} {P : Program} {w : World} {K : PySem.W.Frag} {h : Heap} {mg : Str → Option Value} {fl : FdL} {sp : List (Str × Nat)} {xs : List Str} {mkD : Str → Nat → He.DefD}
/-- one of the defs told apart -/
theorem special {ex : PySem.W.Frag → Bool} {tf : List He.Defn} {x : Str} {i : Nat} {ps : List Str} {pr : Arguments} {bd : List Stmt} {sc : Scope} (S : He.SaysX (mkFa fl sp xs) (mkFn mkD fl sp) [] tf ex w h K) (KX : K.In h) (G : h.Ns mainGlobals mg) (hin : (x, i) ∈ sp) (hd : mkD x i = ⟨(x, none), x, x, pr, bd, sc, [], []⟩) (pp : plainPar pr ps = true) (nd : ps.Nodup) :
    ∃ g fd, mg x = some (.ref g) ∧ FunD K x x pr bd sc [] [] g fd ∧ Binds K fd ps [] := by
  have SD := S.t.d
  have f1 : mkD x i ∈ mkFn mkD fl sp := List.mem_append_right _ (List.mem_map.mpr ⟨(x, i), hin, rfl⟩)
  have f2 : He.Fa.glo x ∈ mkFa fl sp xs := List.mem_append_right _ (List.mem_append_left _ (List.mem_map.mpr ⟨(x, i), hin, rfl⟩))
  obtain ⟨fd, F⟩ := SD.defs f1
  rw [hd] at F
  have F : FunD K x x pr bd sc [] [] (He.ga K x) fd := F
  exact ⟨He.ga K x, fd, He.glo_ok KX G (SD.facts f2), F, FunD.bindsN (ps := ps) F fun kV doc pm an cdv ct us hl => plain_bind pp nd kV doc pm an cdv ct us hl⟩
/-- what the text of the law's tries must be -/
structure TryT (mkD : Str → Nat → He.DefD) (sp : List (Str × Nat)) where
  iN : Nat
  hN : (("_law_named_error" : Str), iN) ∈ sp
  P : NePos
  prN : Arguments
  scN : Scope
  scC : Scope
  dN : mkD "_law_named_error" iN = ⟨("_law_named_error", none), "_law_named_error", "_law_named_error", prN, neBody P scC, scN, [], []⟩
  ppN : plainPar prN ["e"] = true
  ns : NeS P scN scC
structure Try0 (mkD : Str → Nat → He.DefD) (sp : List (Str × Nat)) (xs : List Str) extends TryT mkD sp where
  i0 : Nat
  h0 : (("_law_error" : Str), i0) ∈ sp
  q0 : Nat → Pos
  pr0 : Arguments
  sc0 : Scope
  d0 : mkD "_law_error" i0 = ⟨("_law_error", none), "_law_error", "_law_error", pr0, erBody q0, sc0, [], []⟩
  pp0 : plainPar pr0 ["call"] = true
  ts0 : TrS sc0
  vx : ("ValueError" : Str) ∈ xs
structure Try1 (mkD : Str → Nat → He.DefD) (sp : List (Str × Nat)) extends TryT mkD sp where
  i1 : Nat
  h1 : (("_law_told" : Str), i1) ∈ sp
  q1 : Nat → Pos
  pr1 : Arguments
  sc1 : Scope
  d1 : mkD "_law_told" i1 = ⟨("_law_told", none), "_law_told", "_law_told", pr1, tdBody q1, sc1, [], []⟩
  pp1 : plainPar pr1 ["call"] = true
  ts1 : TrS sc1
theorem nep_of {base : Heap} (T : TryT mkD sp) (Fp : p.Fa (mkFa fl sp xs) (mkFn mkD fl sp)) (S : He.SaysX (mkFa fl sp xs) (mkFn mkD fl sp) [] p.tf p.ex w h K) (KX : K.In h) (G : h.Ns mainGlobals mg) : NEP (p.ax K base).er P w K mg base := by
  obtain ⟨g, fd, hg, D, B⟩ := special S KX G T.hN T.dN T.ppN (by decide)
  exact ne_ok (errF_of Fp S KX G) hg (fun x hx => He.free_ok KX G (S.t.d.facts (Fp.blt x hx))) D B T.ns
theorem tr0_of {base : Heap} {k : Nat} (T : Try0 mkD sp xs) (Fp : p.Fa (mkFa fl sp xs) (mkFn mkD fl sp)) (S : He.SaysX (mkFa fl sp xs) (mkFn mkD fl sp) [] p.tf p.ex w h K) (KX : K.In h) (G : h.Ns mainGlobals mg) (hk : 2 ≤ k) : TryP (p.ax K base) ewd 0 k P w K mg base := by
  obtain ⟨g, fd, hg, D, B⟩ := special S KX G T.h0 T.d0 T.pp0 (by decide)
  have hv : He.Fa.free "ValueError" ∈ mkFa fl sp xs := List.mem_append_right _ (List.mem_append_right _ (List.mem_append_right _ (List.mem_append_right _ (List.mem_append_right _ (List.mem_map.mpr ⟨_, T.vx, rfl⟩)))))
  exact try0_ok hk (errF_of Fp S KX G) (fun x hx => He.free_ok KX G (S.t.d.facts (Fp.blt x hx))) (He.free_ok KX G (S.t.d.facts hv)) (nep_of T.toTryT Fp S KX G) hg D B T.ts0
theorem tr1_of {base : Heap} {k : Nat} (T : Try1 mkD sp) (Fp : p.Fa (mkFa fl sp xs) (mkFn mkD fl sp)) (S : He.SaysX (mkFa fl sp xs) (mkFn mkD fl sp) [] p.tf p.ex w h K) (KX : K.In h) (G : h.Ns mainGlobals mg) (hk : 2 ≤ k) : TryP (p.ax K base) ewd 1 k P w K mg base := by
  obtain ⟨g, fd, hg, D, B⟩ := special S KX G T.h1 T.d1 T.pp1 (by decide)
  exact try1_ok hk (errF_of Fp S KX G) (nep_of T.toTryT Fp S KX G) hg D B T.ts1
end
/-! ### boolean checks -/
def neSB (P : NePos) (S sc : Scope) : Bool := (fnScB neN ["e"] S && ((visB S "e" && (visB S "some" && visB S "words")) && (decide (S.names.lookup ("some" : Str) = some .local) && decide (S.names.lookup ("words" : Str) = some .local)))) &&
  (((glB S "isinstance" && glB S "zip") && ks.all fun j => glB S (en j)) && (blkC neN S sc [("word", 3), ("good", 4)] && ((decide ((relS sc S).names.lookup ("word" : Str) = some .local) && decide ((relS sc S).names.lookup ("good" : Str) = some .local)) && (((P.a 60).endLine == (P.a 62).line) && ((P.a 53).endLine == (P.a 67).line)))))
theorem neSB_ok {P : NePos} {S sc : Scope} (h : neSB P S sc = true) : NeS P S sc := by
  unfold neSB at h
  simp only [Bool.and_eq_true, decide_eq_true_eq, List.all_eq_true] at h
  obtain ⟨⟨a1, ⟨a2, a3, a4⟩, a5, a6⟩, ⟨⟨b1, b2⟩, b3⟩, b4, ⟨b5, b6⟩, b7, b8⟩ := h
  exact ⟨fnScB_ok a1, ⟨a2, a3, a4⟩, ⟨a5, a6⟩, ⟨b1, b2, fun j j1 j9 => b3 j (mem_ks j1 j9)⟩, b4, ⟨b5, b6⟩, ⟨b7, b8⟩⟩
def trSB (S : Scope) : Bool := (fnScB ["call", "e"] ["call"] S && ((visB S "call" && visB S "e") && decide (S.names.lookup ("e" : Str) = some .local))) && (glB S "isinstance" && (glB S "ValueError" && (glB S "_law_named_error" && glB S "BounceError")))
theorem trSB_ok {S : Scope} (h : trSB S = true) : TrS S := by
  unfold trSB at h
  simp only [Bool.and_eq_true, decide_eq_true_eq] at h
  obtain ⟨⟨a1, ⟨a2, a3⟩, a4⟩, b1, b2, b3, b4⟩ := h
  exact ⟨fnScB_ok a1, ⟨a2, a3⟩, a4, ⟨b1, b2, b3, b4⟩⟩
end MP
end
section
set_option Elab.async false
set_option linter.all false
namespace MC
open PySem L2 MP
def l_divisor_of_0 : Ss := .cons (.par (.cons (.n 0) (.cons (.n 1) .nil)) (.cons (.var 1) (.cons (.op .mod (.var 0) (.var 1)) .nil))) .nil
def b_divisor_of : Ss := .cons (.whl (.cmp .ne (.var 1) (.int 0)) l_divisor_of_0) (.cons (.ret (.var 0)) .nil)
def f_divisor_of : FD := ⟨"divisor_of", ["one", "other"], 2, b_divisor_of, false⟩
def b_is_whole : Ss := .cons (.ret (.and (.isi .int (.var 0)) (.and (.not (.isi .bool (.var 0))) (.chain .le .le (.var 1) (.var 0) (.var 2))))) .nil
def f_is_whole : FD := ⟨"is_whole", ["value", "low", "high"], 3, b_is_whole, false⟩
def b_is_row : Ss := .cons (.ret (.and (.isi .tuple (.var 0)) (.chain .le .le (.var 1) (.bi .len (.cons (.var 0) .nil)) (.var 2)))) .nil
def f_is_row : FD := ⟨"is_row", ["value", "low", "high"], 3, b_is_row, false⟩
def b_is_lane : Ss := .cons (.ret (.and (.call 2 (.cons (.var 0) (.cons (.int 0) (.cons (.int 7) .nil)))) (.bi .all (.cons (.lc [("sill", 1)] (.n 1) (.e (.var 0)) .no (.call 1 (.cons (.var 1) (.cons (.int 0) (.cons (.int 99) .nil))))) .nil)))) .nil
def f_is_lane : FD := ⟨"is_lane", ["value", "sill"], 1, b_is_lane, false⟩
def b_is_share : Ss := .cons (.ifs (.or (.not (.call 2 (.cons (.var 0) (.cons (.int 2) (.cons (.int 2) .nil))))) (.or (.not (.call 1 (.cons (.ix (.var 0) (.int 0)) (.cons (.int 0) (.cons (.glo 0) .nil))))) (.not (.call 1 (.cons (.ix (.var 0) (.int 1)) (.cons (.int 1) (.cons (.glo 0) .nil))))))) (.cons (.ret (.bl false)) .nil) .nil) (.cons (.ret (.and (.cmp .le (.ix (.var 0) (.int 0)) (.ix (.var 0) (.int 1))) (.cmp .eq (.call 0 (.cons (.ix (.var 0) (.int 0)) (.cons (.ix (.var 0) (.int 1)) .nil))) (.int 1)))) .nil)
def f_is_share : FD := ⟨"is_share", ["value"], 1, b_is_share, false⟩
def b_fits_ball : Ss := .cons (.ifs (.or (.not (.call 2 (.cons (.var 1) (.cons (.int 3) (.cons (.int 3) .nil))))) (.not (.call 1 (.cons (.ix (.var 1) (.int 0)) (.cons (.int 0) (.cons (.bi .len (.cons (.var 0) .nil)) .nil)))))) (.cons (.ret (.bl false)) .nil) .nil) (.cons (.ret (.and (.isi .str (.ix (.var 1) (.int 1))) (.and (.inn false (.ix (.var 1) (.int 1)) (.glo 1)) (.call 1 (.cons (.ix (.var 1) (.int 2)) (.cons (.int 1) (.cons (.int 99) .nil))))))) .nil)
def f_fits_ball : FD := ⟨"fits_ball", ["lane", "value"], 2, b_fits_ball, false⟩
def b_is_step : Ss := .cons (.ifs (.or (.not (.call 2 (.cons (.var 0) (.cons (.int 1) (.cons (.int 3) .nil))))) (.not (.isi .str (.ix (.var 0) (.int 0))))) (.cons (.ret (.bl false)) .nil) .nil) (.cons (.set 1 (.ix (.var 0) (.int 0))) (.cons (.ifs (.cmp .eq (.bi .len (.cons (.var 0) .nil)) (.int 1)) (.cons (.ret (.cmp .eq (.var 1) (.str "turn"))) .nil) .nil) (.cons (.ifs (.cmp .eq (.bi .len (.cons (.var 0) .nil)) (.int 2)) (.cons (.ret (.and (.cmp .eq (.var 1) (.str "bounce")) (.call 1 (.cons (.ix (.var 0) (.int 1)) (.cons (.int 1) (.cons (.int 9) .nil)))))) .nil) .nil) (.cons (.ifs (.cmp .eq (.var 1) (.str "until")) (.cons (.ret (.and (.call 1 (.cons (.ix (.var 0) (.int 1)) (.cons (.int 1) (.cons (.int 99) .nil)))) (.call 1 (.cons (.ix (.var 0) (.int 2)) (.cons (.int 1) (.cons (.int 9) .nil)))))) .nil) .nil) (.cons (.ret (.and (.cmp .eq (.var 1) (.str "lift")) (.and (.call 1 (.cons (.ix (.var 0) (.int 1)) (.cons (.int 1) (.cons (.int 9) .nil)))) (.call 1 (.cons (.ix (.var 0) (.int 2)) (.cons (.int 1) (.cons (.int 9) .nil))))))) .nil)))))
def f_is_step : FD := ⟨"is_step", ["value", "word"], 1, b_is_step, false⟩
def b_is_any_step : Ss := .cons (.ifs (.or (.not (.call 2 (.cons (.var 0) (.cons (.int 4) (.cons (.int 4) .nil))))) (.or (.not (.isi .str (.ix (.var 0) (.int 0)))) (.cmp .ne (.ix (.var 0) (.int 0)) (.str "if")))) (.cons (.ret (.call 6 (.cons (.var 0) .nil))) .nil) .nil) (.cons (.ifs (.or (.not (.call 1 (.cons (.ix (.var 0) (.int 1)) (.cons (.int 1) (.cons (.int 99) .nil))))) (.or (.not (.call 2 (.cons (.ix (.var 0) (.int 2)) (.cons (.int 0) (.cons (.int 2) .nil))))) (.not (.call 2 (.cons (.ix (.var 0) (.int 3)) (.cons (.int 0) (.cons (.int 2) .nil))))))) (.cons (.ret (.bl false)) .nil) .nil) (.cons (.ret (.bi .all (.cons (.lc [("step", 1)] (.n 1) (.e (.op .add (.ix (.var 0) (.int 2)) (.ix (.var 0) (.int 3)))) .no (.call 6 (.cons (.var 1) .nil))) .nil))) .nil))
def f_is_any_step : FD := ⟨"is_any_step", ["value", "step"], 1, b_is_any_step, false⟩
def b_is_script : Ss := .cons (.ret (.and (.call 2 (.cons (.var 0) (.cons (.int 0) (.cons (.int 4) .nil)))) (.bi .all (.cons (.lc [("step", 1)] (.n 1) (.e (.var 0)) .no (.call 7 (.cons (.var 1) .nil))) .nil)))) .nil
def f_is_script : FD := ⟨"is_script", ["value", "step"], 1, b_is_script, false⟩
def b_need_lane : Ss := .cons (.ifs (.not (.call 3 (.cons (.var 0) .nil))) (.cons (.raise 1) .nil) .nil) .nil
def f_need_lane : FD := ⟨"need_lane", ["lane"], 1, b_need_lane, false⟩
def b_is_ball : Ss := .cons (.exp (.call 9 (.cons (.var 0) .nil))) (.cons (.ret (.call 5 (.cons (.var 0) (.cons (.var 1) .nil)))) .nil)
def f_is_ball : FD := ⟨"is_ball", ["lane", "value"], 2, b_is_ball, false⟩
def b__law_cell : Ss := .cons (.ifs (.cmp .lt (.var 1) (.bi .len (.cons (.var 0) .nil))) (.cons (.ret (.ix (.var 0) (.var 1))) .nil) .nil) (.cons (.ifs (.cmp .eq (.bi .len (.cons (.var 0) .nil)) (.int 0)) (.cons (.ret (.op .add (.op .mul (.int 7919) (.var 1)) (.int 101))) .nil) .nil) (.cons (.ret (.op .add (.op .mod (.ix (.var 0) (.op .mod (.var 1) (.bi .len (.cons (.var 0) .nil)))) (.int 1000003)) (.op .mul (.int 7919) (.var 1)))) .nil))
def f__law_cell : FD := ⟨"_law_cell", ["script", "k"], 2, b__law_cell, false⟩
def l__law_draws_0 : Ss := .cons (.set 9 (.op .mul (.op .mod (.var 5) (.ix (.var 4) (.op .mod (.var 8) (.int 8)))) (.op .add (.int 48271) (.op .mul (.op .mul (.int 2) (.var 8)) (.var 8))))) (.cons (.set 9 (.op .add (.op .add (.var 9) (.op .mul (.op .mul (.int 7919) (.op .add (.var 8) (.int 1))) (.op .add (.var 8) (.int 1)))) (.op .mul (.int 104729) (.var 1)))) (.cons (.set 9 (.op .mod (.var 9) (.ix (.var 4) (.op .mod (.op .add (.op .mul (.int 3) (.var 8)) (.var 1)) (.int 8))))) (.cons (.set 9 (.op .mod (.op .mul (.op .mul (.var 9) (.var 9)) (.var 9)) (.ix (.var 4) (.op .mod (.op .add (.var 8) (.int 5)) (.int 8))))) (.cons (.ifs (.cmp .gt (.var 6) (.int 0)) (.cons (.set 9 (.var 6)) .nil) .nil) (.cons (.app 7 (.op .mod (.var 9) (.var 3))) (.cons (.set 6 (.op .fdiv (.var 6) (.var 3))) .nil))))))
def b__law_draws : Ss := .cons (.set 4 (.tup (.cons (.int 2147483647) (.cons (.int 2147483629) (.cons (.int 2147483587) (.cons (.int 2147483579) (.cons (.int 2147483563) (.cons (.int 2147483549) (.cons (.int 2147483543) (.cons (.int 2147483497) .nil)))))))))) (.cons (.set 5 (.call 11 (.cons (.var 0) (.cons (.var 1) .nil)))) (.cons (.set 6 (.int 0)) (.cons (.ifs (.cmp .ge (.var 5) (.op .pow (.int 10) (.int 18))) (.cons (.set 6 (.var 5)) .nil) .nil) (.cons (.set 7 (.lstM .nil)) (.cons (.fors (.n 8) (.r1 (.var 2)) l__law_draws_0) (.cons (.ret (.var 7)) .nil))))))
def f__law_draws : FD := ⟨"_law_draws", ["script", "k", "many", "base", "primes", "cell", "rest", "row", "j", "mash"], 4, b__law_draws, true⟩
def b__law_bag : Ss := .cons (.ret (.call 12 (.cons (.var 0) (.cons (.var 1) (.cons (.int 150) (.cons (.int 27720) .nil)))))) .nil
def f__law_bag : FD := ⟨"_law_bag", ["script", "k"], 2, b__law_bag, true⟩
def b__law_take : Ss := .cons (.set 2 (.ifx (.cmp .ne (.var 0) (.lst .nil)) (.pop0 0) (.int 0))) (.cons (.ret (.op .mod (.bi .int (.cons (.var 2) .nil)) (.var 1))) .nil)
def f__law_take : FD := ⟨"_law_take", ["bag", "many", "draw"], 2, b__law_take, false⟩
def b__law_choice : Ss := .cons (.ret (.ix (.var 1) (.call 14 (.cons (.var 0) (.cons (.bi .len (.cons (.var 1) .nil)) .nil))))) .nil
def f__law_choice : FD := ⟨"_law_choice", ["bag", "some"], 2, b__law_choice, false⟩
def b__law_lane : Ss := .cons (.ret (.bi .tuple (.cons (.lc [("turn", 2)] (.n 2) (.r1 (.call 14 (.cons (.var 0) (.cons (.op .add (.var 1) (.int 1)) .nil)))) .no (.call 15 (.cons (.var 0) (.cons (.lst (.cons (.int 0) (.cons (.int 1) (.cons (.int 2) (.cons (.int 3) (.cons (.int 5) (.cons (.int 8) (.cons (.int 20) .nil)))))))) .nil)))) .nil))) .nil
def f__law_lane : FD := ⟨"_law_lane", ["bag", "most", "turn"], 2, b__law_lane, false⟩
def b__law_ball : Ss := .cons (.set 2 (.call 15 (.cons (.var 0) (.cons (.lst (.cons (.int 1) (.cons (.int 3) (.cons (.int 8) (.cons (.int 20) (.cons (.int 99) .nil)))))) .nil)))) (.cons (.ret (.tup (.cons (.call 14 (.cons (.var 0) (.cons (.op .add (.bi .len (.cons (.var 1) .nil)) (.int 1)) .nil))) (.cons (.call 15 (.cons (.var 0) (.cons (.lst (.cons (.str "left") (.cons (.str "right") .nil))) .nil))) (.cons (.op .add (.int 1) (.call 14 (.cons (.var 0) (.cons (.var 2) .nil)))) .nil))))) .nil)
def f__law_ball : FD := ⟨"_law_ball", ["bag", "lane_so", "high"], 2, b__law_ball, false⟩
def b__law_step : Ss := .cons (.set 1 (.call 14 (.cons (.var 0) (.cons (.int 7) .nil)))) (.cons (.ifs (.cmp .lt (.var 1) (.int 3)) (.cons (.ret (.tup (.cons (.str "bounce") (.cons (.op .add (.int 1) (.call 14 (.cons (.var 0) (.cons (.int 3) .nil)))) .nil)))) .nil) .nil) (.cons (.ifs (.cmp .lt (.var 1) (.int 5)) (.cons (.ret (.tup (.cons (.str "until") (.cons (.call 15 (.cons (.var 0) (.cons (.lst (.cons (.int 1) (.cons (.int 2) (.cons (.int 3) (.cons (.int 5) (.cons (.int 9) .nil)))))) .nil))) (.cons (.op .add (.int 1) (.call 14 (.cons (.var 0) (.cons (.int 5) .nil)))) .nil))))) .nil) .nil) (.cons (.ret (.ifx (.cmp .eq (.var 1) (.int 5)) (.tup (.cons (.str "turn") .nil)) (.tup (.cons (.str "lift") (.cons (.op .add (.int 1) (.call 14 (.cons (.var 0) (.cons (.int 4) .nil)))) (.cons (.op .add (.int 1) (.call 14 (.cons (.var 0) (.cons (.int 3) .nil)))) .nil)))))) .nil)))
def f__law_step : FD := ⟨"_law_step", ["bag", "way"], 1, b__law_step, false⟩
def l__law_steps_0 : Ss := .cons (.app 4 (.bi .tuple (.cons (.lc [("step", 6)] (.n 6) (.r1 (.call 14 (.cons (.var 0) (.cons (.int 2) .nil)))) .no (.call 18 (.cons (.var 0) .nil))) .nil))) .nil
def l__law_steps_1 : Ss := .cons (.ifs (.cmp .eq (.call 14 (.cons (.var 0) (.cons (.int 4) .nil))) (.int 0)) (.cons (.set 4 (.lstM .nil)) (.cons (.fors (.n 5) (.r1 (.int 2)) l__law_steps_0) (.cons (.set 2 (.op .add (.var 2) (.tup (.cons (.tup (.cons (.str "if") (.cons (.op .add (.int 1) (.call 14 (.cons (.var 0) (.cons (.int 6) .nil)))) (.cons (.ix (.var 4) (.int 0)) (.cons (.ix (.var 4) (.int 1)) .nil))))) .nil)))) .nil))) (.cons (.set 2 (.op .add (.var 2) (.tup (.cons (.call 18 (.cons (.var 0) .nil)) .nil)))) .nil)) .nil
def b__law_steps : Ss := .cons (.set 2 (.tup .nil)) (.cons (.fors (.n 3) (.r1 (.call 14 (.cons (.var 0) (.cons (.op .add (.var 1) (.int 1)) .nil)))) l__law_steps_1) (.cons (.ret (.var 2)) .nil))
def f__law_steps : FD := ⟨"_law_steps", ["bag", "most", "found", "turn", "rows", "branch", "step"], 2, b__law_steps, false⟩
def b__law_truly : Ss := .cons (.ret (.and (.isi .bool (.var 0)) (.cmp .eq (.var 0) (.var 1)))) .nil
def f__law_truly : FD := ⟨"_law_truly", ["found", "due"], 2, b__law_truly, false⟩
def b_lowest : Ss := .cons (.set 2 (.call 0 (.cons (.var 0) (.cons (.var 1) .nil)))) (.cons (.ret (.tup (.cons (.op .fdiv (.var 0) (.var 2)) (.cons (.op .fdiv (.var 1) (.var 2)) .nil)))) .nil)
def f_lowest : FD := ⟨"lowest", ["top", "below", "divisor"], 2, b_lowest, false⟩
def l_power_0 : Ss := .cons (.set 2 (.op .mul (.var 2) (.var 0))) .nil
def b_power : Ss := .cons (.set 2 (.int 1)) (.cons (.fors (.n 3) (.r1 (.var 1)) l_power_0) (.cons (.ret (.var 2)) .nil))
def f_power : FD := ⟨"power", ["base", "times", "found", "turn"], 2, b_power, false⟩
def l_whole_root_0 : Ss := .cons (.set 4 (.op .fdiv (.op .add (.var 2) (.var 3)) (.int 2))) (.cons (.ifs (.cmp .gt (.call 31 (.cons (.var 4) (.cons (.var 1) .nil))) (.var 0)) (.cons (.set 3 (.var 4)) .nil) (.cons (.set 2 (.var 4)) .nil)) .nil)
def b_whole_root : Ss := .cons (.par (.cons (.n 2) (.cons (.n 3) .nil)) (.cons (.int 0) (.cons (.op .add (.var 0) (.int 1)) .nil))) (.cons (.whl (.cmp .gt (.op .sub (.var 3) (.var 2)) (.int 1)) l_whole_root_0) (.cons (.ret (.ifx (.cmp .eq (.call 31 (.cons (.var 2) (.cons (.var 1) .nil))) (.var 0)) (.var 2) .non)) .nil))
def f_whole_root : FD := ⟨"whole_root", ["number", "degree", "low", "high", "middle"], 2, b_whole_root, false⟩
def l_root_of_0 : Ss := .cons (.ifs (.cmp .eq (.op .mod (.var 0) (.var 3)) (.int 0)) (.cons (.par (.cons (.n 4) (.cons (.n 5) .nil)) (.cons (.call 32 (.cons (.var 1) (.cons (.var 3) .nil))) (.cons (.call 32 (.cons (.var 2) (.cons (.var 3) .nil))) .nil))) (.cons (.ifs (.and (.isC true none (.var 4)) (.isC true none (.var 5))) (.cons (.ret (.tup (.cons (.op .fdiv (.var 0) (.var 3)) (.cons (.var 4) (.cons (.var 5) .nil))))) .nil) .nil) .nil)) .nil) .nil
def b_root_of : Ss := .cons (.ifs (.cmp .eq (.var 1) (.int 0)) (.cons (.ret (.glo 2)) .nil) .nil) (.cons (.asg (.t (.cons (.n 1) (.cons (.n 2) .nil))) (.call 30 (.cons (.var 1) (.cons (.var 2) .nil)))) (.cons (.fors (.n 3) (.r3 (.var 0) (.int 1) (.neg (.int 1))) l_root_of_0) (.cons (.ret (.tup (.cons (.var 0) (.cons (.var 1) (.cons (.var 2) .nil))))) .nil)))
def f_root_of : FD := ⟨"root_of", ["degree", "top", "below", "factor", "over", "under"], 3, b_root_of, false⟩
def b_sign_of : Ss := .cons (.ret (.op .sub (.cmp .gt (.var 0) (.int 0)) (.cmp .lt (.var 0) (.int 0)))) .nil
def f_sign_of : FD := ⟨"sign_of", ["number"], 1, b_sign_of, false⟩
def b_compared : Ss := .cons (.asg (.t (.cons (.n 2) (.cons (.n 3) (.cons (.n 4) .nil)))) (.var 0)) (.cons (.asg (.t (.cons (.n 5) (.cons (.n 6) (.cons (.n 7) .nil)))) (.var 1)) (.cons (.ret (.call 34 (.cons (.op .sub (.op .mul (.call 31 (.cons (.var 3) (.cons (.var 5) .nil))) (.call 31 (.cons (.var 7) (.cons (.var 2) .nil)))) (.op .mul (.call 31 (.cons (.var 6) (.cons (.var 2) .nil))) (.call 31 (.cons (.var 4) (.cons (.var 5) .nil))))) .nil))) .nil))
def f_compared : FD := ⟨"compared", ["one", "other", "degree", "top", "below", "many", "over", "under"], 2, b_compared, false⟩
def b_is_plain : Ss := .cons (.ret (.and (.isi .int (.var 0)) (.and (.not (.isi .bool (.var 0))) (.chain .le .le (.var 1) (.var 0) (.var 2))))) .nil
def f_is_plain : FD := ⟨"is_plain", ["value", "low", "high"], 3, b_is_plain, false⟩
def l__law_lowest_0 : Ss := .cons (.par (.cons (.n 2) (.cons (.n 3) .nil)) (.cons (.var 3) (.cons (.op .mod (.var 2) (.var 3)) .nil))) .nil
def b__law_lowest : Ss := .cons (.par (.cons (.n 2) (.cons (.n 3) .nil)) (.cons (.var 0) (.cons (.var 1) .nil))) (.cons (.whl (.cmp .ne (.var 3) (.int 0)) l__law_lowest_0) (.cons (.ret (.tup (.cons (.op .fdiv (.var 0) (.var 2)) (.cons (.op .fdiv (.var 1) (.var 2)) .nil)))) .nil))
def f__law_lowest : FD := ⟨"_law_lowest", ["top", "below", "one", "other"], 2, b__law_lowest, false⟩
def l__law_power_0 : Ss := .cons (.set 2 (.op .mul (.var 2) (.var 0))) .nil
def b__law_power : Ss := .cons (.set 2 (.int 1)) (.cons (.fors (.n 3) (.r1 (.var 1)) l__law_power_0) (.cons (.ret (.var 2)) .nil))
def f__law_power : FD := ⟨"_law_power", ["base", "times_so", "found", "turn"], 2, b__law_power, false⟩
def l__law_floor_0 : Ss := .cons (.set 2 (.op .mul (.int 2) (.var 2))) .nil
def l__law_floor_1 : Ss := .cons (.set 4 (.op .fdiv (.op .add (.var 3) (.var 2)) (.int 2))) (.cons (.asg (.t (.cons (.n 3) (.cons (.n 2) .nil))) (.ifx (.cmp .le (.call 43 (.cons (.var 4) (.cons (.var 1) .nil))) (.var 0)) (.tup (.cons (.var 4) (.cons (.var 2) .nil))) (.tup (.cons (.var 3) (.cons (.var 4) .nil))))) .nil)
def b__law_floor : Ss := .cons (.set 2 (.int 1)) (.cons (.whl (.cmp .le (.call 43 (.cons (.var 2) (.cons (.var 1) .nil))) (.var 0)) l__law_floor_0) (.cons (.set 3 (.int 0)) (.cons (.whl (.cmp .gt (.op .sub (.var 2) (.var 3)) (.int 1)) l__law_floor_1) (.cons (.ret (.var 3)) .nil))))
def f__law_floor : FD := ⟨"_law_floor", ["number", "degree", "high", "low", "middle"], 2, b__law_floor, false⟩
def l__law_root_0 : Ss := .cons (.ifs (.cmp .eq (.op .mod (.var 0) (.var 3)) (.int 0)) (.cons (.par (.cons (.n 4) (.cons (.n 5) .nil)) (.cons (.call 44 (.cons (.var 1) (.cons (.op .fdiv (.var 0) (.var 3)) .nil))) (.cons (.call 44 (.cons (.var 2) (.cons (.op .fdiv (.var 0) (.var 3)) .nil))) .nil))) (.cons (.ifs (.and (.cmp .eq (.call 43 (.cons (.var 4) (.cons (.op .fdiv (.var 0) (.var 3)) .nil))) (.var 1)) (.cmp .eq (.call 43 (.cons (.var 5) (.cons (.op .fdiv (.var 0) (.var 3)) .nil))) (.var 2))) (.cons (.ret (.tup (.cons (.var 3) (.cons (.var 4) (.cons (.var 5) .nil))))) .nil) .nil) .nil)) .nil) .nil
def b__law_root : Ss := .cons (.ifs (.cmp .eq (.var 1) (.int 0)) (.cons (.ret (.tup (.cons (.int 1) (.cons (.int 0) (.cons (.int 1) .nil))))) .nil) .nil) (.cons (.asg (.t (.cons (.n 1) (.cons (.n 2) .nil))) (.call 42 (.cons (.var 1) (.cons (.var 2) .nil)))) (.cons (.fors (.n 3) (.r2 (.int 1) (.op .add (.var 0) (.int 1))) l__law_root_0) (.cons (.ret .non) .nil)))
def f__law_root : FD := ⟨"_law_root", ["degree", "top", "below", "size", "one", "other"], 3, b__law_root, false⟩
def l__law_before_0 : Ss := .cons (.app 3 (.call 44 (.cons (.op .fdiv (.op .mul (.var 5) (.call 43 (.cons (.var 2) (.cons (.var 4) .nil)))) (.var 6)) (.cons (.var 4) .nil)))) .nil
def l__law_before_1 : Ss := .cons (.set 3 (.lstM .nil)) (.cons (.fors (.t (.cons (.n 4) (.cons (.n 5) (.cons (.n 6) .nil)))) (.e (.lst (.cons (.var 0) (.cons (.var 1) .nil)))) l__law_before_0) (.cons (.ifs (.cmp .ne (.ix (.var 3) (.int 0)) (.ix (.var 3) (.int 1))) (.cons (.ret (.cmp .lt (.ix (.var 3) (.int 0)) (.ix (.var 3) (.int 1)))) .nil) .nil) (.cons (.set 2 (.op .mul (.var 2) (.int 4096))) .nil)))
def b__law_before : Ss := .cons (.set 2 (.int 16)) (.cons (.whl (.cmp .ne (.var 0) (.var 1)) l__law_before_1) (.cons (.ret (.bl false)) .nil))
def f__law_before : FD := ⟨"_law_before", ["one", "other", "size", "ends", "degree", "top", "below"], 2, b__law_before, false⟩
def b__law_all_refused : Ss := .cons (.ret (.cmp .eq (.lc [("odd", 3)] (.n 3) (.e (.var 1)) (.yes (.cmp .ne (.tryl 0 (.callv 0 (.cons (.var 3) .nil))) (.var 2))) (.var 3)) (.lst .nil))) .nil
def f__law_all_refused : FD := ⟨"_law_all_refused", ["call", "odds", "name", "odd"], 3, b__law_all_refused, false⟩
def b_is_before : Ss := .cons (.ret (.cmp .lt (.call 35 (.cons (.var 0) (.cons (.var 1) .nil))) (.int 0))) .nil
def f_is_before : FD := ⟨"is_before", ["one", "other"], 2, b_is_before, false⟩
def l_between_0 : Ss := .cons (.set 5 (.op .add (.tup (.cons (.int 1) .nil)) (.call 30 (.cons (.op .add (.var 2) (.var 3)) (.cons (.op .mul (.int 2) (.var 4)) .nil))))) (.cons (.ifs (.cmp .le (.call 35 (.cons (.var 5) (.cons (.var 0) .nil))) (.int 0)) (.cons (.par (.cons (.n 2) (.cons (.n 3) (.cons (.n 4) .nil))) (.cons (.op .add (.var 2) (.var 3)) (.cons (.op .mul (.int 2) (.var 3)) (.cons (.op .mul (.int 2) (.var 4)) .nil)))) .nil) (.cons (.ifs (.cmp .ge (.call 35 (.cons (.var 5) (.cons (.var 1) .nil))) (.int 0)) (.cons (.par (.cons (.n 2) (.cons (.n 3) (.cons (.n 4) .nil))) (.cons (.op .mul (.int 2) (.var 2)) (.cons (.op .add (.var 2) (.var 3)) (.cons (.op .mul (.int 2) (.var 4)) .nil)))) .nil) (.cons (.ret (.var 5)) .nil)) .nil)) .nil)
def b_between : Ss := .cons (.par (.cons (.n 2) (.cons (.n 3) (.cons (.n 4) .nil))) (.cons (.int 0) (.cons (.int 2) (.cons (.int 1) .nil)))) (.cons (.whl (.bl true) l_between_0) .nil)
def f_between : FD := ⟨"between", ["one", "other", "low", "high", "below", "middle"], 2, b_between, false⟩
def l_in_order_0 : Ss := .cons (.set 3 (.bi .len (.cons (.lc [("other", 4)] (.n 4) (.e (.var 1)) (.yes (.call 53 (.cons (.var 4) (.cons (.var 2) .nil)))) (.var 4)) .nil))) (.cons (.set 1 (.op .add (.op .add (.sl (.var 1) .no (.yes (.var 3))) (.lst (.cons (.var 2) .nil))) (.sl (.var 1) (.yes (.var 3)) .no))) .nil)
def b_in_order : Ss := .cons (.set 1 (.lst .nil)) (.cons (.fors (.n 2) (.e (.bi .sset (.cons (.var 0) .nil))) l_in_order_0) (.cons (.ret (.var 1)) .nil))
def f_in_order : FD := ⟨"in_order", ["numbers", "found", "one", "at", "other"], 1, b_in_order, false⟩
def b_level_at : Ss := .cons (.asg (.t (.cons (.n 4) (.cons (.n 5) (.cons (.n 6) .nil)))) (.var 0)) (.cons (.asg (.t (.cons (.n 7) (.cons (.n 8) (.cons (.n 9) .nil)))) (.var 1)) (.cons (.set 10 (.op .mul (.call 31 (.cons (.op .mul (.var 4) (.var 3)) (.cons (.var 7) .nil))) (.call 31 (.cons (.var 8) (.cons (.var 6) .nil))))) (.cons (.ret (.call 34 (.cons (.op .sub (.var 10) (.op .mul (.call 31 (.cons (.op .mul (.var 5) (.var 2)) (.cons (.var 7) .nil))) (.call 31 (.cons (.var 9) (.cons (.var 6) .nil))))) .nil))) .nil)))
def f_level_at : FD := ⟨"level_at", ["form", "number", "top", "below", "over", "under", "times", "degree", "part", "whole", "mine"], 4, b_level_at, false⟩
def b_level_cut : Ss := .cons (.asg (.t (.cons (.n 3) (.cons (.n 4) (.cons (.n 5) .nil)))) (.var 0)) (.cons (.ret (.ifx (.cmp .eq (.var 5) (.int 0)) (.lst .nil) (.lst (.cons (.call 33 (.cons (.var 5) (.cons (.op .mul (.var 4) (.var 1)) (.cons (.op .mul (.var 3) (.var 2)) .nil)))) .nil)))) .nil)
def f_level_cut : FD := ⟨"level_cut", ["form", "top", "below", "over", "under", "times"], 3, b_level_cut, false⟩
def b_inner : Ss := .cons (.ret (.ifx (.cmp .eq (.ix (.var 0) (.int 0)) (.ix (.var 0) (.int 1))) (.ix (.var 0) (.int 0)) (.call 54 (.cons (.ix (.var 0) (.int 0)) (.cons (.ix (.var 0) (.int 1)) .nil))))) .nil
def f_inner : FD := ⟨"inner", ["part"], 1, b_inner, false⟩
def l_split_0 : Ss := .cons (.set 4 (.op .add (.var 4) (.lst (.cons (.tup (.cons (.var 2) (.cons (.var 5) .nil))) (.cons (.tup (.cons (.var 5) (.cons (.var 5) .nil))) .nil))))) (.cons (.set 2 (.var 5)) .nil)
def b_split : Ss := .cons (.asg (.t (.cons (.n 2) (.cons (.n 3) .nil))) (.var 0)) (.cons (.ifs (.cmp .eq (.var 2) (.var 3)) (.cons (.ret (.lst (.cons (.var 0) .nil))) .nil) .nil) (.cons (.set 4 (.lst .nil)) (.cons (.fors (.n 5) (.e (.call 55 (.cons (.lc [("cut", 5)] (.n 5) (.e (.var 1)) (.yes (.and (.call 53 (.cons (.var 2) (.cons (.var 5) .nil))) (.call 53 (.cons (.var 5) (.cons (.var 3) .nil))))) (.var 5)) .nil))) l_split_0) (.cons (.ret (.op .add (.var 4) (.lst (.cons (.tup (.cons (.var 2) (.cons (.var 3) .nil))) .nil)))) .nil))))
def f_split : FD := ⟨"split", ["part", "cuts", "low", "high", "found", "cut"], 2, b_split, false⟩
def l_at_least_0 : Ss := .cons (.set 2 (.op .add (.var 2) (.lst (.cons (.tup (.cons (.op .add (.tup (.cons (.var 3) .nil)) (.sl (.var 0) (.yes (.int 1)) .no)) (.cons (.cmp .ge (.call 56 (.cons (.ix (.var 0) (.int 3)) (.cons (.call 58 (.cons (.var 3) .nil)) (.cons (.var 1) (.cons (.int 1) .nil))))) (.int 0)) .nil))) .nil)))) .nil
def b_at_least : Ss := .cons (.set 2 (.lst .nil)) (.cons (.fors (.n 3) (.e (.call 59 (.cons (.ix (.var 0) (.int 0)) (.cons (.call 57 (.cons (.ix (.var 0) (.int 3)) (.cons (.var 1) (.cons (.int 1) .nil)))) .nil)))) l_at_least_0) (.cons (.ret (.var 2)) .nil))
def f_at_least : FD := ⟨"at_least", ["piece", "height", "found", "part"], 2, b_at_least, false⟩
def b_other_way : Ss := .cons (.ret (.ifx (.cmp .eq (.var 0) (.str "right")) (.str "left") (.str "right"))) .nil
def f_other_way : FD := ⟨"other_way", ["way"], 1, b_other_way, false⟩
def l_bounced_0 : Ss := .cons (.ifs (.var 13) (.cons (.set 11 (.op .add (.var 11) (.lst (.cons (.tup (.cons (.ix (.var 12) (.int 0)) (.cons (.var 10) (.cons (.var 4) (.cons (.var 9) (.cons (.op .add (.var 8) (.tup (.cons (.tup (.cons (.str "over") (.cons (.var 10) .nil))) .nil))) .nil)))))) .nil)))) .nil) (.cons (.set 11 (.op .add (.var 11) (.lst (.cons (.tup (.cons (.ix (.var 12) (.int 0)) (.cons (.var 3) (.cons (.call 61 (.cons (.var 4) .nil)) (.cons (.var 9) (.cons (.op .add (.var 8) (.tup (.cons (.tup (.cons (.str "back") (.cons (.var 3) .nil))) .nil))) .nil)))))) .nil)))) .nil)) .nil
def b_bounced : Ss := .cons (.asg (.t (.cons (.n 2) (.cons (.n 3) (.cons (.n 4) (.cons (.t (.cons (.n 5) (.cons (.n 6) (.cons (.n 7) .nil)))) (.cons (.n 8) .nil)))))) (.var 1)) (.cons (.set 9 (.tup (.cons (.var 5) (.cons (.var 6) (.cons (.op .add (.var 7) (.int 1)) .nil))))) (.cons (.set 10 (.ifx (.cmp .eq (.var 4) (.str "right")) (.op .add (.var 3) (.int 1)) (.op .sub (.var 3) (.int 1)))) (.cons (.ifs (.not (.chain .le .le (.int 0) (.var 10) (.bi .len (.cons (.var 0) .nil)))) (.cons (.ret (.lst (.cons (.tup (.cons (.var 2) (.cons (.var 3) (.cons (.call 61 (.cons (.var 4) .nil)) (.cons (.var 9) (.cons (.op .add (.var 8) (.tup (.cons (.tup (.cons (.str "back") (.cons (.var 3) .nil))) .nil))) .nil)))))) .nil))) .nil) .nil) (.cons (.set 11 (.lst .nil)) (.cons (.fors (.t (.cons (.n 12) (.cons (.n 13) .nil))) (.e (.call 60 (.cons (.tup (.cons (.var 2) (.cons (.var 3) (.cons (.var 4) (.cons (.var 9) (.cons (.var 8) .nil)))))) (.cons (.ix (.var 0) (.bi .min (.cons (.var 3) (.cons (.var 10) .nil)))) .nil)))) l_bounced_0) (.cons (.ret (.var 11)) .nil))))))
def f_bounced : FD := ⟨"bounced", ["lane", "piece", "part", "cell", "way", "top", "below", "times", "events", "form", "there", "found", "less", "is_over"], 2, b_bounced, false⟩
def l_bounced_often_0 : Ss := .cons (.set 5 (.op .add (.var 5) (.call 62 (.cons (.var 0) (.cons (.var 6) .nil))))) .nil
def l_bounced_often_1 : Ss := .cons (.set 5 (.lst .nil)) (.cons (.fors (.n 6) (.e (.var 3)) l_bounced_often_0) (.cons (.set 3 (.var 5)) .nil))
def b_bounced_often : Ss := .cons (.set 3 (.lst (.cons (.var 1) .nil))) (.cons (.fors (.n 4) (.r1 (.var 2)) l_bounced_often_1) (.cons (.ret (.var 3)) .nil))
def f_bounced_often : FD := ⟨"bounced_often", ["lane", "piece", "many", "pieces", "turn", "later", "one"], 3, b_bounced_often, false⟩
def l_bounced_until_0 : Ss := .cons (.set 4 (.op .add (.var 4) (.call 64 (.cons (.var 0) (.cons (.var 7) (.cons (.var 2) (.cons (.op .sub (.var 3) (.int 1)) .nil))))))) .nil
def l_bounced_until_1 : Ss := .cons (.ifs (.var 6) (.cons (.fors (.n 7) (.e (.call 62 (.cons (.var 0) (.cons (.var 5) .nil)))) l_bounced_until_0) .nil) (.cons (.set 4 (.op .add (.var 4) (.lst (.cons (.var 5) .nil)))) .nil)) .nil
def b_bounced_until : Ss := .cons (.ifs (.cmp .eq (.var 3) (.int 0)) (.cons (.ret (.lst (.cons (.var 1) .nil))) .nil) .nil) (.cons (.set 4 (.lst .nil)) (.cons (.fors (.t (.cons (.n 5) (.cons (.n 6) .nil))) (.e (.call 60 (.cons (.var 1) (.cons (.var 2) .nil)))) l_bounced_until_1) (.cons (.ret (.var 4)) .nil)))
def f_bounced_until : FD := ⟨"bounced_until", ["lane", "piece", "height", "many", "found", "less", "is_high", "one"], 4, b_bounced_until, false⟩
def l_behind_step_0 : Ss := .cons (.set 10 (.op .add (.var 10) (.call 66 (.cons (.var 0) (.cons (.lst (.cons (.var 11) .nil)) (.cons (.ifx (.var 12) (.ix (.var 2) (.int 2)) (.ix (.var 2) (.int 3))) .nil)))))) .nil
def b_behind_step : Ss := .cons (.asg (.t (.cons (.n 3) (.cons (.n 4) (.cons (.n 5) (.cons (.t (.cons (.n 6) (.cons (.n 7) (.cons (.n 8) .nil)))) (.cons (.n 9) .nil)))))) (.var 1)) (.cons (.ifs (.cmp .eq (.ix (.var 2) (.int 0)) (.str "bounce")) (.cons (.ret (.call 63 (.cons (.var 0) (.cons (.var 1) (.cons (.ix (.var 2) (.int 1)) .nil))))) .nil) .nil) (.cons (.ifs (.cmp .eq (.ix (.var 2) (.int 0)) (.str "until")) (.cons (.ret (.call 64 (.cons (.var 0) (.cons (.var 1) (.cons (.ix (.var 2) (.int 1)) (.cons (.ix (.var 2) (.int 2)) .nil)))))) .nil) .nil) (.cons (.ifs (.cmp .eq (.ix (.var 2) (.int 0)) (.str "turn")) (.cons (.ret (.lst (.cons (.op .add (.tup (.cons (.var 3) (.cons (.var 4) (.cons (.call 61 (.cons (.var 5) .nil)) .nil)))) (.sl (.var 1) (.yes (.int 3)) .no)) .nil))) .nil) .nil) (.cons (.ifs (.cmp .eq (.ix (.var 2) (.int 0)) (.str "lift")) (.cons (.ret (.lst (.cons (.tup (.cons (.var 3) (.cons (.var 4) (.cons (.var 5) (.cons (.op .add (.call 30 (.cons (.op .mul (.var 6) (.ix (.var 2) (.int 1))) (.cons (.op .mul (.var 7) (.ix (.var 2) (.int 2))) .nil))) (.tup (.cons (.var 8) .nil))) (.cons (.var 9) .nil)))))) .nil))) .nil) .nil) (.cons (.set 10 (.lst .nil)) (.cons (.fors (.t (.cons (.n 11) (.cons (.n 12) .nil))) (.e (.call 60 (.cons (.var 1) (.cons (.ix (.var 2) (.int 1)) .nil)))) l_behind_step_0) (.cons (.ret (.var 10)) .nil)))))))
def f_behind_step : FD := ⟨"behind_step", ["lane", "piece", "step", "part", "cell", "way", "top", "below", "times", "events", "found", "less", "is_high"], 3, b_behind_step, false⟩
def l_behind_all_0 : Ss := .cons (.set 4 (.op .add (.var 4) (.call 65 (.cons (.var 0) (.cons (.var 5) (.cons (.var 3) .nil)))))) .nil
def l_behind_all_1 : Ss := .cons (.set 4 (.lst .nil)) (.cons (.fors (.n 5) (.e (.var 1)) l_behind_all_0) (.cons (.set 1 (.var 4)) .nil))
def b_behind_all : Ss := .cons (.fors (.n 3) (.e (.var 2)) l_behind_all_1) (.cons (.ret (.var 1)) .nil)
def f_behind_all : FD := ⟨"behind_all", ["lane", "pieces", "steps", "step", "later", "piece"], 3, b_behind_all, false⟩
def b_started : Ss := .cons (.ret (.tup (.cons (.var 1) (.cons (.ix (.var 0) (.int 0)) (.cons (.ix (.var 0) (.int 1)) (.cons (.tup (.cons (.ix (.var 0) (.int 2)) (.cons (.int 1) (.cons (.int 0) .nil)))) (.cons (.tup .nil) .nil))))))) .nil
def f_started : FD := ⟨"started", ["ball", "part"], 2, b_started, false⟩
def b_piece_at : Ss := .cons (.set 4 (.op .add (.tup (.cons (.int 1) .nil)) (.var 3))) (.cons (.ret (.ix (.call 66 (.cons (.var 0) (.cons (.lst (.cons (.call 67 (.cons (.var 1) (.cons (.tup (.cons (.var 4) (.cons (.var 4) .nil))) .nil))) .nil)) (.cons (.var 2) .nil)))) (.int 0))) .nil)
def f_piece_at : FD := ⟨"piece_at", ["lane", "ball", "script", "share", "number"], 4, b_piece_at, false⟩
def l_worth_0 : Ss := .cons (.asg (.t (.cons (.n 2) (.cons (.n 3) .nil))) (.call 30 (.cons (.op .mul (.var 2) (.ix (.var 1) (.int 0))) (.cons (.op .mul (.var 3) (.ix (.var 1) (.int 1))) .nil)))) .nil
def b_worth : Ss := .cons (.asg (.t (.cons (.n 2) (.cons (.n 3) (.cons (.n 4) .nil)))) (.var 0)) (.cons (.fors (.n 5) (.r1 (.var 4)) l_worth_0) (.cons (.ret (.tup (.cons (.var 2) (.cons (.var 3) .nil)))) .nil))
def f_worth : FD := ⟨"worth", ["form", "share", "top", "below", "times", "turn"], 2, b_worth, false⟩
def b_need_ball : Ss := .cons (.ifs (.not (.call 5 (.cons (.var 0) (.cons (.var 1) .nil)))) (.cons (.raise 2) .nil) .nil) .nil
def f_need_ball : FD := ⟨"need_ball", ["lane", "ball"], 2, b_need_ball, false⟩
def b_need_share : Ss := .cons (.ifs (.not (.call 4 (.cons (.var 0) .nil))) (.cons (.raise 3) .nil) .nil) .nil
def f_need_share : FD := ⟨"need_share", ["share"], 1, b_need_share, false⟩
def b_need_script : Ss := .cons (.ifs (.not (.call 8 (.cons (.var 0) .nil))) (.cons (.raise 4) .nil) .nil) .nil
def f_need_script : FD := ⟨"need_script", ["script"], 1, b_need_script, false⟩
def b_need_game : Ss := .cons (.exp (.call 9 (.cons (.var 0) .nil))) (.cons (.exp (.call 70 (.cons (.var 0) (.cons (.var 1) .nil)))) (.cons (.exp (.call 72 (.cons (.var 2) .nil))) .nil))
def f_need_game : FD := ⟨"need_game", ["lane", "ball", "script"], 3, b_need_game, false⟩
def b_need_told : Ss := .cons (.exp (.call 73 (.cons (.var 0) (.cons (.var 1) (.cons (.var 2) .nil))))) (.cons (.exp (.call 71 (.cons (.var 3) .nil))) .nil)
def f_need_told : FD := ⟨"need_told", ["lane", "ball", "script", "share"], 4, b_need_told, false⟩
def b_events : Ss := .cons (.exp (.call 74 (.cons (.var 0) (.cons (.var 1) (.cons (.var 2) (.cons (.var 3) .nil)))))) (.cons (.ret (.ix (.call 68 (.cons (.var 0) (.cons (.var 1) (.cons (.var 2) (.cons (.var 3) .nil))))) (.int 4))) .nil)
def f_events : FD := ⟨"events", ["lane", "ball", "script", "share"], 4, b_events, false⟩
def b_ball_behind : Ss := .cons (.exp (.call 74 (.cons (.var 0) (.cons (.var 1) (.cons (.var 2) (.cons (.var 3) .nil)))))) (.cons (.set 4 (.call 68 (.cons (.var 0) (.cons (.var 1) (.cons (.var 2) (.cons (.var 3) .nil)))))) (.cons (.ret (.op .add (.sl (.var 4) (.yes (.int 1)) (.yes (.int 3))) (.tup (.cons (.call 69 (.cons (.ix (.var 4) (.int 3)) (.cons (.var 3) .nil))) .nil)))) .nil))
def f_ball_behind : FD := ⟨"ball_behind", ["lane", "ball", "script", "share", "piece"], 4, b_ball_behind, false⟩
def b_form_behind : Ss := .cons (.exp (.call 74 (.cons (.var 0) (.cons (.var 1) (.cons (.var 2) (.cons (.var 3) .nil)))))) (.cons (.ret (.ix (.call 68 (.cons (.var 0) (.cons (.var 1) (.cons (.var 2) (.cons (.var 3) .nil))))) (.int 3))) .nil)
def f_form_behind : FD := ⟨"form_behind", ["lane", "ball", "script", "share"], 4, b_form_behind, false⟩
def b__law_share : Ss := .cons (.set 1 (.op .add (.int 1) (.call 14 (.cons (.var 0) (.cons (.int 12) .nil))))) (.cons (.ret (.call 42 (.cons (.call 14 (.cons (.var 0) (.cons (.op .add (.var 1) (.int 1)) .nil))) (.cons (.var 1) .nil)))) .nil)
def f__law_share : FD := ⟨"_law_share", ["bag", "below"], 1, b__law_share, false⟩
def b__law_leap : Ss := .cons (.asg (.t (.cons (.n 3) (.cons (.n 4) (.cons (.t (.cons (.n 5) (.cons (.n 6) .nil))) (.cons (.n 7) (.cons (.t (.cons (.n 8) (.cons (.n 9) (.cons (.n 10) .nil)))) .nil)))))) (.var 1)) (.cons (.set 11 (.call 42 (.cons (.op .mul (.var 5) (.ix (.var 2) (.int 0))) (.cons (.op .mul (.var 6) (.ix (.var 2) (.int 1))) .nil)))) (.cons (.par (.cons (.n 12) (.cons (.n 13) .nil)) (.cons (.op .add (.var 3) (.ifx (.cmp .eq (.var 4) (.str "right")) (.int 1) (.neg (.int 1)))) (.cons (.tup (.cons (.var 8) (.cons (.var 9) (.cons (.op .add (.var 10) (.int 1)) .nil)))) .nil))) (.cons (.ifs (.and (.chain .le .le (.int 0) (.var 12) (.bi .len (.cons (.var 0) .nil))) (.cmp .ge (.ix (.var 11) (.int 0)) (.op .mul (.ix (.var 0) (.bi .min (.cons (.var 12) (.cons (.var 3) .nil)))) (.ix (.var 11) (.int 1))))) (.cons (.ret (.tup (.cons (.var 12) (.cons (.var 4) (.cons (.var 11) (.cons (.op .add (.var 7) (.tup (.cons (.tup (.cons (.str "over") (.cons (.var 12) .nil))) .nil))) (.cons (.var 13) .nil))))))) .nil) .nil) (.cons (.set 4 (.ifx (.cmp .eq (.var 4) (.str "right")) (.str "left") (.str "right"))) (.cons (.ret (.tup (.cons (.var 3) (.cons (.var 4) (.cons (.var 11) (.cons (.op .add (.var 7) (.tup (.cons (.tup (.cons (.str "back") (.cons (.var 3) .nil))) .nil))) (.cons (.var 13) .nil))))))) .nil)))))
def f__law_leap : FD := ⟨"_law_leap", ["lane_so", "state", "share_so", "cell_so", "way_so", "top", "below", "events_so", "over", "under", "often", "high", "there", "form_so"], 3, b__law_leap, false⟩
def l__law_leapt_0 : Ss := .cons (.ifs (.or (.cmp .eq (.ix (.var 4) (.int 0)) (.str "bounce")) (.cmp .ge (.ix (.ix (.var 1) (.int 2)) (.int 0)) (.op .mul (.ix (.var 4) (.int 1)) (.ix (.ix (.var 1) (.int 2)) (.int 1))))) (.cons (.set 1 (.call 79 (.cons (.var 0) (.cons (.var 1) (.cons (.var 3) .nil))))) .nil) .nil) .nil
def l__law_leapt_1 : Ss := .cons (.asg (.t (.cons (.n 5) (.cons (.n 6) (.cons (.t (.cons (.n 7) (.cons (.n 8) .nil))) (.cons (.n 9) (.cons (.t (.cons (.n 10) (.cons (.n 11) (.cons (.n 12) .nil)))) .nil)))))) (.var 1)) (.cons (.ifs (.cmp .eq (.ix (.var 4) (.int 0)) (.str "turn")) (.cons (.set 1 (.op .add (.tup (.cons (.var 5) (.cons (.ifx (.cmp .eq (.var 6) (.str "right")) (.str "left") (.str "right")) .nil))) (.sl (.var 1) (.yes (.int 2)) .no))) .nil) (.cons (.ifs (.cmp .eq (.ix (.var 4) (.int 0)) (.str "lift")) (.cons (.set 13 (.op .add (.call 42 (.cons (.op .mul (.var 10) (.ix (.var 4) (.int 1))) (.cons (.op .mul (.var 11) (.ix (.var 4) (.int 2))) .nil))) (.tup (.cons (.var 12) .nil)))) (.cons (.set 1 (.tup (.cons (.var 5) (.cons (.var 6) (.cons (.call 42 (.cons (.op .mul (.var 7) (.ix (.var 4) (.int 1))) (.cons (.op .mul (.var 8) (.ix (.var 4) (.int 2))) .nil))) (.cons (.var 9) (.cons (.var 13) .nil))))))) .nil)) (.cons (.ifs (.cmp .eq (.ix (.var 4) (.int 0)) (.str "if")) (.cons (.set 1 (.call 80 (.cons (.var 0) (.cons (.var 1) (.cons (.ifx (.cmp .ge (.var 7) (.op .mul (.ix (.var 4) (.int 1)) (.var 8))) (.ix (.var 4) (.int 2)) (.ix (.var 4) (.int 3))) (.cons (.var 3) .nil)))))) .nil) (.cons (.fors (.n 14) (.r1 (.ix (.var 4) (.neg (.int 1)))) l__law_leapt_0) .nil)) .nil)) .nil)) .nil)
def b__law_leapt : Ss := .cons (.fors (.n 4) (.e (.var 2)) l__law_leapt_1) (.cons (.ret (.var 1)) .nil)
def f__law_leapt : FD := ⟨"_law_leapt", ["lane_so", "state", "steps", "share_so", "step", "cell_so", "way_so", "top", "below", "events_so", "over", "under", "often", "form_so", "turn"], 4, b__law_leapt, false⟩
def b_range_of : Ss := .cons (.asg (.t (.cons (.n 1) (.cons (.n 2) .nil))) (.var 0)) (.cons (.ret (.tup (.cons (.var 1) (.cons (.cmp .eq (.var 1) (.var 2)) (.cons (.var 2) (.cons (.cmp .eq (.var 1) (.var 2)) .nil)))))) .nil)
def f_range_of : FD := ⟨"range_of", ["part", "low", "high"], 1, b_range_of, false⟩
def b_meets : Ss := .cons (.ret (.and (.cmp .eq (.ix (.var 0) (.int 2)) (.ix (.var 1) (.int 0))) (.cmp .ne (.ix (.var 0) (.int 3)) (.ix (.var 1) (.int 1))))) .nil
def f_meets : FD := ⟨"meets", ["one", "other"], 2, b_meets, false⟩
def l_joined_0 : Ss := .cons (.set 4 (.call 82 (.cons (.var 2) .nil))) (.cons (.ifs (.and (.cmp .ne (.var 1) (.lst .nil)) (.and (.cmp .eq (.ix (.ix (.var 1) (.neg (.int 1))) (.int 1)) (.var 3)) (.call 83 (.cons (.ix (.ix (.var 1) (.neg (.int 1))) (.int 0)) (.cons (.var 4) .nil))))) (.cons (.set 5 (.ix (.ix (.var 1) (.neg (.int 1))) (.int 0))) (.cons (.setix 1 (.neg (.int 1)) (.tup (.cons (.op .add (.sl (.var 5) .no (.yes (.int 2))) (.sl (.var 4) (.yes (.int 2)) .no)) (.cons (.var 3) .nil)))) .nil)) (.cons (.app 1 (.tup (.cons (.var 4) (.cons (.var 3) .nil)))) .nil)) .nil)
def b_joined : Ss := .cons (.set 1 (.lstM .nil)) (.cons (.fors (.t (.cons (.n 2) (.cons (.n 3) .nil))) (.e (.var 0)) l_joined_0) (.cons (.ret (.var 1)) .nil))
def f_joined : FD := ⟨"joined", ["rows", "found", "part", "value", "stretch", "ahead"], 1, b_joined, false⟩
def b_stretch_parts : Ss := .cons (.ret (.ifx (.cmp .eq (.var 0) (.var 1)) (.lst (.cons (.tup (.cons (.var 0) (.cons (.var 0) .nil))) .nil)) (.lst (.cons (.tup (.cons (.var 0) (.cons (.var 0) .nil))) (.cons (.tup (.cons (.var 0) (.cons (.var 1) .nil))) (.cons (.tup (.cons (.var 1) (.cons (.var 1) .nil))) .nil)))))) .nil
def f_stretch_parts : FD := ⟨"stretch_parts", ["low", "high"], 2, b_stretch_parts, false⟩
def b_whole : Ss := .cons (.ret (.call 85 (.cons (.glo 2) (.cons (.glo 4) .nil)))) .nil
def f_whole : FD := ⟨"whole", [], 0, b_whole, false⟩
def b_comes_ahead : Ss := .cons (.ret (.or (.call 53 (.cons (.ix (.var 0) (.int 0)) (.cons (.ix (.var 1) (.int 0)) .nil))) (.and (.cmp .eq (.ix (.var 0) (.int 0)) (.ix (.var 1) (.int 0))) (.call 53 (.cons (.ix (.var 0) (.int 1)) (.cons (.ix (.var 1) (.int 1)) .nil)))))) .nil
def f_comes_ahead : FD := ⟨"comes_ahead", ["one", "other"], 2, b_comes_ahead, false⟩
def l_in_line_0 : Ss := .cons (.set 3 (.bi .len (.cons (.lc [("other", 4)] (.n 4) (.e (.var 1)) (.yes (.call 87 (.cons (.ix (.var 4) (.int 0)) (.cons (.ix (.var 2) (.int 0)) .nil)))) (.var 4)) .nil))) (.cons (.set 1 (.op .add (.op .add (.sl (.var 1) .no (.yes (.var 3))) (.lst (.cons (.var 2) .nil))) (.sl (.var 1) (.yes (.var 3)) .no))) .nil)
def b_in_line : Ss := .cons (.set 1 (.lst .nil)) (.cons (.fors (.n 2) (.e (.var 0)) l_in_line_0) (.cons (.ret (.var 1)) .nil))
def f_in_line : FD := ⟨"in_line", ["pieces", "found", "piece", "at", "other"], 1, b_in_line, false⟩
def b_pieces_in : Ss := .cons (.ret (.call 88 (.cons (.call 66 (.cons (.var 0) (.cons (.lc [("part", 4)] (.n 4) (.e (.var 3)) .no (.call 67 (.cons (.var 1) (.cons (.var 4) .nil)))) (.cons (.var 2) .nil)))) .nil))) .nil
def f_pieces_in : FD := ⟨"pieces_in", ["lane", "ball", "script", "parts", "part"], 4, b_pieces_in, false⟩
def b_pieces_of : Ss := .cons (.ret (.call 89 (.cons (.var 0) (.cons (.var 1) (.cons (.var 2) (.cons (.call 86 .nil) .nil)))))) .nil
def f_pieces_of : FD := ⟨"pieces_of", ["lane", "ball", "script"], 3, b_pieces_of, false⟩
def b_event_ranges : Ss := .cons (.exp (.call 73 (.cons (.var 0) (.cons (.var 1) (.cons (.var 2) .nil))))) (.cons (.ret (.call 84 (.cons (.lc [("piece", 3)] (.n 3) (.e (.call 90 (.cons (.var 0) (.cons (.var 1) (.cons (.var 2) .nil))))) .no (.tup (.cons (.ix (.var 3) (.int 0)) (.cons (.ix (.var 3) (.int 4)) .nil)))) .nil))) .nil)
def f_event_ranges : FD := ⟨"event_ranges", ["lane", "ball", "script", "piece"], 3, b_event_ranges, false⟩
def b_end_ranges : Ss := .cons (.exp (.call 73 (.cons (.var 0) (.cons (.var 1) (.cons (.var 2) .nil))))) (.cons (.ret (.call 84 (.cons (.lc [("piece", 3)] (.n 3) (.e (.call 90 (.cons (.var 0) (.cons (.var 1) (.cons (.var 2) .nil))))) .no (.tup (.cons (.ix (.var 3) (.int 0)) (.cons (.op .add (.sl (.var 3) (.yes (.int 1)) (.yes (.int 3))) (.tup (.cons (.ix (.ix (.var 3) (.int 3)) (.int 2)) .nil))) .nil)))) .nil))) .nil)
def f_end_ranges : FD := ⟨"end_ranges", ["lane", "ball", "script", "piece"], 3, b_end_ranges, false⟩
def b_form_ranges : Ss := .cons (.exp (.call 73 (.cons (.var 0) (.cons (.var 1) (.cons (.var 2) .nil))))) (.cons (.ret (.call 84 (.cons (.lc [("piece", 3)] (.n 3) (.e (.call 90 (.cons (.var 0) (.cons (.var 1) (.cons (.var 2) .nil))))) .no (.tup (.cons (.ix (.var 3) (.int 0)) (.cons (.ix (.var 3) (.int 3)) .nil)))) .nil))) .nil)
def f_form_ranges : FD := ⟨"form_ranges", ["lane", "ball", "script", "piece"], 3, b_form_ranges, false⟩
def l__law_between_0 : Ss := .cons (.set 5 (.op .add (.tup (.cons (.int 1) .nil)) (.call 42 (.cons (.op .add (.var 2) (.var 3)) (.cons (.op .mul (.int 2) (.var 4)) .nil))))) (.cons (.ifs (.and (.call 46 (.cons (.var 0) (.cons (.var 5) .nil))) (.call 46 (.cons (.var 5) (.cons (.var 1) .nil)))) (.cons (.ret (.var 5)) .nil) .nil) (.cons (.par (.cons (.n 2) (.cons (.n 3) (.cons (.n 4) .nil))) (.cons (.op .mul (.int 2) (.var 2)) (.cons (.op .mul (.int 2) (.var 3)) (.cons (.op .mul (.int 2) (.var 4)) .nil)))) (.cons (.ifs (.call 46 (.cons (.var 0) (.cons (.var 5) .nil))) (.cons (.set 3 (.op .fdiv (.op .add (.var 2) (.var 3)) (.int 2))) .nil) (.cons (.set 2 (.op .fdiv (.op .add (.var 2) (.var 3)) (.int 2))) .nil)) .nil)))
def b__law_between : Ss := .cons (.par (.cons (.n 2) (.cons (.n 3) (.cons (.n 4) .nil))) (.cons (.int 0) (.cons (.int 2) (.cons (.int 1) .nil)))) (.cons (.whl (.bl true) l__law_between_0) .nil)
def f__law_between : FD := ⟨"_law_between", ["low", "high", "first", "second", "below", "middle"], 2, b__law_between, false⟩
def b__law_high : Ss := .cons (.asg (.t (.cons (.n 3) (.cons (.n 4) (.cons (.n 5) .nil)))) (.var 0)) (.cons (.ifs (.cmp .eq (.var 5) (.int 0)) (.cons (.ret (.tup (.cons (.cmp .ge (.var 3) (.op .mul (.var 1) (.var 4))) (.cons (.lst .nil) .nil)))) .nil) .nil) (.cons (.set 6 (.call 45 (.cons (.var 5) (.cons (.op .mul (.var 1) (.var 4)) (.cons (.var 3) .nil))))) (.cons (.ret (.tup (.cons (.not (.call 46 (.cons (.var 2) (.cons (.var 6) .nil)))) (.cons (.lst (.cons (.var 6) .nil)) .nil)))) .nil)))
def f__law_high : FD := ⟨"_law_high", ["form_so", "height_so", "number", "top", "below", "often", "cut"], 3, b__law_high, false⟩
def b__law_bounced : Ss := .cons (.asg (.t (.cons (.n 3) (.cons (.n 4) (.cons (.t (.cons (.n 5) (.cons (.n 6) (.cons (.n 7) .nil)))) (.cons (.n 8) (.cons (.n 9) .nil)))))) (.var 1)) (.cons (.set 10 (.tup (.cons (.var 5) (.cons (.var 6) (.cons (.op .add (.var 7) (.int 1)) .nil))))) (.cons (.set 11 (.op .add (.var 3) (.ifx (.cmp .eq (.var 4) (.str "right")) (.int 1) (.neg (.int 1))))) (.cons (.par (.cons (.n 12) (.cons (.n 13) .nil)) (.cons (.bl false) (.cons (.lst .nil) .nil))) (.cons (.ifs (.chain .le .le (.int 0) (.var 11) (.bi .len (.cons (.var 0) .nil))) (.cons (.asg (.t (.cons (.n 12) (.cons (.n 13) .nil))) (.call 95 (.cons (.var 10) (.cons (.ix (.var 0) (.bi .min (.cons (.var 3) (.cons (.var 11) .nil)))) (.cons (.var 2) .nil))))) .nil) .nil) (.cons (.ifs (.var 12) (.cons (.ret (.tup (.cons (.var 11) (.cons (.var 4) (.cons (.var 10) (.cons (.op .add (.var 8) (.tup (.cons (.tup (.cons (.str "over") (.cons (.var 11) .nil))) .nil))) (.cons (.op .add (.var 9) (.var 13)) .nil))))))) .nil) .nil) (.cons (.set 4 (.ifx (.cmp .eq (.var 4) (.str "right")) (.str "left") (.str "right"))) (.cons (.ret (.tup (.cons (.var 3) (.cons (.var 4) (.cons (.var 10) (.cons (.op .add (.var 8) (.tup (.cons (.tup (.cons (.str "back") (.cons (.var 3) .nil))) .nil))) (.cons (.op .add (.var 9) (.var 13)) .nil))))))) .nil)))))))
def f__law_bounced : FD := ⟨"_law_bounced", ["lane_so", "state", "number", "cell_so", "way_so", "top", "below", "often", "events_so", "cuts", "form_so", "there", "good", "more"], 3, b__law_bounced, false⟩
def l__law_done_0 : Ss := .cons (.par (.cons (.n 13) (.cons (.n 14) .nil)) (.cons (.bl true) (.cons (.lst .nil) .nil))) (.cons (.ifs (.cmp .eq (.ix (.var 2) (.int 0)) (.str "until")) (.cons (.asg (.t (.cons (.n 13) (.cons (.n 14) .nil))) (.call 95 (.cons (.ix (.var 1) (.int 2)) (.cons (.ix (.var 2) (.int 1)) (.cons (.var 3) .nil))))) .nil) .nil) (.cons (.set 1 (.op .add (.sl (.var 1) .no (.yes (.int 4))) (.tup (.cons (.op .add (.ix (.var 1) (.int 4)) (.var 14)) .nil)))) (.cons (.ifs (.not (.var 13)) (.cons (.ret (.var 1)) .nil) .nil) (.cons (.set 1 (.call 96 (.cons (.var 0) (.cons (.var 1) (.cons (.var 3) .nil))))) .nil))))
def b__law_done : Ss := .cons (.asg (.t (.cons (.n 4) (.cons (.n 5) (.cons (.t (.cons (.n 6) (.cons (.n 7) (.cons (.n 8) .nil)))) (.cons (.n 9) (.cons (.n 10) .nil)))))) (.var 1)) (.cons (.ifs (.cmp .eq (.ix (.var 2) (.int 0)) (.str "turn")) (.cons (.ret (.op .add (.tup (.cons (.var 4) (.cons (.ifx (.cmp .eq (.var 5) (.str "right")) (.str "left") (.str "right")) .nil))) (.sl (.var 1) (.yes (.int 2)) .no))) .nil) .nil) (.cons (.ifs (.cmp .eq (.ix (.var 2) (.int 0)) (.str "lift")) (.cons (.set 11 (.op .add (.call 42 (.cons (.op .mul (.var 6) (.ix (.var 2) (.int 1))) (.cons (.op .mul (.var 7) (.ix (.var 2) (.int 2))) .nil))) (.tup (.cons (.var 8) .nil)))) (.cons (.ret (.tup (.cons (.var 4) (.cons (.var 5) (.cons (.var 11) (.cons (.var 9) (.cons (.var 10) .nil))))))) .nil)) .nil) (.cons (.fors (.n 12) (.r1 (.ix (.var 2) (.neg (.int 1)))) l__law_done_0) (.cons (.ret (.var 1)) .nil))))
def f__law_done : FD := ⟨"_law_done", ["lane_so", "state", "step", "number", "cell_so", "way_so", "top", "below", "often", "events_so", "cuts", "form_so", "turn", "good", "more"], 4, b__law_done, false⟩
def l__law_run_0 : Ss := .cons (.set 4 (.call 97 (.cons (.var 0) (.cons (.var 4) (.cons (.var 9) (.cons (.var 3) .nil)))))) .nil
def l__law_run_1 : Ss := .cons (.set 6 (.tup (.cons (.var 5) .nil))) (.cons (.ifs (.cmp .eq (.ix (.var 5) (.int 0)) (.str "if")) (.cons (.asg (.t (.cons (.n 7) (.cons (.n 8) .nil))) (.call 95 (.cons (.ix (.var 4) (.int 2)) (.cons (.ix (.var 5) (.int 1)) (.cons (.var 3) .nil))))) (.cons (.set 4 (.op .add (.sl (.var 4) .no (.yes (.int 4))) (.tup (.cons (.op .add (.ix (.var 4) (.int 4)) (.var 8)) .nil)))) (.cons (.set 6 (.ifx (.var 7) (.ix (.var 5) (.int 2)) (.ix (.var 5) (.int 3)))) .nil))) .nil) (.cons (.fors (.n 9) (.e (.var 6)) l__law_run_0) .nil))
def b__law_run : Ss := .cons (.set 4 (.tup (.cons (.ix (.var 1) (.int 0)) (.cons (.ix (.var 1) (.int 1)) (.cons (.tup (.cons (.ix (.var 1) (.int 2)) (.cons (.int 1) (.cons (.int 0) .nil)))) (.cons (.tup .nil) (.cons (.lst .nil) .nil))))))) (.cons (.fors (.n 5) (.e (.var 2)) l__law_run_1) (.cons (.ret (.var 4)) .nil))
def f__law_run : FD := ⟨"_law_run", ["lane_so", "ball_so", "steps", "number", "state", "step", "rows", "good", "more", "one"], 4, b__law_run, false⟩
def l__law_open_0 : Ss := .cons (.ifs (.and (.inn true (.var 7) (.var 6)) (.and (.call 46 (.cons (.var 3) (.cons (.var 7) .nil))) (.call 46 (.cons (.var 7) (.cons (.var 4) .nil))))) (.cons (.set 8 (.bi .len (.cons (.lc [("one", 10)] (.n 10) (.e (.var 6)) (.yes (.call 46 (.cons (.var 10) (.cons (.var 7) .nil)))) (.var 10)) .nil))) (.cons (.set 6 (.op .add (.op .add (.sl (.var 6) .no (.yes (.var 8))) (.lst (.cons (.var 7) .nil))) (.sl (.var 6) (.yes (.var 8)) .no))) .nil)) .nil) .nil
def l__law_open_1 : Ss := .cons (.set 9 (.catM (.var 9) (.call 99 (.cons (.var 0) (.cons (.var 1) (.cons (.var 2) (.cons (.var 3) (.cons (.var 7) .nil)))))))) (.cons (.app 9 (.tup (.cons (.var 7) (.cons (.var 7) (.cons (.call 98 (.cons (.var 0) (.cons (.var 1) (.cons (.var 2) (.cons (.var 7) .nil))))) .nil))))) (.cons (.set 3 (.var 7)) .nil))
def b__law_open : Ss := .cons (.set 5 (.call 98 (.cons (.var 0) (.cons (.var 1) (.cons (.var 2) (.cons (.call 94 (.cons (.var 3) (.cons (.var 4) .nil))) .nil)))))) (.cons (.set 6 (.lst .nil)) (.cons (.fors (.n 7) (.e (.ix (.var 5) (.int 4))) l__law_open_0) (.cons (.ifs (.cmp .eq (.var 6) (.lst .nil)) (.cons (.ret (.lst (.cons (.tup (.cons (.var 3) (.cons (.var 4) (.cons (.var 5) .nil)))) .nil))) .nil) .nil) (.cons (.set 9 (.lstM .nil)) (.cons (.fors (.n 7) (.e (.var 6)) l__law_open_1) (.cons (.ret (.op .add (.var 9) (.call 99 (.cons (.var 0) (.cons (.var 1) (.cons (.var 2) (.cons (.var 3) (.cons (.var 4) .nil)))))))) .nil))))))
def f__law_open : FD := ⟨"_law_open", ["lane_so", "ball_so", "steps", "low", "high", "state", "order", "cut", "at", "found", "one"], 5, b__law_open, false⟩
def b__law_pieces : Ss := .cons (.set 5 (.lst (.cons (.tup (.cons (.var 3) (.cons (.var 3) (.cons (.call 98 (.cons (.var 0) (.cons (.var 1) (.cons (.var 2) (.cons (.var 3) .nil))))) .nil)))) .nil))) (.cons (.ifs (.cmp .eq (.var 3) (.var 4)) (.cons (.ret (.var 5)) .nil) .nil) (.cons (.set 5 (.op .add (.var 5) (.call 99 (.cons (.var 0) (.cons (.var 1) (.cons (.var 2) (.cons (.var 3) (.cons (.var 4) .nil)))))))) (.cons (.ret (.op .add (.var 5) (.lst (.cons (.tup (.cons (.var 4) (.cons (.var 4) (.cons (.call 98 (.cons (.var 0) (.cons (.var 1) (.cons (.var 2) (.cons (.var 4) .nil))))) .nil)))) .nil)))) .nil)))
def f__law_pieces : FD := ⟨"_law_pieces", ["lane_so", "ball_so", "steps", "low", "high", "found"], 5, b__law_pieces, false⟩
def l__law_joined_0 : Ss := .cons (.set 5 (.tup (.cons (.var 2) (.cons (.cmp .eq (.var 2) (.var 3)) (.cons (.var 3) (.cons (.cmp .eq (.var 2) (.var 3)) .nil)))))) (.cons (.ifs (.and (.cmp .ne (.var 1) (.lst .nil)) (.cmp .eq (.ix (.ix (.var 1) (.neg (.int 1))) (.int 1)) (.var 4))) (.cons (.setix 1 (.neg (.int 1)) (.tup (.cons (.op .add (.sl (.ix (.ix (.var 1) (.neg (.int 1))) (.int 0)) .no (.yes (.int 2))) (.sl (.var 5) (.yes (.int 2)) .no)) (.cons (.var 4) .nil)))) .nil) (.cons (.app 1 (.tup (.cons (.var 5) (.cons (.var 4) .nil)))) .nil)) .nil)
def b__law_joined : Ss := .cons (.set 1 (.lstM .nil)) (.cons (.fors (.t (.cons (.n 2) (.cons (.n 3) (.cons (.n 4) .nil)))) (.e (.var 0)) l__law_joined_0) (.cons (.ret (.var 1)) .nil))
def f__law_joined : FD := ⟨"_law_joined", ["rows", "found", "low", "high", "value", "stretch"], 1, b__law_joined, false⟩
def b_has_number : Ss := .cons (.ifs (.cmp .eq (.ix (.var 0) (.int 0)) (.ix (.var 0) (.int 1))) (.cons (.ret (.cmp .eq (.ix (.var 0) (.int 0)) (.var 1))) .nil) .nil) (.cons (.ret (.and (.call 53 (.cons (.ix (.var 0) (.int 0)) (.cons (.var 1) .nil))) (.call 53 (.cons (.var 1) (.cons (.ix (.var 0) (.int 1)) .nil))))) .nil)
def f_has_number : FD := ⟨"has_number", ["part", "number"], 2, b_has_number, false⟩
def b_piece_of : Ss := .cons (.ret (.ix (.lc [("piece", 2)] (.n 2) (.e (.var 0)) (.yes (.call 103 (.cons (.ix (.var 2) (.int 0)) (.cons (.var 1) .nil)))) (.var 2)) (.int 0))) .nil
def f_piece_of : FD := ⟨"piece_of", ["pieces", "number", "piece"], 2, b_piece_of, false⟩
def l_common_parts_0 : Ss := .cons (.set 2 (.op .add (.var 2) (.lst (.cons (.tup (.cons (.var 3) (.cons (.var 4) .nil))) (.cons (.tup (.cons (.var 4) (.cons (.var 4) .nil))) .nil))))) .nil
def b_common_parts : Ss := .cons (.set 1 (.call 55 (.cons (.lc [("piece", 5)] (.n 5) (.e (.var 0)) .no (.ix (.ix (.var 5) (.int 0)) (.int 0))) .nil))) (.cons (.set 2 (.lst (.cons (.tup (.cons (.glo 2) (.cons (.glo 2) .nil))) .nil))) (.cons (.fors (.t (.cons (.n 3) (.cons (.n 4) .nil))) (.zip (.var 1) (.sl (.var 1) (.yes (.int 1)) .no)) l_common_parts_0) (.cons (.ret (.var 2)) .nil)))
def f_common_parts : FD := ⟨"common_parts", ["pieces", "cuts", "found", "low", "high", "piece"], 1, b_common_parts, false⟩
def b_form_cuts : Ss := .cons (.asg (.t (.cons (.n 2) (.cons (.n 3) (.cons (.n 4) .nil)))) (.var 0)) (.cons (.asg (.t (.cons (.n 5) (.cons (.n 6) (.cons (.n 7) .nil)))) (.var 1)) (.cons (.ifs (.cmp .eq (.var 4) (.var 7)) (.cons (.ret (.lst .nil)) .nil) .nil) (.cons (.ifs (.cmp .gt (.var 4) (.var 7)) (.cons (.ret (.lst (.cons (.call 33 (.cons (.op .sub (.var 4) (.var 7)) (.cons (.op .mul (.var 5) (.var 3)) (.cons (.op .mul (.var 6) (.var 2)) .nil)))) .nil))) .nil) .nil) (.cons (.ret (.lst (.cons (.call 33 (.cons (.op .sub (.var 7) (.var 4)) (.cons (.op .mul (.var 2) (.var 6)) (.cons (.op .mul (.var 3) (.var 5)) .nil)))) .nil))) .nil))))
def f_form_cuts : FD := ⟨"form_cuts", ["one", "other", "top", "below", "times", "over", "under", "often"], 2, b_form_cuts, false⟩
def l_forms_compared_0 : Ss := .cons (.set 7 (.op .add (.var 7) (.lst (.cons (.tup (.cons (.op .mul (.op .mul (.call 31 (.cons (.var 8) (.cons (.var 3) .nil))) (.call 31 (.cons (.var 4) (.cons (.var 10) .nil)))) (.call 31 (.cons (.var 5) (.cons (.op .sub (.var 6) (.var 10)) .nil)))) (.cons (.call 31 (.cons (.var 9) (.cons (.var 3) .nil))) .nil))) .nil)))) .nil
def b_forms_compared : Ss := .cons (.asg (.t (.cons (.n 3) (.cons (.n 4) (.cons (.n 5) .nil)))) (.var 2)) (.cons (.set 6 (.bi .max (.cons (.ix (.var 0) (.int 2)) (.cons (.ix (.var 1) (.int 2)) .nil)))) (.cons (.set 7 (.lst .nil)) (.cons (.fors (.t (.cons (.n 8) (.cons (.n 9) (.cons (.n 10) .nil)))) (.e (.tup (.cons (.var 0) (.cons (.var 1) .nil)))) l_forms_compared_0) (.cons (.ret (.call 34 (.cons (.op .sub (.op .mul (.ix (.ix (.var 7) (.int 0)) (.int 0)) (.ix (.ix (.var 7) (.int 1)) (.int 1))) (.op .mul (.ix (.ix (.var 7) (.int 1)) (.int 0)) (.ix (.ix (.var 7) (.int 0)) (.int 1)))) .nil))) .nil))))
def f_forms_compared : FD := ⟨"forms_compared", ["one", "other", "number", "degree", "part", "base", "most", "sides", "top", "below", "times"], 3, b_forms_compared, false⟩
def l_higher_0 : Ss := .cons (.set 12 (.ix (.tup (.cons (.str "other") (.cons (.str "same") (.cons (.str "one") .nil)))) (.op .add (.int 1) (.call 107 (.cons (.var 9) (.cons (.var 10) (.cons (.call 58 (.cons (.var 11) .nil)) .nil))))))) (.cons (.set 7 (.op .add (.var 7) (.lst (.cons (.tup (.cons (.var 11) (.cons (.var 12) .nil))) .nil)))) .nil)
def l_higher_1 : Ss := .cons (.par (.cons (.n 9) (.cons (.n 10) .nil)) (.cons (.ix (.call 104 (.cons (.var 5) (.cons (.call 58 (.cons (.var 8) .nil)) .nil))) (.int 3)) (.cons (.ix (.call 104 (.cons (.var 6) (.cons (.call 58 (.cons (.var 8) .nil)) .nil))) (.int 3)) .nil))) (.cons (.fors (.n 11) (.e (.call 59 (.cons (.var 8) (.cons (.call 106 (.cons (.var 9) (.cons (.var 10) .nil))) .nil)))) l_higher_0) .nil)
def b_higher : Ss := .cons (.exp (.call 73 (.cons (.var 0) (.cons (.var 1) (.cons (.var 2) .nil))))) (.cons (.exp (.call 70 (.cons (.var 0) (.cons (.var 3) .nil)))) (.cons (.exp (.call 72 (.cons (.var 4) .nil))) (.cons (.par (.cons (.n 5) (.cons (.n 6) .nil)) (.cons (.call 90 (.cons (.var 0) (.cons (.var 1) (.cons (.var 2) .nil)))) (.cons (.call 90 (.cons (.var 0) (.cons (.var 3) (.cons (.var 4) .nil)))) .nil))) (.cons (.set 7 (.lst .nil)) (.cons (.fors (.n 8) (.e (.call 105 (.cons (.op .add (.var 5) (.var 6)) .nil))) l_higher_1) (.cons (.ret (.call 84 (.cons (.var 7) .nil))) .nil))))))
def f_higher : FD := ⟨"higher", ["lane", "ball", "one", "other_ball", "other", "mine", "yours", "found", "part", "first", "second", "less", "word"], 5, b_higher, false⟩
def b__law_same_form : Ss := .cons (.par (.cons (.t (.cons (.n 3) (.cons (.n 4) (.cons (.n 5) .nil)))) (.cons (.t (.cons (.n 6) (.cons (.n 7) (.cons (.n 8) .nil)))) .nil)) (.cons (.var 0) (.cons (.var 1) .nil))) (.cons (.ifs (.or (.cmp .eq (.var 5) (.var 8)) (.and (.cmp .eq (.ix (.var 2) (.int 1)) (.int 0)) (.cmp .gt (.bi .min (.cons (.var 5) (.cons (.var 8) .nil))) (.int 0)))) (.cons (.set 9 (.ifx (.and (.cmp .eq (.ix (.var 2) (.int 1)) (.int 0)) (.cmp .gt (.var 5) (.int 0))) (.int 0) (.op .sub (.op .mul (.var 3) (.var 7)) (.op .mul (.var 6) (.var 4))))) (.cons (.ret (.op .sub (.cmp .gt (.var 9) (.int 0)) (.cmp .lt (.var 9) (.int 0)))) .nil)) .nil) (.cons (.ifs (.cmp .lt (.var 5) (.var 8)) (.cons (.ret (.neg (.call 109 (.cons (.var 1) (.cons (.var 0) (.cons (.var 2) .nil)))))) .nil) .nil) (.cons (.set 10 (.call 45 (.cons (.op .sub (.var 5) (.var 8)) (.cons (.op .mul (.var 6) (.var 4)) (.cons (.op .mul (.var 7) (.var 3)) .nil))))) (.cons (.ret (.ifx (.cmp .eq (.var 2) (.var 10)) (.int 0) (.ifx (.call 46 (.cons (.var 2) (.cons (.var 10) .nil))) (.neg (.int 1)) (.int 1)))) .nil))))
def f__law_same_form : FD := ⟨"_law_same_form", ["one", "other", "number", "top", "below", "often", "over", "under", "times_so", "gap", "cut"], 3, b__law_same_form, false⟩
def b_are_like : Ss := .cons (.ifs (.or (.cmp .ne (.sl (.var 0) (.yes (.int 1)) (.yes (.int 3))) (.sl (.var 1) (.yes (.int 1)) (.yes (.int 3)))) (.cmp .ne (.ix (.var 0) (.int 4)) (.ix (.var 1) (.int 4)))) (.cons (.ret (.bl false)) .nil) .nil) (.cons (.ret (.cmp .eq (.call 107 (.cons (.ix (.var 0) (.int 3)) (.cons (.ix (.var 1) (.int 3)) (.cons (.var 2) .nil)))) (.int 0))) .nil)
def f_are_like : FD := ⟨"are_like", ["one", "other", "number"], 3, b_are_like, false⟩
def l_parted_at_0 : Ss := .cons (.ifs (.not (.call 113 (.cons (.call 104 (.cons (.var 4) (.cons (.var 8) .nil))) (.cons (.call 104 (.cons (.var 5) (.cons (.var 8) .nil))) (.cons (.var 8) .nil))))) (.cons (.ret (.var 8)) .nil) .nil) .nil
def l_parted_at_1 : Ss := .cons (.set 7 (.call 58 (.cons (.var 6) .nil))) (.cons (.fors (.n 8) (.e (.ifx (.cmp .eq (.ix (.var 6) (.int 0)) (.ix (.var 6) (.int 1))) (.lst (.cons (.var 7) .nil)) (.lst (.cons (.var 7) (.cons (.call 54 (.cons (.ix (.var 6) (.int 0)) (.cons (.var 7) .nil))) .nil))))) l_parted_at_0) .nil)
def b_parted_at : Ss := .cons (.par (.cons (.n 4) (.cons (.n 5) .nil)) (.cons (.call 90 (.cons (.var 0) (.cons (.var 1) (.cons (.var 2) .nil)))) (.cons (.call 90 (.cons (.var 0) (.cons (.var 1) (.cons (.var 3) .nil)))) .nil))) (.cons (.fors (.n 6) (.e (.call 105 (.cons (.op .add (.var 4) (.var 5)) .nil))) l_parted_at_1) (.cons (.ret .non) .nil))
def f_parted_at : FD := ⟨"parted_at", ["lane", "ball", "one", "other", "mine", "yours", "part", "first", "number"], 4, b_parted_at, false⟩
def b_need_both : Ss := .cons (.exp (.call 73 (.cons (.var 0) (.cons (.var 1) (.cons (.var 2) .nil))))) (.cons (.exp (.call 72 (.cons (.var 3) .nil))) .nil)
def f_need_both : FD := ⟨"need_both", ["lane", "ball", "one", "other"], 4, b_need_both, false⟩
def b_alike : Ss := .cons (.exp (.call 115 (.cons (.var 0) (.cons (.var 1) (.cons (.var 2) (.cons (.var 3) .nil)))))) (.cons (.ret (.isC false none (.call 114 (.cons (.var 0) (.cons (.var 1) (.cons (.var 2) (.cons (.var 3) .nil))))))) .nil)
def f_alike : FD := ⟨"alike", ["lane", "ball", "one", "other"], 4, b_alike, false⟩
def b_parting : Ss := .cons (.exp (.call 115 (.cons (.var 0) (.cons (.var 1) (.cons (.var 2) (.cons (.var 3) .nil)))))) (.cons (.ret (.call 114 (.cons (.var 0) (.cons (.var 1) (.cons (.var 2) (.cons (.var 3) .nil)))))) .nil)
def f_parting : FD := ⟨"parting", ["lane", "ball", "one", "other"], 4, b_parting, false⟩
def b_ranges_true : Ss := .cons (.ret (.lc [("stretch", 1), ("value", 2)] (.t (.cons (.n 1) (.cons (.n 2) .nil))) (.e (.call 84 (.cons (.var 0) .nil))) (.yes (.var 2)) (.var 1))) .nil
def f_ranges_true : FD := ⟨"ranges_true", ["rows", "stretch", "value"], 1, b_ranges_true, false⟩
def b_is_fact : Ss := .cons (.ifs (.or (.not (.call 2 (.cons (.var 1) (.cons (.int 2) (.cons (.int 2) .nil))))) (.not (.isi .str (.ix (.var 1) (.int 0))))) (.cons (.ret (.bl false)) .nil) .nil) (.cons (.ifs (.cmp .eq (.ix (.var 1) (.int 0)) (.str "ends")) (.cons (.ret (.call 1 (.cons (.ix (.var 1) (.int 1)) (.cons (.int 0) (.cons (.bi .len (.cons (.var 0) .nil)) .nil))))) .nil) .nil) (.cons (.ifs (.cmp .eq (.ix (.var 1) (.int 0)) (.str "many")) (.cons (.ret (.call 1 (.cons (.ix (.var 1) (.int 1)) (.cons (.int 0) (.cons (.int 99) .nil))))) .nil) .nil) (.cons (.ifs (.cmp .eq (.ix (.var 1) (.int 0)) (.str "high")) (.cons (.ret (.call 1 (.cons (.ix (.var 1) (.int 1)) (.cons (.int 1) (.cons (.int 99) .nil))))) .nil) .nil) (.cons (.ret (.and (.inn false (.ix (.var 1) (.int 0)) (.tup (.cons (.str "above") (.cons (.str "below") .nil)))) (.call 4 (.cons (.ix (.var 1) (.int 1)) .nil)))) .nil))))
def f_is_fact : FD := ⟨"is_fact", ["lane", "value"], 2, b_is_fact, false⟩
def b_need_facts : Ss := .cons (.exp (.call 73 (.cons (.var 0) (.cons (.var 1) (.cons (.var 2) .nil))))) (.cons (.ifs (.or (.not (.call 2 (.cons (.var 3) (.cons (.int 0) (.cons (.int 5) .nil))))) (.not (.bi .all (.cons (.lc [("fact", 4)] (.n 4) (.e (.var 3)) .no (.call 125 (.cons (.var 0) (.cons (.var 4) .nil)))) .nil)))) (.cons (.raise 7) .nil) .nil) .nil)
def f_need_facts : FD := ⟨"need_facts", ["lane", "ball", "script", "facts", "fact"], 4, b_need_facts, false⟩
def b_is_true : Ss := .cons (.asg (.t (.cons (.n 3) (.cons (.n 4) .nil))) (.var 2)) (.cons (.ifs (.cmp .eq (.var 3) (.str "ends")) (.cons (.ret (.cmp .eq (.ix (.var 1) (.int 1)) (.var 4))) .nil) .nil) (.cons (.ifs (.cmp .eq (.var 3) (.str "many")) (.cons (.ret (.cmp .eq (.ix (.ix (.var 1) (.int 3)) (.int 2)) (.var 4))) .nil) .nil) (.cons (.set 5 (.call 58 (.cons (.var 0) .nil))) (.cons (.ifs (.cmp .eq (.var 3) (.str "high")) (.cons (.ret (.cmp .ge (.call 56 (.cons (.ix (.var 1) (.int 3)) (.cons (.var 5) (.cons (.var 4) (.cons (.int 1) .nil))))) (.int 0))) .nil) .nil) (.cons (.ret (.ifx (.cmp .eq (.var 3) (.str "above")) (.call 53 (.cons (.op .add (.tup (.cons (.int 1) .nil)) (.var 4)) (.cons (.var 5) .nil))) (.call 53 (.cons (.var 5) (.cons (.op .add (.tup (.cons (.int 1) .nil)) (.var 4)) .nil))))) .nil)))))
def f_is_true : FD := ⟨"is_true", ["part", "piece", "fact", "word", "told", "number"], 3, b_is_true, false⟩
def b_cuts_by : Ss := .cons (.ifs (.inn false (.ix (.var 1) (.int 0)) (.tup (.cons (.str "above") (.cons (.str "below") .nil)))) (.cons (.ret (.lst (.cons (.op .add (.tup (.cons (.int 1) .nil)) (.ix (.var 1) (.int 1))) .nil))) .nil) .nil) (.cons (.ret (.ifx (.cmp .eq (.ix (.var 1) (.int 0)) (.str "high")) (.call 57 (.cons (.ix (.var 0) (.int 3)) (.cons (.ix (.var 1) (.int 1)) (.cons (.int 1) .nil)))) (.lst .nil))) .nil)
def f_cuts_by : FD := ⟨"cuts_by", ["piece", "fact"], 2, b_cuts_by, false⟩
def l_fact_rows_0 : Ss := .cons (.set 6 (.op .add (.var 6) (.call 128 (.cons (.var 5) (.cons (.var 7) .nil))))) .nil
def l_fact_rows_1 : Ss := .cons (.set 4 (.op .add (.var 4) (.lst (.cons (.tup (.cons (.var 8) (.cons (.lc [("fact", 7)] (.n 7) (.e (.var 3)) .no (.call 127 (.cons (.var 8) (.cons (.var 5) (.cons (.var 7) .nil))))) .nil))) .nil)))) .nil
def l_fact_rows_2 : Ss := .cons (.set 6 (.lst .nil)) (.cons (.fors (.n 7) (.e (.var 3)) l_fact_rows_0) (.cons (.fors (.n 8) (.e (.call 59 (.cons (.ix (.var 5) (.int 0)) (.cons (.var 6) .nil)))) l_fact_rows_1) .nil))
def b_fact_rows : Ss := .cons (.set 4 (.lst .nil)) (.cons (.fors (.n 5) (.e (.call 90 (.cons (.var 0) (.cons (.var 1) (.cons (.var 2) .nil))))) l_fact_rows_2) (.cons (.ret (.var 4)) .nil))
def f_fact_rows : FD := ⟨"fact_rows", ["lane", "ball", "script", "facts", "found", "piece", "cuts", "fact", "part"], 4, b_fact_rows, false⟩
def b_shares : Ss := .cons (.exp (.call 126 (.cons (.var 0) (.cons (.var 1) (.cons (.var 2) (.cons (.var 3) .nil)))))) (.cons (.ret (.call 123 (.cons (.lc [("part", 4), ("truths", 5)] (.t (.cons (.n 4) (.cons (.n 5) .nil))) (.e (.call 129 (.cons (.var 0) (.cons (.var 1) (.cons (.var 2) (.cons (.var 3) .nil)))))) .no (.tup (.cons (.var 4) (.cons (.bi .all (.cons (.var 5) .nil)) .nil)))) .nil))) .nil)
def f_shares : FD := ⟨"shares", ["lane", "ball", "script", "facts", "part", "truths"], 4, b_shares, false⟩
def b_follows : Ss := .cons (.exp (.call 126 (.cons (.var 0) (.cons (.var 1) (.cons (.var 2) (.cons (.var 3) .nil)))))) (.cons (.ifs (.not (.call 125 (.cons (.var 0) (.cons (.var 4) .nil)))) (.cons (.raise 7) .nil) .nil) (.cons (.set 5 (.call 129 (.cons (.var 0) (.cons (.var 1) (.cons (.var 2) (.cons (.op .add (.var 3) (.tup (.cons (.var 4) .nil))) .nil)))))) (.cons (.set 6 (.lc [("part", 7), ("row", 8)] (.t (.cons (.n 7) (.cons (.n 8) .nil))) (.e (.var 5)) (.yes (.bi .all (.cons (.sl (.var 8) .no (.yes (.neg (.int 1)))) .nil))) (.ix (.var 8) (.neg (.int 1))))) (.cons (.ifs (.or (.cmp .eq (.var 6) (.lst .nil)) (.and (.inn false (.bl true) (.var 6)) (.inn false (.bl false) (.var 6)))) (.cons (.ret .non) .nil) .nil) (.cons (.ret (.ix (.var 6) (.int 0))) .nil)))))
def f_follows : FD := ⟨"follows", ["lane", "ball", "script", "facts", "fact", "rows", "truths", "part", "row"], 5, b_follows, false⟩
def b_need_cell : Ss := .cons (.ifs (.not (.call 1 (.cons (.var 0) (.cons (.var 1) (.cons (.var 2) .nil))))) (.cons (.raise 5) .nil) .nil) .nil
def f_need_cell : FD := ⟨"need_cell", ["value", "low", "high"], 3, b_need_cell, false⟩
def b_is_there : Ss := .cons (.set 5 (.call 89 (.cons (.var 0) (.cons (.var 1) (.cons (.var 2) (.cons (.call 85 (.cons (.op .add (.tup (.cons (.int 1) .nil)) (.ix (.var 4) (.int 0))) (.cons (.op .add (.tup (.cons (.int 1) .nil)) (.ix (.var 4) (.int 1))) .nil))) .nil)))))) (.cons (.ret (.bi .all (.cons (.lc [("piece", 6)] (.n 6) (.e (.var 5)) .no (.cmp .eq (.ix (.var 6) (.int 1)) (.var 3))) .nil))) .nil)
def f_is_there : FD := ⟨"is_there", ["lane", "ball", "script", "cell", "ends", "pieces", "piece"], 5, b_is_there, false⟩
def b_need_stretch : Ss := .cons (.exp (.call 134 (.cons (.var 1) (.cons (.int 0) (.cons (.bi .len (.cons (.var 0) .nil)) .nil))))) (.cons (.exp (.call 71 (.cons (.var 2) .nil))) (.cons (.exp (.call 71 (.cons (.var 3) .nil))) (.cons (.ifs (.call 53 (.cons (.op .add (.tup (.cons (.int 1) .nil)) (.var 3)) (.cons (.op .add (.tup (.cons (.int 1) .nil)) (.var 2)) .nil))) (.cons (.raise 3) .nil) .nil) .nil)))
def f_need_stretch : FD := ⟨"need_stretch", ["lane", "cell", "low", "high"], 4, b_need_stretch, false⟩
def b_in_cell : Ss := .cons (.exp (.call 73 (.cons (.var 0) (.cons (.var 1) (.cons (.var 2) .nil))))) (.cons (.exp (.call 136 (.cons (.var 0) (.cons (.var 3) (.cons (.var 4) (.cons (.var 5) .nil)))))) (.cons (.ret (.call 135 (.cons (.var 0) (.cons (.var 1) (.cons (.var 2) (.cons (.var 3) (.cons (.tup (.cons (.var 4) (.cons (.var 5) .nil))) .nil))))))) .nil))
def f_in_cell : FD := ⟨"in_cell", ["lane", "ball", "script", "cell", "low", "high"], 6, b_in_cell, false⟩
def b__law_fact : Ss := .cons (.set 2 (.call 14 (.cons (.var 0) (.cons (.int 6) .nil)))) (.cons (.ifs (.cmp .eq (.var 2) (.int 0)) (.cons (.ret (.tup (.cons (.str "ends") (.cons (.call 14 (.cons (.var 0) (.cons (.op .add (.bi .len (.cons (.var 1) .nil)) (.int 1)) .nil))) .nil)))) .nil) .nil) (.cons (.ifs (.cmp .eq (.var 2) (.int 1)) (.cons (.ret (.tup (.cons (.str "many") (.cons (.call 14 (.cons (.var 0) (.cons (.int 8) .nil))) .nil)))) .nil) .nil) (.cons (.ifs (.cmp .lt (.var 2) (.int 4)) (.cons (.ret (.tup (.cons (.str "high") (.cons (.op .add (.int 1) (.call 14 (.cons (.var 0) (.cons (.int 8) .nil)))) .nil)))) .nil) .nil) (.cons (.ret (.tup (.cons (.call 15 (.cons (.var 0) (.cons (.lst (.cons (.str "above") (.cons (.str "below") .nil))) .nil))) (.cons (.call 78 (.cons (.var 0) .nil)) .nil)))) .nil))))
def f__law_fact : FD := ⟨"_law_fact", ["bag", "lane_so", "way"], 2, b__law_fact, false⟩
def b__law_fits : Ss := .cons (.asg (.t (.cons (.n 3) (.cons (.n 4) .nil))) (.var 2)) (.cons (.ifs (.cmp .eq (.var 3) (.str "ends")) (.cons (.ret (.cmp .eq (.ix (.var 0) (.int 0)) (.var 4))) .nil) .nil) (.cons (.ifs (.cmp .eq (.var 3) (.str "many")) (.cons (.ret (.cmp .eq (.ix (.ix (.var 0) (.int 2)) (.int 2)) (.var 4))) .nil) .nil) (.cons (.ifs (.cmp .eq (.var 3) (.str "high")) (.cons (.ret (.ix (.call 95 (.cons (.ix (.var 0) (.int 2)) (.cons (.var 4) (.cons (.var 1) .nil)))) (.int 0))) .nil) .nil) (.cons (.ret (.ifx (.cmp .eq (.var 3) (.str "above")) (.call 46 (.cons (.op .add (.tup (.cons (.int 1) .nil)) (.var 4)) (.cons (.var 1) .nil))) (.call 46 (.cons (.var 1) (.cons (.op .add (.tup (.cons (.int 1) .nil)) (.var 4)) .nil))))) .nil))))
def f__law_fits : FD := ⟨"_law_fits", ["state", "number", "fact", "word", "told"], 3, b__law_fits, false⟩
def l__law_rows_0 : Ss := .cons (.ifs (.inn false (.var 10) (.lst (.cons (.str "above") (.cons (.str "below") .nil)))) (.cons (.app 8 (.op .add (.tup (.cons (.int 1) .nil)) (.var 11))) .nil) .nil) (.cons (.ifs (.cmp .eq (.var 10) (.str "high")) (.cons (.set 8 (.catM (.var 8) (.ix (.call 95 (.cons (.ix (.var 7) (.int 2)) (.cons (.var 11) (.cons (.var 5) .nil)))) (.int 1)))) .nil) .nil) .nil)
def l__law_rows_1 : Ss := .cons (.ifs (.and (.inn true (.var 12) (.var 9)) (.and (.call 46 (.cons (.var 5) (.cons (.var 12) .nil))) (.call 46 (.cons (.var 12) (.cons (.var 6) .nil))))) (.cons (.set 13 (.bi .len (.cons (.lc [("one", 14)] (.n 14) (.e (.var 9)) (.yes (.call 46 (.cons (.var 14) (.cons (.var 12) .nil)))) (.var 14)) .nil))) (.cons (.set 9 (.op .add (.op .add (.sl (.var 9) .no (.yes (.var 13))) (.lst (.cons (.var 12) .nil))) (.sl (.var 9) (.yes (.var 13)) .no))) .nil)) .nil) .nil
def l__law_rows_2 : Ss := .cons (.set 16 (.ifx (.cmp .eq (.var 5) (.var 6)) (.var 5) (.call 94 (.cons (.var 14) (.cons (.var 15) .nil))))) (.cons (.app 4 (.tup (.cons (.var 14) (.cons (.var 15) (.cons (.lc [("fact", 17)] (.n 17) (.e (.var 3)) .no (.call 144 (.cons (.var 7) (.cons (.var 16) (.cons (.var 17) .nil))))) .nil))))) (.cons (.ifs (.cmp .ne (.var 15) (.var 6)) (.cons (.app 4 (.tup (.cons (.var 15) (.cons (.var 15) (.cons (.lc [("fact", 17)] (.n 17) (.e (.var 3)) .no (.call 144 (.cons (.var 7) (.cons (.var 15) (.cons (.var 17) .nil))))) .nil))))) .nil) .nil) .nil))
def l__law_rows_3 : Ss := .cons (.par (.cons (.n 8) (.cons (.n 9) .nil)) (.cons (.lstM .nil) (.cons (.lst (.cons (.var 5) .nil)) .nil))) (.cons (.fors (.t (.cons (.n 10) (.cons (.n 11) .nil))) (.e (.var 3)) l__law_rows_0) (.cons (.fors (.n 12) (.e (.frz 8)) l__law_rows_1) (.cons (.fors (.t (.cons (.n 14) (.cons (.n 15) .nil))) (.zip (.var 9) (.op .add (.sl (.var 9) (.yes (.int 1)) .no) (.lst (.cons (.var 6) .nil)))) l__law_rows_2) .nil)))
def b__law_rows : Ss := .cons (.set 4 (.lstM .nil)) (.cons (.fors (.t (.cons (.n 5) (.cons (.n 6) (.cons (.n 7) .nil)))) (.e (.call 100 (.cons (.var 0) (.cons (.var 1) (.cons (.var 2) (.cons (.tup (.cons (.int 1) (.cons (.int 0) (.cons (.int 1) .nil)))) (.cons (.tup (.cons (.int 1) (.cons (.int 1) (.cons (.int 1) .nil)))) .nil))))))) l__law_rows_3) (.cons (.ret (.var 4)) .nil))
def f__law_rows : FD := ⟨"_law_rows", ["lane_so", "ball_so", "steps", "facts_so", "found", "low", "high", "state", "some", "cuts", "word", "told", "cut", "at", "one", "other", "number", "fact"], 4, b__law_rows, false⟩
def l__wall_0 : Ss := .cons .pass .nil
def b__wall : Ss := .cons (.whl (.bl true) l__wall_0) .nil
def f__wall : FD := ⟨"_wall", ["k"], 1, b__wall, false⟩
def b_made : Ss := .cons (.ifs (.not (.call 3 (.cons (.var 0) .nil))) (.cons (.raise 1) .nil) .nil) (.cons (.ret (.var 0)) .nil)
def f_made : FD := ⟨"made", ["sills"], 1, b_made, false⟩
def b_raised : Ss := .cons (.exp (.call 134 (.cons (.var 1) (.cons (.int 0) (.cons (.op .sub (.bi .len (.cons (.var 0) .nil)) (.int 1)) .nil))))) (.cons (.ret (.call 149 (.cons (.op .add (.op .add (.sl (.var 0) .no (.yes (.var 1))) (.tup (.cons (.op .add (.ix (.var 0) (.var 1)) (.int 1)) .nil))) (.sl (.var 0) (.yes (.op .add (.var 1) (.int 1))) .no)) .nil))) .nil)
def f_raised : FD := ⟨"raised", ["sills", "index"], 2, b_raised, false⟩
def b__law_leap_2 : Ss := .cons (.asg (.t (.cons (.n 0) (.cons (.n 3) (.cons (.n 4) (.cons (.t (.cons (.n 5) (.cons (.n 6) .nil))) (.cons (.n 7) (.cons (.n 8) .nil))))))) (.var 1)) (.cons (.set 9 (.call 42 (.cons (.op .mul (.var 5) (.ix (.var 2) (.int 0))) (.cons (.op .mul (.var 6) (.ix (.var 2) (.int 1))) .nil)))) (.cons (.par (.cons (.n 10) (.cons (.n 11) .nil)) (.cons (.op .add (.var 3) (.ifx (.cmp .eq (.var 4) (.str "right")) (.int 1) (.neg (.int 1)))) (.cons (.str "over") .nil))) (.cons (.ifs (.or (.not (.chain .le .le (.int 0) (.var 10) (.bi .len (.cons (.var 0) .nil)))) (.cmp .lt (.ix (.var 9) (.int 0)) (.op .mul (.ix (.var 0) (.bi .min (.cons (.var 10) (.cons (.var 3) .nil)))) (.ix (.var 9) (.int 1))))) (.cons (.par (.cons (.n 10) (.cons (.n 11) (.cons (.n 4) .nil))) (.cons (.var 3) (.cons (.str "back") (.cons (.ifx (.cmp .eq (.var 4) (.str "right")) (.str "left") (.str "right")) .nil)))) .nil) .nil) (.cons (.ret (.tup (.cons (.var 0) (.cons (.var 10) (.cons (.var 4) (.cons (.var 9) (.cons (.op .add (.var 7) (.tup (.cons (.tup (.cons (.var 11) (.cons (.var 10) .nil))) .nil))) (.cons (.op .add (.var 8) (.tup (.cons (.var 10) .nil))) .nil)))))))) .nil))))
def f__law_leap_2 : FD := ⟨"_law_leap", ["lane_so", "now", "share_so", "cell_so", "way_so", "top", "below", "events_so", "cells_so", "high", "there", "word"], 3, b__law_leap_2, false⟩
def l__law_leapt_2_0 : Ss := .cons (.ifs (.or (.cmp .eq (.ix (.var 3) (.int 0)) (.str "bounce")) (.cmp .ge (.ix (.ix (.var 0) (.int 3)) (.int 0)) (.op .mul (.ix (.var 3) (.int 1)) (.ix (.ix (.var 0) (.int 3)) (.int 1))))) (.cons (.set 0 (.call 164 (.cons (.var 4) (.cons (.var 0) (.cons (.var 2) .nil))))) .nil) .nil) .nil
def l__law_leapt_2_1 : Ss := .cons (.asg (.t (.cons (.n 4) (.cons (.n 5) (.cons (.n 6) (.cons (.t (.cons (.n 7) (.cons (.n 8) .nil))) (.cons (.n 9) (.cons (.n 10) .nil))))))) (.var 0)) (.cons (.ifs (.cmp .eq (.ix (.var 3) (.int 0)) (.str "turn")) (.cons (.set 0 (.op .add (.op .add (.sl (.var 0) .no (.yes (.int 2))) (.tup (.cons (.ifx (.cmp .eq (.var 6) (.str "right")) (.str "left") (.str "right")) .nil))) (.sl (.var 0) (.yes (.int 3)) .no))) .nil) (.cons (.ifs (.cmp .eq (.ix (.var 3) (.int 0)) (.str "lift")) (.cons (.set 0 (.op .add (.op .add (.sl (.var 0) .no (.yes (.int 3))) (.tup (.cons (.call 42 (.cons (.op .mul (.var 7) (.ix (.var 3) (.int 1))) (.cons (.op .mul (.var 8) (.ix (.var 3) (.int 2))) .nil))) .nil))) (.sl (.var 0) (.yes (.int 4)) .no))) .nil) (.cons (.ifs (.cmp .eq (.ix (.var 3) (.int 0)) (.str "if")) (.cons (.set 0 (.call 165 (.cons (.var 0) (.cons (.ifx (.cmp .ge (.var 7) (.op .mul (.ix (.var 3) (.int 1)) (.var 8))) (.ix (.var 3) (.int 2)) (.ix (.var 3) (.int 3))) (.cons (.var 2) .nil))))) .nil) (.cons (.fors (.n 11) (.r1 (.ix (.var 3) (.neg (.int 1)))) l__law_leapt_2_0) .nil)) .nil)) .nil)) .nil)
def b__law_leapt_2 : Ss := .cons (.fors (.n 3) (.e (.var 1)) l__law_leapt_2_1) (.cons (.ret (.var 0)) .nil)
def f__law_leapt_2 : FD := ⟨"_law_leapt", ["now", "steps", "share_so", "step", "lane_so", "cell_so", "way_so", "top", "below", "events_so", "cells_so", "turn"], 3, b__law_leapt_2, false⟩
def b_lane_text : Ss := .cons (.exp (.call 9 (.cons (.var 0) .nil))) (.cons (.ret (.call 173 (.cons (.var 0) .nil))) .nil)
def f_lane_text : FD := ⟨"lane_text", ["lane"], 1, b_lane_text, false⟩
def b_number_in : Ss := .cons (.ifs (.or (.not (.chain .le .le (.int 1) (.bi .len (.cons (.var 0) .nil)) (.int 2))) (.not (.bi .all (.cons (.lc [("sign", 1)] (.n 1) (.e (.var 0)) .no (.inn false (.var 1) (.str "0123456789"))) .nil)))) (.cons (.ret (.neg (.int 1))) .nil) .nil) (.cons (.ret (.bi .int (.cons (.var 0) .nil))) .nil)
def f_number_in : FD := ⟨"number_in", ["word", "sign"], 1, b_number_in, false⟩
def g_GREATEST : Str × PyData := ("GREATEST", .int 1000000)
def g_WAYS : Str × PyData := ("WAYS", .tuple [.str "left", .str "right"])
def g_NONE : Str × PyData := ("NONE", .tuple [.int 1, .int 0, .int 1])
def g_GREATEST_2 : Str × PyData := ("GREATEST", .int 1000000000000)
def g_WHOLE : Str × PyData := ("WHOLE", .tuple [.int 1, .int 1, .int 1])
def g_GREATEST_lanes : Str × PyData := ("GREATEST_lanes", .int 1000000)
def g_GREATEST_numbers : Str × PyData := ("GREATEST_numbers", .int 1000000000000)
class BWhole (P : Pc) : Prop where
  a_is_whole : P.fns 1 = some f_is_whole
  a_is_row : P.fns 2 = some f_is_row
  a_is_lane : P.fns 3 = some f_is_lane
  a_need_lane : P.fns 9 = some f_need_lane
class BScript (P : Pc) : Prop where
  a_fits_ball : P.fns 5 = some f_fits_ball
  a_is_step : P.fns 6 = some f_is_step
  a_is_any_step : P.fns 7 = some f_is_any_step
  a_is_script : P.fns 8 = some f_is_script
  a_WAYS : P.glo 1 = some g_WAYS
class BDiv (P : Pc) : Prop where
  a_divisor_of : P.fns 0 = some f_divisor_of
class BShare (P : Pc) : Prop where
  a_is_share : P.fns 4 = some f_is_share
  a_GREATEST : P.glo 0 = some g_GREATEST
class BBag (P : Pc) : Prop where
  a__law_cell : P.fns 11 = some f__law_cell
  a__law_draws : P.fns 12 = some f__law_draws
  a__law_bag : P.fns 13 = some f__law_bag
  a__law_take : P.fns 14 = some f__law_take
  a__law_choice : P.fns 15 = some f__law_choice
class BLLane (P : Pc) : Prop where
  a__law_lane : P.fns 16 = some f__law_lane
class BLScr (P : Pc) : Prop where
  a__law_ball : P.fns 17 = some f__law_ball
  a__law_step : P.fns 18 = some f__law_step
  a__law_steps : P.fns 19 = some f__law_steps
class BLLow (P : Pc) : Prop where
  a__law_lowest : P.fns 42 = some f__law_lowest
class BLShare (P : Pc) : Prop where
  a__law_share : P.fns 78 = some f__law_share
class BLow (P : Pc) : Prop where
  a_lowest : P.fns 30 = some f_lowest
class BRoot (P : Pc) : Prop where
  a_power : P.fns 31 = some f_power
  a_whole_root : P.fns 32 = some f_whole_root
  a_root_of : P.fns 33 = some f_root_of
  a_NONE : P.glo 2 = some g_NONE
class BCmp (P : Pc) : Prop where
  a_sign_of : P.fns 34 = some f_sign_of
  a_compared : P.fns 35 = some f_compared
class BGo (P : Pc) : Prop where
  a_is_before : P.fns 53 = some f_is_before
  a_between : P.fns 54 = some f_between
  a_in_order : P.fns 55 = some f_in_order
  a_level_at : P.fns 56 = some f_level_at
  a_level_cut : P.fns 57 = some f_level_cut
  a_inner : P.fns 58 = some f_inner
  a_split : P.fns 59 = some f_split
  a_at_least : P.fns 60 = some f_at_least
  a_other_way : P.fns 61 = some f_other_way
  a_bounced : P.fns 62 = some f_bounced
  a_bounced_often : P.fns 63 = some f_bounced_often
  a_bounced_until : P.fns 64 = some f_bounced_until
  a_behind_step : P.fns 65 = some f_behind_step
  a_behind_all : P.fns 66 = some f_behind_all
  a_started : P.fns 67 = some f_started
class BTold (P : Pc) : Prop where
  a_piece_at : P.fns 68 = some f_piece_at
  a_need_ball : P.fns 70 = some f_need_ball
  a_need_share : P.fns 71 = some f_need_share
  a_need_script : P.fns 72 = some f_need_script
  a_need_game : P.fns 73 = some f_need_game
  a_need_told : P.fns 74 = some f_need_told
class BEv (P : Pc) : Prop where
  a_events : P.fns 75 = some f_events
class BBeh (P : Pc) : Prop where
  a_ball_behind : P.fns 76 = some f_ball_behind
  a_form_behind : P.fns 77 = some f_form_behind
class BWorth (P : Pc) : Prop where
  a_worth : P.fns 69 = some f_worth
class BLeap (P : Pc) : Prop where
  a__law_leap : P.fns 79 = some f__law_leap
  a__law_leapt : P.fns 80 = some f__law_leapt
class Core (P : Pc) : Prop extends BWhole P, BScript P, BDiv P, BLow P, BRoot P, BCmp P, BGo P
end MC
end
section
set_option Elab.async false
set_option linter.all false
set_option maxRecDepth 100000
set_option maxHeartbeats 1000000
namespace MC
open PySem L2 MP
def wholeB (p : PyData) (lo hi : Int) : Bool := match p with
  | .int i => decide (lo ≤ i) && decide (i ≤ hi)
  | _ => false
theorem e_whole {P : Pc} [BWhole P] {n : Nat} {p : PyData} {lo hi : Int} {h : Hh} (hp : noDict p = true) : callF P (n + 1) 1 [.d p, .d (.int lo), .d (.int hi)] h = .ok (.d (.bool (wholeB p lo hi))) h := by
  rw [call_eq f_is_whole [some (.d p), some (.d (.int lo)), some (.d (.int hi))] BWhole.a_is_whole rfl rfl]
  show endF false h (evSs (cfF P n) b_is_whole _ h) = _
  unfold b_is_whole
  cases p with
  | int i => by_cases h1 : lo ≤ i <;> simp [evSs, evS, evE, evEs, evO, evT, evI, itemsF, Res.bd, Res.to, Res.nox, asB, asI, okB, okD, isiF, MP.b2, Cm.ev, end_d, end_n, end_x, dats, dat, datT, pures, on1, on2, on2T, bindT, bindTs, Bi.ev, isCF, ixF, slF, bg1, bg2, bg3, bg4, bg5, bg6, bg7, bg8, wholeB, h1]
  | dict => cases hp
  | _ => simp [evSs, evS, evE, evEs, evO, evT, evI, itemsF, Res.bd, Res.to, Res.nox, asB, asI, okB, okD, isiF, MP.b2, Cm.ev, end_d, end_n, end_x, dats, dat, datT, pures, on1, on2, on2T, bindT, bindTs, Bi.ev, isCF, ixF, slF, bg1, bg2, bg3, bg4, bg5, bg6, bg7, bg8, wholeB]
def rowB (p : PyData) (lo hi : Nat) : Bool := match p with
  | .tuple ps => decide (lo ≤ ps.length) && decide (ps.length ≤ hi)
  | _ => false
theorem e_row {P : Pc} [BWhole P] {n : Nat} {p : PyData} {lo hi : Nat} {h : Hh} (hp : noDict p = true) : callF P (n + 1) 2 [.d p, .d (.int lo), .d (.int hi)] h = .ok (.d (.bool (rowB p lo hi))) h := by
  rw [call_eq f_is_row [some (.d p), some (.d (.int lo)), some (.d (.int hi))] BWhole.a_is_row rfl rfl]
  show endF false h (evSs (cfF P n) b_is_row _ h) = _
  unfold b_is_row
  cases p with
  | tuple ps => by_cases h1 : lo ≤ ps.length <;> simp [evSs, evS, evE, evEs, evO, evT, evI, itemsF, Res.bd, Res.to, Res.nox, asB, asI, okB, okD, isiF, MP.b2, Cm.ev, end_d, end_n, end_x, dats, dat, datT, pures, on1, on2, on2T, bindT, bindTs, Bi.ev, isCF, ixF, slF, bg1, bg2, bg3, bg4, bg5, bg6, bg7, bg8, rowB, h1]
  | dict => cases hp
  | _ => simp [evSs, evS, evE, evEs, evO, evT, evI, itemsF, Res.bd, Res.to, Res.nox, asB, asI, okB, okD, isiF, MP.b2, Cm.ev, end_d, end_n, end_x, dats, dat, datT, pures, on1, on2, on2T, bindT, bindTs, Bi.ev, isCF, ixF, slF, bg1, bg2, bg3, bg4, bg5, bg6, bg7, bg8, rowB]
def laneB (p : PyData) : Bool := match p with
  | .tuple ps => decide (ps.length ≤ 7) && ps.all fun q => wholeB q 0 99
  | _ => false
theorem e_lane {P : Pc} [BWhole P] {n : Nat} {p : PyData} {h : Hh} (hp : noDict p = true) (hq : ∀ ps, p = .tuple ps → ∀ q ∈ ps, noDict q = true) : callF P (n + 2) 3 [.d p] h = .ok (.d (.bool (laneB p))) h := by
  rw [call_eq f_is_lane [some (.d p), none] BWhole.a_is_lane rfl rfl]
  show endF false h (evSs (cfF P (n + 1)) b_is_lane _ h) = _
  unfold b_is_lane
  have r : (cfF P (n + 1)).call 2 [.d p, .d (.int 0), .d (.int 7)] h = .ok (.d (.bool (rowB p 0 7))) h := e_row hp
  cases p with
  | tuple ps =>
    by_cases h1 : ps.length ≤ 7
    · have e1 : rowB (.tuple ps) 0 7 = true := by simp [rowB, h1]
      have key : compF (lcG [("sill", 1)] (.n 1) (fun _ h => .ok (.d (.bool true)) h) (fun ρ h => (evEs (cfF P (n + 1)) (.cons (.var 1) (.cons (.int 0) (.cons (.int 99) .nil))) ρ h).bd fun vs h1 => (cfF P (n + 1)).call 1 vs h1) [some (.d (.tuple ps)), none]) ps h = .ok (ps.map fun q => .bool (wholeB q 0 99)) h := by
        refine compF_map fun x hx => ?_
        have r2 : (cfF P (n + 1)).call 1 [.d x, .d (.int 0), .d (.int 99)] h = .ok (.d (.bool (wholeB x 0 99))) h := e_whole (hq ps rfl x hx)
        simp [lcG, wipeE, evSs, evS, evE, evEs, evO, evT, evI, itemsF, Res.bd, Res.to, Res.nox, asB, asI, okB, okD, isiF, MP.b2, Cm.ev, end_d, end_n, end_x, dats, dat, datT, pures, on1, on2, on2T, bindT, bindTs, Bi.ev, isCF, ixF, slF, bg1, bg2, bg3, bg4, bg5, bg6, bg7, bg8, r2]
      simp [evSs, evS, evE, evEs, evO, evT, evI, itemsF, Res.bd, Res.to, Res.nox, asB, asI, okB, okD, isiF, MP.b2, Cm.ev, end_d, end_n, end_x, dats, dat, datT, pures, on1, on2, on2T, bindT, bindTs, Bi.ev, isCF, ixF, slF, bg1, bg2, bg3, bg4, bg5, bg6, bg7, bg8, h1, r, e1, laneB]
      simp [evEs, evE, Res.bd] at key
      rw [key]
      simp [boolsOf_map', evSs, evS, evE, evEs, evO, evT, evI, itemsF, Res.bd, Res.to, Res.nox, asB, asI, okB, okD, isiF, MP.b2, Cm.ev, end_d, end_n, end_x, dats, dat, datT, pures, on1, on2, on2T, bindT, bindTs, Bi.ev, isCF, ixF, slF, bg1, bg2, bg3, bg4, bg5, bg6, bg7, bg8]
    · have e1 : rowB (.tuple ps) 0 7 = false := by simp [rowB]; omega
      simp [evSs, evS, evE, evEs, evO, evT, evI, itemsF, Res.bd, Res.to, Res.nox, asB, asI, okB, okD, isiF, MP.b2, Cm.ev, end_d, end_n, end_x, dats, dat, datT, pures, on1, on2, on2T, bindT, bindTs, Bi.ev, isCF, ixF, slF, bg1, bg2, bg3, bg4, bg5, bg6, bg7, bg8, h1, r, e1, laneB]
  | dict => cases hp
  | _ => simp [evSs, evS, evE, evEs, evO, evT, evI, itemsF, Res.bd, Res.to, Res.nox, asB, asI, okB, okD, isiF, MP.b2, Cm.ev, end_d, end_n, end_x, dats, dat, datT, pures, on1, on2, on2T, bindT, bindTs, Bi.ev, isCF, ixF, slF, bg1, bg2, bg3, bg4, bg5, bg6, bg7, bg8, rowB, r, laneB]
theorem all_filter {ps : List PyData} {φ : PyData → Bool} : (ps.filter fun q => !φ q).isEmpty = ps.all φ := by
  induction ps with
  | nil => rfl
  | cons p ps ih =>
    rw [List.filter_cons, List.all_cons, ← ih]
    cases φ p <;> rfl
theorem sh_nil : SeqAt.shaped (.list []) = true := by decide
theorem sh_str {x : Str} (h : PyData.strOk x = true) : SeqAt.shaped (.str x) = true := okd_sh (d := 0) (m := 0) h (by omega)
theorem sh_int {i : Int} : SeqAt.shaped (.int i) = true := rfl
def stepB : PyData → Bool
  | .tuple [.str w] => w == "turn"
  | .tuple [.str w, a] => w == "bounce" && wholeB a 1 9
  | .tuple [.str w, a, b] => (w == "until" && (wholeB a 1 99 && wholeB b 1 9)) || (w == "lift" && (wholeB a 1 9 && wholeB b 1 9))
  | _ => false
theorem at0 {a : PyData} {r : List PyData} : atI (a :: r) 0 = some a := by simp [atI, ixN]
theorem at1 {a b : PyData} {r : List PyData} : atI (a :: b :: r) 1 = some b := by
  have : (1 : Int) < (r.length : Int) + 1 + 1 := by omega
  simp [atI, ixN, this]
theorem at2 {a b c : PyData} {r : List PyData} : atI (a :: b :: c :: r) 2 = some c := by
  have : (2 : Int) < (r.length : Int) + 1 + 1 + 1 := by omega
  simp [atI, ixN, this]
theorem at3 {a b c d : PyData} {r : List PyData} : atI (a :: b :: c :: d :: r) 3 = some d := by
  have : (3 : Int) < (r.length : Int) + 1 + 1 + 1 + 1 := by omega
  simp [atI, ixN, this]
theorem rowB_t {ps : List PyData} {lo hi : Nat} : rowB (.tuple ps) lo hi = (decide (lo ≤ ps.length) && decide (ps.length ≤ hi)) := rfl
theorem n1 : ¬ (Str.ofString "until" = Str.ofString "lift") := by decide +kernel
theorem n2 : ¬ (Str.ofString "lift" = Str.ofString "until") := by decide +kernel
theorem e_step {P : Pc} [BWhole P] [BScript P] {n d m : Nat} {p : PyData} {h : Hh} (hg : okd d m p = true) : callF P (n + 2) 6 [.d p] h = .ok (.d (.bool (stepB p))) h := by
  rw [call_eq f_is_step [some (.d p), none] BScript.a_is_step rfl rfl]
  show endF false h (evSs (cfF P (n + 1)) b_is_step _ h) = _
  unfold b_is_step
  have r : (cfF P (n + 1)).call 2 [.d p, .d (.int 1), .d (.int 3)] h = .ok (.d (.bool (rowB p 1 3))) h := e_row (okd_nd hg)
  have wh : ∀ {q : PyData} {lo hi : Int}, noDict q = true → (cfF P (n + 1)).call 1 [.d q, .d (.int lo), .d (.int hi)] h = .ok (.d (.bool (wholeB q lo hi))) h := fun hq => e_whole hq
  have s1 : SeqAt.shaped (.str "turn") = true := by decide +kernel
  have s2 : SeqAt.shaped (.str "bounce") = true := by decide +kernel
  have s3 : SeqAt.shaped (.str "until") = true := by decide +kernel
  have s4 : SeqAt.shaped (.str "lift") = true := by decide +kernel
  cases p with
  | tuple ps =>
    obtain ⟨e, rfl, hl, hq⟩ := okd_tup hg
    rw [rowB_t] at r
    match ps, hq, r with
    | [], _, r => simp [evSs, evS, evE, evEs, evO, evT, evI, itemsF, Res.bd, Res.to, Res.nox, asB, asI, okB, okD, isiF, MP.b2, Cm.ev, end_d, end_n, end_x, dats, dat, datT, pures, on1, on2, on2T, bindT, bindTs, Bi.ev, isCF, ixF, slF, bg1, bg2, bg3, bg4, bg5, bg6, bg7, bg8, stepB, r]
    | a :: ps, hq, r =>
      have ha := hq a (by simp)
      cases a with
      | str w =>
        have hs := sh_str (x := w) (by cases e <;> exact ha)
        match ps, hq, r with
        | [], hq, r => simp [evSs, evS, evE, evEs, evO, evT, evI, itemsF, Res.bd, Res.to, Res.nox, asB, asI, okB, okD, isiF, MP.b2, Cm.ev, end_d, end_n, end_x, dats, dat, datT, pures, on1, on2, on2T, bindT, bindTs, Bi.ev, isCF, ixF, slF, bg1, bg2, bg3, bg4, bg5, bg6, bg7, bg8, stepB, r, at0, hs, PyData.eqv, s1, sh_int]
        | [b], hq, r =>
          have hb := okd_nd (hq b (by simp))
          simp [evSs, evS, evE, evEs, evO, evT, evI, itemsF, Res.bd, Res.to, Res.nox, asB, asI, okB, okD, isiF, MP.b2, Cm.ev, end_d, end_n, end_x, dats, dat, datT, pures, on1, on2, on2T, bindT, bindTs, Bi.ev, isCF, ixF, slF, bg1, bg2, bg3, bg4, bg5, bg6, bg7, bg8, stepB, r, at0, at1, hs, PyData.eqv, s2, sh_int, wh hb]
          by_cases e1 : w = "bounce" <;> simp [evSs, evS, evE, evEs, evO, evT, evI, itemsF, Res.bd, Res.to, Res.nox, asB, asI, okB, okD, isiF, MP.b2, Cm.ev, end_d, end_n, end_x, dats, dat, datT, pures, on1, on2, on2T, bindT, bindTs, Bi.ev, isCF, ixF, slF, bg1, bg2, bg3, bg4, bg5, bg6, bg7, bg8, e1]
        | [b, c], hq, r =>
          have hb := okd_nd (hq b (by simp))
          have hc := okd_nd (hq c (by simp))
          simp [evSs, evS, evE, evEs, evO, evT, evI, itemsF, Res.bd, Res.to, Res.nox, asB, asI, okB, okD, isiF, MP.b2, Cm.ev, end_d, end_n, end_x, dats, dat, datT, pures, on1, on2, on2T, bindT, bindTs, Bi.ev, isCF, ixF, slF, bg1, bg2, bg3, bg4, bg5, bg6, bg7, bg8, stepB, r, at0, at1, at2, hs, PyData.eqv, s3, s4, sh_int, wh hb, wh hc]
          by_cases e1 : w = "until"
          · cases e3 : wholeB b 1 99 <;> simp [evSs, evS, evE, evEs, evO, evT, evI, itemsF, Res.bd, Res.to, Res.nox, asB, asI, okB, okD, isiF, MP.b2, Cm.ev, end_d, end_n, end_x, dats, dat, datT, pures, on1, on2, on2T, bindT, bindTs, Bi.ev, isCF, ixF, slF, bg1, bg2, bg3, bg4, bg5, bg6, bg7, bg8, e1, n1, hs, s4, PyData.eqv, at0, at1, at2, wh hb, wh hc, e3]
          · by_cases e2 : w = "lift" <;> cases e3 : wholeB b 1 9 <;> simp [evSs, evS, evE, evEs, evO, evT, evI, itemsF, Res.bd, Res.to, Res.nox, asB, asI, okB, okD, isiF, MP.b2, Cm.ev, end_d, end_n, end_x, dats, dat, datT, pures, on1, on2, on2T, bindT, bindTs, Bi.ev, isCF, ixF, slF, bg1, bg2, bg3, bg4, bg5, bg6, bg7, bg8, e1, e2, n2, hs, s4, PyData.eqv, at0, at1, at2, wh hb, wh hc, e3]
        | b :: c :: d :: ps, hq, r =>
          have : ¬ (ps.length + 1 + 1 + 1 + 1 ≤ 3) := by omega
          simp [evSs, evS, evE, evEs, evO, evT, evI, itemsF, Res.bd, Res.to, Res.nox, asB, asI, okB, okD, isiF, MP.b2, Cm.ev, end_d, end_n, end_x, dats, dat, datT, pures, on1, on2, on2T, bindT, bindTs, Bi.ev, isCF, ixF, slF, bg1, bg2, bg3, bg4, bg5, bg6, bg7, bg8, stepB, r, this]
      | dict => cases e <;> cases ha
      | _ => 
        have e0 : ∀ {k : Nat}, stepB (.tuple ps) = stepB (.tuple ps) := rfl
        by_cases hh : ps.length + 1 ≤ 3 <;> simp [evSs, evS, evE, evEs, evO, evT, evI, itemsF, Res.bd, Res.to, Res.nox, asB, asI, okB, okD, isiF, MP.b2, Cm.ev, end_d, end_n, end_x, dats, dat, datT, pures, on1, on2, on2T, bindT, bindTs, Bi.ev, isCF, ixF, slF, bg1, bg2, bg3, bg4, bg5, bg6, bg7, bg8, stepB, r, at0, hh]
  | dict => cases okd_nd hg
  | _ => simp [evSs, evS, evE, evEs, evO, evT, evI, itemsF, Res.bd, Res.to, Res.nox, asB, asI, okB, okD, isiF, MP.b2, Cm.ev, end_d, end_n, end_x, dats, dat, datT, pures, on1, on2, on2T, bindT, bindTs, Bi.ev, isCF, ixF, slF, bg1, bg2, bg3, bg4, bg5, bg6, bg7, bg8, rowB, r, stepB]
theorem n3 : ¬ (Str.ofString "turn" = Str.ofString "until") := by decide +kernel
theorem n4 : ¬ (Str.ofString "turn" = Str.ofString "lift") := by decide +kernel
theorem n5 : ¬ (Str.ofString "turn" = Str.ofString "bounce") := by decide +kernel
theorem n6 : ¬ (Str.ofString "bounce" = Str.ofString "turn") := by decide +kernel
theorem n7 : ¬ (Str.ofString "bounce" = Str.ofString "until") := by decide +kernel
theorem n8 : ¬ (Str.ofString "bounce" = Str.ofString "lift") := by decide +kernel
theorem s1 : SeqAt.shaped (.str "turn") = true := by decide +kernel
theorem s2 : SeqAt.shaped (.str "bounce") = true := by decide +kernel
theorem s3 : SeqAt.shaped (.str "until") = true := by decide +kernel
theorem s4 : SeqAt.shaped (.str "lift") = true := by decide +kernel
theorem s5 : SeqAt.shaped (.tuple []) = true := by decide +kernel
theorem s6 : SeqAt.shaped (.list [.str "until", .str "lift"]) = true := by decide +kernel
def brB : PyData → Bool
  | .tuple xs => decide (xs.length ≤ 2) && xs.all stepB
  | _ => false
def anyB : PyData → Bool
  | .tuple [.str w, a, x, y] => w == "if" && (wholeB a 1 99 && (brB x && brB y))
  | p => stepB p
theorem s7 : SeqAt.shaped (.str "if") = true := by decide +kernel
theorem rowB_04 (p : PyData) : rowB p 0 2 = true → ∃ xs, p = .tuple xs ∧ xs.length ≤ 2 := by
  intro h
  cases p with
  | tuple xs => exact ⟨xs, rfl, by simpa [rowB] using h⟩
  | _ => cases h
theorem brB_false {p : PyData} (h : rowB p 0 2 = false) : brB p = false := by
  cases p with
  | tuple xs => simp [rowB] at h; simp [brB]; omega
  | _ => rfl
theorem all_map_id {xs : List PyData} {f : PyData → Bool} : (xs.map f).all id = xs.all f := by
  rw [List.all_map]
  rfl
theorem e_any_step {P : Pc} [BWhole P] [BScript P] {n d m : Nat} {p : PyData} {h : Hh} (hg : okd d m p = true) (hm : m ≤ 1000) : callF P (n + 3) 7 [.d p] h = .ok (.d (.bool (anyB p))) h := by
  rw [call_eq f_is_any_step [some (.d p), none] BScript.a_is_any_step rfl rfl]
  show endF false h (evSs (cfF P (n + 2)) b_is_any_step _ h) = _
  unfold b_is_any_step
  have r : (cfF P (n + 2)).call 2 [.d p, .d (.int 4), .d (.int 4)] h = .ok (.d (.bool (rowB p 4 4))) h := e_row (okd_nd hg)
  have st : (cfF P (n + 2)).call 6 [.d p] h = .ok (.d (.bool (stepB p))) h := e_step hg
  have wh : ∀ {q : PyData} {lo hi : Int}, noDict q = true → (cfF P (n + 2)).call 1 [.d q, .d (.int lo), .d (.int hi)] h = .ok (.d (.bool (wholeB q lo hi))) h := fun hq => e_whole hq
  have rw' : ∀ {q : PyData}, noDict q = true → (cfF P (n + 2)).call 2 [.d q, .d (.int 0), .d (.int 2)] h = .ok (.d (.bool (rowB q 0 2))) h := fun hq => e_row hq
  cases p with
  | tuple ps =>
    obtain ⟨e, rfl, hl, hq⟩ := okd_tup hg
    rw [rowB_t] at r
    match ps, hq, r, st with
    | [], _, r, st => simp [evSs, evS, evE, evEs, evO, evT, evI, itemsF, Res.bd, Res.to, Res.nox, asB, asI, okB, okD, isiF, MP.b2, Cm.ev, end_d, end_n, end_x, dats, dat, datT, pures, on1, on2, on2T, bindT, bindTs, Bi.ev, isCF, ixF, slF, bg1, bg2, bg3, bg4, bg5, bg6, bg7, bg8, anyB, r, st]
    | [a], _, r, st => simp [evSs, evS, evE, evEs, evO, evT, evI, itemsF, Res.bd, Res.to, Res.nox, asB, asI, okB, okD, isiF, MP.b2, Cm.ev, end_d, end_n, end_x, dats, dat, datT, pures, on1, on2, on2T, bindT, bindTs, Bi.ev, isCF, ixF, slF, bg1, bg2, bg3, bg4, bg5, bg6, bg7, bg8, anyB, r, st]
    | [a, b], _, r, st => simp [evSs, evS, evE, evEs, evO, evT, evI, itemsF, Res.bd, Res.to, Res.nox, asB, asI, okB, okD, isiF, MP.b2, Cm.ev, end_d, end_n, end_x, dats, dat, datT, pures, on1, on2, on2T, bindT, bindTs, Bi.ev, isCF, ixF, slF, bg1, bg2, bg3, bg4, bg5, bg6, bg7, bg8, anyB, r, st]
    | [a, b, c], _, r, st => simp [evSs, evS, evE, evEs, evO, evT, evI, itemsF, Res.bd, Res.to, Res.nox, asB, asI, okB, okD, isiF, MP.b2, Cm.ev, end_d, end_n, end_x, dats, dat, datT, pures, on1, on2, on2T, bindT, bindTs, Bi.ev, isCF, ixF, slF, bg1, bg2, bg3, bg4, bg5, bg6, bg7, bg8, anyB, r, st]
    | a :: b :: c :: d :: f :: ps, _, r, st =>
      have t : ¬ (ps.length + 1 + 1 + 1 + 1 + 1 ≤ 4) := by omega
      simp [evSs, evS, evE, evEs, evO, evT, evI, itemsF, Res.bd, Res.to, Res.nox, asB, asI, okB, okD, isiF, MP.b2, Cm.ev, end_d, end_n, end_x, dats, dat, datT, pures, on1, on2, on2T, bindT, bindTs, Bi.ev, isCF, ixF, slF, bg1, bg2, bg3, bg4, bg5, bg6, bg7, bg8, anyB, r, st, t]
    | [a, b, c, d], hq, r, st =>
      have ha := hq a (by simp)
      cases a with
      | str w =>
        have hs := sh_str (x := w) (by cases e <;> exact ha)
        by_cases e1 : w = "if"
        · subst e1
          have hb := okd_nd (hq b (by simp))
          have hc := okd_nd (hq c (by simp))
          have hd := okd_nd (hq d (by simp))
          cases w1 : wholeB b 1 99 with
          | false => simp [evSs, evS, evE, evEs, evO, evT, evI, itemsF, Res.bd, Res.to, Res.nox, asB, asI, okB, okD, isiF, MP.b2, Cm.ev, end_d, end_n, end_x, dats, dat, datT, pures, on1, on2, on2T, bindT, bindTs, Bi.ev, isCF, ixF, slF, bg1, bg2, bg3, bg4, bg5, bg6, bg7, bg8, anyB, r, at0, at1, at2, at3, hs, s7, PyData.eqv, wh hb, w1]
          | true =>
            cases w2 : rowB c 0 2 with
            | false => simp [evSs, evS, evE, evEs, evO, evT, evI, itemsF, Res.bd, Res.to, Res.nox, asB, asI, okB, okD, isiF, MP.b2, Cm.ev, end_d, end_n, end_x, dats, dat, datT, pures, on1, on2, on2T, bindT, bindTs, Bi.ev, isCF, ixF, slF, bg1, bg2, bg3, bg4, bg5, bg6, bg7, bg8, anyB, r, at0, at1, at2, at3, hs, s7, PyData.eqv, wh hb, w1, rw' hc, w2, brB_false w2]
            | true =>
              cases w3 : rowB d 0 2 with
              | false => simp [evSs, evS, evE, evEs, evO, evT, evI, itemsF, Res.bd, Res.to, Res.nox, asB, asI, okB, okD, isiF, MP.b2, Cm.ev, end_d, end_n, end_x, dats, dat, datT, pures, on1, on2, on2T, bindT, bindTs, Bi.ev, isCF, ixF, slF, bg1, bg2, bg3, bg4, bg5, bg6, bg7, bg8, anyB, r, at0, at1, at2, at3, hs, s7, PyData.eqv, wh hb, w1, rw' hc, w2, rw' hd, w3, brB_false w3]
              | true =>
                obtain ⟨xs, rfl, hx⟩ := rowB_04 _ w2
                obtain ⟨ys, rfl, hy⟩ := rowB_04 _ w3
                obtain ⟨e', rfl, _, qx⟩ := okd_tup (hq (.tuple xs) (by simp))
                obtain ⟨e'', he, _, qy⟩ := okd_tup (hq (.tuple ys) (by simp))
                cases he
                have key : compF (lcG [("step", 1)] (.n 1) (evT (cfF P (n + 2)) .no) (evE (cfF P (n + 2)) (.call 6 (.cons (.var 1) .nil))) [some (.d (.tuple [.str "if", b, .tuple xs, .tuple ys])), none]) (xs ++ ys) h = .ok ((xs ++ ys).map fun q => .bool (stepB q)) h := by
                  refine compF_map fun x hx => ?_
                  have hx' : okd e' m x = true := (List.mem_append.mp hx).elim (qx x) (qy x)
                  have r2 : (cfF P (n + 2)).call 6 [.d x] h = .ok (.d (.bool (stepB x))) h := e_step hx'
                  simp [lcG, wipeE, evSs, evS, evE, evEs, evO, evT, evI, itemsF, Res.bd, Res.to, Res.nox, asB, asI, okB, okD, isiF, MP.b2, Cm.ev, end_d, end_n, end_x, dats, dat, datT, pures, on1, on2, on2T, bindT, bindTs, Bi.ev, isCF, ixF, slF, bg1, bg2, bg3, bg4, bg5, bg6, bg7, bg8, r2]
                have le : xs.length + ys.length ≤ big := bg (by omega)
                simp [evSs, evS, evE, evEs, evO, evT, evI, itemsF, Res.bd, Res.to, Res.nox, asB, asI, okB, okD, isiF, MP.b2, Cm.ev, end_d, end_n, end_x, dats, dat, datT, pures, on1, on2, on2T, bindT, bindTs, Bi.ev, isCF, ixF, slF, bg1, bg2, bg3, bg4, bg5, bg6, bg7, bg8, anyB, r, at0, at1, at2, at3, hs, s7, PyData.eqv, wh hb, w1, rw' hc, w2, rw' hd, w3, O2.ev, le, -List.map_append] at key ⊢
                rw [key]
                simp [evSs, evS, evE, evEs, evO, evT, evI, itemsF, Res.bd, Res.to, Res.nox, asB, asI, okB, okD, isiF, MP.b2, Cm.ev, end_d, end_n, end_x, dats, dat, datT, pures, on1, on2, on2T, bindT, bindTs, Bi.ev, isCF, ixF, slF, bg1, bg2, bg3, bg4, bg5, bg6, bg7, bg8, brB, hx, hy, boolsOf_map', all_map_id, -List.map_append]
        · have f1 : (w == Str.ofString "if") = false := by simpa using e1
          simp [evSs, evS, evE, evEs, evO, evT, evI, itemsF, Res.bd, Res.to, Res.nox, asB, asI, okB, okD, isiF, MP.b2, Cm.ev, end_d, end_n, end_x, dats, dat, datT, pures, on1, on2, on2T, bindT, bindTs, Bi.ev, isCF, ixF, slF, bg1, bg2, bg3, bg4, bg5, bg6, bg7, bg8, anyB, r, st, at0, hs, s7, PyData.eqv, e1, f1, stepB]
      | dict => cases e <;> cases ha
      | _ => simp [evSs, evS, evE, evEs, evO, evT, evI, itemsF, Res.bd, Res.to, Res.nox, asB, asI, okB, okD, isiF, MP.b2, Cm.ev, end_d, end_n, end_x, dats, dat, datT, pures, on1, on2, on2T, bindT, bindTs, Bi.ev, isCF, ixF, slF, bg1, bg2, bg3, bg4, bg5, bg6, bg7, bg8, anyB, r, st, at0]
  | dict => cases okd_nd hg
  | _ => simp [evSs, evS, evE, evEs, evO, evT, evI, itemsF, Res.bd, Res.to, Res.nox, asB, asI, okB, okD, isiF, MP.b2, Cm.ev, end_d, end_n, end_x, dats, dat, datT, pures, on1, on2, on2T, bindT, bindTs, Bi.ev, isCF, ixF, slF, bg1, bg2, bg3, bg4, bg5, bg6, bg7, bg8, rowB, r, st, anyB]
def scriptB : PyData → Bool
  | .tuple ps => decide (ps.length ≤ 4) && ps.all anyB
  | _ => false
theorem e_script {P : Pc} [BWhole P] [BScript P] {n d m : Nat} {p : PyData} {h : Hh} (hg : okd d m p = true) (hm : m ≤ 1000) : callF P (n + 4) 8 [.d p] h = .ok (.d (.bool (scriptB p))) h := by
  rw [call_eq f_is_script [some (.d p), none] BScript.a_is_script rfl rfl]
  show endF false h (evSs (cfF P (n + 3)) b_is_script _ h) = _
  unfold b_is_script
  have r : (cfF P (n + 3)).call 2 [.d p, .d (.int 0), .d (.int 4)] h = .ok (.d (.bool (rowB p 0 4))) h := e_row (okd_nd hg)
  cases p with
  | tuple ps =>
    obtain ⟨e, rfl, hl, hq⟩ := okd_tup hg
    rw [rowB_t] at r
    by_cases h1 : ps.length ≤ 4
    · have key : compF (lcG [("step", 1)] (.n 1) (evT (cfF P (n + 3)) .no) (evE (cfF P (n + 3)) (.call 7 (.cons (.var 1) .nil))) [some (.d (.tuple ps)), none]) ps h = .ok (ps.map fun q => .bool (anyB q)) h := by
        refine compF_map fun x hx => ?_
        have r2 : (cfF P (n + 3)).call 7 [.d x] h = .ok (.d (.bool (anyB x))) h := e_any_step (hq x hx) hm
        simp [lcG, wipeE, evSs, evS, evE, evEs, evO, evT, evI, itemsF, Res.bd, Res.to, Res.nox, asB, asI, okB, okD, isiF, MP.b2, Cm.ev, end_d, end_n, end_x, dats, dat, datT, pures, on1, on2, on2T, bindT, bindTs, Bi.ev, isCF, ixF, slF, bg1, bg2, bg3, bg4, bg5, bg6, bg7, bg8, r2]
      simp [evSs, evS, evE, evEs, evO, evT, evI, itemsF, Res.bd, Res.to, Res.nox, asB, asI, okB, okD, isiF, MP.b2, Cm.ev, end_d, end_n, end_x, dats, dat, datT, pures, on1, on2, on2T, bindT, bindTs, Bi.ev, isCF, ixF, slF, bg1, bg2, bg3, bg4, bg5, bg6, bg7, bg8, h1, r, scriptB] at key ⊢
      rw [key]
      simp [boolsOf_map', all_map_id, evSs, evS, evE, evEs, evO, evT, evI, itemsF, Res.bd, Res.to, Res.nox, asB, asI, okB, okD, isiF, MP.b2, Cm.ev, end_d, end_n, end_x, dats, dat, datT, pures, on1, on2, on2T, bindT, bindTs, Bi.ev, isCF, ixF, slF, bg1, bg2, bg3, bg4, bg5, bg6, bg7, bg8]
    · simp [evSs, evS, evE, evEs, evO, evT, evI, itemsF, Res.bd, Res.to, Res.nox, asB, asI, okB, okD, isiF, MP.b2, Cm.ev, end_d, end_n, end_x, dats, dat, datT, pures, on1, on2, on2T, bindT, bindTs, Bi.ev, isCF, ixF, slF, bg1, bg2, bg3, bg4, bg5, bg6, bg7, bg8, h1, r, scriptB]
  | dict => cases okd_nd hg
  | _ => simp [evSs, evS, evE, evEs, evO, evT, evI, itemsF, Res.bd, Res.to, Res.nox, asB, asI, okB, okD, isiF, MP.b2, Cm.ev, end_d, end_n, end_x, dats, dat, datT, pures, on1, on2, on2T, bindT, bindTs, Bi.ev, isCF, ixF, slF, bg1, bg2, bg3, bg4, bg5, bg6, bg7, bg8, rowB, r, scriptB]
end MC
end
section
set_option Elab.async false
set_option linter.all false
set_option maxRecDepth 100000
set_option maxHeartbeats 1000000
/-! what the laws draw -/
namespace MC
open PySem L2 MP
/-! ### small things -/
theorem atI_mem {α : Type} {ps : List α} {i : Int} (h0 : 0 ≤ i) (h1 : i < ps.length) : ∃ p ∈ ps, atI ps i = some p := by
  obtain ⟨k, rfl⟩ : ∃ k : Nat, i = (k : Int) := ⟨i.toNat, by omega⟩
  have hk : k < ps.length := by omega
  exact ⟨ps[k], List.getElem_mem hk, atI_nat (List.getElem?_eq_getElem hk)⟩
theorem end_s {m : Bool} {p : PyData} {h : Hh} {r : Nat} {c : Cell} : endF m h (.rt (.d p) (h.set r c)) = .ok (.d p) (h.set r c) := end_d' List.length_set
theorem end_x' {m : Bool} {p : PyData} {h e : Hh} {r : Nat} {c : Cell} : endF m h (.rt (.d p) (h.set r c ++ e)) = .ok (.d p) (h.set r c) := by
  show (Res.ok (Val.d p) ((h.set r c ++ e).take h.length) : Res Val) = _
  rw [show h.length = (h.set r c).length from List.length_set.symm, List.take_left]
theorem lt64 {i : Int} (h : i.natAbs < 2 ^ 64) : i.natAbs.log2 ≤ 64 := by
  by_cases h0 : i.natAbs = 0
  · rw [h0]; decide
  · have := (Nat.log2_lt h0).mpr h
    omega
theorem wm {i j : Int} (hi : i.natAbs < 2 ^ 64) (hj : j.natAbs < 2 ^ 64) : wideMul i j = true := by
  have := lt64 hi
  have := lt64 hj
  exact decide_eq_true (by omega)
theorem wd {j : Int} (h0 : 0 < j) (hj : j.natAbs < 2 ^ 64) : wideDiv j = true := by
  have := lt64 hj
  unfold wideDiv
  rw [Bool.and_eq_true]
  exact ⟨decide_eq_true h0, decide_eq_true (by omega)⟩
theorem okd_ints {m : Nat} {ns : List Int} (h : ns.length ≤ m) : okd 1 m (.list (ns.map PyData.int)) = true := okd_mkL (by simpa using h) fun p hp => by
  obtain ⟨i, _, rfl⟩ := List.mem_map.mp hp
  rfl
theorem sh_ints {ns : List Int} : SeqAt.shaped (.list (ns.map PyData.int)) = true := okd_sh (okd_ints (Nat.le_refl ns.length)) (by omega)
/-! ### loops and comprehensions -/
theorem forF_inv {α : Type} {g : α → En → Hh → Out} {I : List α → En → Hh → Prop} (st : ∀ x xs ρ h, I (x :: xs) ρ h → ∃ ρ' h', (g x ρ h = .nx ρ' h' ∨ g x ρ h = .ct ρ' h') ∧ I xs ρ' h') : ∀ {xs : List α} {ρ : En} {h : Hh}, I xs ρ h → ∃ ρ' h', forF g xs ρ h = .nx ρ' h' ∧ I [] ρ' h'
  | [], ρ, h, hi => ⟨ρ, h, rfl, hi⟩
  | x :: xs, ρ, h, hi => by
    obtain ⟨ρ', h', e, hi'⟩ := st x xs ρ h hi
    obtain ⟨ρ2, h2, e2, hi2⟩ := forF_inv st hi'
    refine ⟨ρ2, h2, ?_, hi2⟩
    rcases e with e | e <;> simp only [forF, e, e2]
/-! ### the bag -/
def BagAt (h : Hh) (r : Nat) : Prop := ∃ ns : List Int, h[r]? = some (.lst (ns.map PyData.int))
def Bk (r : Nat) (h h' : Hh) : Prop := ∃ ns : List Int, h' = h.set r (.lst (ns.map PyData.int))
/-- .. with cells behind -/
def Bx (r : Nat) (h h' : Hh) : Prop := ∃ (ns : List Int) (e : Hh), h' = h.set r (.lst (ns.map PyData.int)) ++ e
theorem BagAt.lt {h : Hh} {r : Nat} (b : BagAt h r) : r < h.length := by
  obtain ⟨ns, e⟩ := b
  exact (List.getElem?_eq_some_iff.mp e).1
theorem BagAt.rfl {h : Hh} {r : Nat} (b : BagAt h r) : Bk r h h := by
  obtain ⟨ns, e⟩ := b
  obtain ⟨l, e⟩ := List.getElem?_eq_some_iff.mp e
  exact ⟨ns, by rw [← e, List.set_getElem_self]⟩
theorem Bk.bag {r : Nat} {h h' : Hh} (b : BagAt h r) (k : Bk r h h') : BagAt h' r := by
  obtain ⟨ns, rfl⟩ := k
  exact ⟨ns, by rw [List.getElem?_set_self b.lt]⟩
theorem Bk.len {r : Nat} {h h' : Hh} (k : Bk r h h') : h'.length = h.length := by
  obtain ⟨ns, rfl⟩ := k
  exact List.length_set
theorem Bk.trans {r : Nat} {h h1 h2 : Hh} (a : Bk r h h1) (b : Bk r h1 h2) : Bk r h h2 := by
  obtain ⟨ns, rfl⟩ := a
  obtain ⟨ms, rfl⟩ := b
  exact ⟨ms, List.set_set _⟩
theorem Bk.bx {r : Nat} {h h' : Hh} (a : Bk r h h') : Bx r h h' := by
  obtain ⟨ns, rfl⟩ := a
  exact ⟨ns, [], by simp⟩
theorem Bx.bag {r : Nat} {h h' : Hh} (b : BagAt h r) (k : Bx r h h') : BagAt h' r := by
  obtain ⟨ns, e, rfl⟩ := k
  have := b.lt
  exact ⟨ns, by rw [List.getElem?_append_left (by simpa using this), List.getElem?_set_self this]⟩
theorem Bx.trans {r : Nat} {h h1 h2 : Hh} (l : BagAt h r) (a : Bx r h h1) (b : Bx r h1 h2) : Bx r h h2 := by
  obtain ⟨ns, e, rfl⟩ := a
  obtain ⟨ms, e', rfl⟩ := b
  refine ⟨ms, e ++ e', ?_⟩
  rw [List.set_append_left _ _ (by simpa using l.lt), List.set_set, List.append_assoc]
theorem Bx.more {r : Nat} {h h1 : Hh} {e : Hh} (a : Bx r h h1) : Bx r h (h1 ++ e) := by
  obtain ⟨ns, e', rfl⟩ := a
  exact ⟨ns, e' ++ e, by rw [List.append_assoc]⟩
theorem Bx.le {r : Nat} {h h1 : Hh} (a : Bx r h h1) : h.length ≤ h1.length := by
  obtain ⟨ns, e', rfl⟩ := a
  simp
/-- a call that draws: nothing but the bag changes -/
def Tk (r : Nat) (h : Hh) (Q : PyData → Prop) (R : Res Val) : Prop := ∃ p h', R = .ok (.d p) h' ∧ Bk r h h' ∧ Q p
theorem Tk.imp {r : Nat} {h : Hh} {Q Q' : PyData → Prop} {R : Res Val} (t : Tk r h Q R) (f : ∀ p, Q p → Q' p) : Tk r h Q' R := by
  obtain ⟨p, h', e, b, q⟩ := t
  exact ⟨p, h', e, b, f p q⟩
/-- the end of a def that draws -/
theorem end_b {r : Nat} {m : Bool} {p : PyData} {h h' : Hh} (b : Bk r h h') : endF m h (.rt (.d p) h') = .ok (.d p) h' := end_d' b.len
theorem end_bx {r : Nat} {m : Bool} {p : PyData} {h h' : Hh} (b : Bx r h h') : ∃ h2, Bk r h h2 ∧ endF m h (.rt (.d p) h') = .ok (.d p) h2 := by
  obtain ⟨ns, e, rfl⟩ := b
  exact ⟨_, ⟨ns, rfl⟩, end_x'⟩
theorem compF_tk {r : Nat} {g : PyData → Hh → Res (Option PyData)} {Q : PyData → Prop} : ∀ {xs : List PyData} {h : Hh}, BagAt h r → (∀ x ∈ xs, ∀ h', BagAt h' r → ∃ p h'', g x h' = .ok (some p) h'' ∧ Bk r h' h'' ∧ Q p) → ∃ ps h', compF g xs h = .ok ps h' ∧ Bk r h h' ∧ ps.length = xs.length ∧ ∀ p ∈ ps, Q p
  | [], h, b, _ => ⟨[], h, rfl, b.rfl, rfl, fun p hp => nomatch hp⟩
  | x :: xs, h, b, hg => by
    obtain ⟨p, h1, e1, b1, q1⟩ := hg x List.mem_cons_self h b
    obtain ⟨ps, h2, e2, b2, l2, q2⟩ := compF_tk (b1.bag b) fun y hy => hg y (List.mem_cons_of_mem _ hy)
    refine ⟨p :: ps, h2, ?_, b1.trans b2, by simp [l2], fun y hy => ?_⟩
    · simp only [compF, e1, e2, Res.bd]
    · rcases List.mem_cons.mp hy with rfl | hy
      · exact q1
      · exact q2 y hy
theorem rng_len {lo : Int} {n : Nat} : (rngF lo n).length = n := by simp [rngF]
theorem rngF_mem {lo : Int} {n : Nat} {p : PyData} (h : p ∈ rngF lo n) : ∃ i : Int, p = .int i ∧ lo ≤ i ∧ i < lo + n := by
  simp only [rngF, List.mem_map, List.mem_range] at h
  obtain ⟨k, hk, rfl⟩ := h
  exact ⟨_, rfl, by omega, by omega⟩
section
variable {P : Pc} [BBag P]
theorem e_take {n r : Nat} {h : Hh} {m : Int} (hb : BagAt h r) (hm : 0 < m) : Tk r h (fun p => ∃ i : Int, p = .int i ∧ 0 ≤ i ∧ i < m) (callF P (n + 1) 14 [.ref r, .d (.int m)] h) := by
  rw [call_eq f__law_take [some (.ref r), some (.d (.int m)), none] BBag.a__law_take rfl rfl]
  show Tk r h _ (endF false h (evSs (cfF P n) b__law_take _ h))
  unfold b__law_take
  obtain ⟨ns, e⟩ := hb
  cases ns with
  | nil =>
    refine ⟨.int 0, h, ?_, BagAt.rfl ⟨[], e⟩, 0, rfl, by omega, hm⟩
    have e : h[r]? = some (.lst []) := e
    simp [evSs, evS, evE, evEs, evO, evT, evI, itemsF, Res.bd, Res.to, Res.nox, asB, asI, okB, okD, isiF, MP.b2, Cm.ev, end_d, end_n, end_x, dats, dat, datT, pures, on1, on2, on2T, bindT, bindTs, Bi.ev, isCF, ixF, slF, bg1, bg2, bg3, bg4, bg5, bg6, bg7, bg8, e, sh_nil, PyData.eqv, PyData.eqvAll, O2.ev, hm]
  | cons x xs =>
    refine ⟨.int (x % m), h.set r (.lst (xs.map PyData.int)), ?_, ⟨xs, rfl⟩, x % m, rfl, Int.emod_nonneg _ (by omega), Int.emod_lt_of_pos _ hm⟩
    have e : h[r]? = some (.lst (.int x :: xs.map PyData.int)) := e
    have s : SeqAt.shaped (.list (.int x :: xs.map PyData.int)) = true := sh_ints (ns := x :: xs)
    simp [evSs, evS, evE, evEs, evO, evT, evI, itemsF, Res.bd, Res.to, Res.nox, asB, asI, okB, okD, isiF, MP.b2, Cm.ev, end_d, end_n, end_x, dats, dat, datT, pures, on1, on2, on2T, bindT, bindTs, Bi.ev, isCF, ixF, slF, bg1, bg2, bg3, bg4, bg5, bg6, bg7, bg8, e, s, sh_nil, PyData.eqv, PyData.eqvAll, O2.ev, hm, end_s]
theorem e_choice {n r : Nat} {h : Hh} {ps : List PyData} (hb : BagAt h r) (hp : ps ≠ []) : Tk r h (fun p => p ∈ ps) (callF P (n + 2) 15 [.ref r, .d (.list ps)] h) := by
  rw [call_eq f__law_choice [some (.ref r), some (.d (.list ps))] BBag.a__law_choice rfl rfl]
  show Tk r h _ (endF false h (evSs (cfF P (n + 1)) b__law_choice _ h))
  unfold b__law_choice
  have hl : 0 < (ps.length : Int) := by
    cases ps with
    | nil => exact absurd rfl hp
    | cons => simp
  obtain ⟨p, h1, e1, b1, i, rfl, i0, i1⟩ := e_take (P := P) (n := n) hb hl
  obtain ⟨p, hm, ep⟩ := atI_mem i0 i1
  refine ⟨p, h1, ?_, b1, hm⟩
  simp [evSs, evS, evE, evEs, evO, evT, evI, itemsF, Res.bd, Res.to, Res.nox, asB, asI, okB, okD, isiF, MP.b2, Cm.ev, end_d, end_n, end_x, dats, dat, datT, pures, on1, on2, on2T, bindT, bindTs, Bi.ev, isCF, ixF, slF, bg1, bg2, bg3, bg4, bg5, bg6, bg7, bg8, e1, ep, end_b b1]
def LaneV (most : Int) (p : PyData) : Prop := ∃ ns : List Int, p = .tuple (ns.map PyData.int) ∧ (ns.length : Int) ≤ most ∧ ∀ i ∈ ns, 0 ≤ i ∧ i ≤ 99
theorem ints_of {Q : Int → Prop} : ∀ {ps : List PyData}, (∀ p ∈ ps, ∃ i, p = .int i ∧ Q i) → ∃ ns : List Int, ps = ns.map PyData.int ∧ ∀ i ∈ ns, Q i
  | [], _ => ⟨[], rfl, fun i hi => nomatch hi⟩
  | p :: ps, h => by
    obtain ⟨i, rfl, q⟩ := h p List.mem_cons_self
    obtain ⟨ns, rfl, q2⟩ := ints_of fun y hy => h y (List.mem_cons_of_mem _ hy)
    exact ⟨i :: ns, rfl, fun j hj => by
      rcases List.mem_cons.mp hj with rfl | hj
      · exact q
      · exact q2 j hj⟩
theorem e_llane [BLLane P] {n r : Nat} {h : Hh} {most : Int} (hb : BagAt h r) (hm : 0 ≤ most) (hm2 : most ≤ 100) : Tk r h (LaneV most) (callF P (n + 3) 16 [.ref r, .d (.int most)] h) := by
  rw [call_eq f__law_lane [some (.ref r), some (.d (.int most)), none] BLLane.a__law_lane rfl rfl]
  show Tk r h _ (endF false h (evSs (cfF P (n + 2)) b__law_lane _ h))
  unfold b__law_lane
  obtain ⟨p, h1, e1, b1, i, rfl, i0, i1⟩ := e_take (P := P) (n := n + 1) (m := most + 1) hb (by omega)
  have key : ∃ ps h2, compF (lcG [("turn", 2)] (.n 2) (evT (cfF P (n + 2)) .no) (evE (cfF P (n + 2)) (.call 15 (.cons (.var 0) (.cons (.lst (.cons (.int 0) (.cons (.int 1) (.cons (.int 2) (.cons (.int 3) (.cons (.int 5) (.cons (.int 8) (.cons (.int 20) .nil)))))))) .nil)))) [some (.ref r), some (.d (.int most)), none]) (rngF 0 i.toNat) h1 = .ok ps h2 ∧ Bk r h1 h2 ∧ ps.length = (rngF 0 i.toNat).length ∧ ∀ p ∈ ps, ∃ i, p = .int i ∧ (0 ≤ i ∧ i ≤ 99) := by
    refine compF_tk (b1.bag hb) fun x hx h' hb' => ?_
    obtain ⟨p, h2, e2, b2, q2⟩ := e_choice (P := P) (n := n) (ps := [.int 0, .int 1, .int 2, .int 3, .int 5, .int 8, .int 20]) hb' (by simp)
    refine ⟨p, h2, ?_, b2, ?_⟩
    · simp [lcG, wipeE, evSs, evS, evE, evEs, evO, evT, evI, itemsF, Res.bd, Res.to, Res.nox, asB, asI, okB, okD, isiF, MP.b2, Cm.ev, end_d, end_n, end_x, dats, dat, datT, pures, on1, on2, on2T, bindT, bindTs, Bi.ev, isCF, ixF, slF, bg1, bg2, bg3, bg4, bg5, bg6, bg7, bg8, e2]
    · simp only [List.mem_cons, List.not_mem_nil, or_false] at q2
      rcases q2 with rfl | rfl | rfl | rfl | rfl | rfl | rfl <;> exact ⟨_, rfl, by decide⟩
  obtain ⟨ps, h2, e2, b2, l2, q2⟩ := key
  obtain ⟨ns, rfl, q3⟩ := ints_of q2
  rw [rng_len, List.length_map] at l2
  have b3 := b1.trans b2
  refine ⟨_, h2, ?_, b3, ns, rfl, by omega, q3⟩
  have c1 : small i = true := by
    unfold small
    rw [Bool.and_eq_true]
    exact ⟨decide_eq_true (by omega), decide_eq_true (by omega)⟩
  have c2 : i.toNat ≤ big := bg (by omega)
  simp [evSs, evS, evE, evEs, evO, evT, evI, itemsF, Res.bd, Res.to, Res.nox, asB, asI, okB, okD, isiF, MP.b2, Cm.ev, end_d, end_n, end_x, dats, dat, datT, pures, on1, on2, on2T, bindT, bindTs, Bi.ev, isCF, ixF, slF, bg1, bg2, bg3, bg4, bg5, bg6, bg7, bg8, O2.ev, e1, c1, c2] at e2 ⊢
  rw [e2]
  simp [evSs, evS, evE, evEs, evO, evT, evI, itemsF, Res.bd, Res.to, Res.nox, asB, asI, okB, okD, isiF, MP.b2, Cm.ev, end_d, end_n, end_x, dats, dat, datT, pures, on1, on2, on2T, bindT, bindTs, Bi.ev, isCF, ixF, slF, bg1, bg2, bg3, bg4, bg5, bg6, bg7, bg8, end_b b3]
def BallV (len : Nat) (p : PyData) : Prop := ∃ (c : Int) (w : Str) (t : Int), p = .tuple [.int c, .str w, .int t] ∧ (0 ≤ c ∧ c ≤ len) ∧ (w = "left" ∨ w = "right") ∧ (1 ≤ t ∧ t ≤ 99)
theorem e_lball [BLScr P] {n r : Nat} {h : Hh} {ps : List PyData} (hb : BagAt h r) : Tk r h (BallV ps.length) (callF P (n + 3) 17 [.ref r, .d (.tuple ps)] h) := by
  rw [call_eq f__law_ball [some (.ref r), some (.d (.tuple ps)), none] BLScr.a__law_ball rfl rfl]
  show Tk r h _ (endF false h (evSs (cfF P (n + 2)) b__law_ball _ h))
  unfold b__law_ball
  obtain ⟨p, h1, e1, b1, q1⟩ := e_choice (P := P) (n := n) (ps := [.int 1, .int 3, .int 8, .int 20, .int 99]) hb (by simp)
  obtain ⟨m, rfl, m1, m2⟩ : ∃ m : Int, p = .int m ∧ 1 ≤ m ∧ m ≤ 99 := by
    simp only [List.mem_cons, List.not_mem_nil, or_false] at q1
    rcases q1 with rfl | rfl | rfl | rfl | rfl <;> exact ⟨_, rfl, by decide⟩
  obtain ⟨p, h2, e2, b2, c, rfl, c0, c1⟩ := e_take (P := P) (n := n + 1) (m := (ps.length : Int) + 1) (b1.bag hb) (by omega)
  have b12 := b1.trans b2
  obtain ⟨p, h3, e3, b3, q3⟩ := e_choice (P := P) (n := n) (ps := [.str "left", .str "right"]) (b12.bag hb) (by simp)
  obtain ⟨w, rfl, hw⟩ : ∃ w : Str, p = .str w ∧ (w = "left" ∨ w = "right") := by
    simp only [List.mem_cons, List.not_mem_nil, or_false] at q3
    rcases q3 with rfl | rfl <;> exact ⟨_, rfl, by simp⟩
  have b13 := b12.trans b3
  obtain ⟨p, h4, e4, b4, t, rfl, t0, t1⟩ := e_take (P := P) (n := n + 1) (m := m) (b13.bag hb) (by omega)
  have b14 := b13.trans b4
  refine ⟨.tuple [.int c, .str w, .int (1 + t)], h4, ?_, b14, c, w, 1 + t, rfl, ⟨c0, by omega⟩, hw, by omega, by omega⟩
  simp [evSs, evS, evE, evEs, evO, evT, evI, itemsF, Res.bd, Res.to, Res.nox, asB, asI, okB, okD, isiF, MP.b2, Cm.ev, end_d, end_n, end_x, dats, dat, datT, pures, on1, on2, on2T, bindT, bindTs, Bi.ev, isCF, ixF, slF, bg1, bg2, bg3, bg4, bg5, bg6, bg7, bg8, O2.ev, e1, e2, e3, e4, end_b b14]
inductive StepV : PyData → Prop where
  | bounce (m : Int) (h : 1 ≤ m ∧ m ≤ 9) : StepV (.tuple [.str "bounce", .int m])
  | until (a m : Int) (ha : 1 ≤ a ∧ a ≤ 99) (h : 1 ≤ m ∧ m ≤ 9) : StepV (.tuple [.str "until", .int a, .int m])
  | lift (a m : Int) (ha : 1 ≤ a ∧ a ≤ 9) (h : 1 ≤ m ∧ m ≤ 9) : StepV (.tuple [.str "lift", .int a, .int m])
  | turn : StepV (.tuple [.str "turn"])
theorem e_lstep [BLScr P] {n r : Nat} {h : Hh} (hb : BagAt h r) : Tk r h StepV (callF P (n + 3) 18 [.ref r] h) := by
  rw [call_eq f__law_step [some (.ref r), none] BLScr.a__law_step rfl rfl]
  show Tk r h _ (endF false h (evSs (cfF P (n + 2)) b__law_step _ h))
  unfold b__law_step
  obtain ⟨p, h1, e1, b1, w, rfl, w0, w1⟩ := e_take (P := P) (n := n + 1) (m := 7) hb (by omega)
  by_cases c1 : w < 3
  · obtain ⟨p, h2, e2, b2, m, rfl, m0, m1⟩ := e_take (P := P) (n := n + 1) (m := 3) (b1.bag hb) (by omega)
    have b12 := b1.trans b2
    refine ⟨_, h2, ?_, b12, .bounce (1 + m) (by omega)⟩
    simp [evSs, evS, evE, evEs, evO, evT, evI, itemsF, Res.bd, Res.to, Res.nox, asB, asI, okB, okD, isiF, MP.b2, Cm.ev, end_d, end_n, end_x, dats, dat, datT, pures, on1, on2, on2T, bindT, bindTs, Bi.ev, isCF, ixF, slF, bg1, bg2, bg3, bg4, bg5, bg6, bg7, bg8, O2.ev, e1, e2, c1, end_b b12]
  by_cases c2 : w < 5
  · obtain ⟨p, h2, e2, b2, q2⟩ := e_choice (P := P) (n := n) (ps := [.int 1, .int 2, .int 3, .int 5, .int 9]) (b1.bag hb) (by simp)
    obtain ⟨a, rfl, a1, a2⟩ : ∃ m : Int, p = .int m ∧ 1 ≤ m ∧ m ≤ 99 := by
      simp only [List.mem_cons, List.not_mem_nil, or_false] at q2
      rcases q2 with rfl | rfl | rfl | rfl | rfl <;> exact ⟨_, rfl, by decide⟩
    have b12 := b1.trans b2
    obtain ⟨p, h3, e3, b3, m, rfl, m0, m1⟩ := e_take (P := P) (n := n + 1) (m := 5) (b12.bag hb) (by omega)
    have b13 := b12.trans b3
    refine ⟨_, h3, ?_, b13, .until a (1 + m) (by omega) (by omega)⟩
    simp [evSs, evS, evE, evEs, evO, evT, evI, itemsF, Res.bd, Res.to, Res.nox, asB, asI, okB, okD, isiF, MP.b2, Cm.ev, end_d, end_n, end_x, dats, dat, datT, pures, on1, on2, on2T, bindT, bindTs, Bi.ev, isCF, ixF, slF, bg1, bg2, bg3, bg4, bg5, bg6, bg7, bg8, O2.ev, e1, e2, e3, c1, c2, end_b b13]
  by_cases c3 : w = 5
  · refine ⟨_, h1, ?_, b1, .turn⟩
    subst c3
    simp [evSs, evS, evE, evEs, evO, evT, evI, itemsF, Res.bd, Res.to, Res.nox, asB, asI, okB, okD, isiF, MP.b2, Cm.ev, end_d, end_n, end_x, dats, dat, datT, pures, on1, on2, on2T, bindT, bindTs, Bi.ev, isCF, ixF, slF, bg1, bg2, bg3, bg4, bg5, bg6, bg7, bg8, O2.ev, e1, end_b b1, SeqAt.shaped, PyData.canLay0, PyData.depth, PyData.eqv]
  · obtain ⟨p, h2, e2, b2, a, rfl, a0, a1⟩ := e_take (P := P) (n := n + 1) (m := 4) (b1.bag hb) (by omega)
    have b12 := b1.trans b2
    obtain ⟨p, h3, e3, b3, m, rfl, m0, m1⟩ := e_take (P := P) (n := n + 1) (m := 3) (b12.bag hb) (by omega)
    have b13 := b12.trans b3
    refine ⟨_, h3, ?_, b13, .lift (1 + a) (1 + m) (by omega) (by omega)⟩
    simp [evSs, evS, evE, evEs, evO, evT, evI, itemsF, Res.bd, Res.to, Res.nox, asB, asI, okB, okD, isiF, MP.b2, Cm.ev, end_d, end_n, end_x, dats, dat, datT, pures, on1, on2, on2T, bindT, bindTs, Bi.ev, isCF, ixF, slF, bg1, bg2, bg3, bg4, bg5, bg6, bg7, bg8, O2.ev, e1, e2, e3, c1, c2, c3, end_b b13, SeqAt.shaped, PyData.canLay0, PyData.depth, PyData.eqv]
theorem Bk.app {r : Nat} {h e h' : Hh} (l : r < h.length) (b : Bk r (h ++ e) h') : ∃ h3, h' = h3 ++ e ∧ Bk r h h3 := by
  obtain ⟨ns, rfl⟩ := b
  exact ⟨_, List.set_append_left _ _ l, ns, rfl⟩
theorem BagAt.app {r : Nat} {h e : Hh} (b : BagAt h r) : BagAt (h ++ e) r := by
  have := b.lt
  obtain ⟨ns, q⟩ := b
  exact ⟨ns, by rw [List.getElem?_append_left this, q]⟩
theorem small_of {i : Int} (h0 : 0 ≤ i) (h1 : i ≤ 1000000) : small i = true := by
  unfold small
  rw [Bool.and_eq_true]
  exact ⟨decide_eq_true (by omega), decide_eq_true (by omega)⟩
theorem e_branch [BLScr P] {n r q : Nat} {h : Hh} {ps : List PyData} {a b c d e : Option Val} (hb : BagAt h r) (hq : q = h.length) (hps : ps.length ≤ 1000) :
    ∃ xs h3, evSs (cfF P (n + 4)) l__law_steps_0 [some (.ref r), a, b, c, some (.ref q), d, e] (h ++ [.lst ps]) = .nx [some (.ref r), a, b, c, some (.ref q), d, e] (h3 ++ [.lst (ps ++ [.tuple xs])]) ∧ Bk r h h3 ∧ xs.length ≤ 1 ∧ ∀ x ∈ xs, StepV x := by
  unfold l__law_steps_0
  obtain ⟨p, h1, e1, b1, w, rfl, w0, w1⟩ := e_take (P := P) (n := n + 3) (m := 2) (hb.app (e := [.lst ps])) (by omega)
  obtain ⟨h2, rfl, b2⟩ := b1.app hb.lt
  have key : ∃ xs h3, compF (lcG [("step", 6)] (.n 6) (evT (cfF P (n + 4)) .no) (evE (cfF P (n + 4)) (.call 18 (.cons (.var 0) .nil))) [some (.ref r), a, b, c, some (.ref q), d, e]) (rngF 0 w.toNat) (h2 ++ [.lst ps]) = .ok xs h3 ∧ Bk r (h2 ++ [.lst ps]) h3 ∧ xs.length = (rngF 0 w.toNat).length ∧ ∀ p ∈ xs, StepV p := by
    refine compF_tk (b1.bag hb.app) fun x hx h' hb' => ?_
    obtain ⟨p, h4, e4, b4, q4⟩ := e_lstep (P := P) (n := n + 1) hb'
    exact ⟨p, h4, by simp [lcG, wipeE, evSs, evS, evE, evEs, evO, evT, evI, itemsF, Res.bd, Res.to, Res.nox, asB, asI, okB, okD, isiF, MP.b2, Cm.ev, end_d, end_n, end_x, dats, dat, datT, pures, on1, on2, on2T, bindT, bindTs, Bi.ev, isCF, ixF, slF, bg1, bg2, bg3, bg4, bg5, bg6, bg7, bg8, e4], b4, q4⟩
  obtain ⟨xs, h3', e3, b3, l3, q3⟩ := key
  obtain ⟨h3, rfl, b4⟩ := b3.app (b2.bag hb).lt
  have b5 := b2.trans b4
  refine ⟨xs, h3, ?_, b5, by rw [l3, rng_len]; omega, q3⟩
  have c2 : w.toNat ≤ big := bg (by omega)
  have c3 : ps.length ≤ big := bg (by omega)
  have g1 : (h ++ [Cell.lst ps])[q]? = some (.lst ps) := by rw [hq]; simp
  have g2 : (h3 ++ [Cell.lst ps])[q]? = some (.lst ps) := by rw [hq, ← b5.len]; simp
  have g3 : (h3 ++ [Cell.lst ps]).set q (.lst (ps ++ [.tuple xs])) = h3 ++ [.lst (ps ++ [.tuple xs])] := by rw [hq, ← b5.len, List.set_append_right _ _ (Nat.le_refl _)]; simp
  simp [evSs, evS, evE, evEs, evO, evT, evI, itemsF, Res.bd, Res.to, Res.nox, asB, asI, okB, okD, isiF, MP.b2, Cm.ev, end_d, end_n, end_x, dats, dat, datT, pures, on1, on2, on2T, bindT, bindTs, Bi.ev, isCF, ixF, slF, bg1, bg2, bg3, bg4, bg5, bg6, bg7, bg8, O2.ev, e1, small_of w0 (by omega), c2, g1] at e3 ⊢
  rw [e3]
  simp [evSs, evS, evE, evEs, evO, evT, evI, itemsF, Res.bd, Res.to, Res.nox, asB, asI, okB, okD, isiF, MP.b2, Cm.ev, end_d, end_n, end_x, dats, dat, datT, pures, on1, on2, on2T, bindT, bindTs, Bi.ev, isCF, ixF, slF, bg1, bg2, bg3, bg4, bg5, bg6, bg7, bg8, g2, c3, g3]
inductive AnyV : PyData → Prop where
  | step (p : PyData) (h : StepV p) : AnyV p
  | ifs (a : Int) (xs ys : List PyData) (ha : 1 ≤ a ∧ a ≤ 99) (lx : xs.length ≤ 2) (ly : ys.length ≤ 2) (hx : ∀ x ∈ xs, StepV x) (hy : ∀ x ∈ ys, StepV x) : AnyV (.tuple [.str "if", .int a, .tuple xs, .tuple ys])
def ScrV (most : Int) (p : PyData) : Prop := ∃ ps, p = .tuple ps ∧ (ps.length : Int) ≤ most ∧ ∀ x ∈ ps, AnyV x
theorem e_lsteps [BLScr P] {n r : Nat} {h : Hh} {most : Int} (hb : BagAt h r) (hm : 0 ≤ most) (hm2 : most ≤ 100) : Tk r h (ScrV most) (callF P (n + 5) 19 [.ref r, .d (.int most)] h) := by
  rw [call_eq f__law_steps [some (.ref r), some (.d (.int most)), none, none, none, none, none] BLScr.a__law_steps rfl rfl]
  show Tk r h _ (endF false h (evSs (cfF P (n + 4)) b__law_steps _ h))
  unfold b__law_steps
  obtain ⟨p, h1, e1, b1, w, rfl, w0, w1⟩ := e_take (P := P) (n := n + 3) (m := most + 1) hb (by omega)
  have key := forF_inv (g := fun x ρ1 h2 => match bindT (.n 3) (.d x) ρ1 with
    | some ρ2 => evSs (cfF P (n + 4)) l__law_steps_1 ρ2 h2
    | none => .bad) (I := fun xs ρ h' => ∃ ps x3 x4 x5 x6, ρ = [some (.ref r), some (.d (.int most)), some (.d (.tuple ps)), x3, x4, x5, x6] ∧ Bx r h h' ∧ (ps.length : Int) + xs.length ≤ most ∧ ∀ p ∈ ps, AnyV p) (fun x xs ρ h2 hi => ?_) (xs := rngF 0 w.toNat) (ρ := [some (.ref r), some (.d (.int most)), some (.d (.tuple [])), none, none, none, none]) (h := h1) ⟨[], none, none, none, none, rfl, b1.bx, by simp [rng_len]; omega, fun p hp => nomatch hp⟩
  · obtain ⟨ρ', h2, e2, ps, x3, x4, x5, x6, rfl, b2, l2, q2⟩ := key
    obtain ⟨h3, b3, e3⟩ := end_bx (m := false) (p := .tuple ps) b2
    refine ⟨.tuple ps, h3, ?_, b3, ps, rfl, by simpa using l2, q2⟩
    have c2 : w.toNat ≤ big := bg (by omega)
    simp [evSs, evS, evE, evEs, evO, evT, evI, itemsF, Res.bd, Res.to, Res.nox, asB, asI, okB, okD, isiF, MP.b2, Cm.ev, end_d, end_n, end_x, dats, dat, datT, pures, on1, on2, on2T, bindT, bindTs, Bi.ev, isCF, ixF, slF, bg1, bg2, bg3, bg4, bg5, bg6, bg7, bg8, O2.ev, e1, small_of w0 (by omega), c2] at e2 ⊢
    rw [e2]
    simp [e3]
  · obtain ⟨ps, x3, x4, x5, x6, rfl, b2, l2, q2⟩ := hi
    show ∃ ρ' h', (evSs (cfF P (n + 4)) l__law_steps_1 [some (.ref r), some (.d (.int most)), some (.d (.tuple ps)), some (.d x), x4, x5, x6] h2 = _ ∨ evSs (cfF P (n + 4)) l__law_steps_1 [some (.ref r), some (.d (.int most)), some (.d (.tuple ps)), some (.d x), x4, x5, x6] h2 = _) ∧ _
    unfold l__law_steps_1
    have hb2 := b2.bag hb
    have le : ps.length + 1 ≤ big := bg (by simp at l2; omega)
    obtain ⟨p, h3, e3, b3, u, rfl, u0, u1⟩ := e_take (P := P) (n := n + 3) (m := 4) hb2 (by omega)
    by_cases hu : u = 0
    · subst hu
      have hb3 := b3.bag hb2
      obtain ⟨ys, h4, e4, b4, ly, qy⟩ := e_branch (P := P) (n := n) (q := h3.length) (ps := []) (a := some (.d (.int most))) (b := some (.d (.tuple ps))) (c := some (.d x)) (d := some (.d (.int 0))) (e := x6) hb3 rfl (by simp)
      have hb4 := b4.bag hb3
      obtain ⟨zs, h5, e5, b5, lz, qz⟩ := e_branch (P := P) (n := n) (q := h3.length) (ps := [.tuple ys]) (a := some (.d (.int most))) (b := some (.d (.tuple ps))) (c := some (.d x)) (d := some (.d (.int 1))) (e := x6) hb4 b4.len.symm (by simp)
      have hb5 := b5.bag hb4
      obtain ⟨p, h6', e6, b6, v, rfl, v0, v1⟩ := e_take (P := P) (n := n + 3) (m := 6) (hb5.app (e := [.lst [.tuple ys, .tuple zs]])) (by omega)
      obtain ⟨h6, rfl, b6'⟩ := b6.app hb5.lt
      have b7 := (b4.trans b5).trans b6'
      have g : (h6 ++ [Cell.lst [.tuple ys, .tuple zs]])[h3.length]? = some (.lst [.tuple ys, .tuple zs]) := by rw [← b7.len]; simp
      refine ⟨[some (.ref r), some (.d (.int most)), some (.d (.tuple (ps ++ [.tuple [.str "if", .int (1 + v), .tuple ys, .tuple zs]]))), some (.d x), some (.ref h3.length), some (.d (.int 1)), x6], h6 ++ [.lst [.tuple ys, .tuple zs]], .inl ?_, _, _, _, _, _, rfl, ?_, ?_, ?_⟩
      · have r2 : rngF 0 (Int.toNat 2) = [.int 0, .int 1] := rfl
        have c2 : small 2 = true := rfl
        have c3 : (2 : Nat) ≤ big := by decide
        simp [evSs, evS, evE, evEs, evO, evT, evI, itemsF, Res.bd, Res.to, Res.nox, asB, asI, okB, okD, isiF, MP.b2, Cm.ev, end_d, end_n, end_x, dats, dat, datT, pures, on1, on2, on2T, bindT, bindTs, Bi.ev, isCF, ixF, slF, bg1, bg2, bg3, bg4, bg5, bg6, bg7, bg8, O2.ev, e3, c2, c3, forF] at e4 e5 e6 ⊢
        have r2 : rngF 0 2 = [.int 0, .int 1] := rfl
        rw [r2]
        simp [forF, e4, e5, evSs, evS, evE, evEs, evO, evT, evI, itemsF, Res.bd, Res.to, Res.nox, asB, asI, okB, okD, isiF, MP.b2, Cm.ev, end_d, end_n, end_x, dats, dat, datT, pures, on1, on2, on2T, bindT, bindTs, Bi.ev, isCF, ixF, slF, bg1, bg2, bg3, bg4, bg5, bg6, bg7, bg8, O2.ev, e6, g, at0, at1, le, SeqAt.shaped, PyData.canLay0, PyData.depth, PyData.eqv]
      · exact Bx.more (b2.trans hb ((b3.trans b7).bx))
      · simp at l2 ⊢
        omega
      · intro y hy
        rcases List.mem_append.mp hy with hy | hy
        · exact q2 y hy
        · simp at hy
          subst hy
          exact .ifs (1 + v) ys zs (by omega) (by omega) (by omega) qy qz
    · obtain ⟨p, h4, e4, b4, q4⟩ := e_lstep (P := P) (n := n + 1) (b3.bag hb2)
      refine ⟨[some (.ref r), some (.d (.int most)), some (.d (.tuple (ps ++ [p]))), some (.d x), x4, x5, x6], h4, .inl ?_, _, _, _, _, _, rfl, b2.trans hb (b3.trans b4).bx, ?_, ?_⟩
      · simp [evSs, evS, evE, evEs, evO, evT, evI, itemsF, Res.bd, Res.to, Res.nox, asB, asI, okB, okD, isiF, MP.b2, Cm.ev, end_d, end_n, end_x, dats, dat, datT, pures, on1, on2, on2T, bindT, bindTs, Bi.ev, isCF, ixF, slF, bg1, bg2, bg3, bg4, bg5, bg6, bg7, bg8, O2.ev, e3, e4, hu, le, SeqAt.shaped, PyData.canLay0, PyData.depth, PyData.eqv]
      · simp at l2 ⊢
        omega
      · intro y hy
        rcases List.mem_append.mp hy with hy | hy
        · exact q2 y hy
        · simp at hy
          subst hy
          exact .step _ q4
end
end MC
end
section
set_option Elab.async false
set_option linter.all false
set_option maxRecDepth 100000
set_option maxHeartbeats 1000000
/-! the bag itself -/
namespace MC
open PySem L2 MP
def PR : List PyData := [.int 2147483647, .int 2147483629, .int 2147483587, .int 2147483579, .int 2147483563, .int 2147483549, .int 2147483543, .int 2147483497]
theorem pr_at {i : Int} (h0 : 0 ≤ i) (h1 : i < 8) : ∃ q, atI PR i = some (.int q) ∧ 0 < q ∧ q < 2147483648 := by
  obtain ⟨p, hp, e⟩ := atI_mem (ps := PR) h0 h1
  simp only [PR, List.mem_cons, List.not_mem_nil, or_false] at hp
  rcases hp with rfl | rfl | rfl | rfl | rfl | rfl | rfl | rfl <;> exact ⟨_, e, by decide⟩
section
variable {P : Pc} [BBag P]
theorem e_cell {n : Nat} {l : List Int} {k : Int} {h : Hh} (h0 : 0 ≤ k) (h1 : k ≤ 1000) : ∃ i : Int, callF P (n + 1) 11 [.scr l, .d (.int k)] h = .ok (.d (.int i)) h := by
  rw [call_eq f__law_cell [some (.scr l), some (.d (.int k))] BBag.a__law_cell rfl rfl]
  show ∃ i, endF false h (evSs (cfF P n) b__law_cell _ h) = _
  unfold b__law_cell
  by_cases c1 : k < l.length
  · obtain ⟨p, hp, e⟩ := atI_mem (ps := l.map PyData.int) h0 (by simpa using c1)
    obtain ⟨i, _, rfl⟩ := List.mem_map.mp hp
    exact ⟨i, by simp [evSs, evS, evE, evEs, evO, evT, evI, itemsF, Res.bd, Res.to, Res.nox, asB, asI, okB, okD, isiF, MP.b2, Cm.ev, end_d, end_n, end_x, dats, dat, datT, pures, on1, on2, on2T, bindT, bindTs, Bi.ev, isCF, ixF, slF, bg1, bg2, bg3, bg4, bg5, bg6, bg7, bg8, c1, e]⟩
  · cases l with
    | nil =>
      have w1 : wideMul 7919 k = true := wm (by decide) (by omega)
      exact ⟨7919 * k + 101, by simp [evSs, evS, evE, evEs, evO, evT, evI, itemsF, Res.bd, Res.to, Res.nox, asB, asI, okB, okD, isiF, MP.b2, Cm.ev, end_d, end_n, end_x, dats, dat, datT, pures, on1, on2, on2T, bindT, bindTs, Bi.ev, isCF, ixF, slF, bg1, bg2, bg3, bg4, bg5, bg6, bg7, bg8, O2.ev, w1, SeqAt.shaped, PyData.canLay0, PyData.depth, PyData.eqv, show ¬ (k < 0) by omega]⟩
    | cons x xs =>
      have w1 : wideMul 7919 k = true := wm (by decide) (by omega)
      have c2 : 0 < ((xs.length : Int) + 1) := by omega
      obtain ⟨p, hp, e⟩ := atI_mem (ps := (x :: xs).map PyData.int) (i := k % ((xs.length : Int) + 1)) (Int.emod_nonneg _ (by omega)) (by simpa using Int.emod_lt_of_pos _ c2)
      obtain ⟨i, _, rfl⟩ := List.mem_map.mp hp
      have c1 : ¬ (k < (xs.length : Int) + 1) := by simpa using c1
      have c3 : ¬ ((xs.length : Int) + 1 = 0) := by omega
      exact ⟨i % 1000003 + 7919 * k, by simp [evSs, evS, evE, evEs, evO, evT, evI, itemsF, Res.bd, Res.to, Res.nox, asB, asI, okB, okD, isiF, MP.b2, Cm.ev, end_d, end_n, end_x, dats, dat, datT, pures, on1, on2, on2T, bindT, bindTs, Bi.ev, isCF, ixF, slF, bg1, bg2, bg3, bg4, bg5, bg6, bg7, bg8, O2.ev, w1, SeqAt.shaped, PyData.canLay0, PyData.depth, PyData.eqv, c1, c2, c3] at e ⊢; simp [e, O2.ev, end_d]⟩
theorem e_draws {n : Nat} {l : List Int} {k many base : Int} {h : Hh} (h0 : 0 ≤ k) (h1 : k ≤ 1000) (m0 : 0 ≤ many) (m1 : many ≤ 10000) (b0 : 0 < base) (b1 : base ≤ 1000000) :
    ∃ ns : List Int, callF P (n + 2) 12 [.scr l, .d (.int k), .d (.int many), .d (.int base)] h = .ok (.ref h.length) (h ++ [.lst (ns.map PyData.int)]) ∧ ∀ i ∈ ns, 0 ≤ i ∧ i < base := by
  rw [call_eq f__law_draws [some (.scr l), some (.d (.int k)), some (.d (.int many)), some (.d (.int base)), none, none, none, none, none, none] BBag.a__law_draws rfl rfl]
  show ∃ ns, endF true h (evSs (cfF P (n + 1)) b__law_draws _ h) = _ ∧ _
  unfold b__law_draws
  obtain ⟨cell, ec⟩ := e_cell (P := P) (n := n) (l := l) (h := h) h0 h1
  have wb : wideDiv base = true := wd b0 (by omega)
  have key : ∀ rest : Int, ∃ ρ' h', forF (fun x ρ1 h2 => match bindT (.n 8) (.d x) ρ1 with
    | some ρ2 => evSs (cfF P (n + 1)) l__law_draws_0 ρ2 h2
    | none => .bad) (rngF 0 many.toNat) [some (.scr l), some (.d (.int k)), some (.d (.int many)), some (.d (.int base)), some (.d (.tuple PR)), some (.d (.int cell)), some (.d (.int rest)), some (.ref h.length), none, none] (h ++ [.lst []]) = .nx ρ' h' ∧ ∃ (rest : Int) (ns : List Int) (x8 x9 : Option Val), ρ' = [some (.scr l), some (.d (.int k)), some (.d (.int many)), some (.d (.int base)), some (.d (.tuple PR)), some (.d (.int cell)), some (.d (.int rest)), some (.ref h.length), x8, x9] ∧ h' = h ++ [.lst (ns.map PyData.int)] ∧ ∀ i ∈ ns, 0 ≤ i ∧ i < base := by
    intro rest
    have key := forF_inv (g := fun x ρ1 h2 => match bindT (.n 8) (.d x) ρ1 with
      | some ρ2 => evSs (cfF P (n + 1)) l__law_draws_0 ρ2 h2
      | none => .bad) (I := fun xs ρ h' => ∃ (rest : Int) (ns : List Int) (x8 x9 : Option Val), ρ = [some (.scr l), some (.d (.int k)), some (.d (.int many)), some (.d (.int base)), some (.d (.tuple PR)), some (.d (.int cell)), some (.d (.int rest)), some (.ref h.length), x8, x9] ∧ h' = h ++ [.lst (ns.map PyData.int)] ∧ (∀ x ∈ xs, ∃ j : Int, x = .int j ∧ 0 ≤ j ∧ j < many) ∧ ns.length + xs.length ≤ 10000 ∧ ∀ i ∈ ns, 0 ≤ i ∧ i < base) (fun x xs ρ h2 hi => ?_) (xs := rngF 0 many.toNat) (ρ := [some (.scr l), some (.d (.int k)), some (.d (.int many)), some (.d (.int base)), some (.d (.tuple PR)), some (.d (.int cell)), some (.d (.int rest)), some (.ref h.length), none, none]) (h := h ++ [.lst []]) ⟨rest, [], none, none, rfl, rfl, fun x hx => by obtain ⟨i, rfl, i0, i1⟩ := rngF_mem hx; exact ⟨i, rfl, i0, by omega⟩, by rw [rng_len]; simp; omega, fun i hi => (nomatch hi)⟩
    · obtain ⟨ρ', h', e, rest, ns, x8, x9, a1, a2, _, _, a3⟩ := key
      exact ⟨ρ', h', e, rest, ns, x8, x9, a1, a2, a3⟩
    · obtain ⟨rest, ns, x8, x9, rfl, rfl, hx, hl, hb⟩ := hi
      obtain ⟨j, rfl, j0, j1⟩ := hx _ List.mem_cons_self
      show ∃ ρ' h', (evSs (cfF P (n + 1)) l__law_draws_0 [some (.scr l), some (.d (.int k)), some (.d (.int many)), some (.d (.int base)), some (.d (.tuple PR)), some (.d (.int cell)), some (.d (.int rest)), some (.ref h.length), some (.d (.int j)), x9] _ = _ ∨ evSs (cfF P (n + 1)) l__law_draws_0 [some (.scr l), some (.d (.int k)), some (.d (.int many)), some (.d (.int base)), some (.d (.tuple PR)), some (.d (.int cell)), some (.d (.int rest)), some (.ref h.length), some (.d (.int j)), x9] _ = _) ∧ _
      unfold l__law_draws_0
      obtain ⟨p1, a1, p1a, p1b⟩ := pr_at (i := j % 8) (by omega) (by omega)
      obtain ⟨p2, a2, p2a, p2b⟩ := pr_at (i := (3 * j + k) % 8) (by omega) (by omega)
      obtain ⟨p3, a3, p3a, p3b⟩ := pr_at (i := (j + 5) % 8) (by omega) (by omega)
      have jj : 2 * j * j ≤ 20000 * 10000 := Int.mul_le_mul (by omega) (by omega) (by omega) (by omega)
      have jj0 : 0 ≤ 2 * j * j := Int.mul_nonneg (by omega) (by omega)
      have c0 : 0 ≤ cell % p1 := Int.emod_nonneg _ (by omega)
      have c1 : cell % p1 < p1 := Int.emod_lt_of_pos _ p1a
      have w1 : wideMul 2 j = true := wm (by decide) (by omega)
      have w2 : wideMul (2 * j) j = true := wm (by omega) (by omega)
      have w3 : wideMul (cell % p1) (48271 + 2 * j * j) = true := wm (by omega) (by omega)
      have w4 : wideMul 7919 (j + 1) = true := wm (by decide) (by omega)
      have w5 : wideMul (7919 * (j + 1)) (j + 1) = true := wm (by omega) (by omega)
      have w6 : wideMul 104729 k = true := wm (by decide) (by omega)
      have w7 : wideMul 3 j = true := wm (by decide) (by omega)
      generalize hm : (cell % p1 * (48271 + 2 * j * j) + 7919 * (j + 1) * (j + 1) + 104729 * k) % p2 = m
      have m0 : 0 ≤ m := by rw [← hm]; exact Int.emod_nonneg _ (by omega)
      have m1 : m < p2 := by rw [← hm]; exact Int.emod_lt_of_pos _ p2a
      have mm : m * m ≤ 2147483648 * 2147483648 := Int.mul_le_mul (by omega) (by omega) (by omega) (by omega)
      have mm0 : 0 ≤ m * m := Int.mul_nonneg (by omega) (by omega)
      have w8 : wideMul m m = true := wm (by omega) (by omega)
      have w9 : wideMul (m * m) m = true := wm (by omega) (by omega)
      have le : ns.length ≤ big := bg (by simp at hl; omega)
      have hx' : ∀ x ∈ xs, ∃ j : Int, x = .int j ∧ 0 ≤ j ∧ j < many := fun x h => hx x (List.mem_cons_of_mem _ h)
      have hl' : ∀ i : Int, (ns ++ [i]).length + xs.length ≤ 10000 := fun i => by simp at hl ⊢; omega
      have hb' : ∀ z : Int, ∀ i ∈ ns ++ [z % base], 0 ≤ i ∧ i < base := fun z i hi => by
        rcases List.mem_append.mp hi with hi | hi
        · exact hb i hi
        · simp at hi
          rw [hi]
          exact ⟨Int.emod_nonneg _ (by omega), Int.emod_lt_of_pos _ b0⟩
      by_cases hr : 0 < rest
      · refine ⟨_, _, .inl ?_, rest / base, ns ++ [rest % base], some (.d (.int j)), some (.d (.int rest)), rfl, rfl, hx', hl' _, hb' _⟩
        simp [evSs, evS, evE, evEs, evO, evT, evI, itemsF, Res.bd, Res.to, Res.nox, asB, asI, okB, okD, isiF, MP.b2, Cm.ev, end_d, end_n, end_x, dats, dat, datT, pures, on1, on2, on2T, bindT, bindTs, Bi.ev, isCF, ixF, slF, bg1, bg2, bg3, bg4, bg5, bg6, bg7, bg8, O2.ev, a1, a2, a3, p1a, p2a, p3a, w1, w2, w3, w4, w5, w6, w7, hm, w8, w9, hr, b0, wb, le]
      · refine ⟨_, _, .inl ?_, rest / base, ns ++ [m * m * m % p3 % base], some (.d (.int j)), some (.d (.int (m * m * m % p3))), rfl, rfl, hx', hl' _, hb' _⟩
        simp [evSs, evS, evE, evEs, evO, evT, evI, itemsF, Res.bd, Res.to, Res.nox, asB, asI, okB, okD, isiF, MP.b2, Cm.ev, end_d, end_n, end_x, dats, dat, datT, pures, on1, on2, on2T, bindT, bindTs, Bi.ev, isCF, ixF, slF, bg1, bg2, bg3, bg4, bg5, bg6, bg7, bg8, O2.ev, a1, a2, a3, p1a, p2a, p3a, w1, w2, w3, w4, w5, w6, w7, hm, w8, w9, hr, b0, wb, le]
  have fin1 : ∀ (ns : List Int), endF true h (.rt (.ref h.length) (h ++ [.lst (ns.map PyData.int)])) = .ok (.ref h.length) (h ++ [.lst (ns.map PyData.int)]) := by
    intro ns
    simp [endF, fin]
  have c2 : many.toNat ≤ big := bg (by omega)
  have pr : PR = PR := rfl
  conv at pr => rhs; unfold PR
  by_cases hc : 1000000000000000000 ≤ cell
  · obtain ⟨ρ', h', e, rest, ns, x8, x9, rfl, rfl, hq⟩ := key cell
    refine ⟨ns, ?_, hq⟩
    rw [pr] at e
    simp [evSs, evS, evE, evEs, evO, evT, evI, itemsF, Res.bd, Res.to, Res.nox, asB, asI, okB, okD, isiF, MP.b2, Cm.ev, end_d, end_n, end_x, dats, dat, datT, pures, on1, on2, on2T, bindT, bindTs, Bi.ev, isCF, ixF, slF, bg1, bg2, bg3, bg4, bg5, bg6, bg7, bg8, O2.ev, ec, hc, small_of m0 (by omega), c2] at e ⊢
    rw [e]
    simp [evSs, evS, evE, evEs, evO, evT, evI, itemsF, Res.bd, Res.to, Res.nox, asB, asI, okB, okD, isiF, MP.b2, Cm.ev, end_d, end_n, end_x, dats, dat, datT, pures, on1, on2, on2T, bindT, bindTs, Bi.ev, isCF, ixF, slF, bg1, bg2, bg3, bg4, bg5, bg6, bg7, bg8, fin1]
  · obtain ⟨ρ', h', e, rest, ns, x8, x9, rfl, rfl, hq⟩ := key 0
    refine ⟨ns, ?_, hq⟩
    rw [pr] at e
    simp [evSs, evS, evE, evEs, evO, evT, evI, itemsF, Res.bd, Res.to, Res.nox, asB, asI, okB, okD, isiF, MP.b2, Cm.ev, end_d, end_n, end_x, dats, dat, datT, pures, on1, on2, on2T, bindT, bindTs, Bi.ev, isCF, ixF, slF, bg1, bg2, bg3, bg4, bg5, bg6, bg7, bg8, O2.ev, ec, hc, small_of m0 (by omega), c2] at e ⊢
    rw [e]
    simp [evSs, evS, evE, evEs, evO, evT, evI, itemsF, Res.bd, Res.to, Res.nox, asB, asI, okB, okD, isiF, MP.b2, Cm.ev, end_d, end_n, end_x, dats, dat, datT, pures, on1, on2, on2T, bindT, bindTs, Bi.ev, isCF, ixF, slF, bg1, bg2, bg3, bg4, bg5, bg6, bg7, bg8, fin1]
theorem e_bagB {n : Nat} {l : List Int} {k : Int} {h : Hh} (h0 : 0 ≤ k) (h1 : k ≤ 1000) : ∃ ns : List Int, callF P (n + 3) 13 [.scr l, .d (.int k)] h = .ok (.ref h.length) (h ++ [.lst (ns.map PyData.int)]) ∧ ∀ i ∈ ns, 0 ≤ i ∧ i < 27720 := by
  rw [call_eq f__law_bag [some (.scr l), some (.d (.int k))] BBag.a__law_bag rfl rfl]
  show ∃ ns, endF true h (evSs (cfF P (n + 2)) b__law_bag _ h) = _ ∧ _
  unfold b__law_bag
  obtain ⟨ns, e, hq⟩ := e_draws (P := P) (n := n) (l := l) (h := h) h0 h1 (many := 150) (base := 27720) (by omega) (by omega) (by omega) (by omega)
  refine ⟨ns, ?_, hq⟩
  simp [evSs, evS, evE, evEs, evO, evT, evI, itemsF, Res.bd, Res.to, Res.nox, asB, asI, okB, okD, isiF, MP.b2, Cm.ev, end_d, end_n, end_x, dats, dat, datT, pures, on1, on2, on2T, bindT, bindTs, Bi.ev, isCF, ixF, slF, bg1, bg2, bg3, bg4, bg5, bg6, bg7, bg8, e, endF, fin]
theorem e_bag {n : Nat} {l : List Int} {k : Int} {h : Hh} (h0 : 0 ≤ k) (h1 : k ≤ 1000) : ∃ ns : List Int, callF P (n + 3) 13 [.scr l, .d (.int k)] h = .ok (.ref h.length) (h ++ [.lst (ns.map PyData.int)]) := by
  obtain ⟨ns, e, _⟩ := e_bagB (P := P) (n := n) (l := l) (h := h) h0 h1
  exact ⟨ns, e⟩
theorem bagAt_new {h : Hh} {ns : List Int} : BagAt (h ++ [.lst (ns.map PyData.int)]) h.length := ⟨ns, by simp⟩
end
end MC
end
section
set_option Elab.async false
set_option linter.all false
set_option maxRecDepth 100000
set_option maxHeartbeats 1000000
/-! divisors, shares, balls -/
namespace MC
open PySem L2 MP
/-! ### divisors -/
theorem gcd_next {a b : Int} (ha : 0 ≤ a) (hb : 0 ≤ b) : Int.gcd b (a % b) = Int.gcd a b := by
  obtain ⟨m, rfl⟩ : ∃ m : Nat, a = m := ⟨a.toNat, by omega⟩
  obtain ⟨k, rfl⟩ : ∃ k : Nat, b = k := ⟨b.toNat, by omega⟩
  rw [← Int.natCast_emod, Int.gcd_natCast_natCast, Int.gcd_natCast_natCast, Nat.gcd_comm k, ← Nat.gcd_rec, Nat.gcd_comm]
theorem half {a b : Int} (hb : 0 < b) (hr : 0 < a % b) : 2 * (b % (a % b)) < b := by
  have h1 := Int.emod_lt_of_pos a hb
  have h2 := Int.emod_lt_of_pos b hr
  have h3 := Int.emod_nonneg b (show a % b ≠ 0 by omega)
  have h4 := Int.mul_ediv_add_emod b (a % b)
  have h5 : 1 ≤ b / (a % b) := by
    by_cases h : 1 ≤ b / (a % b)
    · exact h
    · have := Int.ediv_nonneg (a := b) (b := a % b) (by omega) (by omega)
      have e : b / (a % b) = 0 := by omega
      rw [e] at h4
      omega
  have h6 : a % b * 1 ≤ a % b * (b / (a % b)) := Int.mul_le_mul_of_nonneg_left h5 (by omega)
  omega
theorem divs {c : Cf} {h : Hh} : ∀ (k : Nat) {a b : Int} {f : Nat}, 0 ≤ a → 0 ≤ b → b < 2 ^ k → 2 * k + 1 ≤ f → whlF (evE c (.cmp .ne (.var 1) (.int 0))) (evSs c l_divisor_of_0) f [some (.d (.int a)), some (.d (.int b))] h = .nx [some (.d (.int (Int.gcd a b))), some (.d (.int 0))] h
  | k, a, b, 0, _, _, _, hf => by omega
  | k, a, b, f + 1, ha, hb, hk, hf => by
    have s0 : SeqAt.shaped (.int 0) = true := rfl
    have s1 : ∀ i, SeqAt.shaped (.int i) = true := fun i => rfl
    by_cases h0 : b = 0
    · subst h0
      have : (a.natAbs : Int) = a := by omega
      simp [whlF, evSs, evS, evE, evEs, evO, evT, evI, itemsF, Res.bd, Res.to, Res.nox, asB, asI, okB, okD, isiF, MP.b2, Cm.ev, end_d, end_n, end_x, dats, dat, datT, pures, on1, on2, on2T, bindT, bindTs, Bi.ev, isCF, ixF, slF, bg1, bg2, bg3, bg4, bg5, bg6, bg7, bg8, s1, PyData.eqv, Int.gcd_zero_right, this]
    · have hp : 0 < b := by omega
      obtain ⟨k, rfl⟩ : ∃ j, k = j + 1 := ⟨k - 1, by
        cases k with
        | zero => simp at hk; omega
        | succ => omega⟩
      have m0 := Int.emod_nonneg a h0
      have m1 := Int.emod_lt_of_pos a hp
      have st : whlF (evE c (.cmp .ne (.var 1) (.int 0))) (evSs c l_divisor_of_0) (f + 1) [some (.d (.int a)), some (.d (.int b))] h = whlF (evE c (.cmp .ne (.var 1) (.int 0))) (evSs c l_divisor_of_0) f [some (.d (.int b)), some (.d (.int (a % b)))] h := by
        simp only [whlF]
        simp [evSs, evS, evE, evEs, evO, evT, evI, itemsF, Res.bd, Res.to, Res.nox, asB, asI, okB, okD, isiF, MP.b2, Cm.ev, end_d, end_n, end_x, dats, dat, datT, pures, on1, on2, on2T, bindT, bindTs, Bi.ev, isCF, ixF, slF, bg1, bg2, bg3, bg4, bg5, bg6, bg7, bg8, s1, PyData.eqv, h0, l_divisor_of_0, O2.ev, hp]
      rw [st, ← gcd_next ha hb]
      obtain ⟨f, rfl⟩ : ∃ j, f = j + 1 := ⟨f - 1, by omega⟩
      by_cases h1 : a % b = 0
      · rw [h1]
        have : (b.natAbs : Int) = b := by omega
        simp [whlF, evSs, evS, evE, evEs, evO, evT, evI, itemsF, Res.bd, Res.to, Res.nox, asB, asI, okB, okD, isiF, MP.b2, Cm.ev, end_d, end_n, end_x, dats, dat, datT, pures, on1, on2, on2T, bindT, bindTs, Bi.ev, isCF, ixF, slF, bg1, bg2, bg3, bg4, bg5, bg6, bg7, bg8, s1, PyData.eqv, Int.gcd_zero_right, this]
      · have hp1 : 0 < a % b := by omega
        have n0 := Int.emod_nonneg b h1
        have n1 := half hp hp1
        have st : whlF (evE c (.cmp .ne (.var 1) (.int 0))) (evSs c l_divisor_of_0) (f + 1) [some (.d (.int b)), some (.d (.int (a % b)))] h = whlF (evE c (.cmp .ne (.var 1) (.int 0))) (evSs c l_divisor_of_0) f [some (.d (.int (a % b))), some (.d (.int (b % (a % b))))] h := by
          simp only [whlF]
          simp [evSs, evS, evE, evEs, evO, evT, evI, itemsF, Res.bd, Res.to, Res.nox, asB, asI, okB, okD, isiF, MP.b2, Cm.ev, end_d, end_n, end_x, dats, dat, datT, pures, on1, on2, on2T, bindT, bindTs, Bi.ev, isCF, ixF, slF, bg1, bg2, bg3, bg4, bg5, bg6, bg7, bg8, s1, PyData.eqv, h1, l_divisor_of_0, O2.ev, hp1]
        rw [st, ← gcd_next hb m0]
        have hk : b < 2 * 2 ^ k := by rw [Int.pow_succ] at hk; omega
        exact divs k m0 n0 (by omega) (by omega)
section
variable {P : Pc} [BShare P] [BWhole P] [BDiv P]
omit [BShare P] [BWhole P] in
theorem e_div {n : Nat} {a b : Int} {h : Hh} (ha : 0 ≤ a) (hb : 0 ≤ b) (hk : b < 2 ^ 400000) : callF P (n + 1) 0 [.d (.int a), .d (.int b)] h = .ok (.d (.int (Int.gcd a b))) h := by
  rw [call_eq f_divisor_of [some (.d (.int a)), some (.d (.int b))] BDiv.a_divisor_of rfl rfl]
  show endF false h (evSs (cfF P n) b_divisor_of _ h) = _
  unfold b_divisor_of
  have := divs (c := cfF P n) (h := h) 400000 ha hb hk (f := turns) (by decide)
  simp only [evSs, evS]
  rw [this]
  simp [evSs, evS, evE, evEs, evO, evT, evI, itemsF, Res.bd, Res.to, Res.nox, asB, asI, okB, okD, isiF, MP.b2, Cm.ev, end_d, end_n, end_x, dats, dat, datT, pures, on1, on2, on2T, bindT, bindTs, Bi.ev, isCF, ixF, slF, bg1, bg2, bg3, bg4, bg5, bg6, bg7, bg8]
def shareB : PyData → Bool
  | .tuple [.int a, .int b] => decide (0 ≤ a ∧ a ≤ 1000000) && (decide (1 ≤ b ∧ b ≤ 1000000) && (decide (a ≤ b) && decide (Int.gcd a b = 1)))
  | _ => false
theorem glo0 {n : Nat} : (cfF P n).glo 0 = some (.int 1000000) := by
  rw [cfF_glo]
  show (P.glo 0).map _ = _
  rw [BShare.a_GREATEST]
  rfl
theorem lt_pow {b : Int} (h : b ≤ 1000000) : b < 2 ^ 400000 := by
  have : (1000001 : Int) ≤ 2 ^ 400000 := by decide +kernel
  omega
theorem e_share {n : Nat} {p : PyData} {h : Hh} (hp : noDict p = true) (hq : ∀ ps, p = .tuple ps → ∀ q ∈ ps, noDict q = true) : callF P (n + 2) 4 [.d p] h = .ok (.d (.bool (shareB p))) h := by
  rw [call_eq f_is_share [some (.d p)] BShare.a_is_share rfl rfl]
  show endF false h (evSs (cfF P (n + 1)) b_is_share _ h) = _
  unfold b_is_share
  have r : (cfF P (n + 1)).call 2 [.d p, .d (.int 2), .d (.int 2)] h = .ok (.d (.bool (rowB p 2 2))) h := e_row hp
  have wh : ∀ {q : PyData} {lo hi : Int}, noDict q = true → (cfF P (n + 1)).call 1 [.d q, .d (.int lo), .d (.int hi)] h = .ok (.d (.bool (wholeB q lo hi))) h := fun hq => e_whole hq
  have g0 := glo0 (P := P) (n := n + 1)
  cases p with
  | tuple ps =>
    rw [rowB_t] at r
    match ps, hq, r with
    | [], _, r => simp [evSs, evS, evE, evEs, evO, evT, evI, itemsF, Res.bd, Res.to, Res.nox, asB, asI, okB, okD, isiF, MP.b2, Cm.ev, end_d, end_n, end_x, dats, dat, datT, pures, on1, on2, on2T, bindT, bindTs, Bi.ev, isCF, ixF, slF, bg1, bg2, bg3, bg4, bg5, bg6, bg7, bg8, shareB, r]
    | [a], _, r => simp [evSs, evS, evE, evEs, evO, evT, evI, itemsF, Res.bd, Res.to, Res.nox, asB, asI, okB, okD, isiF, MP.b2, Cm.ev, end_d, end_n, end_x, dats, dat, datT, pures, on1, on2, on2T, bindT, bindTs, Bi.ev, isCF, ixF, slF, bg1, bg2, bg3, bg4, bg5, bg6, bg7, bg8, shareB, r]
    | a :: b :: c :: ps, _, r => simp [evSs, evS, evE, evEs, evO, evT, evI, itemsF, Res.bd, Res.to, Res.nox, asB, asI, okB, okD, isiF, MP.b2, Cm.ev, end_d, end_n, end_x, dats, dat, datT, pures, on1, on2, on2T, bindT, bindTs, Bi.ev, isCF, ixF, slF, bg1, bg2, bg3, bg4, bg5, bg6, bg7, bg8, shareB, r]
    | [a, b], hq, r =>
      have na := hq _ rfl a (by simp)
      have nb := hq _ rfl b (by simp)
      cases w1 : wholeB a 0 1000000 with
      | false =>
        have e : shareB (.tuple [a, b]) = false := by
          cases a <;> cases b <;> simp [shareB, wholeB] at w1 ⊢
          intro z1 z2
          omega
        simp [evSs, evS, evE, evEs, evO, evT, evI, itemsF, Res.bd, Res.to, Res.nox, asB, asI, okB, okD, isiF, MP.b2, Cm.ev, end_d, end_n, end_x, dats, dat, datT, pures, on1, on2, on2T, bindT, bindTs, Bi.ev, isCF, ixF, slF, bg1, bg2, bg3, bg4, bg5, bg6, bg7, bg8, e, r, at0, at1, g0, wh na, w1]
      | true =>
        cases w2 : wholeB b 1 1000000 with
        | false =>
          have e : shareB (.tuple [a, b]) = false := by
            cases a <;> cases b <;> simp [shareB, wholeB] at w2 ⊢
            intro z1 z2 z3 z4
            omega
          simp [evSs, evS, evE, evEs, evO, evT, evI, itemsF, Res.bd, Res.to, Res.nox, asB, asI, okB, okD, isiF, MP.b2, Cm.ev, end_d, end_n, end_x, dats, dat, datT, pures, on1, on2, on2T, bindT, bindTs, Bi.ev, isCF, ixF, slF, bg1, bg2, bg3, bg4, bg5, bg6, bg7, bg8, e, r, at0, at1, g0, wh na, w1, wh nb, w2]
        | true =>
          cases a <;> simp [wholeB] at w1
          cases b <;> simp [wholeB] at w2
          rename_i a b
          have dv : (cfF P (n + 1)).call 0 [.d (.int a), .d (.int b)] h = .ok (.d (.int (Int.gcd a b))) h := e_div (by omega) (by omega) (lt_pow (by omega))
          have s1 : ∀ i, SeqAt.shaped (.int i) = true := fun i => rfl
          have e : shareB (.tuple [.int a, .int b]) = (decide (a ≤ b) && decide (Int.gcd a b = 1)) := by
            simp [shareB, w1, w2]
          have wt1 : wholeB (.int a) 0 1000000 = true := by simp [wholeB, w1]
          have wt2 : wholeB (.int b) 1 1000000 = true := by simp [wholeB, w2]
          have ee : ((Int.gcd a b : Int) = 1) = (Int.gcd a b = 1) := by
            apply propext
            omega
          by_cases c : a ≤ b
          · simp [evSs, evS, evE, evEs, evO, evT, evI, itemsF, Res.bd, Res.to, Res.nox, asB, asI, okB, okD, isiF, MP.b2, Cm.ev, end_d, end_n, end_x, dats, dat, datT, pures, on1, on2, on2T, bindT, bindTs, Bi.ev, isCF, ixF, slF, bg1, bg2, bg3, bg4, bg5, bg6, bg7, bg8, e, r, at0, at1, g0, wh na, wt1, wh nb, wt2, dv, s1, PyData.eqv, c]
            rw [Bool.beq_eq_decide_eq]
            simp [ee]
          · simp [evSs, evS, evE, evEs, evO, evT, evI, itemsF, Res.bd, Res.to, Res.nox, asB, asI, okB, okD, isiF, MP.b2, Cm.ev, end_d, end_n, end_x, dats, dat, datT, pures, on1, on2, on2T, bindT, bindTs, Bi.ev, isCF, ixF, slF, bg1, bg2, bg3, bg4, bg5, bg6, bg7, bg8, e, r, at0, at1, g0, wh na, wt1, wh nb, wt2, dv, s1, PyData.eqv, c]
  | dict => cases hp
  | _ => simp [evSs, evS, evE, evEs, evO, evT, evI, itemsF, Res.bd, Res.to, Res.nox, asB, asI, okB, okD, isiF, MP.b2, Cm.ev, end_d, end_n, end_x, dats, dat, datT, pures, on1, on2, on2T, bindT, bindTs, Bi.ev, isCF, ixF, slF, bg1, bg2, bg3, bg4, bg5, bg6, bg7, bg8, rowB, r, shareB]
end
section
variable {P : Pc} [BScript P] [BWhole P]
theorem glo1 {n : Nat} : (cfF P n).glo 1 = some (.tuple [.str "left", .str "right"]) := by
  rw [cfF_glo]
  show (P.glo 1).map _ = _
  rw [BScript.a_WAYS]
  rfl
/-- p is a ball of a lane with so many sills -/
def ballB (len : Nat) : PyData → Bool
  | .tuple [c, .str w, t] => wholeB c 0 len && ((w == "left" || w == "right") && wholeB t 1 99)
  | _ => false
theorem e_fits {n : Nat} {ls : List PyData} {p : PyData} {h : Hh} (hp : noDict p = true) (hq : ∀ ps, p = .tuple ps → ∀ q ∈ ps, noDict q = true) : callF P (n + 2) 5 [.d (.tuple ls), .d p] h = .ok (.d (.bool (ballB ls.length p))) h := by
  rw [call_eq f_fits_ball [some (.d (.tuple ls)), some (.d p)] BScript.a_fits_ball rfl rfl]
  show endF false h (evSs (cfF P (n + 1)) b_fits_ball _ h) = _
  unfold b_fits_ball
  have r : (cfF P (n + 1)).call 2 [.d p, .d (.int 3), .d (.int 3)] h = .ok (.d (.bool (rowB p 3 3))) h := e_row hp
  have wh : ∀ {q : PyData} {lo hi : Int}, noDict q = true → (cfF P (n + 1)).call 1 [.d q, .d (.int lo), .d (.int hi)] h = .ok (.d (.bool (wholeB q lo hi))) h := fun hq => e_whole hq
  have g1 := glo1 (P := P) (n := n + 1)
  cases p with
  | tuple ps =>
    rw [rowB_t] at r
    match ps, hq, r with
    | [], _, r => simp [evSs, evS, evE, evEs, evO, evT, evI, itemsF, Res.bd, Res.to, Res.nox, asB, asI, okB, okD, isiF, MP.b2, Cm.ev, end_d, end_n, end_x, dats, dat, datT, pures, on1, on2, on2T, bindT, bindTs, Bi.ev, isCF, ixF, slF, bg1, bg2, bg3, bg4, bg5, bg6, bg7, bg8, ballB, r]
    | [a], _, r => simp [evSs, evS, evE, evEs, evO, evT, evI, itemsF, Res.bd, Res.to, Res.nox, asB, asI, okB, okD, isiF, MP.b2, Cm.ev, end_d, end_n, end_x, dats, dat, datT, pures, on1, on2, on2T, bindT, bindTs, Bi.ev, isCF, ixF, slF, bg1, bg2, bg3, bg4, bg5, bg6, bg7, bg8, ballB, r]
    | [a, b], _, r => simp [evSs, evS, evE, evEs, evO, evT, evI, itemsF, Res.bd, Res.to, Res.nox, asB, asI, okB, okD, isiF, MP.b2, Cm.ev, end_d, end_n, end_x, dats, dat, datT, pures, on1, on2, on2T, bindT, bindTs, Bi.ev, isCF, ixF, slF, bg1, bg2, bg3, bg4, bg5, bg6, bg7, bg8, ballB, r]
    | a :: b :: c :: d :: ps, _, r => simp [evSs, evS, evE, evEs, evO, evT, evI, itemsF, Res.bd, Res.to, Res.nox, asB, asI, okB, okD, isiF, MP.b2, Cm.ev, end_d, end_n, end_x, dats, dat, datT, pures, on1, on2, on2T, bindT, bindTs, Bi.ev, isCF, ixF, slF, bg1, bg2, bg3, bg4, bg5, bg6, bg7, bg8, ballB, r]
    | [a, b, c], hq, r =>
      have na := hq _ rfl a (by simp)
      have nb := hq _ rfl b (by simp)
      have nc := hq _ rfl c (by simp)
      cases b with
      | str w =>
        cases w1 : wholeB a 0 ls.length with
        | false => simp [evSs, evS, evE, evEs, evO, evT, evI, itemsF, Res.bd, Res.to, Res.nox, asB, asI, okB, okD, isiF, MP.b2, Cm.ev, end_d, end_n, end_x, dats, dat, datT, pures, on1, on2, on2T, bindT, bindTs, Bi.ev, isCF, ixF, slF, bg1, bg2, bg3, bg4, bg5, bg6, bg7, bg8, ballB, r, at0, wh na, w1]
        | true =>
          by_cases e1 : w = "left"
          · subst e1
            simp [evSs, evS, evE, evEs, evO, evT, evI, itemsF, Res.bd, Res.to, Res.nox, asB, asI, okB, okD, isiF, MP.b2, Cm.ev, end_d, end_n, end_x, dats, dat, datT, pures, on1, on2, on2T, bindT, bindTs, Bi.ev, isCF, ixF, slF, bg1, bg2, bg3, bg4, bg5, bg6, bg7, bg8, ballB, r, at0, at1, at2, wh na, w1, wh nc, g1, innF, flatD, PyData.eqv]
          by_cases e2 : w = "right"
          · subst e2
            simp [evSs, evS, evE, evEs, evO, evT, evI, itemsF, Res.bd, Res.to, Res.nox, asB, asI, okB, okD, isiF, MP.b2, Cm.ev, end_d, end_n, end_x, dats, dat, datT, pures, on1, on2, on2T, bindT, bindTs, Bi.ev, isCF, ixF, slF, bg1, bg2, bg3, bg4, bg5, bg6, bg7, bg8, ballB, r, at0, at1, at2, wh na, w1, wh nc, g1, innF, flatD, PyData.eqv]
          have e1' : ¬ (Str.ofString "left" = w) := fun z => e1 z.symm
          have e2' : ¬ (Str.ofString "right" = w) := fun z => e2 z.symm
          have f1 : (w == Str.ofString "left") = false := by simpa using e1
          have f2 : (w == Str.ofString "right") = false := by simpa using e2
          have f3 : (Str.ofString "left" == w) = false := by simpa using e1'
          have f4 : (Str.ofString "right" == w) = false := by simpa using e2'
          simp [evSs, evS, evE, evEs, evO, evT, evI, itemsF, Res.bd, Res.to, Res.nox, asB, asI, okB, okD, isiF, MP.b2, Cm.ev, end_d, end_n, end_x, dats, dat, datT, pures, on1, on2, on2T, bindT, bindTs, Bi.ev, isCF, ixF, slF, bg1, bg2, bg3, bg4, bg5, bg6, bg7, bg8, ballB, r, at0, at1, at2, wh na, w1, wh nc, g1, innF, flatD, PyData.eqv, f1, f2, f3, f4]
      | dict => cases nb
      | _ => cases w1 : wholeB a 0 ls.length <;> simp [evSs, evS, evE, evEs, evO, evT, evI, itemsF, Res.bd, Res.to, Res.nox, asB, asI, okB, okD, isiF, MP.b2, Cm.ev, end_d, end_n, end_x, dats, dat, datT, pures, on1, on2, on2T, bindT, bindTs, Bi.ev, isCF, ixF, slF, bg1, bg2, bg3, bg4, bg5, bg6, bg7, bg8, ballB, r, at0, at1, wh na, w1]
  | dict => cases hp
  | _ => simp [evSs, evS, evE, evEs, evO, evT, evI, itemsF, Res.bd, Res.to, Res.nox, asB, asI, okB, okD, isiF, MP.b2, Cm.ev, end_d, end_n, end_x, dats, dat, datT, pures, on1, on2, on2T, bindT, bindTs, Bi.ev, isCF, ixF, slF, bg1, bg2, bg3, bg4, bg5, bg6, bg7, bg8, rowB, r, ballB]
theorem e_need_lane {n : Nat} {p : PyData} {h : Hh} (hp : noDict p = true) (hq : ∀ ps, p = .tuple ps → ∀ q ∈ ps, noDict q = true) : callF P (n + 3) 9 [.d p] h = if laneB p then .ok (.d .none) h else .exc 1 h := by
  rw [call_eq f_need_lane [some (.d p)] BWhole.a_need_lane rfl rfl]
  show endF false h (evSs (cfF P (n + 2)) b_need_lane _ h) = _
  unfold b_need_lane
  have r : (cfF P (n + 2)).call 3 [.d p] h = .ok (.d (.bool (laneB p))) h := e_lane hp hq
  cases e : laneB p <;> simp [evSs, evS, evE, evEs, evO, evT, evI, itemsF, Res.bd, Res.to, Res.nox, asB, asI, okB, okD, isiF, MP.b2, Cm.ev, end_d, end_n, end_x, dats, dat, datT, pures, on1, on2, on2T, bindT, bindTs, Bi.ev, isCF, ixF, slF, bg1, bg2, bg3, bg4, bg5, bg6, bg7, bg8, r, e]
end
/-! ### what is drawn is data that can be compared -/
theorem StepV.okd {p : PyData} (h : StepV p) : okd 1 3 p = true := by
  have a1 : PyData.strOk (Str.ofString "bounce") = true := by decide +kernel
  have a2 : PyData.strOk (Str.ofString "until") = true := by decide +kernel
  have a3 : PyData.strOk (Str.ofString "lift") = true := by decide +kernel
  have a4 : PyData.strOk (Str.ofString "turn") = true := by decide +kernel
  cases h <;> simp [MP.okd, a1, a2, a3, a4]
theorem AnyV.okd {p : PyData} (h : AnyV p) : okd 3 4 p = true := by
  cases h with
  | step p h => exact okd_up (by omega) (by omega) h.okd
  | ifs a xs ys ha lx ly hx hy =>
    refine okd_mkT (by simp) fun p hp => ?_
    simp only [List.mem_cons, List.not_mem_nil, or_false] at hp
    rcases hp with rfl | rfl | rfl | rfl
    · decide +kernel
    · rfl
    · exact okd_mkT (by omega) fun q hq => okd_up (by omega) (by omega) (hx q hq).okd
    · exact okd_mkT (by omega) fun q hq => okd_up (by omega) (by omega) (hy q hq).okd
theorem ScrV.okd {most : Int} {p : PyData} (h : ScrV most p) (hm : most ≤ 100) : okd 4 100 p = true := by
  obtain ⟨ps, rfl, l, q⟩ := h
  exact okd_mkT (by omega) fun p hp => okd_up (by omega) (by omega) (q p hp).okd
theorem LaneV.okd {most : Int} {p : PyData} (h : LaneV most p) (hm : most ≤ 100) : okd 4 100 p = true := by
  obtain ⟨ns, rfl, l, q⟩ := h
  refine okd_mkT (by simp; omega) fun p hp => ?_
  obtain ⟨i, _, rfl⟩ := List.mem_map.mp hp
  rfl
theorem BallV.okd {len : Nat} {p : PyData} (h : BallV len p) : MP.okd 4 100 p = true := by
  obtain ⟨c, w, t, rfl, _, hw, _⟩ := h
  refine okd_mkT (by simp) fun p hp => ?_
  simp only [List.mem_cons, List.not_mem_nil, or_false] at hp
  rcases hp with rfl | rfl | rfl
  · rfl
  · rcases hw with rfl | rfl <;> decide +kernel
  · rfl
theorem StepV.stepB {p : PyData} (h : StepV p) : stepB p = true := by
  cases h <;> simp [MC.stepB, wholeB] <;> omega
theorem AnyV.anyB {p : PyData} (h : AnyV p) : anyB p = true := by
  cases h with
  | step p h =>
    have := h.stepB
    cases h <;> exact this
  | ifs a xs ys ha lx ly hx hy =>
    simp [MC.anyB, wholeB, brB, lx, ly, ha]
    exact ⟨fun x h => (hx x h).stepB, fun x h => (hy x h).stepB⟩
theorem ScrV.scriptB {p : PyData} (h : ScrV 4 p) : scriptB p = true := by
  obtain ⟨ps, rfl, l, q⟩ := h
  simp [MC.scriptB]
  exact ⟨by omega, fun x h => (q x h).anyB⟩
theorem LaneV.laneB {p : PyData} (h : LaneV 7 p) : laneB p = true := by
  obtain ⟨ns, rfl, l, q⟩ := h
  simp [MC.laneB, wholeB]
  exact ⟨by omega, fun x h => q x h⟩
theorem BallV.ballB {len : Nat} {p : PyData} (h : BallV len p) : ballB len p = true := by
  obtain ⟨c, w, t, rfl, hc, hw, ht⟩ := h
  simp [MC.ballB, wholeB, hc, ht]
  exact hw
end MC
end
section
set_option Elab.async false
set_option linter.all false
set_option maxRecDepth 100000
set_option maxHeartbeats 1000000
/-! lowest terms, powers, roots -/
namespace MC
open PySem L2 MP
theorem s_int {i : Int} : SeqAt.shaped (.int i) = true := rfl
section
variable {P : Pc}
/-! ### lowest terms -/
/-- top / below in lowest terms -/
def low1 (t b : Int) : Int := t / (Int.gcd t b : Int)
def low2 (t b : Int) : Int := b / (Int.gcd t b : Int)
theorem gcd_pos {t b : Int} (hb : 0 < b) : 0 < (Int.gcd t b : Int) := by
  have := Int.gcd_pos_of_ne_zero_right t (show b ≠ 0 by omega)
  omega
theorem gcd_le {t b : Int} (hb : 0 < b) : (Int.gcd t b : Int) ≤ b := Int.le_of_dvd hb (Int.gcd_dvd_right ..)
/-- small enough for a division -/
def sm (i : Int) : Prop := i < 2 ^ 8000
theorem log_of {i : Int} {k : Nat} (h0 : 0 ≤ i) (h : i < 2 ^ k) : i.natAbs.log2 < k ∨ i = 0 := by
  by_cases hz : i = 0
  · exact .inr hz
  · refine .inl ((Nat.log2_lt (by omega)).mpr ?_)
    have : ((i.natAbs : Nat) : Int) < ((2 ^ k : Nat) : Int) := by
      rw [Int.natCast_pow]
      show _ < (2 : Int) ^ k
      omega
    exact Int.ofNat_lt.mp this
theorem wd_sm {i : Int} (h0 : 0 < i) (h : sm i) : wideDiv i = true := by
  unfold wideDiv
  rw [Bool.and_eq_true]
  refine ⟨decide_eq_true h0, decide_eq_true ?_⟩
  rcases log_of (by omega) h with z | z <;> omega
theorem sm_pow {i : Int} (h : sm i) : i < 2 ^ 400000 := by
  have : (2 : Int) ^ 8000 ≤ 2 ^ 400000 := by decide +kernel
  unfold sm at h
  omega
theorem e_lowest [BDiv P] [BLow P] {n : Nat} {t b : Int} {h : Hh} (ht : 0 ≤ t) (hb : 0 < b) (hs : sm b) : callF P (n + 2) 30 [.d (.int t), .d (.int b)] h = .ok (.d (.tuple [.int (low1 t b), .int (low2 t b)])) h := by
  rw [call_eq f_lowest [some (.d (.int t)), some (.d (.int b)), none] BLow.a_lowest rfl rfl]
  show endF false h (evSs (cfF P (n + 1)) b_lowest _ h) = _
  unfold b_lowest
  have e1 := e_div (P := P) (n := n) (h := h) ht (show 0 ≤ b by omega) (sm_pow hs)
  have gp := gcd_pos (t := t) hb
  have w : wideDiv (Int.gcd t b : Int) = true := wd_sm gp (by have := gcd_le (t := t) hb; unfold sm at hs ⊢; omega)
  simp [evSs, evS, evE, evEs, evO, evT, evI, itemsF, Res.bd, Res.to, Res.nox, asB, asI, okB, okD, isiF, MP.b2, Cm.ev, end_d, end_n, end_x, dats, dat, datT, pures, on1, on2, on2T, bindT, bindTs, Bi.ev, isCF, ixF, slF, bg1, bg2, bg3, bg4, bg5, bg6, bg7, bg8, O2.ev, e1, w, low1, low2]
/-! the law's own -/
theorem ldivs {c : Cf} {h : Hh} {x0 x1 : Option Val} : ∀ (k : Nat) {a b : Int} {f : Nat}, 0 ≤ a → 0 ≤ b → b < 2 ^ k → 2 * k + 1 ≤ f → whlF (evE c (.cmp .ne (.var 3) (.int 0))) (evSs c l__law_lowest_0) f [x0, x1, some (.d (.int a)), some (.d (.int b))] h = .nx [x0, x1, some (.d (.int (Int.gcd a b))), some (.d (.int 0))] h
  | k, a, b, 0, _, _, _, hf => by omega
  | k, a, b, f + 1, ha, hb, hk, hf => by
    have s1 : ∀ i, SeqAt.shaped (.int i) = true := fun i => rfl
    by_cases h0 : b = 0
    · subst h0
      have : (a.natAbs : Int) = a := by omega
      simp [whlF, evSs, evS, evE, evEs, evO, evT, evI, itemsF, Res.bd, Res.to, Res.nox, asB, asI, okB, okD, isiF, MP.b2, Cm.ev, end_d, end_n, end_x, dats, dat, datT, pures, on1, on2, on2T, bindT, bindTs, Bi.ev, isCF, ixF, slF, bg1, bg2, bg3, bg4, bg5, bg6, bg7, bg8, s1, PyData.eqv, Int.gcd_zero_right, this]
    · have hp : 0 < b := by omega
      obtain ⟨k, rfl⟩ : ∃ j, k = j + 1 := ⟨k - 1, by
        cases k with
        | zero => simp at hk; omega
        | succ => omega⟩
      have m0 := Int.emod_nonneg a h0
      have m1 := Int.emod_lt_of_pos a hp
      have st : whlF (evE c (.cmp .ne (.var 3) (.int 0))) (evSs c l__law_lowest_0) (f + 1) [x0, x1, some (.d (.int a)), some (.d (.int b))] h = whlF (evE c (.cmp .ne (.var 3) (.int 0))) (evSs c l__law_lowest_0) f [x0, x1, some (.d (.int b)), some (.d (.int (a % b)))] h := by
        simp only [whlF]
        simp [evSs, evS, evE, evEs, evO, evT, evI, itemsF, Res.bd, Res.to, Res.nox, asB, asI, okB, okD, isiF, MP.b2, Cm.ev, end_d, end_n, end_x, dats, dat, datT, pures, on1, on2, on2T, bindT, bindTs, Bi.ev, isCF, ixF, slF, bg1, bg2, bg3, bg4, bg5, bg6, bg7, bg8, s1, PyData.eqv, h0, l__law_lowest_0, O2.ev, hp]
      rw [st, ← gcd_next ha hb]
      obtain ⟨f, rfl⟩ : ∃ j, f = j + 1 := ⟨f - 1, by omega⟩
      by_cases h1 : a % b = 0
      · rw [h1]
        have : (b.natAbs : Int) = b := by omega
        simp [whlF, evSs, evS, evE, evEs, evO, evT, evI, itemsF, Res.bd, Res.to, Res.nox, asB, asI, okB, okD, isiF, MP.b2, Cm.ev, end_d, end_n, end_x, dats, dat, datT, pures, on1, on2, on2T, bindT, bindTs, Bi.ev, isCF, ixF, slF, bg1, bg2, bg3, bg4, bg5, bg6, bg7, bg8, s1, PyData.eqv, Int.gcd_zero_right, this]
      · have hp1 : 0 < a % b := by omega
        have n0 := Int.emod_nonneg b h1
        have n1 := half hp hp1
        have st : whlF (evE c (.cmp .ne (.var 3) (.int 0))) (evSs c l__law_lowest_0) (f + 1) [x0, x1, some (.d (.int b)), some (.d (.int (a % b)))] h = whlF (evE c (.cmp .ne (.var 3) (.int 0))) (evSs c l__law_lowest_0) f [x0, x1, some (.d (.int (a % b))), some (.d (.int (b % (a % b))))] h := by
          simp only [whlF]
          simp [evSs, evS, evE, evEs, evO, evT, evI, itemsF, Res.bd, Res.to, Res.nox, asB, asI, okB, okD, isiF, MP.b2, Cm.ev, end_d, end_n, end_x, dats, dat, datT, pures, on1, on2, on2T, bindT, bindTs, Bi.ev, isCF, ixF, slF, bg1, bg2, bg3, bg4, bg5, bg6, bg7, bg8, s1, PyData.eqv, h1, l__law_lowest_0, O2.ev, hp1]
        rw [st, ← gcd_next hb m0]
        have hk : b < 2 * 2 ^ k := by rw [Int.pow_succ] at hk; omega
        exact ldivs k m0 n0 (by omega) (by omega)
theorem e_llow [BLLow P] {n : Nat} {t b : Int} {h : Hh} (ht : 0 ≤ t) (hb : 0 < b) (hs : sm b) : callF P (n + 1) 42 [.d (.int t), .d (.int b)] h = .ok (.d (.tuple [.int (low1 t b), .int (low2 t b)])) h := by
  rw [call_eq f__law_lowest [some (.d (.int t)), some (.d (.int b)), none, none] BLLow.a__law_lowest rfl rfl]
  show endF false h (evSs (cfF P n) b__law_lowest _ h) = _
  unfold b__law_lowest
  have e1 := ldivs (c := cfF P n) (h := h) (x0 := some (.d (.int t))) (x1 := some (.d (.int b))) 400000 ht (show 0 ≤ b by omega) (sm_pow hs) (f := turns) (by decide)
  have gp := gcd_pos (t := t) hb
  have w : wideDiv (Int.gcd t b : Int) = true := wd_sm gp (by have := gcd_le (t := t) hb; unfold sm at hs ⊢; omega)
  simp [evSs, evS, evE, evEs, evO, evT, evI, itemsF, Res.bd, Res.to, Res.nox, asB, asI, okB, okD, isiF, MP.b2, Cm.ev, end_d, end_n, end_x, dats, dat, datT, pures, on1, on2, on2T, bindT, bindTs, Bi.ev, isCF, ixF, slF, bg1, bg2, bg3, bg4, bg5, bg6, bg7, bg8, O2.ev] at e1 ⊢
  rw [e1]
  simp [evSs, evS, evE, evEs, evO, evT, evI, itemsF, Res.bd, Res.to, Res.nox, asB, asI, okB, okD, isiF, MP.b2, Cm.ev, end_d, end_n, end_x, dats, dat, datT, pures, on1, on2, on2T, bindT, bindTs, Bi.ev, isCF, ixF, slF, bg1, bg2, bg3, bg4, bg5, bg6, bg7, bg8, O2.ev, w, low1, low2]
/-! ### powers -/
theorem wm_bits {i j : Int} {a b : Nat} (hi : i.natAbs < 2 ^ a) (hj : j.natAbs < 2 ^ b) (h : a + b ≤ 1000000) : wideMul i j = true := by
  have l : ∀ {i : Int} {a : Nat}, i.natAbs < 2 ^ a → i.natAbs.log2 < a ∨ i.natAbs.log2 = 0 := fun {i a} h => by
    by_cases hz : i.natAbs = 0
    · right; rw [hz]; decide
    · exact .inl ((Nat.log2_lt hz).mpr h)
  have a0 : 0 < a ∨ i.natAbs.log2 = 0 := by
    rcases l hi with z | z
    · left; omega
    · exact .inr z
  refine decide_eq_true ?_
  rcases l hi with z1 | z1 <;> rcases l hj with z2 | z2 <;> omega
theorem pow_bits {b : Int} {m : Nat} (hb : b.natAbs < 2 ^ m) (j : Nat) : (b ^ j).natAbs < 2 ^ (m * j + 1) := by
  rw [Int.natAbs_pow, Nat.pow_succ, Nat.pow_mul]
  have h1 : b.natAbs ^ j ≤ (2 ^ m) ^ j := Nat.pow_le_pow_left (Nat.le_of_lt hb) j
  have h2 : 0 < (2 ^ m) ^ j := Nat.pow_pos (Nat.pow_pos (by omega))
  omega
theorem rngF_succ {lo : Int} {n : Nat} : rngF lo (n + 1) = rngF lo n ++ [.int (lo + n)] := by
  simp [rngF, List.range_succ]
theorem forF_app {α : Type} {g : α → En → Hh → Out} : ∀ {xs ys : List α} {ρ ρ1 : En} {h h1 : Hh}, forF g xs ρ h = .nx ρ1 h1 → (∀ x ∈ xs, ∀ ρ h, ∀ ρ' h', g x ρ h ≠ .bk ρ' h') → forF g (xs ++ ys) ρ h = forF g ys ρ1 h1
  | [], ys, ρ, ρ1, h, h1, e, _ => by
    cases e
    rfl
  | x :: xs, ys, ρ, ρ1, h, h1, e, nb => by
    simp only [forF, List.cons_append] at e ⊢
    cases q : g x ρ h with
    | nx ρ2 h2 => rw [q] at e; exact forF_app e fun y hy => nb y (List.mem_cons_of_mem _ hy)
    | ct ρ2 h2 => rw [q] at e; exact forF_app e fun y hy => nb y (List.mem_cons_of_mem _ hy)
    | bk ρ2 h2 => exact absurd q (nb x List.mem_cons_self ρ h ρ2 h2)
    | rt v h2 => rw [q] at e; cases e
    | exc c h2 => rw [q] at e; cases e
    | bad => rw [q] at e; cases e
/-- a loop that counts: the state after j turns -/
theorem forF_cnt {g : PyData → En → Hh → Out} {st : Nat → Option Val → En} {h : Hh} {lo : Int} (n : Nat) (hg : ∀ j x, j < n → ∃ y, g (.int (lo + j)) (st j x) h = .nx (st (j + 1) y) h) (x : Option Val) : ∃ y, forF g (rngF lo n) (st 0 x) h = .nx (st n y) h := by
  have key : ∀ (m k : Nat) (x : Option Val), k + m = n → ∃ y, forF g ((rngF lo n).drop k) (st k x) h = .nx (st n y) h := by
    intro m
    induction m with
    | zero =>
      intro k x hk
      have : k = n := by omega
      subst this
      rw [List.drop_of_length_le (by rw [rng_len]; exact Nat.le_refl _)]
      exact ⟨x, rfl⟩
    | succ m ih =>
      intro k x hk
      have hlt : k < (rngF lo n).length := by rw [rng_len]; omega
      rw [List.drop_eq_getElem_cons hlt]
      have e : (rngF lo n)[k] = .int (lo + k) := by simp [rngF]
      rw [e]
      obtain ⟨y, ey⟩ := hg k x (by omega)
      simp only [forF, ey]
      exact ih (k + 1) y (by omega)
  have := key n 0 x (by omega)
  rwa [List.drop_zero] at this
theorem e_power' [BRoot P] {n : Nat} {b kk : Int} {m : Nat} {h : Hh} (hb : b.natAbs < 2 ^ m) (h0 : 0 ≤ kk) (hm : m * kk.toNat + m + 2 ≤ 1000000) (hk : kk ≤ 10000) : callF P (n + 1) 31 [.d (.int b), .d (.int kk)] h = .ok (.d (.int (b ^ kk.toNat))) h := by
  rw [call_eq f_power [some (.d (.int b)), some (.d (.int kk)), none, none] BRoot.a_power rfl rfl]
  show endF false h (evSs (cfF P n) b_power _ h) = _
  unfold b_power
  obtain ⟨y, key⟩ := forF_cnt (g := fun x ρ1 h2 => match bindT (.n 3) (.d x) ρ1 with
    | some ρ2 => evSs (cfF P n) l_power_0 ρ2 h2
    | none => .bad) (st := fun j x => [some (.d (.int b)), some (.d (.int kk)), some (.d (.int (b ^ j))), x]) (h := h) (lo := 0) kk.toNat (fun j x hj => by
      have w : wideMul (b ^ j) b = true := wm_bits (pow_bits hb j) hb (by
        have := Nat.mul_le_mul_left m (Nat.le_of_lt hj)
        omega)
      refine ⟨some (.d (.int (0 + j))), ?_⟩
      show evSs (cfF P n) l_power_0 [some (.d (.int b)), some (.d (.int kk)), some (.d (.int (b ^ j))), some (.d (.int (0 + j)))] h = _
      unfold l_power_0
      simp [evSs, evS, evE, evEs, evO, evT, evI, itemsF, Res.bd, Res.to, Res.nox, asB, asI, okB, okD, isiF, MP.b2, Cm.ev, end_d, end_n, end_x, dats, dat, datT, pures, on1, on2, on2T, bindT, bindTs, Bi.ev, isCF, ixF, slF, bg1, bg2, bg3, bg4, bg5, bg6, bg7, bg8, O2.ev, w, Int.pow_succ]) none
  have c2 : kk.toNat ≤ big := bg (by omega)
  generalize b ^ kk.toNat = r at key ⊢
  simp [evSs, evS, evE, evEs, evO, evT, evI, itemsF, Res.bd, Res.to, Res.nox, asB, asI, okB, okD, isiF, MP.b2, Cm.ev, end_d, end_n, end_x, dats, dat, datT, pures, on1, on2, on2T, bindT, bindTs, Bi.ev, isCF, ixF, slF, bg1, bg2, bg3, bg4, bg5, bg6, bg7, bg8, O2.ev, small_of h0 (show kk ≤ 1000000 by omega), c2] at key ⊢
  rw [key]
  simp [evSs, evS, evE, evEs, evO, evT, evI, itemsF, Res.bd, Res.to, Res.nox, asB, asI, okB, okD, isiF, MP.b2, Cm.ev, end_d, end_n, end_x, dats, dat, datT, pures, on1, on2, on2T, bindT, bindTs, Bi.ev, isCF, ixF, slF, bg1, bg2, bg3, bg4, bg5, bg6, bg7, bg8]
theorem e_power [BRoot P] {n : Nat} {b : Int} {k m : Nat} {h : Hh} (hb : b.natAbs < 2 ^ m) (hm : m * k + m + 2 ≤ 1000000) (hk : k ≤ 10000) : callF P (n + 1) 31 [.d (.int b), .d (.int k)] h = .ok (.d (.int (b ^ k))) h :=
  e_power' (kk := (k : Int)) hb (by omega) (by rw [Int.toNat_natCast]; exact hm) (by omega)
end
end MC
end
section
set_option Elab.async false
set_option linter.all false
set_option maxRecDepth 100000
set_option maxHeartbeats 1000000
/-! roots -/
namespace MC
open PySem L2 MP
theorem ipow_le {a b : Int} (h0 : 0 ≤ a) (h : a ≤ b) : ∀ d : Nat, a ^ d ≤ b ^ d
  | 0 => by rw [Int.pow_zero, Int.pow_zero]; exact Int.le_refl _
  | d + 1 => by
    rw [Int.pow_succ, Int.pow_succ]
    exact Int.mul_le_mul (ipow_le h0 h d) h h0 (Int.pow_nonneg (by omega))
theorem ipow_lt {a b : Int} (h0 : 0 ≤ a) (h : a < b) {d : Nat} (hd : 1 ≤ d) : a ^ d < b ^ d := by
  obtain ⟨k, rfl⟩ : ∃ k, d = k + 1 := ⟨d - 1, by omega⟩
  rw [Int.pow_succ, Int.pow_succ]
  have h1 := ipow_le h0 (Int.le_of_lt h) k
  have h2 : 0 < b ^ k := Int.pow_pos (by omega)
  have h3 : a ^ k * a ≤ b ^ k * a := Int.mul_le_mul_of_nonneg_right h1 h0
  have h4 : b ^ k * a < b ^ k * b := Int.mul_lt_mul_of_pos_left h h2
  omega
theorem ipow_inj {a b : Int} (ha : 0 ≤ a) (hb : 0 ≤ b) {d : Nat} (hd : 1 ≤ d) (h : a ^ d = b ^ d) : a = b := by
  rcases Int.lt_trichotomy a b with z | z | z
  · have := ipow_lt ha z hd
    omega
  · exact z
  · have := ipow_lt hb z hd
    omega
theorem ipow_self {a : Int} (h : 1 ≤ a) {d : Nat} (hd : 1 ≤ d) : a ≤ a ^ d := by
  obtain ⟨k, rfl⟩ : ∃ k, d = k + 1 := ⟨d - 1, by omega⟩
  rw [Int.pow_succ]
  have h1 : (1 : Int) ^ k ≤ a ^ k := ipow_le (by omega) h k
  rw [Int.one_pow] at h1
  have := Int.mul_le_mul_of_nonneg_right h1 (show 0 ≤ a by omega)
  omega
/-- p is the root, or None -/
def WR (N : Int) (d : Nat) (p : PyData) : Prop := (∃ r : Int, 0 ≤ r ∧ p = .int r ∧ r ^ d = N) ∨ (p = .none ∧ ∀ r : Int, 0 ≤ r → r ^ d ≠ N)
theorem between_no {N lo r : Int} {d : Nat} (h0 : 0 ≤ lo) (hr : 0 ≤ r) (h1 : lo ^ d ≤ N) (h2 : N < (lo + 1) ^ d) (e : r ^ d = N) (hd : 1 ≤ d) : r = lo := by
  by_cases c : r ≤ lo
  · rcases Int.lt_or_eq_of_le c with z | z
    · have := ipow_lt hr z hd
      omega
    · exact z
  · have := ipow_le (show 0 ≤ lo + 1 by omega) (show lo + 1 ≤ r by omega) d
    omega
theorem bits_of {i : Int} {m : Nat} (h0 : 0 ≤ i) (h : i < 2 ^ m) : i.natAbs < 2 ^ m := by
  have : ((i.natAbs : Nat) : Int) < ((2 ^ m : Nat) : Int) := by
    rw [Int.natCast_pow]
    show _ < (2 : Int) ^ m
    omega
  exact Int.ofNat_lt.mp this
section
variable {P : Pc}
theorem wroot_loop [BRoot P] {n : Nat} {N d : Int} {m : Nat} {h : Hh} (hN : 0 ≤ N) (hd : 1 ≤ d) (hd2 : d ≤ 1000) (hb : N + 1 < 2 ^ m) (hm : m * d.toNat + m + 2 ≤ 900000) : ∀ (k : Nat) {low high : Int} {x4 : Option Val} {f : Nat}, 0 ≤ low → low < high → high ≤ N + 1 → high - low ≤ 2 ^ k → k + 1 ≤ f → low ^ d.toNat ≤ N → N < high ^ d.toNat →
    ∃ lo x, whlF (evE (cfF P (n + 1)) (.cmp .gt (.op .sub (.var 3) (.var 2)) (.int 1))) (evSs (cfF P (n + 1)) l_whole_root_0) f [some (.d (.int N)), some (.d (.int d)), some (.d (.int low)), some (.d (.int high)), x4] h = .nx [some (.d (.int N)), some (.d (.int d)), some (.d (.int lo)), some (.d (.int (lo + 1))), x] h ∧ 0 ≤ lo ∧ lo ≤ N ∧ lo ^ d.toNat ≤ N ∧ N < (lo + 1) ^ d.toNat
  | k, low, high, x4, 0, _, _, _, _, hf, _, _ => by omega
  | 0, low, high, x4, f + 1, h0, h1, h2, h3, hf, h4, h5 => by
    have e : high = low + 1 := by
      rw [Int.pow_zero] at h3
      omega
    subst e
    refine ⟨low, x4, ?_, h0, by omega, h4, h5⟩
    have c : ¬ (1 < low + 1 - low) := by omega
    simp [whlF, evSs, evS, evE, evEs, evO, evT, evI, itemsF, Res.bd, Res.to, Res.nox, asB, asI, okB, okD, isiF, MP.b2, Cm.ev, end_d, end_n, end_x, dats, dat, datT, pures, on1, on2, on2T, bindT, bindTs, Bi.ev, isCF, ixF, slF, bg1, bg2, bg3, bg4, bg5, bg6, bg7, bg8, O2.ev, c]
  | k + 1, low, high, x4, f + 1, h0, h1, h2, h3, hf, h4, h5 => by
    by_cases c : 1 < high - low
    · have hp : (2 : Int) ^ (k + 1) = 2 * 2 ^ k := by rw [Int.pow_succ]; omega
      have q0 : 0 ≤ (low + high) / 2 := by omega
      have q1 : (low + high) / 2 < 2 ^ m := by omega
      have ep := e_power' (P := P) (n := n) (h := h) (b := (low + high) / 2) (kk := d) (m := m) (bits_of q0 q1) (by omega) (by omega) (by omega)
      have wd2 : wideDiv 2 = true := by decide
      by_cases c2 : N < ((low + high) / 2) ^ d.toNat
      · obtain ⟨lo, x, e, r⟩ := wroot_loop (n := n) hN hd hd2 hb hm k (low := low) (high := (low + high) / 2) (x4 := some (.d (.int ((low + high) / 2)))) (f := f) h0 (by omega) (by omega) (by omega) (by omega) h4 c2
        refine ⟨lo, x, ?_, r⟩
        rw [← e]
        simp only [whlF]
        simp [evSs, evS, evE, evEs, evO, evT, evI, itemsF, Res.bd, Res.to, Res.nox, asB, asI, okB, okD, isiF, MP.b2, Cm.ev, end_d, end_n, end_x, dats, dat, datT, pures, on1, on2, on2T, bindT, bindTs, Bi.ev, isCF, ixF, slF, bg1, bg2, bg3, bg4, bg5, bg6, bg7, bg8, O2.ev, c, l_whole_root_0, wd2, ep, c2]
      · obtain ⟨lo, x, e, r⟩ := wroot_loop (n := n) hN hd hd2 hb hm k (low := (low + high) / 2) (high := high) (x4 := some (.d (.int ((low + high) / 2)))) (f := f) q0 (by omega) h2 (by omega) (by omega) (by omega) h5
        refine ⟨lo, x, ?_, r⟩
        rw [← e]
        simp only [whlF]
        simp [evSs, evS, evE, evEs, evO, evT, evI, itemsF, Res.bd, Res.to, Res.nox, asB, asI, okB, okD, isiF, MP.b2, Cm.ev, end_d, end_n, end_x, dats, dat, datT, pures, on1, on2, on2T, bindT, bindTs, Bi.ev, isCF, ixF, slF, bg1, bg2, bg3, bg4, bg5, bg6, bg7, bg8, O2.ev, c, l_whole_root_0, wd2, ep, c2]
    · have e : high = low + 1 := by omega
      subst e
      refine ⟨low, x4, ?_, h0, by omega, h4, h5⟩
      have c : ¬ (1 < low + 1 - low) := by omega
      simp [whlF, evSs, evS, evE, evEs, evO, evT, evI, itemsF, Res.bd, Res.to, Res.nox, asB, asI, okB, okD, isiF, MP.b2, Cm.ev, end_d, end_n, end_x, dats, dat, datT, pures, on1, on2, on2T, bindT, bindTs, Bi.ev, isCF, ixF, slF, bg1, bg2, bg3, bg4, bg5, bg6, bg7, bg8, O2.ev, c]
theorem e_wroot [BRoot P] {n : Nat} {N d : Int} {m : Nat} {h : Hh} (hN : 0 ≤ N) (hd : 1 ≤ d) (hd2 : d ≤ 1000) (hb : N + 1 < 2 ^ m) (hm : m * d.toNat + m + 2 ≤ 900000) :
    ∃ p, callF P (n + 2) 32 [.d (.int N), .d (.int d)] h = .ok (.d p) h ∧ WR N d.toNat p := by
  rw [call_eq f_whole_root [some (.d (.int N)), some (.d (.int d)), none, none, none] BRoot.a_whole_root rfl rfl]
  show ∃ p, endF false h (evSs (cfF P (n + 1)) b_whole_root _ h) = _ ∧ _
  unfold b_whole_root
  have dn : 1 ≤ d.toNat := by omega
  have z0 : (0 : Int) ^ d.toNat ≤ N := by
    rw [Int.zero_pow (by omega)]
    exact hN
  have z1 : N < (N + 1) ^ d.toNat := by
    have := ipow_self (a := N + 1) (by omega) dn
    omega
  obtain ⟨lo, x, e, l0, lN, l1, l2⟩ := wroot_loop (P := P) (n := n) (h := h) hN hd hd2 hb hm m (low := 0) (high := N + 1) (x4 := none) (f := turns) (Int.le_refl _) (by omega) (Int.le_refl _) (by omega) (by unfold turns; omega) z0 z1
  have ep := e_power' (P := P) (n := n) (h := h) (b := lo) (kk := d) (m := m) (bits_of l0 (by omega)) (by omega) (by omega) (by omega)
  have s8 : ∀ i, SeqAt.shaped (.int i) = true := fun _ => rfl
  by_cases c : lo ^ d.toNat = N
  · refine ⟨.int lo, ?_, .inl ⟨lo, l0, rfl, c⟩⟩
    simp [evSs, evS, evE, evEs, evO, evT, evI, itemsF, Res.bd, Res.to, Res.nox, asB, asI, okB, okD, isiF, MP.b2, Cm.ev, end_d, end_n, end_x, dats, dat, datT, pures, on1, on2, on2T, bindT, bindTs, Bi.ev, isCF, ixF, slF, bg1, bg2, bg3, bg4, bg5, bg6, bg7, bg8, O2.ev] at e ⊢
    rw [e]
    simp [evSs, evS, evE, evEs, evO, evT, evI, itemsF, Res.bd, Res.to, Res.nox, asB, asI, okB, okD, isiF, MP.b2, Cm.ev, end_d, end_n, end_x, dats, dat, datT, pures, on1, on2, on2T, bindT, bindTs, Bi.ev, isCF, ixF, slF, bg1, bg2, bg3, bg4, bg5, bg6, bg7, bg8, O2.ev, ep, s8, PyData.eqv, c]
  · refine ⟨.none, ?_, .inr ⟨rfl, fun r hr q => c ?_⟩⟩
    · simp [evSs, evS, evE, evEs, evO, evT, evI, itemsF, Res.bd, Res.to, Res.nox, asB, asI, okB, okD, isiF, MP.b2, Cm.ev, end_d, end_n, end_x, dats, dat, datT, pures, on1, on2, on2T, bindT, bindTs, Bi.ev, isCF, ixF, slF, bg1, bg2, bg3, bg4, bg5, bg6, bg7, bg8, O2.ev] at e ⊢
      rw [e]
      simp [evSs, evS, evE, evEs, evO, evT, evI, itemsF, Res.bd, Res.to, Res.nox, asB, asI, okB, okD, isiF, MP.b2, Cm.ev, end_d, end_n, end_x, dats, dat, datT, pures, on1, on2, on2T, bindT, bindTs, Bi.ev, isCF, ixF, slF, bg1, bg2, bg3, bg4, bg5, bg6, bg7, bg8, O2.ev, ep, s8, PyData.eqv, c]
    · rw [← between_no l0 hr l1 l2 q dn]
      exact q
/-- a loop that returns at the first that lets it -/
theorem forF_ret {α : Type} {g : α → En → Hh → Out} {I : En → Prop} {N : α → Prop} {Q : α → Val → Prop} {h : Hh} : ∀ {xs : List α} {ρ : En}, I ρ → (∀ x ∈ xs, ∀ ρ, I ρ → (∃ v, g x ρ h = .rt v h ∧ Q x v) ∨ (N x ∧ ∃ ρ', g x ρ h = .nx ρ' h ∧ I ρ')) →
    (∃ (i : Nat) (x : α) (v : Val), xs[i]? = some x ∧ (∀ (j : Nat) (y : α), j < i → xs[j]? = some y → N y) ∧ forF g xs ρ h = .rt v h ∧ Q x v) ∨ ((∀ y ∈ xs, N y) ∧ ∃ ρ', forF g xs ρ h = .nx ρ' h ∧ I ρ')
  | [], ρ, hi, _ => .inr ⟨fun y hy => (nomatch hy), ρ, rfl, hi⟩
  | x :: xs, ρ, hi, hg => by
    rcases hg x List.mem_cons_self ρ hi with ⟨v, e, q⟩ | ⟨nx, ρ', e, hi'⟩
    · exact .inl ⟨0, x, v, rfl, fun j y hj => absurd hj (Nat.not_lt_zero _), by simp only [forF, e], q⟩
    · have fe : forF g (x :: xs) ρ h = forF g xs ρ' h := by simp only [forF, e]
      rcases forF_ret hi' fun y hy => hg y (List.mem_cons_of_mem _ hy) with ⟨i, z, v, e1, e2, e3, e4⟩ | ⟨e1, ρ2, e2, e3⟩
      · refine .inl ⟨i + 1, z, v, by simpa using e1, fun j y hj ey => ?_, by rw [fe]; exact e3, e4⟩
        cases j with
        | zero => simp at ey; subst ey; exact nx
        | succ j => exact e2 j y (by omega) (by simpa using ey)
      · refine .inr ⟨fun y hy => ?_, ρ2, by rw [fe]; exact e2, e3⟩
        rcases List.mem_cons.mp hy with rfl | hy
        · exact nx
        · exact e1 y hy
/-- the greatest power that top and below are, its exponent dividing D -/
structure RootV (D t b : Int) (p : PyData) : Prop where
  ex : ∃ (f x y : Int), 1 ≤ f ∧ D % f = 0 ∧ f ≤ D ∧ 0 ≤ x ∧ 0 ≤ y ∧ x ^ f.toNat = t ∧ y ^ f.toNat = b ∧ p = .tuple [.int (D / f), .int x, .int y] ∧
    ∀ g : Int, f < g → g ≤ D → D % g = 0 → ∀ x y : Int, 0 ≤ x → 0 ≤ y → x ^ g.toNat = t → y ^ g.toNat ≠ b
theorem rngDn_get {lo : Int} {n i : Nat} {p : PyData} (h : (rngDn lo n)[i]? = some p) : i < n ∧ p = .int (lo - (i : Int)) := by
  unfold rngDn at h
  rw [List.getElem?_map] at h
  cases q : (List.range n)[i]? with
  | none => rw [q] at h; cases h
  | some k =>
    rw [q] at h
    obtain ⟨h1, h2⟩ := List.getElem?_eq_some_iff.mp q
    have h1' : i < n := by simpa using h1
    have : k = i := by simpa using h2.symm
    subst this
    cases h
    exact ⟨h1', rfl⟩
theorem glo2 [BRoot P] {n : Nat} : (cfF P n).glo 2 = some (.tuple [.int 1, .int 0, .int 1]) := by
  rw [cfF_glo]
  show (P.glo 2).map _ = _
  rw [BRoot.a_NONE]
  rfl
theorem low_pos {t b : Int} (ht : 0 < t) (hb : 0 < b) : 0 < low1 t b ∧ 0 < low2 t b ∧ low1 t b ≤ t ∧ low2 t b ≤ b := by
  have gp := gcd_pos (t := t) hb
  unfold low1 low2
  refine ⟨?_, ?_, ?_, ?_⟩
  · exact Int.ediv_pos_of_pos_of_dvd ht (by omega) (Int.gcd_dvd_left ..)
  · exact Int.ediv_pos_of_pos_of_dvd hb (by omega) (Int.gcd_dvd_right ..)
  · exact Int.ediv_le_self _ (by omega)
  · exact Int.ediv_le_self _ (by omega)
theorem e_rootof0 [BDiv P] [BLow P] [BRoot P] {n : Nat} {D b : Int} {h : Hh} : callF P (n + 1) 33 [.d (.int D), .d (.int 0), .d (.int b)] h = .ok (.d (.tuple [.int 1, .int 0, .int 1])) h := by
  rw [call_eq f_root_of [some (.d (.int D)), some (.d (.int 0)), some (.d (.int b)), none, none, none] BRoot.a_root_of rfl rfl]
  show endF false h (evSs (cfF P n) b_root_of _ h) = _
  unfold b_root_of
  have s8 : ∀ i, SeqAt.shaped (.int i) = true := fun _ => rfl
  simp [evSs, evS, evE, evEs, evO, evT, evI, itemsF, Res.bd, Res.to, Res.nox, asB, asI, okB, okD, isiF, MP.b2, Cm.ev, end_d, end_n, end_x, dats, dat, datT, pures, on1, on2, on2T, bindT, bindTs, Bi.ev, isCF, ixF, slF, bg1, bg2, bg3, bg4, bg5, bg6, bg7, bg8, O2.ev, s8, PyData.eqv, glo2]
theorem e_rootof [BDiv P] [BLow P] [BRoot P] {n : Nat} {D t b : Int} {m : Nat} {h : Hh} (hD : 1 ≤ D) (hD2 : D ≤ 1000) (ht : 0 < t) (hb : 0 < b) (htm : t + 1 < 2 ^ m) (hbm : b + 1 < 2 ^ m) (hm : m * D.toNat + m + 2 ≤ 900000) (hm2 : m ≤ 8000) :
    ∃ p, callF P (n + 3) 33 [.d (.int D), .d (.int t), .d (.int b)] h = .ok (.d p) h ∧ RootV D (low1 t b) (low2 t b) p := by
  rw [call_eq f_root_of [some (.d (.int D)), some (.d (.int t)), some (.d (.int b)), none, none, none] BRoot.a_root_of rfl rfl]
  show ∃ p, endF false h (evSs (cfF P (n + 2)) b_root_of _ h) = _ ∧ _
  unfold b_root_of
  have s8 : ∀ i, SeqAt.shaped (.int i) = true := fun _ => rfl
  have smb : sm b := by
    unfold sm
    have : (2 : Int) ^ m ≤ 2 ^ 8000 := by
      have := Nat.pow_le_pow_right (n := 2) (by omega) hm2
      have : ((2 ^ m : Nat) : Int) ≤ ((2 ^ 8000 : Nat) : Int) := Int.ofNat_le.mpr this
      rw [Int.natCast_pow, Int.natCast_pow] at this
      exact this
    omega
  have el := e_lowest (P := P) (n := n) (h := h) (show 0 ≤ t by omega) hb smb
  obtain ⟨l1, l2, l3, l4⟩ := low_pos ht hb
  generalize low1 t b = T at *
  generalize low2 t b = B at *
  have t0 : ¬ t = 0 := by omega
  have key := forF_ret (g := fun x ρ1 h2 => match bindT (.n 3) (.d x) ρ1 with
    | some ρ2 => evSs (cfF P (n + 2)) l_root_of_0 ρ2 h2
    | none => .bad) (I := fun ρ => ∃ x3 x4 x5, ρ = [some (.d (.int D)), some (.d (.int T)), some (.d (.int B)), x3, x4, x5])
    (N := fun p => ∃ g : Int, p = .int g ∧ (D % g = 0 → ∀ x y : Int, 0 ≤ x → 0 ≤ y → x ^ g.toNat = T → y ^ g.toNat ≠ B))
    (Q := fun p v => ∃ f x y : Int, p = .int f ∧ D % f = 0 ∧ 0 ≤ x ∧ 0 ≤ y ∧ x ^ f.toNat = T ∧ y ^ f.toNat = B ∧ v = .d (.tuple [.int (D / f), .int x, .int y])) (h := h)
    (xs := rngDn D (D - 1).toNat) (ρ := [some (.d (.int D)), some (.d (.int T)), some (.d (.int B)), none, none, none]) ⟨_, _, _, rfl⟩ (fun p hp ρ hi => by
      obtain ⟨x3, x4, x5, rfl⟩ := hi
      obtain ⟨i, hi⟩ := List.getElem?_of_mem hp
      obtain ⟨hi, rfl⟩ := rngDn_get hi
      generalize hf : D - (i : Int) = f
      have f1 : 2 ≤ f := by omega
      have f2 : f ≤ D := by omega
      show (∃ v, evSs (cfF P (n + 2)) l_root_of_0 [some (.d (.int D)), some (.d (.int T)), some (.d (.int B)), some (.d (.int f)), x4, x5] h = _ ∧ _) ∨ (_ ∧ ∃ ρ', evSs (cfF P (n + 2)) l_root_of_0 [some (.d (.int D)), some (.d (.int T)), some (.d (.int B)), some (.d (.int f)), x4, x5] h = _ ∧ _)
      unfold l_root_of_0
      have fp : 0 < f := by omega
      by_cases c : D % f = 0
      · have hmf : m * f.toNat + m + 2 ≤ 900000 := by
          have := Nat.mul_le_mul_left m (show f.toNat ≤ D.toNat by omega)
          omega
        obtain ⟨p1, e1, w1⟩ := e_wroot (P := P) (n := n) (N := T) (d := f) (m := m) (h := h) (by omega) (by omega) (by omega) (by omega) hmf
        obtain ⟨p2, e2, w2⟩ := e_wroot (P := P) (n := n) (N := B) (d := f) (m := m) (h := h) (by omega) (by omega) (by omega) (by omega) hmf
        have wf : wideDiv f = true := wd fp (by omega)
        rcases w1 with ⟨x, x0, rfl, ex⟩ | ⟨rfl, nx⟩
        · rcases w2 with ⟨y, y0, rfl, ey⟩ | ⟨rfl, ny⟩
          · exact .inl ⟨.d (.tuple [.int (D / f), .int x, .int y]), by simp [evSs, evS, evE, evEs, evO, evT, evI, itemsF, Res.bd, Res.to, Res.nox, asB, asI, okB, okD, isiF, MP.b2, Cm.ev, end_d, end_n, end_x, dats, dat, datT, pures, on1, on2, on2T, bindT, bindTs, Bi.ev, isCF, ixF, slF, bg1, bg2, bg3, bg4, bg5, bg6, bg7, bg8, O2.ev, s8, PyData.eqv, fp, c, e1, e2, wf], f, x, y, rfl, c, x0, y0, ex, ey, rfl⟩
          · exact .inr ⟨⟨f, rfl, fun _ x y hx hy _ q => ny y hy q⟩, [some (.d (.int D)), some (.d (.int T)), some (.d (.int B)), some (.d (.int f)), some (.d (.int x)), some (.d .none)], by simp [evSs, evS, evE, evEs, evO, evT, evI, itemsF, Res.bd, Res.to, Res.nox, asB, asI, okB, okD, isiF, MP.b2, Cm.ev, end_d, end_n, end_x, dats, dat, datT, pures, on1, on2, on2T, bindT, bindTs, Bi.ev, isCF, ixF, slF, bg1, bg2, bg3, bg4, bg5, bg6, bg7, bg8, O2.ev, s8, PyData.eqv, fp, c, e1, e2], _, _, _, rfl⟩
        · exact .inr ⟨⟨f, rfl, fun _ x y hx hy q _ => nx x hx q⟩, [some (.d (.int D)), some (.d (.int T)), some (.d (.int B)), some (.d (.int f)), some (.d .none), some (.d p2)], by simp [evSs, evS, evE, evEs, evO, evT, evI, itemsF, Res.bd, Res.to, Res.nox, asB, asI, okB, okD, isiF, MP.b2, Cm.ev, end_d, end_n, end_x, dats, dat, datT, pures, on1, on2, on2T, bindT, bindTs, Bi.ev, isCF, ixF, slF, bg1, bg2, bg3, bg4, bg5, bg6, bg7, bg8, O2.ev, s8, PyData.eqv, fp, c, e1, e2], _, _, _, rfl⟩
      · exact .inr ⟨⟨f, rfl, fun z => absurd z c⟩, [some (.d (.int D)), some (.d (.int T)), some (.d (.int B)), some (.d (.int f)), x4, x5], by simp [evSs, evS, evE, evEs, evO, evT, evI, itemsF, Res.bd, Res.to, Res.nox, asB, asI, okB, okD, isiF, MP.b2, Cm.ev, end_d, end_n, end_x, dats, dat, datT, pures, on1, on2, on2T, bindT, bindTs, Bi.ev, isCF, ixF, slF, bg1, bg2, bg3, bg4, bg5, bg6, bg7, bg8, O2.ev, s8, PyData.eqv, fp, c], _, _, _, rfl⟩)
  have c1 : small D = true := small_of (by omega) (by omega)
  have c2 : (D - 1).toNat ≤ big := bg (by omega)
  have c3 : small 1 = true := rfl
  have c4 : D ≤ (big : Int) + 1 := by unfold big; omega
  rcases key with ⟨i, p, v, hi, hn, e, f, x, y, rfl, f0, x0, y0, ex, ey, rfl⟩ | ⟨hn, ρ', e, x3, x4, x5, rfl⟩
  · obtain ⟨hi, hf⟩ := rngDn_get hi
    cases hf
    refine ⟨.tuple [.int (D / (D - i)), .int x, .int y], ?_, ⟨D - i, x, y, by omega, f0, by omega, x0, y0, ex, ey, rfl, fun g g1 g2 g3 x y hx hy q1 q2 => ?_⟩⟩
    · simp [evSs, evS, evE, evEs, evO, evT, evI, itemsF, Res.bd, Res.to, Res.nox, asB, asI, okB, okD, isiF, MP.b2, Cm.ev, end_d, end_n, end_x, dats, dat, datT, pures, on1, on2, on2T, bindT, bindTs, Bi.ev, isCF, ixF, slF, bg1, bg2, bg3, bg4, bg5, bg6, bg7, bg8, O2.ev, s8, PyData.eqv, t0, el, c1, c2, c3, c4] at e ⊢
      rw [e]
      simp [evSs, evS, evE, evEs, evO, evT, evI, itemsF, Res.bd, Res.to, Res.nox, asB, asI, okB, okD, isiF, MP.b2, Cm.ev, end_d, end_n, end_x, dats, dat, datT, pures, on1, on2, on2T, bindT, bindTs, Bi.ev, isCF, ixF, slF, bg1, bg2, bg3, bg4, bg5, bg6, bg7, bg8]
    · obtain ⟨g', eg, hg⟩ := hn (D - g).toNat (.int g) (by omega) (by
        unfold rngDn
        rw [List.getElem?_map, List.getElem?_range (by omega)]
        simp
        omega)
      cases eg
      exact hg g3 x y hx hy q1 q2
  · refine ⟨.tuple [.int D, .int T, .int B], ?_, ⟨1, T, B, by omega, by omega, by omega, by omega, by omega, by show T ^ 1 = T; rw [Int.pow_succ, Int.pow_zero, Int.one_mul], by show B ^ 1 = B; rw [Int.pow_succ, Int.pow_zero, Int.one_mul], by rw [Int.ediv_one], fun g g1 g2 g3 x y hx hy q1 q2 => ?_⟩⟩
    · simp [evSs, evS, evE, evEs, evO, evT, evI, itemsF, Res.bd, Res.to, Res.nox, asB, asI, okB, okD, isiF, MP.b2, Cm.ev, end_d, end_n, end_x, dats, dat, datT, pures, on1, on2, on2T, bindT, bindTs, Bi.ev, isCF, ixF, slF, bg1, bg2, bg3, bg4, bg5, bg6, bg7, bg8, O2.ev, s8, PyData.eqv, t0, el, c1, c2, c3, c4] at e ⊢
      rw [e]
      simp [evSs, evS, evE, evEs, evO, evT, evI, itemsF, Res.bd, Res.to, Res.nox, asB, asI, okB, okD, isiF, MP.b2, Cm.ev, end_d, end_n, end_x, dats, dat, datT, pures, on1, on2, on2T, bindT, bindTs, Bi.ev, isCF, ixF, slF, bg1, bg2, bg3, bg4, bg5, bg6, bg7, bg8]
    · obtain ⟨g', eg, hg⟩ := hn (.int g) (by
        unfold rngDn
        refine List.mem_map.mpr ⟨(D - g).toNat, List.mem_range.mpr (by omega), ?_⟩
        have : D - ((D - g).toNat : Int) = g := by omega
        rw [this])
      cases eg
      exact hg g3 x y hx hy q1 q2
end
end MC
end
section
set_option Elab.async false
set_option linter.all false
set_option maxRecDepth 100000
set_option maxHeartbeats 1000000
/-! pieces whose part is one share -/
namespace MC
open PySem L2 MP
def sgn (i : Int) : Int := if 0 < i then 1 else if i < 0 then -1 else 0
theorem sgn_nonneg {i : Int} : (0 ≤ sgn i) = (0 ≤ i) := by
  unfold sgn
  apply propext
  split
  · omega
  · split <;> omega
theorem sgn_neg {i : Int} : (sgn i < 0) = (i < 0) := by
  unfold sgn
  apply propext
  split
  · omega
  · split <;> omega
section
variable {P : Pc}
theorem e_sign [BCmp P] {n : Nat} {i : Int} {h : Hh} : callF P (n + 1) 34 [.d (.int i)] h = .ok (.d (.int (sgn i))) h := by
  rw [call_eq f_sign_of [some (.d (.int i))] BCmp.a_sign_of rfl rfl]
  show endF false h (evSs (cfF P n) b_sign_of _ h) = _
  unfold b_sign_of
  by_cases c1 : 0 < i
  · have c2 : ¬ i < 0 := by omega
    simp [evSs, evS, evE, evEs, evO, evT, evI, itemsF, Res.bd, Res.to, Res.nox, asB, asI, okB, okD, isiF, MP.b2, Cm.ev, end_d, end_n, end_x, dats, dat, datT, pures, on1, on2, on2T, bindT, bindTs, Bi.ev, isCF, ixF, slF, bg1, bg2, bg3, bg4, bg5, bg6, bg7, bg8, O2.ev, sgn, c1, c2]
  · by_cases c2 : i < 0 <;> simp [evSs, evS, evE, evEs, evO, evT, evI, itemsF, Res.bd, Res.to, Res.nox, asB, asI, okB, okD, isiF, MP.b2, Cm.ev, end_d, end_n, end_x, dats, dat, datT, pures, on1, on2, on2T, bindT, bindTs, Bi.ev, isCF, ixF, slF, bg1, bg2, bg3, bg4, bg5, bg6, bg7, bg8, O2.ev, sgn, c1, c2]
theorem nn_bits {i : Int} {m : Nat} (h : i.natAbs < 2 ^ m) {m' : Nat} (hm : m ≤ m') : i.natAbs < 2 ^ m' := Nat.lt_of_lt_of_le h (Nat.pow_le_pow_right (by omega) hm)
theorem mul_bits {i j : Int} {a b : Nat} (hi : i.natAbs < 2 ^ a) (hj : j.natAbs < 2 ^ b) : (i * j).natAbs < 2 ^ (a + b) := by
  rw [Int.natAbs_mul, Nat.pow_add]
  exact Nat.mul_lt_mul'' hi hj
theorem e_level [BCmp P] [BRoot P] [BGo P] {n : Nat} {over under times d part whole T B : Int} {m : Nat} {h : Hh} (b1 : (over * B).natAbs < 2 ^ m) (b2 : part.natAbs < 2 ^ m) (b3 : (under * T).natAbs < 2 ^ m) (b4 : whole.natAbs < 2 ^ m)
    (b5 : over.natAbs < 2 ^ m) (b6 : under.natAbs < 2 ^ m) (b7 : T.natAbs < 2 ^ m) (b8 : B.natAbs < 2 ^ m) (d0 : 0 ≤ d) (d1 : d ≤ 5000) (t0 : 0 ≤ times) (t1 : times ≤ 5000) (hm : m * (d.toNat + times.toNat) + 2 * m + 4 ≤ 900000) :
    callF P (n + 2) 56 [.d (.tuple [.int over, .int under, .int times]), .d (.tuple [.int d, .int part, .int whole]), .d (.int T), .d (.int B)] h = .ok (.d (.int (sgn ((over * B) ^ d.toNat * part ^ times.toNat - (under * T) ^ d.toNat * whole ^ times.toNat)))) h := by
  rw [call_eq f_level_at [some (.d (.tuple [.int over, .int under, .int times])), some (.d (.tuple [.int d, .int part, .int whole])), some (.d (.int T)), some (.d (.int B)), none, none, none, none, none, none, none] BGo.a_level_at rfl rfl]
  show endF false h (evSs (cfF P (n + 1)) b_level_at _ h) = _
  unfold b_level_at
  rw [Nat.mul_add] at hm
  have p1 := e_power' (P := P) (n := n) (h := h) (b := over * B) (kk := d) b1 d0 (by omega) (by omega)
  have p2 := e_power' (P := P) (n := n) (h := h) (b := part) (kk := times) b2 t0 (by omega) (by omega)
  have p3 := e_power' (P := P) (n := n) (h := h) (b := under * T) (kk := d) b3 d0 (by omega) (by omega)
  have p4 := e_power' (P := P) (n := n) (h := h) (b := whole) (kk := times) b4 t0 (by omega) (by omega)
  have w1 : wideMul over B = true := wm_bits b5 b8 (by omega)
  have w2 : wideMul under T = true := wm_bits b6 b7 (by omega)
  have w3 : wideMul ((over * B) ^ d.toNat) (part ^ times.toNat) = true := wm_bits (pow_bits b1 _) (pow_bits b2 _) (by omega)
  have w4 : wideMul ((under * T) ^ d.toNat) (whole ^ times.toNat) = true := wm_bits (pow_bits b3 _) (pow_bits b4 _) (by omega)
  have sg : ∀ i, (cfF P (n + 1)).call 34 [.d (.int i)] h = .ok (.d (.int (sgn i))) h := fun i => e_sign
  simp [evSs, evS, evE, evEs, evO, evT, evI, itemsF, Res.bd, Res.to, Res.nox, asB, asI, okB, okD, isiF, MP.b2, Cm.ev, end_d, end_n, end_x, dats, dat, datT, pures, on1, on2, on2T, bindT, bindTs, Bi.ev, isCF, ixF, slF, bg1, bg2, bg3, bg4, bg5, bg6, bg7, bg8, bindT, bindTs, O2.ev, w1, w2, p1, p2, p3, p4, w3, w4, sg]
/-- level_cut: none, or one number -/
theorem e_cut [BDiv P] [BLow P] [BRoot P] [BGo P] {n : Nat} {over under times T B : Int} {m : Nat} {h : Hh} (o0 : 0 < over) (u0 : 0 < under) (T0 : 0 ≤ T) (B0 : 0 < B) (t0 : 0 ≤ times) (t1 : times ≤ 1000) (b1 : over * B + 1 < 2 ^ m) (b2 : under * T + 1 < 2 ^ m) (w1 : wideMul over B = true) (w2 : wideMul under T = true)
    (hm : m * times.toNat + m + 2 ≤ 900000) (hm2 : m ≤ 8000) :
    (times = 0 ∧ callF P (n + 4) 57 [.d (.tuple [.int over, .int under, .int times]), .d (.int T), .d (.int B)] h = .ok (.d (.list [])) h) ∨
    (1 ≤ times ∧ ∃ p, callF P (n + 4) 57 [.d (.tuple [.int over, .int under, .int times]), .d (.int T), .d (.int B)] h = .ok (.d (.list [p])) h ∧ ((under * T = 0 ∧ p = .tuple [.int 1, .int 0, .int 1]) ∨ (0 < under * T ∧ RootV times (low1 (under * T) (over * B)) (low2 (under * T) (over * B)) p))) := by
  rw [call_eq f_level_cut [some (.d (.tuple [.int over, .int under, .int times])), some (.d (.int T)), some (.d (.int B)), none, none, none] BGo.a_level_cut rfl rfl]
  show (_ ∧ endF false h (evSs (cfF P (n + 3)) b_level_cut _ h) = _) ∨ (_ ∧ ∃ p, endF false h (evSs (cfF P (n + 3)) b_level_cut _ h) = _ ∧ _)
  unfold b_level_cut
  have s8 : ∀ i, SeqAt.shaped (.int i) = true := fun _ => rfl
  by_cases c : times = 0
  · subst c
    exact .inl ⟨rfl, by simp [evSs, evS, evE, evEs, evO, evT, evI, itemsF, Res.bd, Res.to, Res.nox, asB, asI, okB, okD, isiF, MP.b2, Cm.ev, end_d, end_n, end_x, dats, dat, datT, pures, on1, on2, on2T, bindT, bindTs, Bi.ev, isCF, ixF, slF, bg1, bg2, bg3, bg4, bg5, bg6, bg7, bg8, bindT, bindTs, O2.ev, s8, PyData.eqv]⟩
  · refine .inr ⟨by omega, ?_⟩
    have ob : 0 < over * B := Int.mul_pos o0 B0
    by_cases cz : under * T = 0
    · have e1 : (cfF P (n + 3)).call 33 [.d (.int times), .d (.int (under * T)), .d (.int (over * B))] h = .ok (.d (.tuple [.int 1, .int 0, .int 1])) h := by
        rw [cz]
        exact e_rootof0 (P := P) (n := n + 2) (D := times) (b := over * B) (h := h)
      refine ⟨.tuple [.int 1, .int 0, .int 1], ?_, .inl ⟨cz, rfl⟩⟩
      simp [evSs, evS, evE, evEs, evO, evT, evI, itemsF, Res.bd, Res.to, Res.nox, asB, asI, okB, okD, isiF, MP.b2, Cm.ev, end_d, end_n, end_x, dats, dat, datT, pures, on1, on2, on2T, bindT, bindTs, Bi.ev, isCF, ixF, slF, bg1, bg2, bg3, bg4, bg5, bg6, bg7, bg8, bindT, bindTs, O2.ev, s8, PyData.eqv, c, w1, w2, e1]
    · have up : 0 ≤ under * T := Int.mul_nonneg (by omega) T0
      obtain ⟨p, e1, r1⟩ := e_rootof (P := P) (n := n) (D := times) (t := under * T) (b := over * B) (m := m) (h := h) (by omega) t1 (by omega) ob b2 b1 hm hm2
      refine ⟨p, ?_, .inr ⟨by omega, r1⟩⟩
      simp [evSs, evS, evE, evEs, evO, evT, evI, itemsF, Res.bd, Res.to, Res.nox, asB, asI, okB, okD, isiF, MP.b2, Cm.ev, end_d, end_n, end_x, dats, dat, datT, pures, on1, on2, on2T, bindT, bindTs, Bi.ev, isCF, ixF, slF, bg1, bg2, bg3, bg4, bg5, bg6, bg7, bg8, bindT, bindTs, O2.ev, s8, PyData.eqv, c, w1, w2, e1]
/-! ### the state -/
structure PS where
  cell : Int
  way : Bool
  over : Int
  under : Int
  times : Int
  ev : List PyData
def wst (w : Bool) : Str := if w then "right" else "left"
def PS.pc (x : PyData) (s : PS) : PyData := .tuple [x, .int s.cell, .str (wst s.way), .tuple [.int s.over, .int s.under, .int s.times], .tuple s.ev]
/-- a number as a fraction -/
def num (a b : Int) : PyData := .tuple [.int 1, .int a, .int b]
def pt (a b : Int) : PyData := .tuple [num a b, num a b]
def PS.hi (a b : Int) (s : PS) (H : Int) : Bool := decide (s.under * H * b ^ s.times.toNat ≤ s.over * a ^ s.times.toNat)
/-- a share -/
structure ShV (a b : Int) : Prop where
  a0 : 0 ≤ a
  ab : a ≤ b
  b0 : 1 ≤ b
  b1 : b ≤ 1000000
  cp : Int.gcd a b = 1
structure POk (len : Nat) (c k : Nat) (s : PS) : Prop where
  c0 : 0 ≤ s.cell
  c1 : s.cell ≤ len
  o0 : 1 ≤ s.over
  o1 : s.over < 2 ^ (8 + 4 * c)
  u0 : 1 ≤ s.under
  u1 : s.under < 2 ^ (1 + 4 * c)
  t0 : 0 ≤ s.times
  t1 : s.times ≤ k
  e1 : s.ev.length ≤ k
theorem POk.mono {len c k c' k' : Nat} {s : PS} (h : POk len c k s) (hc : c ≤ c') (hk : k ≤ k') : POk len c' k' s := by
  have p : ∀ {a b : Nat}, a ≤ b → (2 : Int) ^ a ≤ 2 ^ b := fun {a b} h => by
    have := Nat.pow_le_pow_right (n := 2) (by omega) h
    have : ((2 ^ a : Nat) : Int) ≤ ((2 ^ b : Nat) : Int) := Int.ofNat_le.mpr this
    rw [Int.natCast_pow, Int.natCast_pow] at this
    exact this
  have p1 := p (show 8 + 4 * c ≤ 8 + 4 * c' by omega)
  have p2 := p (show 1 + 4 * c ≤ 1 + 4 * c' by omega)
  have := h.o1
  have := h.u1
  have := h.t1
  have := h.e1
  exact ⟨h.c0, h.c1, h.o0, by omega, h.u0, by omega, h.t0, by omega, by omega⟩
theorem num_sh {a b : Int} : SeqAt.shaped (num a b) = true := okd_sh (d := 1) (m := 3) rfl (by omega)
theorem pt_sh {a b : Int} : SeqAt.shaped (pt a b) = true := okd_sh (d := 2) (m := 3) rfl (by omega)
theorem eqv_num {a b : Int} : PyData.eqv (num a b) (num a b) = true := by
  simp [num, PyData.eqv, PyData.eqvAll]
theorem e_inner_pt [BGo P] {n : Nat} {a b : Int} {h : Hh} : callF P (n + 1) 58 [.d (pt a b)] h = .ok (.d (num a b)) h := by
  rw [call_eq f_inner [some (.d (pt a b))] BGo.a_inner rfl rfl]
  show endF false h (evSs (cfF P n) b_inner _ h) = _
  unfold b_inner pt
  have s := num_sh (a := a) (b := b)
  simp [evSs, evS, evE, evEs, evO, evT, evI, itemsF, Res.bd, Res.to, Res.nox, asB, asI, okB, okD, isiF, MP.b2, Cm.ev, end_d, end_n, end_x, dats, dat, datT, pures, on1, on2, on2T, bindT, bindTs, Bi.ev, isCF, ixF, slF, bg1, bg2, bg3, bg4, bg5, bg6, bg7, bg8, at0, at1, s, eqv_num]
theorem e_split_pt [BGo P] {n : Nat} {a b : Int} {cs : List PyData} {h : Hh} : callF P (n + 1) 59 [.d (pt a b), .d (.list cs)] h = .ok (.d (.list [pt a b])) h := by
  rw [call_eq f_split [some (.d (pt a b)), some (.d (.list cs)), none, none, none, none] BGo.a_split rfl rfl]
  show endF false h (evSs (cfF P n) b_split _ h) = _
  unfold b_split pt
  have s := num_sh (a := a) (b := b)
  simp [evSs, evS, evE, evEs, evO, evT, evI, itemsF, Res.bd, Res.to, Res.nox, asB, asI, okB, okD, isiF, MP.b2, Cm.ev, end_d, end_n, end_x, dats, dat, datT, pures, on1, on2, on2T, bindT, bindTs, Bi.ev, isCF, ixF, slF, bg1, bg2, bg3, bg4, bg5, bg6, bg7, bg8, bindT, bindTs, s, eqv_num]
theorem cut14 {a b c d e : PyData} : cutF [a, b, c, d, e] (some 1) none = [b, c, d, e] := rfl
theorem pw8 {i : Int} {k c : Nat} (h0 : 0 ≤ i) (h : i < 2 ^ (k + 4 * c)) (hk : k ≤ 8) (hc : c ≤ 50) : i.natAbs < 2 ^ 208 := nn_bits (bits_of h0 h) (by omega)
theorem e_al_pt [Core P] {n : Nat} {len c k : Nat} {a b H : Int} {s : PS} {h : Hh} (sh : ShV a b) (ok : POk len c k s) (hc : c ≤ 50) (hk : k ≤ 500) (H0 : 0 ≤ H) (H1 : H ≤ 99) :
    callF P (n + 5) 60 [.d (s.pc (pt a b)), .d (.int H)] h = .ok (.d (.list [.tuple [s.pc (pt a b), .bool (s.hi a b H)]])) h := by
  rw [call_eq f_at_least [some (.d (s.pc (pt a b))), some (.d (.int H)), none, none] BGo.a_at_least rfl rfl]
  show endF false h (evSs (cfF P (n + 4)) b_at_least _ h) = _
  unfold b_at_least
  have o2 := pw8 (by have := ok.o0; omega) ok.o1 (by omega) hc
  have u2 := pw8 (by have := ok.u0; omega) ok.u1 (by omega) hc
  have h2 : H.natAbs < 2 ^ 8 := bits_of H0 (by omega)
  have one2 : (1 : Int).natAbs < 2 ^ 1 := by decide
  have a2 : a.natAbs < 2 ^ 20 := bits_of sh.a0 (by have := sh.ab; have := sh.b1; omega)
  have b2 : b.natAbs < 2 ^ 20 := bits_of (by have := sh.b0; omega) (by have := sh.b1; omega)
  have t0 := ok.t0
  have t1 := ok.t1
  have mt : 300 * s.times.toNat ≤ 300 * 500 := Nat.mul_le_mul_left 300 (by omega)
  have lv := e_level (P := P) (n := n + 2) (over := s.over) (under := s.under) (times := s.times) (d := 1) (part := a) (whole := b) (T := H) (B := 1) (m := 300) (h := h) (nn_bits (mul_bits o2 one2) (by omega)) (nn_bits a2 (by omega)) (nn_bits (mul_bits u2 h2) (by omega)) (nn_bits b2 (by omega))
    (nn_bits o2 (by omega)) (nn_bits u2 (by omega)) (nn_bits h2 (by omega)) (nn_bits one2 (by omega)) (by omega) (by omega) t0 (by omega) (by
      show 300 * (1 + s.times.toNat) + 2 * 300 + 4 ≤ 900000
      omega)
  have e1 : (s.over * 1) ^ (1 : Int).toNat * a ^ s.times.toNat - (s.under * H) ^ (1 : Int).toNat * b ^ s.times.toNat = s.over * a ^ s.times.toNat - s.under * H * b ^ s.times.toNat := by
    show (s.over * 1) ^ 1 * _ - (s.under * H) ^ 1 * _ = _
    rw [Int.pow_succ, Int.pow_succ, Int.pow_zero, Int.pow_zero, Int.one_mul, Int.one_mul, Int.mul_one]
  rw [e1] at lv
  have big2 : ∀ {i : Int} {j : Nat}, 0 ≤ i → i.natAbs < 2 ^ j → j ≤ 298 → i + 1 < 2 ^ 300 := fun {i j} h0 hb hj => by
    have h1 := nn_bits hb hj
    have h2 : (i.natAbs : Int) < ((2 ^ 298 : Nat) : Int) := Int.ofNat_lt.mpr h1
    have h3 : ((2 ^ 298 : Nat) : Int) + 1 < 2 ^ 300 := by decide +kernel
    omega
  have ov : 0 < s.over := by have := ok.o0; omega
  have un : 0 < s.under := by have := ok.u0; omega
  have ct := e_cut (P := P) (n := n) (over := s.over) (under := s.under) (times := s.times) (T := H) (B := 1) (m := 300) (h := h) ov un H0 (by omega) t0 (by omega) (big2 (by rw [Int.mul_one]; omega) (mul_bits o2 one2) (by omega)) (big2 (Int.mul_nonneg (by omega) H0) (mul_bits u2 h2) (by omega)) (wm_bits o2 one2 (by omega)) (wm_bits u2 h2 (by omega)) (by omega) (by omega)
  obtain ⟨cs, ec⟩ : ∃ cs, (cfF P (n + 4)).call 57 [.d (.tuple [.int s.over, .int s.under, .int s.times]), .d (.int H), .d (.int 1)] h = .ok (.d (.list cs)) h := by
    rcases ct with ⟨_, e⟩ | ⟨_, p, e, _⟩
    · exact ⟨_, e⟩
    · exact ⟨_, e⟩
  have es := e_split_pt (P := P) (n := n + 3) (a := a) (b := b) (cs := cs) (h := h)
  have ei := e_inner_pt (P := P) (n := n + 3) (a := a) (b := b) (h := h)
  have lv2 : (cfF P (n + 4)).call 56 [.d (.tuple [.int s.over, .int s.under, .int s.times]), .d (num a b), .d (.int H), .d (.int 1)] h = _ := lv
  have hh : decide (0 ≤ sgn (s.over * a ^ s.times.toNat - s.under * H * b ^ s.times.toNat)) = s.hi a b H := by
    unfold PS.hi
    rw [decide_eq_decide, sgn_nonneg]
    omega
  have h2 : bg2 = bg2 := rfl
  unfold PS.pc
  simp [evSs, evS, evE, evEs, evO, evT, evI, itemsF, Res.bd, Res.to, Res.nox, asB, asI, okB, okD, isiF, MP.b2, Cm.ev, end_d, end_n, end_x, dats, dat, datT, pures, on1, on2, on2T, bindT, bindTs, Bi.ev, isCF, ixF, slF, bg1, bg2, bg3, bg4, bg5, bg6, bg7, bg8, O2.ev, at0, at1, at2, at3, cut14, ec, es, ei, lv2, hh, forF, l_at_least_0, bindT, bg (show 4 + 1 ≤ 10000 by omega)]
end
end MC
end
section
set_option Elab.async false
set_option linter.all false
set_option maxRecDepth 100000
set_option maxHeartbeats 1000000
/-! scripts done at one share -/
namespace MC
open PySem L2 MP
def sill (ls : List Int) (i : Int) : Int := (ls[i.toNat]?).getD 0
def there (s : PS) : Int := if s.way then s.cell + 1 else s.cell - 1
def overE (i : Int) : PyData := .tuple [.str "over", .int i]
def backE (i : Int) : PyData := .tuple [.str "back", .int i]
/-- a bounce -/
def goes (a b : Int) (ls : List Int) (s : PS) : Bool := decide (0 ≤ there s) && (decide (there s ≤ ls.length) && ({ s with times := s.times + 1 } : PS).hi a b (sill ls (if there s < s.cell then there s else s.cell)))
def bnc (a b : Int) (ls : List Int) (s : PS) : PS :=
  if goes a b ls s then { s with times := s.times + 1, cell := there s, ev := s.ev ++ [overE (there s)] } else { s with times := s.times + 1, way := !s.way, ev := s.ev ++ [backE s.cell] }
def LaneN (ls : List Int) : Prop := ls.length ≤ 7 ∧ ∀ i ∈ ls, 0 ≤ i ∧ i ≤ 99
theorem bnc_ok {a b : Int} {ls : List Int} {c k : Nat} {s : PS} (ok : POk ls.length c k s) : POk ls.length c (k + 1) (bnc a b ls s) := by
  unfold bnc
  have := ok.t0
  have := ok.t1
  have := ok.e1
  by_cases g : goes a b ls s = true
  · rw [if_pos g]
    unfold goes at g
    rw [Bool.and_eq_true, Bool.and_eq_true] at g
    exact ⟨of_decide_eq_true g.1, of_decide_eq_true g.2.1, ok.o0, ok.o1, ok.u0, ok.u1, by show 0 ≤ s.times + 1; omega, by show s.times + 1 ≤ _; omega, by simp; omega⟩
  · rw [if_neg g]
    exact ⟨ok.c0, ok.c1, ok.o0, ok.o1, ok.u0, ok.u1, by show 0 ≤ s.times + 1; omega, by show s.times + 1 ≤ _; omega, by simp; omega⟩
def itb (a b : Int) (ls : List Int) : Nat → PS → PS
  | 0, s => s
  | m + 1, s => itb a b ls m (bnc a b ls s)
def unt (a b H : Int) (ls : List Int) : Nat → PS → PS
  | 0, s => s
  | m + 1, s => if s.hi a b H then unt a b H ls m (bnc a b ls s) else s
theorem itb_ok {a b : Int} {ls : List Int} {c : Nat} : ∀ (m : Nat) {k : Nat} {s : PS}, POk ls.length c k s → POk ls.length c (k + m) (itb a b ls m s)
  | 0, k, s, ok => ok
  | m + 1, k, s, ok => by
    have := itb_ok (a := a) (b := b) m (bnc_ok (a := a) (b := b) ok)
    rw [show k + (m + 1) = k + 1 + m by omega]
    exact this
theorem unt_ok {a b H : Int} {ls : List Int} {c : Nat} : ∀ (m : Nat) {k : Nat} {s : PS}, POk ls.length c k s → POk ls.length c (k + m) (unt a b H ls m s)
  | 0, k, s, ok => ok
  | m + 1, k, s, ok => by
    unfold unt
    split
    · have := unt_ok (a := a) (b := b) m (bnc_ok (a := a) (b := b) ok) (H := H)
      rw [show k + (m + 1) = k + 1 + m by omega]
      exact this
    · exact ok.mono (Nat.le_refl _) (by omega)
theorem sRight : SeqAt.shaped (.str "right") = true := by decide +kernel
theorem sLeft : SeqAt.shaped (.str "left") = true := by decide +kernel
theorem nLR : ¬ (Str.ofString "left" = Str.ofString "right") := by decide +kernel
theorem wst_t : wst true = "right" := rfl
theorem wst_f : wst false = "left" := rfl
section
variable {P : Pc} [Core P]
theorem e_other {n : Nat} {w : Bool} {h : Hh} : callF P (n + 1) 61 [.d (.str (wst w))] h = .ok (.d (.str (wst (!w)))) h := by
  rw [call_eq f_other_way [some (.d (.str (wst w)))] BGo.a_other_way rfl rfl]
  show endF false h (evSs (cfF P n) b_other_way _ h) = _
  unfold b_other_way
  cases w <;> simp [evSs, evS, evE, evEs, evO, evT, evI, itemsF, Res.bd, Res.to, Res.nox, asB, asI, okB, okD, isiF, MP.b2, Cm.ev, end_d, end_n, end_x, dats, dat, datT, pures, on1, on2, on2T, bindT, bindTs, Bi.ev, isCF, ixF, slF, bg1, bg2, bg3, bg4, bg5, bg6, bg7, bg8, wst, sRight, sLeft, PyData.eqv, nLR]
theorem min_at {ls : List Int} {i : Int} (h0 : 0 ≤ i) (h1 : i < ls.length) : atI (ls.map PyData.int) i = some (.int (sill ls i)) := by
  obtain ⟨k, rfl⟩ : ∃ k : Nat, i = (k : Int) := ⟨i.toNat, by omega⟩
  have hk : k < ls.length := by omega
  unfold sill
  refine atI_nat ?_
  rw [List.getElem?_map, Int.toNat_natCast, List.getElem?_eq_getElem hk]
  rfl
theorem sill_in {ls : List Int} (hl : LaneN ls) (i : Int) : 0 ≤ sill ls i ∧ sill ls i ≤ 99 := by
  unfold sill
  cases q : ls[i.toNat]? with
  | none => simp
  | some v => exact hl.2 v (List.mem_of_getElem? q)
/-- one statement behind another -/
theorem seq_nx {c : Cf} {st : S} {ss : Ss} {ρ ρ1 : En} {h h1 : Hh} (e : evS c st ρ h = .nx ρ1 h1) : evSs c (.cons st ss) ρ h = evSs c ss ρ1 h1 := by
  simp only [evSs, e]
theorem seq_rt {c : Cf} {st : S} {ss : Ss} {ρ : En} {v : Val} {h h1 : Hh} (e : evS c st ρ h = .rt v h1) : evSs c (.cons st ss) ρ h = .rt v h1 := by
  simp only [evSs, e]
theorem seq_exc {c : Cf} {st : S} {ss : Ss} {ρ : En} {k : Nat} {h h1 : Hh} (e : evS c st ρ h = .exc k h1) : evSs c (.cons st ss) ρ h = .exc k h1 := by
  simp only [evSs, e]
/-- the names of bounced -/
def bρ (ls : List Int) (x : PyData) (s : PS) (o9 o10 o11 o12 o13 : Option Val) : En := [some (.d (.tuple (ls.map PyData.int))), some (.d (s.pc x)), some (.d x), some (.d (.int s.cell)), some (.d (.str (wst s.way))), some (.d (.int s.over)), some (.d (.int s.under)), some (.d (.int s.times)), some (.d (.tuple s.ev)), o9, o10, o11, o12, o13]
def frm (s : PS) : PyData := .tuple [.int s.over, .int s.under, .int (s.times + 1)]
theorem wr {w : Bool} : Cm.ev .eq (.str (wst w)) (.str "right") = some w := by
  cases w <;> simp [Cm.ev, wst, sRight, sLeft, PyData.eqv, nLR]
omit [Core P] in
theorem b_there {c : Cf} {ls : List Int} {x : PyData} {s : PS} {o9 o10 o11 o12 o13 : Option Val} {h : Hh} : evS c (.set 10 (.ifx (.cmp .eq (.var 4) (.str "right")) (.op .add (.var 3) (.int 1)) (.op .sub (.var 3) (.int 1)))) (bρ ls x s o9 o10 o11 o12 o13) h = .nx (bρ ls x s o9 (some (.d (.int (there s)))) o11 o12 o13) h := by
  have e : evE c (.ifx (.cmp .eq (.var 4) (.str "right")) (.op .add (.var 3) (.int 1)) (.op .sub (.var 3) (.int 1))) (bρ ls x s o9 o10 o11 o12 o13) h = .ok (.d (.int (there s))) h := by
    unfold bρ there
    simp only [evE, Res.bd, List.getElem?_cons_succ, List.getElem?_cons_zero, on2, dat, okD, MP.b2, wr, Option.map_some, asB, on2T, datT, O2.ev]
    cases s.way <;> rfl
  simp only [evS, e, Res.to]
  rfl
theorem e_bounced {n : Nat} {a b : Int} {ls : List Int} {c k : Nat} {s : PS} {h : Hh} (sh : ShV a b) (hl : LaneN ls) (ok : POk ls.length c k s) (hc : c ≤ 50) (hk : k ≤ 499) :
    callF P (n + 6) 62 [.d (.tuple (ls.map PyData.int)), .d (s.pc (pt a b))] h = .ok (.d (.list [(bnc a b ls s).pc (pt a b)])) h := by
  rw [call_eq f_bounced [some (.d (.tuple (ls.map PyData.int))), some (.d (s.pc (pt a b))), none, none, none, none, none, none, none, none, none, none, none, none] BGo.a_bounced rfl rfl]
  show endF false h (evSs (cfF P (n + 5)) b_bounced _ h) = _
  unfold b_bounced
  have le : s.ev.length + 1 ≤ big := bg (by have := ok.e1; omega)
  obtain ⟨s1, hs1⟩ : ∃ s1 : PS, s1 = { s with times := s.times + 1 } := ⟨_, rfl⟩
  have ok1 : POk ls.length c (k + 1) s1 := by
    have := ok.t0
    have := ok.t1
    have := ok.e1
    rw [hs1]
    exact ⟨ok.c0, ok.c1, ok.o0, ok.o1, ok.u0, ok.u1, by show 0 ≤ s.times + 1; omega, by show s.times + 1 ≤ _; omega, by show s.ev.length ≤ _; omega⟩
  have al : ∀ H : Int, 0 ≤ H → H ≤ 99 → (cfF P (n + 5)).call 60 [.d (.tuple [pt a b, .int s.cell, .str (wst s.way), frm s, .tuple s.ev]), .d (.int H)] h = .ok (.d (.list [.tuple [.tuple [pt a b, .int s.cell, .str (wst s.way), frm s, .tuple s.ev], .bool (s1.hi a b H)]])) h := fun H h0 h1 => by
    have := e_al_pt (P := P) (n := n) (h := h) sh ok1 hc (by omega) h0 h1
    rw [hs1] at this ⊢
    exact this
  have c0 := ok.c0
  have c1 := ok.c1
  have tw : (cfF P (n + 5)).call 61 [.d (.str (wst s.way))] h = .ok (.d (.str (wst (!s.way)))) h := e_other (P := P) (n := n + 4) (w := s.way) (h := h)
  have th : there s = s.cell + 1 ∨ there s = s.cell - 1 := by
    unfold there
    cases s.way
    · right; simp
    · left; simp
  have gs : goes a b ls s = (decide (0 ≤ there s) && (decide (there s ≤ ls.length) && s1.hi a b (sill ls (if there s < s.cell then there s else s.cell)))) := by rw [hs1]; rfl
  have bn : bnc a b ls s = if goes a b ls s then { s with times := s.times + 1, cell := there s, ev := s.ev ++ [overE (there s)] } else { s with times := s.times + 1, way := !s.way, ev := s.ev ++ [backE s.cell] } := rfl
  rw [bn, gs]
  have st1 : evS (cfF P (n + 5)) (.asg (.t (.cons (.n 2) (.cons (.n 3) (.cons (.n 4) (.cons (.t (.cons (.n 5) (.cons (.n 6) (.cons (.n 7) .nil)))) (.cons (.n 8) .nil)))))) (.var 1)) [some (.d (.tuple (ls.map PyData.int))), some (.d (s.pc (pt a b))), none, none, none, none, none, none, none, none, none, none, none, none] h = .nx (bρ ls (pt a b) s none none none none none) h := by
    simp [evSs, evS, evE, evEs, evO, evT, evI, itemsF, Res.bd, Res.to, Res.nox, asB, asI, okB, okD, isiF, MP.b2, Cm.ev, end_d, end_n, end_x, dats, dat, datT, pures, on1, on2, on2T, bindT, bindTs, Bi.ev, isCF, ixF, slF, bg1, bg2, bg3, bg4, bg5, bg6, bg7, bg8, PS.pc, bρ]
  have st2 : evS (cfF P (n + 5)) (.set 9 (.tup (.cons (.var 5) (.cons (.var 6) (.cons (.op .add (.var 7) (.int 1)) .nil))))) (bρ ls (pt a b) s none none none none none) h = .nx (bρ ls (pt a b) s (some (.d (frm s))) none none none none) h := by
    simp [evSs, evS, evE, evEs, evO, evT, evI, itemsF, Res.bd, Res.to, Res.nox, asB, asI, okB, okD, isiF, MP.b2, Cm.ev, end_d, end_n, end_x, dats, dat, datT, pures, on1, on2, on2T, bindT, bindTs, Bi.ev, isCF, ixF, slF, bg1, bg2, bg3, bg4, bg5, bg6, bg7, bg8, O2.ev, bρ, frm]
  rw [seq_nx st1, seq_nx st2, seq_nx b_there]
  by_cases g1 : 0 ≤ there s
  · by_cases g2 : there s ≤ ls.length
    · have mn0 : 0 ≤ (if there s < s.cell then there s else s.cell) := by split <;> omega
      have mn1 : (if there s < s.cell then there s else s.cell) < ls.length := by
        split
        · omega
        · omega
      have ma := min_at mn0 mn1
      have si := sill_in hl (if there s < s.cell then there s else s.cell)
      have al2 := al _ si.1 si.2
      generalize there s = t at *
      cases e : s1.hi a b (sill ls (if t < s.cell then t else s.cell)) with
      | true =>
        rw [e] at al2
        simp [evSs, evS, evE, evEs, evO, evT, evI, itemsF, Res.bd, Res.to, Res.nox, asB, asI, okB, okD, isiF, MP.b2, Cm.ev, end_d, end_n, end_x, dats, dat, datT, pures, on1, on2, on2T, bindT, bindTs, Bi.ev, isCF, ixF, slF, bg1, bg2, bg3, bg4, bg5, bg6, bg7, bg8, bindT, bindTs, O2.ev, bρ, g1, g2, ma, al2, tw, forF, l_bounced_0, at0, le, overE, backE, PS.pc, frm] at al2 ⊢
      | false =>
        rw [e] at al2
        simp [evSs, evS, evE, evEs, evO, evT, evI, itemsF, Res.bd, Res.to, Res.nox, asB, asI, okB, okD, isiF, MP.b2, Cm.ev, end_d, end_n, end_x, dats, dat, datT, pures, on1, on2, on2T, bindT, bindTs, Bi.ev, isCF, ixF, slF, bg1, bg2, bg3, bg4, bg5, bg6, bg7, bg8, bindT, bindTs, O2.ev, bρ, g1, g2, ma, al2, tw, forF, l_bounced_0, at0, le, overE, backE, PS.pc, frm] at al2 ⊢
    · generalize there s = t at *
      simp [evSs, evS, evE, evEs, evO, evT, evI, itemsF, Res.bd, Res.to, Res.nox, asB, asI, okB, okD, isiF, MP.b2, Cm.ev, end_d, end_n, end_x, dats, dat, datT, pures, on1, on2, on2T, bindT, bindTs, Bi.ev, isCF, ixF, slF, bg1, bg2, bg3, bg4, bg5, bg6, bg7, bg8, bindT, bindTs, O2.ev, bρ, g1, g2, tw, le, backE, PS.pc, frm]
  · generalize there s = t at *
    simp [evSs, evS, evE, evEs, evO, evT, evI, itemsF, Res.bd, Res.to, Res.nox, asB, asI, okB, okD, isiF, MP.b2, Cm.ev, end_d, end_n, end_x, dats, dat, datT, pures, on1, on2, on2T, bindT, bindTs, Bi.ev, isCF, ixF, slF, bg1, bg2, bg3, bg4, bg5, bg6, bg7, bg8, bindT, bindTs, O2.ev, bρ, g1, tw, le, backE, PS.pc, frm]
end
end MC
end
section
set_option Elab.async false
set_option linter.all false
set_option maxRecDepth 100000
set_option maxHeartbeats 1000000
/-! steps and scripts done at one share -/
namespace MC
open PySem L2 MP
/-- a loop that counts -/
theorem forF_cn {α : Type} {g : PyData → En → Hh → Out} {st : Nat → α → En} {h : Hh} {lo : Int} (n : Nat) (hg : ∀ j x, j < n → ∃ y, g (.int (lo + j)) (st j x) h = .nx (st (j + 1) y) h) (x : α) : ∃ y, forF g (rngF lo n) (st 0 x) h = .nx (st n y) h := by
  have key : ∀ (m k : Nat) (x : α), k + m = n → ∃ y, forF g ((rngF lo n).drop k) (st k x) h = .nx (st n y) h := by
    intro m
    induction m with
    | zero =>
      intro k x hk
      have : k = n := by omega
      subst this
      rw [List.drop_of_length_le (by rw [rng_len]; exact Nat.le_refl _)]
      exact ⟨x, rfl⟩
    | succ m ih =>
      intro k x hk
      have hlt : k < (rngF lo n).length := by rw [rng_len]; omega
      rw [List.drop_eq_getElem_cons hlt]
      have e : (rngF lo n)[k] = .int (lo + k) := by simp [rngF]
      rw [e]
      obtain ⟨y, ey⟩ := hg k x (by omega)
      simp only [forF, ey]
      exact ih (k + 1) y (by omega)
  have := key n 0 x (by omega)
  rwa [List.drop_zero] at this
theorem itb_succ {a b : Int} {ls : List Int} : ∀ (m : Nat) (s : PS), itb a b ls (m + 1) s = bnc a b ls (itb a b ls m s)
  | 0, s => rfl
  | m + 1, s => by
    show itb a b ls (m + 1) (bnc a b ls s) = _
    rw [itb_succ m (bnc a b ls s)]
    rfl
section
variable {P : Pc} [Core P]
theorem e_often {n : Nat} {a b m : Int} {ls : List Int} {c k : Nat} {s : PS} {h : Hh} (sh : ShV a b) (hl : LaneN ls) (ok : POk ls.length c k s) (hc : c ≤ 50) (m0 : 0 ≤ m) (m1 : m ≤ 9) (hk : k ≤ 480) :
    callF P (n + 7) 63 [.d (.tuple (ls.map PyData.int)), .d (s.pc (pt a b)), .d (.int m)] h = .ok (.d (.list [(itb a b ls m.toNat s).pc (pt a b)])) h := by
  rw [call_eq f_bounced_often [some (.d (.tuple (ls.map PyData.int))), some (.d (s.pc (pt a b))), some (.d (.int m)), none, none, none, none] BGo.a_bounced_often rfl rfl]
  show endF false h (evSs (cfF P (n + 6)) b_bounced_often _ h) = _
  unfold b_bounced_often
  obtain ⟨y, key⟩ := forF_cn (α := Option Val × Option Val × Option Val) (g := fun x ρ1 h2 => match bindT (.n 4) (.d x) ρ1 with
    | some ρ2 => evSs (cfF P (n + 6)) l_bounced_often_1 ρ2 h2
    | none => .bad) (st := fun j x => [some (.d (.tuple (ls.map PyData.int))), some (.d (s.pc (pt a b))), some (.d (.int m)), some (.d (.list [(itb a b ls j s).pc (pt a b)])), x.1, x.2.1, x.2.2]) (h := h) (lo := 0) m.toNat (fun j x hj => by
      have e1 := e_bounced (P := P) (n := n) (h := h) sh hl (itb_ok (a := a) (b := b) j ok) hc (by omega)
      refine ⟨(some (.d (.int (0 + j))), some (.d (.list [(itb a b ls (j + 1) s).pc (pt a b)])), some (.d ((itb a b ls j s).pc (pt a b)))), ?_⟩
      show evSs (cfF P (n + 6)) l_bounced_often_1 [some (.d (.tuple (ls.map PyData.int))), some (.d (s.pc (pt a b))), some (.d (.int m)), some (.d (.list [(itb a b ls j s).pc (pt a b)])), some (.d (.int (0 + j))), x.2.1, x.2.2] h = _
      unfold l_bounced_often_1
      rw [itb_succ]
      simp [evSs, evS, evE, evEs, evO, evT, evI, itemsF, Res.bd, Res.to, Res.nox, asB, asI, okB, okD, isiF, MP.b2, Cm.ev, end_d, end_n, end_x, dats, dat, datT, pures, on1, on2, on2T, bindT, bindTs, Bi.ev, isCF, ixF, slF, bg1, bg2, bg3, bg4, bg5, bg6, bg7, bg8, O2.ev, forF, l_bounced_often_0, e1]) (none, none, none)
  have c1 : m.toNat ≤ big := bg (by omega)
  have i0 : itb a b ls 0 s = s := rfl
  dsimp only at key
  rw [i0] at key
  simp [evSs, evS, evE, evEs, evO, evT, evI, itemsF, Res.bd, Res.to, Res.nox, asB, asI, okB, okD, isiF, MP.b2, Cm.ev, end_d, end_n, end_x, dats, dat, datT, pures, on1, on2, on2T, bindT, bindTs, Bi.ev, isCF, ixF, slF, bg1, bg2, bg3, bg4, bg5, bg6, bg7, bg8, O2.ev, small_of m0 (show m ≤ 1000000 by omega), c1] at key ⊢
  rw [key]
  simp [evSs, evS, evE, evEs, evO, evT, evI, itemsF, Res.bd, Res.to, Res.nox, asB, asI, okB, okD, isiF, MP.b2, Cm.ev, end_d, end_n, end_x, dats, dat, datT, pures, on1, on2, on2T, bindT, bindTs, Bi.ev, isCF, ixF, slF, bg1, bg2, bg3, bg4, bg5, bg6, bg7, bg8]
theorem e_until {a b H : Int} {ls : List Int} {c : Nat} (sh : ShV a b) (hl : LaneN ls) (hc : c ≤ 50) (H0 : 0 ≤ H) (H1 : H ≤ 99) : ∀ (m : Nat) {n k : Nat} {s : PS} {h : Hh}, POk ls.length c k s → k + m ≤ 490 →
    callF P (n + m + 7) 64 [.d (.tuple (ls.map PyData.int)), .d (s.pc (pt a b)), .d (.int H), .d (.int m)] h = .ok (.d (.list [(unt a b H ls m s).pc (pt a b)])) h
  | 0, n, k, s, h, ok, hk => by
    rw [call_eq f_bounced_until [some (.d (.tuple (ls.map PyData.int))), some (.d (s.pc (pt a b))), some (.d (.int H)), some (.d (.int ((0 : Nat) : Int))), none, none, none, none] BGo.a_bounced_until rfl rfl]
    show endF false h (evSs (cfF P (n + 0 + 6)) b_bounced_until _ h) = _
    unfold b_bounced_until
    simp [evSs, evS, evE, evEs, evO, evT, evI, itemsF, Res.bd, Res.to, Res.nox, asB, asI, okB, okD, isiF, MP.b2, Cm.ev, end_d, end_n, end_x, dats, dat, datT, pures, on1, on2, on2T, bindT, bindTs, Bi.ev, isCF, ixF, slF, bg1, bg2, bg3, bg4, bg5, bg6, bg7, bg8, s_int, PyData.eqv, unt]
  | m + 1, n, k, s, h, ok, hk => by
    rw [call_eq f_bounced_until [some (.d (.tuple (ls.map PyData.int))), some (.d (s.pc (pt a b))), some (.d (.int H)), some (.d (.int ((m + 1 : Nat) : Int))), none, none, none, none] BGo.a_bounced_until rfl rfl]
    show endF false h (evSs (cfF P (n + (m + 1) + 6)) b_bounced_until _ h) = _
    unfold b_bounced_until
    have al : (cfF P (n + (m + 1) + 6)).call 60 [.d (s.pc (pt a b)), .d (.int H)] h = _ := e_al_pt (P := P) (n := n + m + 2) (h := h) sh ok hc (by omega) H0 H1
    have bo : (cfF P (n + (m + 1) + 6)).call 62 [.d (.tuple (ls.map PyData.int)), .d (s.pc (pt a b))] h = _ := e_bounced (P := P) (n := n + m + 1) (h := h) sh hl ok hc (by omega)
    have ih : (cfF P (n + (m + 1) + 6)).call 64 [.d (.tuple (ls.map PyData.int)), .d ((bnc a b ls s).pc (pt a b)), .d (.int H), .d (.int m)] h = _ := e_until sh hl hc H0 H1 m (n := n) (h := h) (bnc_ok (a := a) (b := b) ok) (by omega)
    have nz : ¬ ((m : Int) + 1 = 0) := by omega
    generalize cfF P (n + (m + 1) + 6) = cf at *
    cases e : s.hi a b H with
    | true =>
      rw [e] at al
      have u : unt a b H ls (m + 1) s = unt a b H ls m (bnc a b ls s) := by rw [unt, if_pos e]
      rw [u]
      simp [evSs, evS, evE, evEs, evO, evT, evI, itemsF, Res.bd, Res.to, Res.nox, asB, asI, okB, okD, isiF, MP.b2, Cm.ev, end_d, end_n, end_x, dats, dat, datT, pures, on1, on2, on2T, bindT, bindTs, Bi.ev, isCF, ixF, slF, bg1, bg2, bg3, bg4, bg5, bg6, bg7, bg8, bindT, bindTs, O2.ev, s_int, PyData.eqv, nz, al, forF, l_bounced_until_1, l_bounced_until_0, bo, ih]
    | false =>
      rw [e] at al
      have u : unt a b H ls (m + 1) s = s := by rw [unt, if_neg (by rw [e]; decide)]
      rw [u]
      simp [evSs, evS, evE, evEs, evO, evT, evI, itemsF, Res.bd, Res.to, Res.nox, asB, asI, okB, okD, isiF, MP.b2, Cm.ev, end_d, end_n, end_x, dats, dat, datT, pures, on1, on2, on2T, bindT, bindTs, Bi.ev, isCF, ixF, slF, bg1, bg2, bg3, bg4, bg5, bg6, bg7, bg8, bindT, bindTs, O2.ev, s_int, PyData.eqv, nz, al, forF, l_bounced_until_1]
end
/-! ### steps -/
inductive Sp1 where
  | bn (m : Nat)
  | un (H : Int) (m : Nat)
  | li (x y : Int)
  | tu
def Sp1.py : Sp1 → PyData
  | .bn m => .tuple [.str "bounce", .int m]
  | .un H m => .tuple [.str "until", .int H, .int m]
  | .li x y => .tuple [.str "lift", .int x, .int y]
  | .tu => .tuple [.str "turn"]
def Sp1.Good : Sp1 → Prop
  | .bn m => m ≤ 9
  | .un H m => (1 ≤ H ∧ H ≤ 99) ∧ m ≤ 9
  | .li x y => (1 ≤ x ∧ x ≤ 9) ∧ (1 ≤ y ∧ y ≤ 9)
  | .tu => True
inductive Sp where
  | one (s : Sp1)
  | ifs (H : Int) (xs ys : List Sp1)
def Sp.py : Sp → PyData
  | .one s => s.py
  | .ifs H xs ys => .tuple [.str "if", .int H, .tuple (xs.map Sp1.py), .tuple (ys.map Sp1.py)]
def Sp.Good : Sp → Prop
  | .one s => s.Good
  | .ifs H xs ys => (1 ≤ H ∧ H ≤ 99) ∧ ((xs.length ≤ 2 ∧ ∀ x ∈ xs, x.Good) ∧ (ys.length ≤ 2 ∧ ∀ x ∈ ys, x.Good))
theorem StepV.sp {p : PyData} (h : StepV p) : ∃ s : Sp1, p = s.py ∧ s.Good := by
  cases h with
  | bounce m h => exact ⟨.bn m.toNat, by show _ = PyData.tuple [.str "bounce", .int (m.toNat : Int)]; rw [Int.toNat_of_nonneg (by omega)], by show m.toNat ≤ 9; omega⟩
  | «until» a m ha h => exact ⟨.un a m.toNat, by show _ = PyData.tuple [.str "until", .int a, .int (m.toNat : Int)]; rw [Int.toNat_of_nonneg (by omega)], ha, by show m.toNat ≤ 9; omega⟩
  | lift a m ha h => exact ⟨.li a m, rfl, ha, h⟩
  | turn => exact ⟨.tu, rfl, trivial⟩
theorem StepV.sps : ∀ {ps : List PyData}, (∀ p ∈ ps, StepV p) → ∃ ss : List Sp1, ps = ss.map Sp1.py ∧ ∀ s ∈ ss, s.Good
  | [], _ => ⟨[], rfl, fun s hs => (nomatch hs)⟩
  | p :: ps, h => by
    obtain ⟨s, rfl, g⟩ := (h p List.mem_cons_self).sp
    obtain ⟨ss, rfl, gs⟩ := StepV.sps fun q hq => h q (List.mem_cons_of_mem _ hq)
    exact ⟨s :: ss, rfl, fun q hq => by
      rcases List.mem_cons.mp hq with rfl | hq
      · exact g
      · exact gs q hq⟩
theorem AnyV.sp {p : PyData} (h : AnyV p) : ∃ s : Sp, p = s.py ∧ s.Good := by
  cases h with
  | step p h =>
    obtain ⟨s, rfl, g⟩ := h.sp
    exact ⟨.one s, rfl, g⟩
  | ifs a xs ys ha lx ly hx hy =>
    obtain ⟨ss, rfl, gs⟩ := StepV.sps hx
    obtain ⟨ts, rfl, gt⟩ := StepV.sps hy
    exact ⟨.ifs a ss ts, rfl, ha, ⟨by simpa using lx, gs⟩, ⟨by simpa using ly, gt⟩⟩
theorem AnyV.sps : ∀ {ps : List PyData}, (∀ p ∈ ps, AnyV p) → ∃ ss : List Sp, ps = ss.map Sp.py ∧ ∀ s ∈ ss, s.Good
  | [], _ => ⟨[], rfl, fun s hs => (nomatch hs)⟩
  | p :: ps, h => by
    obtain ⟨s, rfl, g⟩ := (h p List.mem_cons_self).sp
    obtain ⟨ss, rfl, gs⟩ := AnyV.sps fun q hq => h q (List.mem_cons_of_mem _ hq)
    exact ⟨s :: ss, rfl, fun q hq => by
      rcases List.mem_cons.mp hq with rfl | hq
      · exact g
      · exact gs q hq⟩
def run1 (a b : Int) (ls : List Int) : Sp1 → PS → PS
  | .bn m, s => itb a b ls m s
  | .un H m, s => unt a b H ls m s
  | .li x y, s => { s with over := low1 (s.over * x) (s.under * y), under := low2 (s.over * x) (s.under * y) }
  | .tu, s => { s with way := !s.way }
def runs1 (a b : Int) (ls : List Int) (ss : List Sp1) (s : PS) : PS := ss.foldl (fun s x => run1 a b ls x s) s
def run (a b : Int) (ls : List Int) : Sp → PS → PS
  | .one x, s => run1 a b ls x s
  | .ifs H xs ys, s => if s.hi a b H then runs1 a b ls xs s else runs1 a b ls ys s
def runs (a b : Int) (ls : List Int) (ss : List Sp) (s : PS) : PS := ss.foldl (fun s x => run a b ls x s) s
theorem run1_ok {a b : Int} {ls : List Int} {c k : Nat} {x : Sp1} {s : PS} (g : x.Good) (ok : POk ls.length c k s) : POk ls.length (c + 1) (k + 9) (run1 a b ls x s) := by
  cases x with
  | bn m => exact (itb_ok (a := a) (b := b) m ok).mono (by omega) (by have : m ≤ 9 := g; omega)
  | un H m => exact (unt_ok (a := a) (b := b) (H := H) m ok).mono (by omega) (by have : m ≤ 9 := g.2; omega)
  | tu => exact ⟨ok.c0, ok.c1, ok.o0, (ok.mono (show c ≤ c + 1 by omega) (Nat.le_refl k)).o1, ok.u0, (ok.mono (show c ≤ c + 1 by omega) (Nat.le_refl k)).u1, ok.t0, by have := ok.t1; show s.times ≤ _; omega, by have := ok.e1; show s.ev.length ≤ _; omega⟩
  | li x y =>
    obtain ⟨⟨x0, x1⟩, y0, y1⟩ := g
    have p1 : 0 < s.over * x := Int.mul_pos (by have := ok.o0; omega) (by omega)
    have p2 : 0 < s.under * y := Int.mul_pos (by have := ok.u0; omega) (by omega)
    obtain ⟨l1, l2, l3, l4⟩ := low_pos p1 p2
    have q1 : s.over * x ≤ s.over * 9 := Int.mul_le_mul_of_nonneg_left x1 (by have := ok.o0; omega)
    have q2 : s.under * y ≤ s.under * 9 := Int.mul_le_mul_of_nonneg_left y1 (by have := ok.u0; omega)
    have e1 : (2 : Int) ^ (8 + 4 * (c + 1)) = 2 ^ (8 + 4 * c) * 16 := by rw [show 8 + 4 * (c + 1) = 8 + 4 * c + 4 by omega, Int.pow_add] <;> rfl
    have e2 : (2 : Int) ^ (1 + 4 * (c + 1)) = 2 ^ (1 + 4 * c) * 16 := by rw [show 1 + 4 * (c + 1) = 1 + 4 * c + 4 by omega, Int.pow_add] <;> rfl
    have o1 := ok.o1
    have u1 := ok.u1
    have := ok.t1
    have := ok.e1
    exact ⟨ok.c0, ok.c1, by show 1 ≤ low1 _ _; omega, by show low1 _ _ < _; rw [e1]; omega, by show 1 ≤ low2 _ _; omega, by show low2 _ _ < _; rw [e2]; omega, ok.t0, by show s.times ≤ _; omega, by show s.ev.length ≤ _; omega⟩
theorem runs1_ok {a b : Int} {ls : List Int} : ∀ {ss : List Sp1} {c k : Nat} {s : PS}, (∀ x ∈ ss, x.Good) → POk ls.length c k s → POk ls.length (c + ss.length) (k + 9 * ss.length) (runs1 a b ls ss s)
  | [], c, k, s, _, ok => ok
  | x :: ss, c, k, s, g, ok => by
    have := runs1_ok (a := a) (b := b) (fun y hy => g y (List.mem_cons_of_mem _ hy)) (run1_ok (a := a) (b := b) (g x List.mem_cons_self) ok)
    exact this.mono (by simp; omega) (by simp; omega)
theorem run_ok {a b : Int} {ls : List Int} {c k : Nat} {x : Sp} {s : PS} (g : x.Good) (ok : POk ls.length c k s) : POk ls.length (c + 2) (k + 18) (run a b ls x s) := by
  cases x with
  | one x => exact (run1_ok (a := a) (b := b) g ok).mono (by omega) (by omega)
  | ifs H xs ys =>
    obtain ⟨_, ⟨lx, gx⟩, ly, gy⟩ := g
    show POk _ _ _ (if s.hi a b H then runs1 a b ls xs s else runs1 a b ls ys s)
    split
    · exact POk.mono (c := c + xs.length) (k := k + 9 * xs.length) (runs1_ok (a := a) (b := b) gx ok) (by omega) (by omega)
    · exact POk.mono (c := c + ys.length) (k := k + 9 * ys.length) (runs1_ok (a := a) (b := b) gy ok) (by omega) (by omega)
theorem sBounce : SeqAt.shaped (.str "bounce") = true := by decide +kernel
theorem cut35 {a b c d e : PyData} : cutF [a, b, c, d, e] (some 3) none = [d, e] := rfl
theorem n9 : ¬ (Str.ofString "if" = Str.ofString "bounce") := by decide +kernel
theorem n10 : ¬ (Str.ofString "if" = Str.ofString "until") := by decide +kernel
theorem n11 : ¬ (Str.ofString "if" = Str.ofString "turn") := by decide +kernel
theorem n12 : ¬ (Str.ofString "if" = Str.ofString "lift") := by decide +kernel
theorem n13 : ¬ (Str.ofString "until" = Str.ofString "bounce") := by decide +kernel
theorem n14 : ¬ (Str.ofString "lift" = Str.ofString "bounce") := by decide +kernel
theorem n15 : ¬ (Str.ofString "lift" = Str.ofString "turn") := by decide +kernel
/-- the names of behind_step -/
def sρ (ls : List Int) (x : PyData) (s : PS) (st : PyData) (o10 o11 o12 : Option Val) : En := [some (.d (.tuple (ls.map PyData.int))), some (.d (s.pc x)), some (.d st), some (.d x), some (.d (.int s.cell)), some (.d (.str (wst s.way))), some (.d (.int s.over)), some (.d (.int s.under)), some (.d (.int s.times)), some (.d (.tuple s.ev)), o10, o11, o12]
section
variable {P : Pc} [Core P]
omit [Core P] in
theorem st_first {c : Cf} {ls : List Int} {x st : PyData} {s : PS} {h : Hh} : evS c (.asg (.t (.cons (.n 3) (.cons (.n 4) (.cons (.n 5) (.cons (.t (.cons (.n 6) (.cons (.n 7) (.cons (.n 8) .nil)))) (.cons (.n 9) .nil)))))) (.var 1)) [some (.d (.tuple (ls.map PyData.int))), some (.d (s.pc x)), some (.d st), none, none, none, none, none, none, none, none, none, none] h = .nx (sρ ls x s st none none none) h := by
  simp [evSs, evS, evE, evEs, evO, evT, evI, itemsF, Res.bd, Res.to, Res.nox, asB, asI, okB, okD, isiF, MP.b2, Cm.ev, end_d, end_n, end_x, dats, dat, datT, pures, on1, on2, on2T, bindT, bindTs, Bi.ev, isCF, ixF, slF, bg1, bg2, bg3, bg4, bg5, bg6, bg7, bg8, bindT, bindTs, PS.pc, sρ]
theorem e_step1 {n : Nat} {a b : Int} {ls : List Int} {c k : Nat} {x : Sp1} {s : PS} {h : Hh} (sh : ShV a b) (hl : LaneN ls) (g : x.Good) (ok : POk ls.length c k s) (hc : c ≤ 49) (hk : k ≤ 470) :
    callF P (n + 17) 65 [.d (.tuple (ls.map PyData.int)), .d (s.pc (pt a b)), .d x.py] h = .ok (.d (.list [(run1 a b ls x s).pc (pt a b)])) h := by
  rw [call_eq f_behind_step [some (.d (.tuple (ls.map PyData.int))), some (.d (s.pc (pt a b))), some (.d x.py), none, none, none, none, none, none, none, none, none, none] BGo.a_behind_step rfl rfl]
  show endF false h (evSs (cfF P (n + 16)) b_behind_step _ h) = _
  unfold b_behind_step
  rw [seq_nx st_first]
  cases x with
  | bn m =>
    have gm : m ≤ 9 := g
    have e1 : (cfF P (n + 16)).call 63 [.d (.tuple (ls.map PyData.int)), .d (s.pc (pt a b)), .d (.int (m : Int))] h = .ok (.d (.list [(itb a b ls m s).pc (pt a b)])) h := by
      have := e_often (P := P) (n := n + 9) (m := (m : Int)) (h := h) sh hl ok (by omega) (by omega) (by omega) (by omega)
      rw [Int.toNat_natCast] at this
      exact this
    simp [evSs, evS, evE, evEs, evO, evT, evI, itemsF, Res.bd, Res.to, Res.nox, asB, asI, okB, okD, isiF, MP.b2, Cm.ev, end_d, end_n, end_x, dats, dat, datT, pures, on1, on2, on2T, bindT, bindTs, Bi.ev, isCF, ixF, slF, bg1, bg2, bg3, bg4, bg5, bg6, bg7, bg8, O2.ev, sρ, Sp1.py, at0, at1, sBounce, PyData.eqv, e1, run1]
  | un H m =>
    obtain ⟨gH, gm⟩ := g
    have e1 : (cfF P (n + 16)).call 64 [.d (.tuple (ls.map PyData.int)), .d (s.pc (pt a b)), .d (.int H), .d (.int (m : Int))] h = .ok (.d (.list [(unt a b H ls m s).pc (pt a b)])) h := by
      have := e_until (P := P) (H := H) sh hl (show c ≤ 50 by omega) (by omega) (by omega) m (n := n + (9 - m)) (h := h) ok (by omega)
      rw [show n + (9 - m) + m + 7 = n + 16 by omega] at this
      exact this
    simp [evSs, evS, evE, evEs, evO, evT, evI, itemsF, Res.bd, Res.to, Res.nox, asB, asI, okB, okD, isiF, MP.b2, Cm.ev, end_d, end_n, end_x, dats, dat, datT, pures, on1, on2, on2T, bindT, bindTs, Bi.ev, isCF, ixF, slF, bg1, bg2, bg3, bg4, bg5, bg6, bg7, bg8, O2.ev, sρ, Sp1.py, at0, at1, at2, sBounce, s3, PyData.eqv, n13, e1, run1]
  | tu =>
    have e1 := e_other (P := P) (n := n + 15) (w := s.way) (h := h)
    simp [evSs, evS, evE, evEs, evO, evT, evI, itemsF, Res.bd, Res.to, Res.nox, asB, asI, okB, okD, isiF, MP.b2, Cm.ev, end_d, end_n, end_x, dats, dat, datT, pures, on1, on2, on2T, bindT, bindTs, Bi.ev, isCF, ixF, slF, bg1, bg2, bg3, bg4, bg5, bg6, bg7, bg8, O2.ev, sρ, Sp1.py, at0, at1, at2, sBounce, s3, s1, PyData.eqv, n3, n5, e1, run1, PS.pc, cut35, bg (show 3 + 2 ≤ 10000 by omega)]
  | li x y =>
    obtain ⟨⟨x0, x1⟩, y0, y1⟩ := g
    have o2 := pw8 (by have := ok.o0; omega) ok.o1 (by omega) (show c ≤ 50 by omega)
    have u2 := pw8 (by have := ok.u0; omega) ok.u1 (by omega) (show c ≤ 50 by omega)
    have x2 : x.natAbs < 2 ^ 8 := bits_of (by omega) (by omega)
    have y2 : y.natAbs < 2 ^ 8 := bits_of (by omega) (by omega)
    have w1 : wideMul s.over x = true := wm_bits o2 x2 (by omega)
    have w2 : wideMul s.under y = true := wm_bits u2 y2 (by omega)
    have p1 : 0 < s.over * x := Int.mul_pos (by have := ok.o0; omega) (by omega)
    have p2 : 0 < s.under * y := Int.mul_pos (by have := ok.u0; omega) (by omega)
    have sm2 : sm (s.under * y) := by
      have h1 := nn_bits (mul_bits u2 y2) (show 208 + 8 ≤ 8000 by omega)
      have h2 : ((s.under * y).natAbs : Int) < ((2 ^ 8000 : Nat) : Int) := Int.ofNat_lt.mpr h1
      rw [Int.natCast_pow] at h2
      have h2 : ((s.under * y).natAbs : Int) < (2 : Int) ^ 8000 := h2
      unfold sm
      omega
    have e1 := e_lowest (P := P) (n := n + 14) (h := h) (show 0 ≤ s.over * x by omega) p2 sm2
    simp [evSs, evS, evE, evEs, evO, evT, evI, itemsF, Res.bd, Res.to, Res.nox, asB, asI, okB, okD, isiF, MP.b2, Cm.ev, end_d, end_n, end_x, dats, dat, datT, pures, on1, on2, on2T, bindT, bindTs, Bi.ev, isCF, ixF, slF, bg1, bg2, bg3, bg4, bg5, bg6, bg7, bg8, O2.ev, sρ, Sp1.py, at0, at1, at2, sBounce, s3, s1, s4, PyData.eqv, n2, n14, n15, w1, w2, e1, run1, PS.pc, bg (show 2 + 1 ≤ 10000 by omega)]
/-- behind_all, given what it makes of one step -/
theorem e_all {α : Type} {n : Nat} {a b : Int} {ls : List Int} {py : α → PyData} {rn : α → PS → PS} {w : Nat} {ts : List α} {c k : Nat} {s : PS} {h : Hh} {big1 big2 : Nat}
    (hs : ∀ x ∈ ts, ∀ (c k : Nat) (s : PS), POk ls.length c k s → c ≤ big1 → k ≤ big2 → (cfF P n).call 65 [.d (.tuple (ls.map PyData.int)), .d (s.pc (pt a b)), .d (py x)] h = .ok (.d (.list [(rn x s).pc (pt a b)])) h ∧ POk ls.length (c + w) (k + 9 * w) (rn x s))
    (ok : POk ls.length c k s) (hc : c + w * ts.length ≤ big1) (hk : k + 9 * w * ts.length ≤ big2) :
    callF P (n + 1) 66 [.d (.tuple (ls.map PyData.int)), .d (.list [s.pc (pt a b)]), .d (.tuple (ts.map py))] h = .ok (.d (.list [(ts.foldl (fun s x => rn x s) s).pc (pt a b)])) h := by
  rw [call_eq f_behind_all [some (.d (.tuple (ls.map PyData.int))), some (.d (.list [s.pc (pt a b)])), some (.d (.tuple (ts.map py))), none, none, none] BGo.a_behind_all rfl rfl]
  show endF false h (evSs (cfF P n) b_behind_all _ h) = _
  unfold b_behind_all
  have key : ∀ (us : List α) (c k : Nat) (s : PS) (x3 x4 x5 : Option Val), (∀ x ∈ us, x ∈ ts) → POk ls.length c k s → c + w * us.length ≤ big1 → k + 9 * w * us.length ≤ big2 → ∃ y3 y4 y5, forF (fun x ρ1 h2 => match bindT (.n 3) (.d x) ρ1 with
      | some ρ2 => evSs (cfF P n) l_behind_all_1 ρ2 h2
      | none => .bad) (us.map py) [some (.d (.tuple (ls.map PyData.int))), some (.d (.list [s.pc (pt a b)])), some (.d (.tuple (ts.map py))), x3, x4, x5] h = .nx [some (.d (.tuple (ls.map PyData.int))), some (.d (.list [(us.foldl (fun s x => rn x s) s).pc (pt a b)])), some (.d (.tuple (ts.map py))), y3, y4, y5] h := by
    intro us
    induction us with
    | nil => exact fun c k s x3 x4 x5 _ _ _ _ => ⟨x3, x4, x5, rfl⟩
    | cons u us ih =>
      intro c k s x3 x4 x5 hu ok hc hk
      have m1 : w * (us.length + 1) = w * us.length + w := Nat.mul_succ ..
      have m2 : 9 * w * (us.length + 1) = 9 * w * us.length + 9 * w := Nat.mul_succ ..
      simp only [List.length_cons] at hc hk
      obtain ⟨e1, ok2⟩ := hs u (hu u List.mem_cons_self) c k s ok (by omega) (by omega)
      obtain ⟨y3, y4, y5, e2⟩ := ih (c + w) (k + 9 * w) (rn u s) (some (.d (py u))) (some (.d (.list [(rn u s).pc (pt a b)]))) (some (.d (s.pc (pt a b)))) (fun x hx => hu x (List.mem_cons_of_mem _ hx)) ok2 (by omega) (by omega)
      refine ⟨y3, y4, y5, ?_⟩
      rw [List.foldl_cons, ← e2, List.map_cons]
      have st : evSs (cfF P n) l_behind_all_1 [some (.d (.tuple (ls.map PyData.int))), some (.d (.list [s.pc (pt a b)])), some (.d (.tuple (ts.map py))), some (.d (py u)), x4, x5] h = .nx [some (.d (.tuple (ls.map PyData.int))), some (.d (.list [(rn u s).pc (pt a b)])), some (.d (.tuple (ts.map py))), some (.d (py u)), some (.d (.list [(rn u s).pc (pt a b)])), some (.d (s.pc (pt a b)))] h := by
        unfold l_behind_all_1
        simp [evSs, evS, evE, evEs, evO, evT, evI, itemsF, Res.bd, Res.to, Res.nox, asB, asI, okB, okD, isiF, MP.b2, Cm.ev, end_d, end_n, end_x, dats, dat, datT, pures, on1, on2, on2T, bindT, bindTs, Bi.ev, isCF, ixF, slF, bg1, bg2, bg3, bg4, bg5, bg6, bg7, bg8, O2.ev, forF, l_behind_all_0, e1]
      show (match evSs (cfF P n) l_behind_all_1 [some (.d (.tuple (ls.map PyData.int))), some (.d (.list [s.pc (pt a b)])), some (.d (.tuple (ts.map py))), some (.d (py u)), x4, x5] h with
        | .nx ρ1 h1 => forF _ (us.map py) ρ1 h1
        | .ct ρ1 h1 => forF _ (us.map py) ρ1 h1
        | .bk ρ1 h1 => .nx ρ1 h1
        | r => r) = _
      rw [st]
  obtain ⟨y3, y4, y5, e⟩ := key ts c k s none none none (fun x hx => hx) ok hc hk
  simp [evSs, evS, evE, evEs, evO, evT, evI, itemsF, Res.bd, Res.to, Res.nox, asB, asI, okB, okD, isiF, MP.b2, Cm.ev, end_d, end_n, end_x, dats, dat, datT, pures, on1, on2, on2T, bindT, bindTs, Bi.ev, isCF, ixF, slF, bg1, bg2, bg3, bg4, bg5, bg6, bg7, bg8] at e ⊢
  rw [e]
  simp [evSs, evS, evE, evEs, evO, evT, evI, itemsF, Res.bd, Res.to, Res.nox, asB, asI, okB, okD, isiF, MP.b2, Cm.ev, end_d, end_n, end_x, dats, dat, datT, pures, on1, on2, on2T, bindT, bindTs, Bi.ev, isCF, ixF, slF, bg1, bg2, bg3, bg4, bg5, bg6, bg7, bg8]
theorem e_stepP {n : Nat} {a b : Int} {ls : List Int} {c k : Nat} {x : Sp} {s : PS} {h : Hh} (sh : ShV a b) (hl : LaneN ls) (g : x.Good) (ok : POk ls.length c k s) (hc : c ≤ 40) (hk : k ≤ 400) :
    callF P (n + 19) 65 [.d (.tuple (ls.map PyData.int)), .d (s.pc (pt a b)), .d x.py] h = .ok (.d (.list [(run a b ls x s).pc (pt a b)])) h := by
  cases x with
  | one x => exact e_step1 (P := P) (n := n + 2) (h := h) sh hl g ok (by omega) (by omega)
  | ifs H xs ys =>
    obtain ⟨⟨H0, H1⟩, ⟨lx, gx⟩, ly, gy⟩ := g
    rw [call_eq f_behind_step [some (.d (.tuple (ls.map PyData.int))), some (.d (s.pc (pt a b))), some (.d (Sp.ifs H xs ys).py), none, none, none, none, none, none, none, none, none, none] BGo.a_behind_step rfl rfl]
    show endF false h (evSs (cfF P (n + 18)) b_behind_step _ h) = _
    unfold b_behind_step
    rw [seq_nx st_first]
    have al := e_al_pt (P := P) (n := n + 13) (h := h) sh ok (by omega) (by omega) (show 0 ≤ H by omega) H1
    have ax : (cfF P (n + 18)).call 66 [.d (.tuple (ls.map PyData.int)), .d (.list [s.pc (pt a b)]), .d (.tuple (xs.map Sp1.py))] h = .ok (.d (.list [(runs1 a b ls xs s).pc (pt a b)])) h :=
      e_all (P := P) (n := n + 17) (w := 1) (big1 := 49) (big2 := 470) (rn := fun x s => run1 a b ls x s) (fun x hx c k s ok hc hk => ⟨e_step1 (P := P) (n := n) sh hl (gx x hx) ok hc hk, run1_ok (gx x hx) ok⟩) ok (by omega) (by omega)
    have ay : (cfF P (n + 18)).call 66 [.d (.tuple (ls.map PyData.int)), .d (.list [s.pc (pt a b)]), .d (.tuple (ys.map Sp1.py))] h = .ok (.d (.list [(runs1 a b ls ys s).pc (pt a b)])) h :=
      e_all (P := P) (n := n + 17) (w := 1) (big1 := 49) (big2 := 470) (rn := fun x s => run1 a b ls x s) (fun x hx c k s ok hc hk => ⟨e_step1 (P := P) (n := n) sh hl (gy x hx) ok hc hk, run1_ok (gy x hx) ok⟩) ok (by omega) (by omega)
    have rn : run a b ls (.ifs H xs ys) s = if s.hi a b H then runs1 a b ls xs s else runs1 a b ls ys s := rfl
    rw [rn]
    cases e : s.hi a b H <;> rw [e] at al <;> simp [evSs, evS, evE, evEs, evO, evT, evI, itemsF, Res.bd, Res.to, Res.nox, asB, asI, okB, okD, isiF, MP.b2, Cm.ev, end_d, end_n, end_x, dats, dat, datT, pures, on1, on2, on2T, bindT, bindTs, Bi.ev, isCF, ixF, slF, bg1, bg2, bg3, bg4, bg5, bg6, bg7, bg8, bindT, bindTs, O2.ev, sρ, Sp.py, at0, at1, at2, at3, sBounce, s3, s1, s4, s7, PyData.eqv, n9, n10, n11, n12, al, forF, l_behind_step_0, ax, ay]
theorem e_runs {n : Nat} {a b : Int} {ls : List Int} {c k : Nat} {xs : List Sp} {s : PS} {h : Hh} (sh : ShV a b) (hl : LaneN ls) (g : ∀ x ∈ xs, x.Good) (lx : xs.length ≤ 4) (ok : POk ls.length c k s) (hc : c ≤ 30) (hk : k ≤ 300) :
    callF P (n + 20) 66 [.d (.tuple (ls.map PyData.int)), .d (.list [s.pc (pt a b)]), .d (.tuple (xs.map Sp.py))] h = .ok (.d (.list [(runs a b ls xs s).pc (pt a b)])) h :=
  e_all (P := P) (n := n + 19) (w := 2) (big1 := 40) (big2 := 400) (rn := fun x s => run a b ls x s) (fun x hx c k s ok hc hk => ⟨e_stepP (P := P) (n := n) sh hl (g x hx) ok hc hk, run_ok (g x hx) ok⟩) ok (by omega) (by omega)
theorem runs_ok {a b : Int} {ls : List Int} : ∀ {ss : List Sp} {c k : Nat} {s : PS}, (∀ x ∈ ss, x.Good) → POk ls.length c k s → POk ls.length (c + 2 * ss.length) (k + 18 * ss.length) (runs a b ls ss s)
  | [], c, k, s, _, ok => ok
  | x :: ss, c, k, s, g, ok => by
    have := runs_ok (a := a) (b := b) (fun y hy => g y (List.mem_cons_of_mem _ hy)) (run_ok (a := a) (b := b) (g x List.mem_cons_self) ok)
    exact this.mono (by simp; omega) (by simp; omega)
end
end MC
end
section
set_option Elab.async false
set_option linter.all false
set_option maxRecDepth 100000
set_option maxHeartbeats 1000000
/-! told shares: heights -/
namespace MC
open PySem L2 MP
theorem low_gcd {t b : Int} (hb : 0 < b) : Int.gcd (low1 t b) (low2 t b) = 1 := Int.gcd_ediv_gcd_ediv_gcd (Int.gcd_pos_of_ne_zero_right t (by omega))
theorem low_nn {t b : Int} (ht : 0 ≤ t) (hb : 0 < b) : 0 ≤ low1 t b ∧ 0 < low2 t b ∧ low1 t b ≤ t ∧ low2 t b ≤ b := by
  have gp := gcd_pos (t := t) hb
  unfold low1 low2
  refine ⟨Int.ediv_nonneg ht (by omega), Int.ediv_pos_of_pos_of_dvd hb (by omega) (Int.gcd_dvd_right ..), Int.ediv_le_self _ ht, Int.ediv_le_self _ (by omega)⟩
theorem low_cross {t b : Int} : low1 t b * b = t * low2 t b := by
  have h1 : low1 t b * (Int.gcd t b : Int) = t := Int.ediv_mul_cancel (Int.gcd_dvd_left ..)
  have h2 : low2 t b * (Int.gcd t b : Int) = b := Int.ediv_mul_cancel (Int.gcd_dvd_right ..)
  calc low1 t b * b = low1 t b * (low2 t b * (Int.gcd t b : Int)) := by rw [h2]
    _ = (low1 t b * (Int.gcd t b : Int)) * low2 t b := by ac_rfl
    _ = t * low2 t b := by rw [h1]
theorem cop_dvd {a b c : Int} (h : Int.gcd a b = 1) (d : a ∣ b * c) : a ∣ c := by
  have d2 : a.natAbs ∣ b.natAbs * c.natAbs := by rw [← Int.natAbs_mul]; exact Int.natAbs_dvd_natAbs.mpr d
  have h2 : Nat.Coprime a.natAbs b.natAbs := h
  exact Int.natAbs_dvd_natAbs.mp (h2.dvd_of_dvd_mul_left d2)
theorem frac_eq {t b t2 b2 : Int} (h1 : Int.gcd t b = 1) (h2 : Int.gcd t2 b2 = 1) (p1 : 0 < b) (p2 : 0 < b2) (e : t * b2 = t2 * b) : t = t2 ∧ b = b2 := by
  have d1 : b ∣ b2 := cop_dvd (b := t) (by rw [Int.gcd_comm]; exact h1) ⟨t2, by rw [e]; ac_rfl⟩
  have d2 : b2 ∣ b := cop_dvd (b := t2) (by rw [Int.gcd_comm]; exact h2) ⟨t, by rw [← e]; ac_rfl⟩
  have e2 := Int.dvd_antisymm (by omega) (by omega) d1 d2
  subst e2
  exact ⟨Int.eq_of_mul_eq_mul_right (by omega) e, rfl⟩
/-! ### the law's state: the height, too -/
structure LS where
  s : PS
  T : Int
  B : Int
def LS.py (q : LS) : PyData := .tuple [.int q.s.cell, .str (wst q.s.way), .tuple [.int q.T, .int q.B], .tuple q.s.ev, .tuple [.int q.s.over, .int q.s.under, .int q.s.times]]
structure LOk (a b : Int) (len c k : Nat) (q : LS) : Prop where
  ok : POk len c k q.s
  cop : Int.gcd q.s.over q.s.under = 1
  T0 : 0 ≤ q.T
  B0 : 1 ≤ q.B
  T1 : q.T < 2 ^ (8 + 4 * c + 20 * k)
  B1 : q.B < 2 ^ (8 + 4 * c + 20 * k)
  cq : Int.gcd q.T q.B = 1
  eq : q.T * (q.s.under * b ^ q.s.times.toNat) = q.s.over * a ^ q.s.times.toNat * q.B
theorem ipw {i j : Nat} (h : i ≤ j) : (2 : Int) ^ i ≤ 2 ^ j := by
  have := Nat.pow_le_pow_right (n := 2) (by omega) h
  have : ((2 ^ i : Nat) : Int) ≤ ((2 ^ j : Nat) : Int) := Int.ofNat_le.mpr this
  rw [Int.natCast_pow, Int.natCast_pow] at this
  exact this
theorem LOk.mono {a b : Int} {len c k c' k' : Nat} {q : LS} (h : LOk a b len c k q) (hc : c ≤ c') (hk : k ≤ k') : LOk a b len c' k' q := by
  have := ipw (show 8 + 4 * c + 20 * k ≤ 8 + 4 * c' + 20 * k' by omega)
  have := h.T1
  have := h.B1
  exact ⟨h.ok.mono hc hk, h.cop, h.T0, h.B0, by omega, by omega, h.cq, h.eq⟩
/-- the height is at least H -/
theorem hi_iff {a b : Int} {len c k : Nat} {q : LS} (sh : ShV a b) (h : LOk a b len c k q) (H : Int) : q.s.hi a b H = decide (H * q.B ≤ q.T) := by
  unfold PS.hi
  rw [decide_eq_decide]
  have bp : 0 < b ^ q.s.times.toNat := Int.pow_pos (by have := sh.b0; omega)
  have X : 0 < q.s.under * b ^ q.s.times.toNat := Int.mul_pos (by have := h.ok.u0; omega) bp
  have B0 := h.B0
  have e := h.eq
  constructor
  · intro hh
    have h1 : q.s.under * H * b ^ q.s.times.toNat * q.B ≤ q.s.over * a ^ q.s.times.toNat * q.B := Int.mul_le_mul_of_nonneg_right hh (by omega)
    rw [← e] at h1
    have h2 : H * q.B * (q.s.under * b ^ q.s.times.toNat) ≤ q.T * (q.s.under * b ^ q.s.times.toNat) := by
      have : q.s.under * H * b ^ q.s.times.toNat * q.B = H * q.B * (q.s.under * b ^ q.s.times.toNat) := by ac_rfl
      omega
    exact Int.le_of_mul_le_mul_right h2 X
  · intro hh
    have h1 : H * q.B * (q.s.under * b ^ q.s.times.toNat) ≤ q.T * (q.s.under * b ^ q.s.times.toNat) := Int.mul_le_mul_of_nonneg_right hh (by omega)
    rw [e] at h1
    have h2 : q.s.under * H * b ^ q.s.times.toNat * q.B ≤ q.s.over * a ^ q.s.times.toNat * q.B := by
      have : q.s.under * H * b ^ q.s.times.toNat * q.B = H * q.B * (q.s.under * b ^ q.s.times.toNat) := by ac_rfl
      omega
    exact Int.le_of_mul_le_mul_right h2 (by omega)
def lnx (a b : Int) (ls : List Int) (q : LS) : LS := ⟨bnc a b ls q.s, low1 (q.T * a) (q.B * b), low2 (q.T * a) (q.B * b)⟩
theorem mul_pw {x y : Int} {i j : Nat} (x0 : 0 ≤ x) (y0 : 0 ≤ y) (hx : x < 2 ^ i) (hy : y < 2 ^ j) : x * y < 2 ^ (i + j) := by
  rw [Int.pow_add]
  have h1 : x * y ≤ x * 2 ^ j := Int.mul_le_mul_of_nonneg_left (by omega) x0
  have h2 : 0 < (2 : Int) ^ j := Int.pow_pos (by omega)
  have h3 : x * 2 ^ j < 2 ^ i * 2 ^ j := Int.mul_lt_mul_of_pos_right hx h2
  omega
theorem bnc_times {a b : Int} {ls : List Int} {s : PS} : (bnc a b ls s).times = s.times + 1 ∧ (bnc a b ls s).over = s.over ∧ (bnc a b ls s).under = s.under := by
  unfold bnc
  split <;> exact ⟨rfl, rfl, rfl⟩
theorem ShV.bits {a b : Int} (sh : ShV a b) : a < 2 ^ 20 ∧ b < 2 ^ 20 := by
  have := sh.ab
  have := sh.b1
  have : (2 : Int) ^ 20 = 1048576 := rfl
  omega
theorem lnx_ok {a b : Int} {ls : List Int} {c k : Nat} {q : LS} (sh : ShV a b) (h : LOk a b ls.length c k q) : LOk a b ls.length c (k + 1) (lnx a b ls q) := by
  obtain ⟨t1, t2, t3⟩ := bnc_times (a := a) (b := b) (ls := ls) (s := q.s)
  have bp : 0 < q.B * b := Int.mul_pos (by have := h.B0; omega) (by have := sh.b0; omega)
  have tp : 0 ≤ q.T * a := Int.mul_nonneg h.T0 sh.a0
  obtain ⟨l1, l2, l3, l4⟩ := low_nn tp bp
  obtain ⟨a1, b1⟩ := sh.bits
  have m1 := mul_pw h.T0 sh.a0 h.T1 a1
  have m2 := mul_pw (by have := h.B0; omega) (by have := sh.b0; omega) h.B1 b1
  have e1 : 8 + 4 * c + 20 * k + 20 = 8 + 4 * c + 20 * (k + 1) := by omega
  rw [e1] at m1 m2
  refine ⟨bnc_ok h.ok, ?_, l1, by show 1 ≤ low2 _ _; omega, by show low1 _ _ < _; omega, by show low2 _ _ < _; omega, low_gcd bp, ?_⟩
  · show Int.gcd (bnc a b ls q.s).over (bnc a b ls q.s).under = 1
    rw [t2, t3]
    exact h.cop
  · show low1 (q.T * a) (q.B * b) * ((bnc a b ls q.s).under * b ^ (bnc a b ls q.s).times.toNat) = (bnc a b ls q.s).over * a ^ (bnc a b ls q.s).times.toNat * low2 (q.T * a) (q.B * b)
    rw [t1, t2, t3]
    have et : (q.s.times + 1).toNat = q.s.times.toNat + 1 := by have := h.ok.t0; omega
    rw [et, Int.pow_succ, Int.pow_succ]
    have cr := low_cross (t := q.T * a) (b := q.B * b)
    generalize low1 (q.T * a) (q.B * b) = L1 at *
    generalize low2 (q.T * a) (q.B * b) = L2 at *
    have e := h.eq
    refine Int.eq_of_mul_eq_mul_right (a := q.B) (by have := h.B0; omega) ?_
    calc L1 * (q.s.under * (b ^ q.s.times.toNat * b)) * q.B = (L1 * (q.B * b)) * (q.s.under * b ^ q.s.times.toNat) := by ac_rfl
      _ = (q.T * a * L2) * (q.s.under * b ^ q.s.times.toNat) := by rw [cr]
      _ = (q.T * (q.s.under * b ^ q.s.times.toNat)) * (a * L2) := by ac_rfl
      _ = (q.s.over * a ^ q.s.times.toNat * q.B) * (a * L2) := by rw [e]
      _ = q.s.over * (a ^ q.s.times.toNat * a) * L2 * q.B := by ac_rfl
/-- a lift -/
def lli (x y : Int) (q : LS) : LS := ⟨{ q.s with over := low1 (q.s.over * x) (q.s.under * y), under := low2 (q.s.over * x) (q.s.under * y) }, low1 (q.T * x) (q.B * y), low2 (q.T * x) (q.B * y)⟩
theorem lli_ok {a b x y : Int} {ls : List Int} {c k : Nat} {q : LS} (hx : 1 ≤ x ∧ x ≤ 9) (hy : 1 ≤ y ∧ y ≤ 9) (h : LOk a b ls.length c k q) : LOk a b ls.length (c + 1) (k + 9) (lli x y q) := by
  have bp : 0 < q.B * y := Int.mul_pos (by have := h.B0; omega) (by omega)
  have tp : 0 ≤ q.T * x := Int.mul_nonneg h.T0 (by omega)
  obtain ⟨l1, l2, l3, l4⟩ := low_nn tp bp
  have op : 0 < q.s.over * x := Int.mul_pos (by have := h.ok.o0; omega) (by omega)
  have up : 0 < q.s.under * y := Int.mul_pos (by have := h.ok.u0; omega) (by omega)
  obtain ⟨k1, k2, k3, k4⟩ := low_pos op up
  have p4 : (2 : Int) ^ 4 = 16 := rfl
  have m1 := mul_pw h.T0 (show 0 ≤ x by omega) h.T1 (show x < 2 ^ 4 by omega)
  have m2 := mul_pw (show 0 ≤ q.B by have := h.B0; omega) (show 0 ≤ y by omega) h.B1 (show y < 2 ^ 4 by omega)
  have := ipw (show 8 + 4 * c + 20 * k + 4 ≤ 8 + 4 * (c + 1) + 20 * (k + 9) by omega)
  refine ⟨run1_ok (a := a) (b := b) (x := .li x y) ⟨hx, hy⟩ h.ok, low_gcd up, l1, by show 1 ≤ low2 _ _; omega, by show low1 _ _ < _; omega, by show low2 _ _ < _; omega, low_gcd bp, ?_⟩
  show low1 (q.T * x) (q.B * y) * (low2 (q.s.over * x) (q.s.under * y) * b ^ q.s.times.toNat) = low1 (q.s.over * x) (q.s.under * y) * a ^ q.s.times.toNat * low2 (q.T * x) (q.B * y)
  have c1 := low_cross (t := q.T * x) (b := q.B * y)
  have c2 := low_cross (t := q.s.over * x) (b := q.s.under * y)
  generalize low1 (q.T * x) (q.B * y) = L1 at *
  generalize low2 (q.T * x) (q.B * y) = L2 at *
  generalize low1 (q.s.over * x) (q.s.under * y) = K1 at *
  generalize low2 (q.s.over * x) (q.s.under * y) = K2 at *
  have e := h.eq
  have B0 := h.B0
  have z : q.B * y * (q.s.over * x) ≠ 0 := by
    have := Int.mul_pos bp op
    omega
  refine Int.eq_of_mul_eq_mul_right (a := q.B * y * (q.s.over * x)) z ?_
  calc L1 * (K2 * b ^ q.s.times.toNat) * (q.B * y * (q.s.over * x)) = (L1 * (q.B * y)) * (q.s.over * x * K2) * b ^ q.s.times.toNat := by ac_rfl
    _ = (q.T * x * L2) * (K1 * (q.s.under * y)) * b ^ q.s.times.toNat := by rw [c1, c2]
    _ = (q.T * (q.s.under * b ^ q.s.times.toNat)) * (x * y * L2 * K1) := by ac_rfl
    _ = (q.s.over * a ^ q.s.times.toNat * q.B) * (x * y * L2 * K1) := by rw [e]
    _ = K1 * a ^ q.s.times.toNat * L2 * (q.B * y * (q.s.over * x)) := by ac_rfl
def lit (a b : Int) (ls : List Int) : Nat → LS → LS
  | 0, q => q
  | m + 1, q => lit a b ls m (lnx a b ls q)
def lun (a b H : Int) (ls : List Int) : Nat → LS → LS
  | 0, q => q
  | m + 1, q => lun a b H ls m (if q.s.hi a b H then lnx a b ls q else q)
def lrun1 (a b : Int) (ls : List Int) : Sp1 → LS → LS
  | .bn m, q => lit a b ls m q
  | .un H m, q => lun a b H ls m q
  | .li x y, q => lli x y q
  | .tu, q => ⟨{ q.s with way := !q.s.way }, q.T, q.B⟩
def lruns1 (a b : Int) (ls : List Int) (ss : List Sp1) (q : LS) : LS := ss.foldl (fun s x => lrun1 a b ls x s) q
def lrun (a b : Int) (ls : List Int) : Sp → LS → LS
  | .one x, q => lrun1 a b ls x q
  | .ifs H xs ys, q => if q.s.hi a b H then lruns1 a b ls xs q else lruns1 a b ls ys q
def lruns (a b : Int) (ls : List Int) (ss : List Sp) (q : LS) : LS := ss.foldl (fun s x => lrun a b ls x s) q
theorem lit_ok {a b : Int} {ls : List Int} {c : Nat} (sh : ShV a b) : ∀ (m : Nat) {k : Nat} {q : LS}, LOk a b ls.length c k q → LOk a b ls.length c (k + m) (lit a b ls m q) ∧ (lit a b ls m q).s = itb a b ls m q.s
  | 0, k, q, h => ⟨h, rfl⟩
  | m + 1, k, q, h => by
    have := lit_ok sh m (lnx_ok sh h)
    rw [show k + (m + 1) = k + 1 + m by omega]
    exact this
theorem unt_lo {a b H : Int} {ls : List Int} {s : PS} (h : ¬ s.hi a b H = true) : ∀ m, unt a b H ls m s = s
  | 0 => rfl
  | m + 1 => by rw [unt, if_neg h]
theorem lun_lo {a b H : Int} {ls : List Int} {q : LS} (h : ¬ q.s.hi a b H = true) : ∀ m, lun a b H ls m q = q
  | 0 => rfl
  | m + 1 => by rw [lun, if_neg h, lun_lo h m]
theorem lun_ok {a b H : Int} {ls : List Int} {c : Nat} (sh : ShV a b) : ∀ (m : Nat) {k : Nat} {q : LS}, LOk a b ls.length c k q → LOk a b ls.length c (k + m) (lun a b H ls m q) ∧ (lun a b H ls m q).s = unt a b H ls m q.s
  | 0, k, q, h => ⟨h, rfl⟩
  | m + 1, k, q, h => by
    by_cases e : q.s.hi a b H = true
    · have := lun_ok (H := H) sh m (lnx_ok sh h)
      rw [show k + (m + 1) = k + 1 + m by omega, lun, if_pos e, unt, if_pos e]
      exact this
    · rw [lun_lo e, unt_lo e]
      exact ⟨h.mono (Nat.le_refl _) (by omega), rfl⟩
theorem lrun1_ok {a b : Int} {ls : List Int} {c k : Nat} {x : Sp1} {q : LS} (sh : ShV a b) (g : x.Good) (h : LOk a b ls.length c k q) : LOk a b ls.length (c + 1) (k + 9) (lrun1 a b ls x q) ∧ (lrun1 a b ls x q).s = run1 a b ls x q.s := by
  cases x with
  | bn m =>
    have := lit_ok sh m h
    exact ⟨this.1.mono (by omega) (by have : m ≤ 9 := g; omega), this.2⟩
  | un H m =>
    have := lun_ok (H := H) sh m h
    exact ⟨this.1.mono (by omega) (by have : m ≤ 9 := g.2; omega), this.2⟩
  | li x y => exact ⟨lli_ok g.1 g.2 h, rfl⟩
  | tu =>
    have m := h.mono (show c ≤ c + 1 by omega) (show k ≤ k + 9 by omega)
    exact ⟨⟨run1_ok (a := a) (b := b) (x := .tu) trivial h.ok, m.cop, m.T0, m.B0, m.T1, m.B1, m.cq, m.eq⟩, rfl⟩
theorem lruns1_ok {a b : Int} {ls : List Int} (sh : ShV a b) : ∀ {ss : List Sp1} {c k : Nat} {q : LS}, (∀ x ∈ ss, x.Good) → LOk a b ls.length c k q → LOk a b ls.length (c + ss.length) (k + 9 * ss.length) (lruns1 a b ls ss q) ∧ (lruns1 a b ls ss q).s = runs1 a b ls ss q.s
  | [], c, k, q, _, h => ⟨h, rfl⟩
  | x :: ss, c, k, q, g, h => by
    obtain ⟨h1, e1⟩ := lrun1_ok sh (g x List.mem_cons_self) h
    obtain ⟨h2, e2⟩ := lruns1_ok sh (fun y hy => g y (List.mem_cons_of_mem _ hy)) h1
    refine ⟨h2.mono (by simp; omega) (by simp; omega), ?_⟩
    show (lruns1 a b ls ss (lrun1 a b ls x q)).s = runs1 a b ls ss (run1 a b ls x q.s)
    rw [e2, e1]
theorem lrun_ok {a b : Int} {ls : List Int} {c k : Nat} {x : Sp} {q : LS} (sh : ShV a b) (g : x.Good) (h : LOk a b ls.length c k q) : LOk a b ls.length (c + 2) (k + 18) (lrun a b ls x q) ∧ (lrun a b ls x q).s = run a b ls x q.s := by
  cases x with
  | one x =>
    have := lrun1_ok sh (x := x) g h
    exact ⟨this.1.mono (by omega) (by omega), this.2⟩
  | ifs H xs ys =>
    obtain ⟨_, ⟨lx, gx⟩, ly, gy⟩ := g
    show LOk a b ls.length (c + 2) (k + 18) (if q.s.hi a b H then lruns1 a b ls xs q else lruns1 a b ls ys q) ∧ (if q.s.hi a b H then lruns1 a b ls xs q else lruns1 a b ls ys q).s = if q.s.hi a b H then runs1 a b ls xs q.s else runs1 a b ls ys q.s
    have hx := lruns1_ok sh gx h
    have hy := lruns1_ok sh gy h
    split
    · exact ⟨hx.1.mono (by omega) (by omega), hx.2⟩
    · exact ⟨hy.1.mono (by omega) (by omega), hy.2⟩
theorem lruns_ok {a b : Int} {ls : List Int} (sh : ShV a b) : ∀ {ss : List Sp} {c k : Nat} {q : LS}, (∀ x ∈ ss, x.Good) → LOk a b ls.length c k q → LOk a b ls.length (c + 2 * ss.length) (k + 18 * ss.length) (lruns a b ls ss q) ∧ (lruns a b ls ss q).s = runs a b ls ss q.s
  | [], c, k, q, _, h => ⟨h, rfl⟩
  | x :: ss, c, k, q, g, h => by
    obtain ⟨h1, e1⟩ := lrun_ok sh (g x List.mem_cons_self) h
    obtain ⟨h2, e2⟩ := lruns_ok sh (fun y hy => g y (List.mem_cons_of_mem _ hy)) h1
    refine ⟨h2.mono (by simp; omega) (by simp; omega), ?_⟩
    show (lruns a b ls ss (lrun a b ls x q)).s = runs a b ls ss (run a b ls x q.s)
    rw [e2, e1]
/-! ### what a form is worth -/
def wrt (a b : Int) : Nat → Int × Int → Int × Int
  | 0, q => q
  | m + 1, q => let r := wrt a b m q; (low1 (r.1 * a) (r.2 * b), low2 (r.1 * a) (r.2 * b))
structure WOk (a b over under : Int) (m : Nat) (q : Int × Int) : Prop where
  T0 : 0 ≤ q.1
  B0 : 1 ≤ q.2
  T1 : q.1 < 2 ^ (208 + 20 * m)
  B1 : q.2 < 2 ^ (208 + 20 * m)
  cq : Int.gcd q.1 q.2 = 1
  eq : q.1 * (under * b ^ m) = over * a ^ m * q.2
theorem wrt_ok {a b over under : Int} (sh : ShV a b) (o0 : 1 ≤ over) (o1 : over < 2 ^ 208) (u0 : 1 ≤ under) (u1 : under < 2 ^ 208) (cop : Int.gcd over under = 1) : ∀ m, WOk a b over under m (wrt a b m (over, under))
  | 0 => ⟨by show 0 ≤ over; omega, u0, o1, u1, cop, by show over * (under * b ^ 0) = over * a ^ 0 * under; rw [Int.pow_zero, Int.pow_zero, Int.mul_one, Int.mul_one]⟩
  | m + 1 => by
    have h := wrt_ok sh o0 o1 u0 u1 cop m
    show WOk a b over under (m + 1) (low1 ((wrt a b m (over, under)).1 * a) ((wrt a b m (over, under)).2 * b), low2 ((wrt a b m (over, under)).1 * a) ((wrt a b m (over, under)).2 * b))
    generalize wrt a b m (over, under) = q at *
    have bp : 0 < q.2 * b := Int.mul_pos (by have := h.B0; omega) (by have := sh.b0; omega)
    have tp : 0 ≤ q.1 * a := Int.mul_nonneg h.T0 sh.a0
    obtain ⟨l1, l2, l3, l4⟩ := low_nn tp bp
    obtain ⟨a1, b1⟩ := sh.bits
    have m1 := mul_pw h.T0 sh.a0 h.T1 a1
    have m2 := mul_pw (by have := h.B0; omega) (by have := sh.b0; omega) h.B1 b1
    have e1 : 208 + 20 * m + 20 = 208 + 20 * (m + 1) := by omega
    rw [e1] at m1 m2
    refine ⟨l1, by show 1 ≤ low2 _ _; omega, by show low1 _ _ < _; omega, by show low2 _ _ < _; omega, low_gcd bp, ?_⟩
    show low1 (q.1 * a) (q.2 * b) * (under * b ^ (m + 1)) = over * a ^ (m + 1) * low2 (q.1 * a) (q.2 * b)
    rw [Int.pow_succ, Int.pow_succ]
    have cr := low_cross (t := q.1 * a) (b := q.2 * b)
    generalize low1 (q.1 * a) (q.2 * b) = L1 at *
    generalize low2 (q.1 * a) (q.2 * b) = L2 at *
    have e := h.eq
    refine Int.eq_of_mul_eq_mul_right (a := q.2) (by have := h.B0; omega) ?_
    calc L1 * (under * (b ^ m * b)) * q.2 = (L1 * (q.2 * b)) * (under * b ^ m) := by ac_rfl
      _ = (q.1 * a * L2) * (under * b ^ m) := by rw [cr]
      _ = (q.1 * (under * b ^ m)) * (a * L2) := by ac_rfl
      _ = (over * a ^ m * q.2) * (a * L2) := by rw [e]
      _ = over * (a ^ m * a) * L2 * q.2 := by ac_rfl
/-- the law's height is what the form is worth -/
theorem worth_eq {a b : Int} {len c k : Nat} {q : LS} (sh : ShV a b) (h : LOk a b len c k q) (hc : c ≤ 50) : wrt a b q.s.times.toNat (q.s.over, q.s.under) = (q.T, q.B) := by
  have p1 := ipw (show 8 + 4 * c ≤ 208 by omega)
  have p2 := ipw (show 1 + 4 * c ≤ 208 by omega)
  have o1 := h.ok.o1
  have u1 := h.ok.u1
  have w := wrt_ok sh h.ok.o0 (by omega) h.ok.u0 (by omega) h.cop q.s.times.toNat
  generalize wrt a b q.s.times.toNat (q.s.over, q.s.under) = r at *
  have bp : 0 < b ^ q.s.times.toNat := Int.pow_pos (by have := sh.b0; omega)
  have X : 0 < q.s.under * b ^ q.s.times.toNat := Int.mul_pos (by have := h.ok.u0; omega) bp
  have e : r.1 * q.B = q.T * r.2 := by
    refine Int.eq_of_mul_eq_mul_right (a := q.s.under * b ^ q.s.times.toNat) (by omega) ?_
    calc r.1 * q.B * (q.s.under * b ^ q.s.times.toNat) = r.1 * (q.s.under * b ^ q.s.times.toNat) * q.B := by ac_rfl
      _ = q.s.over * a ^ q.s.times.toNat * r.2 * q.B := by rw [w.eq]
      _ = q.s.over * a ^ q.s.times.toNat * q.B * r.2 := by ac_rfl
      _ = q.T * (q.s.under * b ^ q.s.times.toNat) * r.2 := by rw [h.eq]
      _ = q.T * r.2 * (q.s.under * b ^ q.s.times.toNat) := by ac_rfl
  obtain ⟨e1, e2⟩ := frac_eq w.cq h.cq (by have := w.B0; omega) (by have := h.B0; omega) e
  rw [← e1, ← e2]
end MC
end
section
set_option Elab.async false
set_option linter.all false
set_option maxRecDepth 100000
set_option maxHeartbeats 1000000
/-! told shares: the program's and the law's functions -/
namespace MC
open PySem L2 MP
theorem ipw8 {i : Int} {j : Nat} (h : i < 2 ^ j) (hj : j ≤ 8000) : sm i := by
  have := ipw hj
  unfold sm
  generalize (2 : Int) ^ 8000 = z at *
  omega
theorem bits3 {i : Int} {j : Nat} (h0 : 0 ≤ i) (h : i < 2 ^ j) (hj : j ≤ 3000) : i.natAbs < 2 ^ 3000 := nn_bits (bits_of h0 h) hj
def shr (a b : Int) : PyData := .tuple [.int a, .int b]
def lnP (ls : List Int) : PyData := .tuple (ls.map PyData.int)
section
variable {P : Pc} [Core P]
theorem e_worth [BWorth P] {n : Nat} {a b over under times : Int} {h : Hh} (sh : ShV a b) (o0 : 1 ≤ over) (o1 : over < 2 ^ 208) (u0 : 1 ≤ under) (u1 : under < 2 ^ 208) (cop : Int.gcd over under = 1) (t0 : 0 ≤ times) (t1 : times ≤ 100) :
    callF P (n + 3) 69 [.d (.tuple [.int over, .int under, .int times]), .d (shr a b)] h = .ok (.d (.tuple [.int (wrt a b times.toNat (over, under)).1, .int (wrt a b times.toNat (over, under)).2])) h := by
  rw [call_eq f_worth [some (.d (.tuple [.int over, .int under, .int times])), some (.d (shr a b)), none, none, none, none] BWorth.a_worth rfl rfl]
  show endF false h (evSs (cfF P (n + 2)) b_worth _ h) = _
  unfold b_worth shr
  obtain ⟨a1, b1⟩ := sh.bits
  obtain ⟨y, key⟩ := forF_cn (α := Option Val) (g := fun x ρ1 h2 => match bindT (.n 5) (.d x) ρ1 with
    | some ρ2 => evSs (cfF P (n + 2)) l_worth_0 ρ2 h2
    | none => .bad) (st := fun j x => [some (.d (.tuple [.int over, .int under, .int times])), some (.d (.tuple [.int a, .int b])), some (.d (.int (wrt a b j (over, under)).1)), some (.d (.int (wrt a b j (over, under)).2)), some (.d (.int times)), x]) (h := h) (lo := 0) times.toNat (fun j x hj => by
      have w := wrt_ok sh o0 o1 u0 u1 cop j
      have hq : wrt a b (j + 1) (over, under) = (low1 ((wrt a b j (over, under)).1 * a) ((wrt a b j (over, under)).2 * b), low2 ((wrt a b j (over, under)).1 * a) ((wrt a b j (over, under)).2 * b)) := rfl
      rw [hq]
      generalize wrt a b j (over, under) = q at *
      have bp : 0 < q.2 * b := Int.mul_pos (by have := w.B0; omega) (by have := sh.b0; omega)
      have tp : 0 ≤ q.1 * a := Int.mul_nonneg w.T0 sh.a0
      have m2 := mul_pw (by have := w.B0; omega) (by have := sh.b0; omega) w.B1 b1
      have w1 : wideMul q.1 a = true := wm_bits (bits3 w.T0 w.T1 (by omega)) (bits_of sh.a0 a1) (by omega)
      have w2 : wideMul q.2 b = true := wm_bits (bits3 (by have := w.B0; omega) w.B1 (by omega)) (bits_of (by have := sh.b0; omega) b1) (by omega)
      have el := e_lowest (P := P) (n := n) (h := h) tp bp (ipw8 m2 (by omega))
      refine ⟨some (.d (.int (0 + j))), ?_⟩
      show evSs (cfF P (n + 2)) l_worth_0 [some (.d (.tuple [.int over, .int under, .int times])), some (.d (.tuple [.int a, .int b])), some (.d (.int q.1)), some (.d (.int q.2)), some (.d (.int times)), some (.d (.int (0 + j)))] h = _
      unfold l_worth_0
      simp [evSs, evS, evE, evEs, evO, evT, evI, itemsF, Res.bd, Res.to, Res.nox, asB, asI, okB, okD, isiF, MP.b2, Cm.ev, end_d, end_n, end_x, dats, dat, datT, pures, on1, on2, on2T, bindT, bindTs, Bi.ev, isCF, ixF, slF, bg1, bg2, bg3, bg4, bg5, bg6, bg7, bg8, bindT, bindTs, O2.ev, at0, at1, w1, w2, el]) none
  have c1 : times.toNat ≤ big := bg (by omega)
  have i0 : wrt a b 0 (over, under) = (over, under) := rfl
  rw [i0] at key
  generalize wrt a b times.toNat (over, under) = r at *
  simp [evSs, evS, evE, evEs, evO, evT, evI, itemsF, Res.bd, Res.to, Res.nox, asB, asI, okB, okD, isiF, MP.b2, Cm.ev, end_d, end_n, end_x, dats, dat, datT, pures, on1, on2, on2T, bindT, bindTs, Bi.ev, isCF, ixF, slF, bg1, bg2, bg3, bg4, bg5, bg6, bg7, bg8, bindT, bindTs, O2.ev, small_of t0 (show times ≤ 1000000 by omega), c1] at key ⊢
  rw [key]
  simp [evSs, evS, evE, evEs, evO, evT, evI, itemsF, Res.bd, Res.to, Res.nox, asB, asI, okB, okD, isiF, MP.b2, Cm.ev, end_d, end_n, end_x, dats, dat, datT, pures, on1, on2, on2T, bindT, bindTs, Bi.ev, isCF, ixF, slF, bg1, bg2, bg3, bg4, bg5, bg6, bg7, bg8]
/-- a ball -/
structure BallN (len : Nat) (c t : Int) : Prop where
  c0 : 0 ≤ c
  c1 : c ≤ len
  t0 : 1 ≤ t
  t1 : t ≤ 99
def balP (c : Int) (w : Bool) (t : Int) : PyData := .tuple [.int c, .str (wst w), .int t]
def st0 (c : Int) (w : Bool) (t : Int) : PS := ⟨c, w, t, 1, 0, []⟩
theorem st0_ok {len : Nat} {c t : Int} {w : Bool} (g : BallN len c t) : POk len 0 0 (st0 c w t) := by
  have h8 : (2 : Int) ^ 8 = 256 := rfl
  have h1 : (2 : Int) ^ 1 = 2 := rfl
  have := g.t1
  exact ⟨g.c0, g.c1, g.t0, by show t < 2 ^ 8; omega, by show (1 : Int) ≤ 1; omega, by show (1 : Int) < 2 ^ 1; omega, by show (0 : Int) ≤ 0; omega, by show (0 : Int) ≤ 0; omega, by show 0 ≤ 0; omega⟩
theorem e_started {n : Nat} {c t : Int} {w : Bool} {x : PyData} {h : Hh} : callF P (n + 1) 67 [.d (balP c w t), .d x] h = .ok (.d ((st0 c w t).pc x)) h := by
  rw [call_eq f_started [some (.d (balP c w t)), some (.d x)] BGo.a_started rfl rfl]
  show endF false h (evSs (cfF P n) b_started _ h) = _
  unfold b_started balP
  simp [evSs, evS, evE, evEs, evO, evT, evI, itemsF, Res.bd, Res.to, Res.nox, asB, asI, okB, okD, isiF, MP.b2, Cm.ev, end_d, end_n, end_x, dats, dat, datT, pures, on1, on2, on2T, bindT, bindTs, Bi.ev, isCF, ixF, slF, bg1, bg2, bg3, bg4, bg5, bg6, bg7, bg8, at0, at1, at2, PS.pc, st0]
theorem e_piece_at [BTold P] {n : Nat} {a b c t : Int} {w : Bool} {ls : List Int} {xs : List Sp} {h : Hh} (sh : ShV a b) (hl : LaneN ls) (g : BallN ls.length c t) (gx : ∀ x ∈ xs, x.Good) (lx : xs.length ≤ 4) :
    callF P (n + 21) 68 [.d (lnP ls), .d (balP c w t), .d (.tuple (xs.map Sp.py)), .d (shr a b)] h = .ok (.d ((runs a b ls xs (st0 c w t)).pc (pt a b))) h := by
  rw [call_eq f_piece_at [some (.d (lnP ls)), some (.d (balP c w t)), some (.d (.tuple (xs.map Sp.py))), some (.d (shr a b)), none] BTold.a_piece_at rfl rfl]
  show endF false h (evSs (cfF P (n + 20)) b_piece_at _ h) = _
  unfold b_piece_at lnP shr
  have e1 := e_started (P := P) (n := n + 19) (c := c) (w := w) (t := t) (x := pt a b) (h := h)
  have e2 := e_runs (P := P) (n := n) (h := h) sh hl gx lx (st0_ok (w := w) g) (by omega) (by omega)
  have e1' : (cfF P (n + 20)).call 67 [.d (balP c w t), .d (.tuple [.tuple [.int 1, .int a, .int b], .tuple [.int 1, .int a, .int b]])] h = .ok (.d ((st0 c w t).pc (pt a b))) h := e1
  simp [evSs, evS, evE, evEs, evO, evT, evI, itemsF, Res.bd, Res.to, Res.nox, asB, asI, okB, okD, isiF, MP.b2, Cm.ev, end_d, end_n, end_x, dats, dat, datT, pures, on1, on2, on2T, bindT, bindTs, Bi.ev, isCF, ixF, slF, bg1, bg2, bg3, bg4, bg5, bg6, bg7, bg8, O2.ev, e1', e2, at0, bg (show 1 + 2 ≤ 10000 by omega)]
/-! ### what is asked of the arguments -/
theorem e_need_ball [BTold P] {n : Nat} {ls : List PyData} {p : PyData} {h : Hh} (hp : noDict p = true) (hq : ∀ ps, p = .tuple ps → ∀ q ∈ ps, noDict q = true) : callF P (n + 3) 70 [.d (.tuple ls), .d p] h = if ballB ls.length p then .ok (.d .none) h else .exc 2 h := by
  rw [call_eq f_need_ball [some (.d (.tuple ls)), some (.d p)] BTold.a_need_ball rfl rfl]
  show endF false h (evSs (cfF P (n + 2)) b_need_ball _ h) = _
  unfold b_need_ball
  have r := e_fits (P := P) (n := n) (ls := ls) (h := h) hp hq
  cases e : ballB ls.length p <;> simp [evSs, evS, evE, evEs, evO, evT, evI, itemsF, Res.bd, Res.to, Res.nox, asB, asI, okB, okD, isiF, MP.b2, Cm.ev, end_d, end_n, end_x, dats, dat, datT, pures, on1, on2, on2T, bindT, bindTs, Bi.ev, isCF, ixF, slF, bg1, bg2, bg3, bg4, bg5, bg6, bg7, bg8, r, e]
theorem e_need_share [BTold P] [BShare P] {n : Nat} {p : PyData} {h : Hh} (hp : noDict p = true) (hq : ∀ ps, p = .tuple ps → ∀ q ∈ ps, noDict q = true) : callF P (n + 3) 71 [.d p] h = if shareB p then .ok (.d .none) h else .exc 3 h := by
  rw [call_eq f_need_share [some (.d p)] BTold.a_need_share rfl rfl]
  show endF false h (evSs (cfF P (n + 2)) b_need_share _ h) = _
  unfold b_need_share
  have r := e_share (P := P) (n := n) (h := h) hp hq
  cases e : shareB p <;> simp [evSs, evS, evE, evEs, evO, evT, evI, itemsF, Res.bd, Res.to, Res.nox, asB, asI, okB, okD, isiF, MP.b2, Cm.ev, end_d, end_n, end_x, dats, dat, datT, pures, on1, on2, on2T, bindT, bindTs, Bi.ev, isCF, ixF, slF, bg1, bg2, bg3, bg4, bg5, bg6, bg7, bg8, r, e]
theorem e_need_script [BTold P] {n d m : Nat} {p : PyData} {h : Hh} (hg : okd d m p = true) (hm : m ≤ 1000) : callF P (n + 5) 72 [.d p] h = if scriptB p then .ok (.d .none) h else .exc 4 h := by
  rw [call_eq f_need_script [some (.d p)] BTold.a_need_script rfl rfl]
  show endF false h (evSs (cfF P (n + 4)) b_need_script _ h) = _
  unfold b_need_script
  have r := e_script (P := P) (n := n) (h := h) hg hm
  cases e : scriptB p <;> simp [evSs, evS, evE, evEs, evO, evT, evI, itemsF, Res.bd, Res.to, Res.nox, asB, asI, okB, okD, isiF, MP.b2, Cm.ev, end_d, end_n, end_x, dats, dat, datT, pures, on1, on2, on2T, bindT, bindTs, Bi.ev, isCF, ixF, slF, bg1, bg2, bg3, bg4, bg5, bg6, bg7, bg8, r, e]
theorem okd_c {d m : Nat} {p : PyData} (h : okd d m p = true) : ∀ ps, p = .tuple ps → ∀ q ∈ ps, noDict q = true := by
  intro ps e q hq
  subst e
  obtain ⟨e, rfl, _, h2⟩ := okd_tup h
  exact okd_nd (h2 q hq)
/-- what need_game tells -/
def gameX (l b s : PyData) : Option Nat := match l with
  | .tuple ls => if laneB (.tuple ls) then (if ballB ls.length b then (if scriptB s then none else some 4) else some 2) else some 1
  | _ => some 1
def outX (o : Option Nat) (h : Hh) : Res Val := match o with
  | none => .ok (.d .none) h
  | some k => .exc k h
theorem e_need_game [BTold P] {n d m : Nat} {l b s : PyData} {h : Hh} (hl : okd d m l = true) (hb : okd d m b = true) (hs : okd d m s = true) (hm : m ≤ 1000) : callF P (n + 6) 73 [.d l, .d b, .d s] h = outX (gameX l b s) h := by
  rw [call_eq f_need_game [some (.d l), some (.d b), some (.d s)] BTold.a_need_game rfl rfl]
  show endF false h (evSs (cfF P (n + 5)) b_need_game _ h) = _
  unfold b_need_game
  have r1 := e_need_lane (P := P) (n := n + 2) (h := h) (okd_nd hl) (okd_c hl)
  cases el : laneB l with
  | false =>
    rw [el] at r1
    have : gameX l b s = some 1 := by
      cases l <;> simp [gameX, el]
    rw [this]
    simp [evSs, evS, evE, evEs, evO, evT, evI, itemsF, Res.bd, Res.to, Res.nox, asB, asI, okB, okD, isiF, MP.b2, Cm.ev, end_d, end_n, end_x, dats, dat, datT, pures, on1, on2, on2T, bindT, bindTs, Bi.ev, isCF, ixF, slF, bg1, bg2, bg3, bg4, bg5, bg6, bg7, bg8, r1, outX]
  | true =>
    rw [el] at r1
    cases l with
    | tuple ls =>
      have r2 := e_need_ball (P := P) (n := n + 2) (ls := ls) (h := h) (okd_nd hb) (okd_c hb)
      have r3 := e_need_script (P := P) (n := n) (h := h) hs hm
      cases eb : ballB ls.length b with
      | false =>
        rw [eb] at r2
        simp [evSs, evS, evE, evEs, evO, evT, evI, itemsF, Res.bd, Res.to, Res.nox, asB, asI, okB, okD, isiF, MP.b2, Cm.ev, end_d, end_n, end_x, dats, dat, datT, pures, on1, on2, on2T, bindT, bindTs, Bi.ev, isCF, ixF, slF, bg1, bg2, bg3, bg4, bg5, bg6, bg7, bg8, r1, r2, gameX, el, eb, outX]
      | true =>
        rw [eb] at r2
        cases es : scriptB s <;> rw [es] at r3 <;> simp [evSs, evS, evE, evEs, evO, evT, evI, itemsF, Res.bd, Res.to, Res.nox, asB, asI, okB, okD, isiF, MP.b2, Cm.ev, end_d, end_n, end_x, dats, dat, datT, pures, on1, on2, on2T, bindT, bindTs, Bi.ev, isCF, ixF, slF, bg1, bg2, bg3, bg4, bg5, bg6, bg7, bg8, r1, r2, r3, gameX, el, eb, es, outX]
    | _ => cases el
def toldX (l b s x : PyData) : Option Nat := match gameX l b s with
  | some k => some k
  | none => if shareB x then none else some 3
theorem e_need_told [BTold P] [BShare P] {n d m : Nat} {l b s x : PyData} {h : Hh} (hl : okd d m l = true) (hb : okd d m b = true) (hs : okd d m s = true) (hx : okd d m x = true) (hm : m ≤ 1000) : callF P (n + 7) 74 [.d l, .d b, .d s, .d x] h = outX (toldX l b s x) h := by
  rw [call_eq f_need_told [some (.d l), some (.d b), some (.d s), some (.d x)] BTold.a_need_told rfl rfl]
  show endF false h (evSs (cfF P (n + 6)) b_need_told _ h) = _
  unfold b_need_told
  have r1 := e_need_game (P := P) (n := n) (h := h) hl hb hs hm
  have r2 := e_need_share (P := P) (n := n + 3) (h := h) (okd_nd hx) (okd_c hx)
  unfold toldX
  cases e : gameX l b s with
  | some k =>
    rw [e] at r1
    simp [evSs, evS, evE, evEs, evO, evT, evI, itemsF, Res.bd, Res.to, Res.nox, asB, asI, okB, okD, isiF, MP.b2, Cm.ev, end_d, end_n, end_x, dats, dat, datT, pures, on1, on2, on2T, bindT, bindTs, Bi.ev, isCF, ixF, slF, bg1, bg2, bg3, bg4, bg5, bg6, bg7, bg8, r1, outX]
  | none =>
    rw [e] at r1
    cases e2 : shareB x <;> rw [e2] at r2 <;> simp [evSs, evS, evE, evEs, evO, evT, evI, itemsF, Res.bd, Res.to, Res.nox, asB, asI, okB, okD, isiF, MP.b2, Cm.ev, end_d, end_n, end_x, dats, dat, datT, pures, on1, on2, on2T, bindT, bindTs, Bi.ev, isCF, ixF, slF, bg1, bg2, bg3, bg4, bg5, bg6, bg7, bg8, r1, r2, outX]
/-- each of the three asks first -/
theorem e_told_x [BTold P] [BShare P] [BEv P] [BBeh P] {n d m k f : Nat} {l b s x : PyData} {h : Hh} (hf : f = 75 ∨ f = 76 ∨ f = 77) (hl : okd d m l = true) (hb : okd d m b = true) (hs : okd d m s = true) (hx : okd d m x = true) (hm : m ≤ 1000) (e : toldX l b s x = some k) : callF P (n + 8) f [.d l, .d b, .d s, .d x] h = .exc k h := by
  have r := e_need_told (P := P) (n := n) (h := h) hl hb hs hx hm
  rw [e] at r
  have r : (cfF P (n + 7)).call 74 [.d l, .d b, .d s, .d x] h = .exc k h := r
  rcases hf with rfl | rfl | rfl
  · rw [call_eq f_events [some (.d l), some (.d b), some (.d s), some (.d x)] BEv.a_events rfl rfl]
    show endF false h (evSs (cfF P (n + 7)) b_events _ h) = _
    unfold b_events
    simp [evSs, evS, evE, evEs, evO, evT, evI, itemsF, Res.bd, Res.to, Res.nox, asB, asI, okB, okD, isiF, MP.b2, Cm.ev, end_d, end_n, end_x, dats, dat, datT, pures, on1, on2, on2T, bindT, bindTs, Bi.ev, isCF, ixF, slF, bg1, bg2, bg3, bg4, bg5, bg6, bg7, bg8, r]
  · rw [call_eq f_ball_behind [some (.d l), some (.d b), some (.d s), some (.d x), none] BBeh.a_ball_behind rfl rfl]
    show endF false h (evSs (cfF P (n + 7)) b_ball_behind _ h) = _
    unfold b_ball_behind
    simp [evSs, evS, evE, evEs, evO, evT, evI, itemsF, Res.bd, Res.to, Res.nox, asB, asI, okB, okD, isiF, MP.b2, Cm.ev, end_d, end_n, end_x, dats, dat, datT, pures, on1, on2, on2T, bindT, bindTs, Bi.ev, isCF, ixF, slF, bg1, bg2, bg3, bg4, bg5, bg6, bg7, bg8, r]
  · rw [call_eq f_form_behind [some (.d l), some (.d b), some (.d s), some (.d x)] BBeh.a_form_behind rfl rfl]
    show endF false h (evSs (cfF P (n + 7)) b_form_behind _ h) = _
    unfold b_form_behind
    simp [evSs, evS, evE, evEs, evO, evT, evI, itemsF, Res.bd, Res.to, Res.nox, asB, asI, okB, okD, isiF, MP.b2, Cm.ev, end_d, end_n, end_x, dats, dat, datT, pures, on1, on2, on2T, bindT, bindTs, Bi.ev, isCF, ixF, slF, bg1, bg2, bg3, bg4, bg5, bg6, bg7, bg8, r]
theorem strOk_wst {w : Bool} : PyData.strOk (wst w) = true := by cases w <;> decide +kernel
theorem Sp1.okd {x : Sp1} : MP.okd 1 3 x.py = true := by
  have a1 : PyData.strOk (Str.ofString "bounce") = true := by decide +kernel
  have a2 : PyData.strOk (Str.ofString "until") = true := by decide +kernel
  have a3 : PyData.strOk (Str.ofString "lift") = true := by decide +kernel
  have a4 : PyData.strOk (Str.ofString "turn") = true := by decide +kernel
  cases x <;> simp [Sp1.py, MP.okd, a1, a2, a3, a4]
theorem Sp.okd {x : Sp} (g : x.Good) : MP.okd 3 4 x.py = true := by
  cases x with
  | one x => exact okd_up (by omega) (by omega) Sp1.okd
  | ifs H xs ys =>
    obtain ⟨_, ⟨lx, gx⟩, ly, gy⟩ := g
    refine okd_mkT (by simp) fun p hp => ?_
    simp only [List.mem_cons, List.not_mem_nil, or_false] at hp
    rcases hp with rfl | rfl | rfl | rfl
    · decide +kernel
    · rfl
    · exact okd_mkT (by simp; omega) fun q hq => by
        obtain ⟨x, _, rfl⟩ := List.mem_map.mp hq
        exact okd_up (by omega) (by omega) Sp1.okd
    · exact okd_mkT (by simp; omega) fun q hq => by
        obtain ⟨x, _, rfl⟩ := List.mem_map.mp hq
        exact okd_up (by omega) (by omega) Sp1.okd
theorem scr_okd {xs : List Sp} (gx : ∀ x ∈ xs, x.Good) (lx : xs.length ≤ 4) : MP.okd 5 10 (.tuple (xs.map Sp.py)) = true :=
  okd_mkT (by simp; omega) fun p hp => by
    obtain ⟨x, hx, rfl⟩ := List.mem_map.mp hp
    exact okd_up (by omega) (by omega) (Sp.okd (gx x hx))
theorem lane_okd {ls : List Int} (hl : LaneN ls) : MP.okd 5 10 (lnP ls) = true :=
  okd_mkT (by have := hl.1; simp; omega) fun p hp => by
    obtain ⟨i, _, rfl⟩ := List.mem_map.mp hp
    rfl
theorem ball_okd {c t : Int} {w : Bool} : MP.okd 5 10 (balP c w t) = true := okd_mkT (by simp) fun p hp => by
  simp only [List.mem_cons, List.not_mem_nil, or_false] at hp
  rcases hp with rfl | rfl | rfl
  · rfl
  · exact strOk_wst
  · rfl
theorem share_okd {a b : Int} : MP.okd 5 10 (shr a b) = true := rfl
theorem Sp1.stepB {x : Sp1} (g : x.Good) (m1 : ∀ m, x = .bn m → 1 ≤ m) (m2 : ∀ H m, x = .un H m → 1 ≤ m) : stepB x.py = true := by
  cases x with
  | bn m =>
    have := m1 m rfl
    have : m ≤ 9 := g
    simp [Sp1.py, MC.stepB, wholeB]
    omega
  | un H m =>
    have := m2 H m rfl
    obtain ⟨g1, g2⟩ := g
    simp [Sp1.py, MC.stepB, wholeB]
    omega
  | li x y =>
    obtain ⟨g1, g2⟩ := g
    simp [Sp1.py, MC.stepB, wholeB]
    omega
  | tu => simp [Sp1.py, MC.stepB]
theorem lane_B {ls : List Int} (hl : LaneN ls) : laneB (lnP ls) = true := by
  simp [lnP, laneB, wholeB]
  exact ⟨hl.1, fun i hi => hl.2 i hi⟩
theorem ball_B {len : Nat} {c t : Int} {w : Bool} (g : BallN len c t) : ballB len (balP c w t) = true := by
  cases w <;> simp [balP, ballB, wholeB, wst, g.c0, g.c1, g.t0, g.t1]
theorem share_B {a b : Int} (sh : ShV a b) : shareB (shr a b) = true := by
  have := sh.ab
  have := sh.a0
  have := sh.b0
  have := sh.b1
  simp [shr, shareB, sh.cp]
  omega
/-- the three, when all is well -/
structure ToldOk (ls : List Int) (a b c t : Int) (xs : List Sp) : Prop where
  sh : ShV a b
  hl : LaneN ls
  g : BallN ls.length c t
  gx : ∀ x ∈ xs, x.Good
  lx : xs.length ≤ 4
  sc : scriptB (.tuple (xs.map Sp.py)) = true
theorem ToldOk.x {ls : List Int} {a b c t : Int} {w : Bool} {xs : List Sp} (o : ToldOk ls a b c t xs) : toldX (lnP ls) (balP c w t) (.tuple (xs.map Sp.py)) (shr a b) = none := by
  have e1 := lane_B o.hl
  have e2 := ball_B (w := w) o.g
  have e3 := share_B o.sh
  unfold toldX
  have : gameX (lnP ls) (balP c w t) (.tuple (xs.map Sp.py)) = none := by
    unfold lnP at e1 ⊢
    simp [gameX, e1, e2, o.sc]
  rw [this]
  simp [e3]
theorem ToldOk.need [BTold P] [BShare P] {n : Nat} {ls : List Int} {a b c t : Int} {w : Bool} {xs : List Sp} {h : Hh} (o : ToldOk ls a b c t xs) : callF P (n + 7) 74 [.d (lnP ls), .d (balP c w t), .d (.tuple (xs.map Sp.py)), .d (shr a b)] h = .ok (.d .none) h := by
  have := e_need_told (P := P) (n := n) (h := h) (lane_okd o.hl) (ball_okd (c := c) (w := w) (t := t)) (scr_okd o.gx o.lx) (share_okd (a := a) (b := b)) (by omega)
  rw [o.x] at this
  exact this
theorem at4 {a b c d e : PyData} {r : List PyData} : atI (a :: b :: c :: d :: e :: r) 4 = some e := by
  have : (4 : Int) < (r.length : Int) + 1 + 1 + 1 + 1 + 1 := by omega
  simp [atI, ixN, this]
theorem cut13 {a b c d e : PyData} : cutF [a, b, c, d, e] (some 1) (some 3) = [b, c] := rfl
theorem e_events [BTold P] [BShare P] [BEv P] {n : Nat} {ls : List Int} {a b c t : Int} {w : Bool} {xs : List Sp} {h : Hh} (o : ToldOk ls a b c t xs) : callF P (n + 22) 75 [.d (lnP ls), .d (balP c w t), .d (.tuple (xs.map Sp.py)), .d (shr a b)] h = .ok (.d (.tuple (runs a b ls xs (st0 c w t)).ev)) h := by
  rw [call_eq f_events [some (.d (lnP ls)), some (.d (balP c w t)), some (.d (.tuple (xs.map Sp.py))), some (.d (shr a b))] BEv.a_events rfl rfl]
  show endF false h (evSs (cfF P (n + 21)) b_events _ h) = _
  unfold b_events
  have r1 := o.need (P := P) (n := n + 14) (w := w) (h := h)
  have r2 := e_piece_at (P := P) (n := n) (w := w) (h := h) o.sh o.hl o.g o.gx o.lx
  unfold PS.pc at r2
  simp [evSs, evS, evE, evEs, evO, evT, evI, itemsF, Res.bd, Res.to, Res.nox, asB, asI, okB, okD, isiF, MP.b2, Cm.ev, end_d, end_n, end_x, dats, dat, datT, pures, on1, on2, on2T, bindT, bindTs, Bi.ev, isCF, ixF, slF, bg1, bg2, bg3, bg4, bg5, bg6, bg7, bg8, r1, r2, at4]
theorem e_form [BTold P] [BShare P] [BBeh P] {n : Nat} {ls : List Int} {a b c t : Int} {w : Bool} {xs : List Sp} {h : Hh} (o : ToldOk ls a b c t xs) : callF P (n + 22) 77 [.d (lnP ls), .d (balP c w t), .d (.tuple (xs.map Sp.py)), .d (shr a b)] h = .ok (.d (.tuple [.int (runs a b ls xs (st0 c w t)).over, .int (runs a b ls xs (st0 c w t)).under, .int (runs a b ls xs (st0 c w t)).times])) h := by
  rw [call_eq f_form_behind [some (.d (lnP ls)), some (.d (balP c w t)), some (.d (.tuple (xs.map Sp.py))), some (.d (shr a b))] BBeh.a_form_behind rfl rfl]
  show endF false h (evSs (cfF P (n + 21)) b_form_behind _ h) = _
  unfold b_form_behind
  have r1 := o.need (P := P) (n := n + 14) (w := w) (h := h)
  have r2 := e_piece_at (P := P) (n := n) (w := w) (h := h) o.sh o.hl o.g o.gx o.lx
  unfold PS.pc at r2
  simp [evSs, evS, evE, evEs, evO, evT, evI, itemsF, Res.bd, Res.to, Res.nox, asB, asI, okB, okD, isiF, MP.b2, Cm.ev, end_d, end_n, end_x, dats, dat, datT, pures, on1, on2, on2T, bindT, bindTs, Bi.ev, isCF, ixF, slF, bg1, bg2, bg3, bg4, bg5, bg6, bg7, bg8, r1, r2, at3]
/-- the law's state at first -/
def ls0 (c : Int) (w : Bool) (t : Int) : LS := ⟨st0 c w t, t, 1⟩
theorem ls0_ok {a b : Int} {len : Nat} {c t : Int} {w : Bool} (g : BallN len c t) : LOk a b len 0 0 (ls0 c w t) := by
  have h8 : (2 : Int) ^ 8 = 256 := rfl
  have := g.t1
  have := g.t0
  exact ⟨st0_ok g, by show Int.gcd t 1 = 1; exact Int.gcd_one_right _, by show 0 ≤ t; omega, by show (1 : Int) ≤ 1; omega, by show t < 2 ^ 8; omega, by show (1 : Int) < 2 ^ 8; omega, by show Int.gcd t 1 = 1; exact Int.gcd_one_right _, by
    show t * (1 * b ^ (0 : Int).toNat) = t * a ^ (0 : Int).toNat * 1
    show t * (1 * b ^ 0) = t * a ^ 0 * 1
    rw [Int.pow_zero, Int.pow_zero, Int.mul_one, Int.mul_one, Int.mul_one]⟩
theorem e_ballb [BTold P] [BShare P] [BBeh P] [BWorth P] {n : Nat} {ls : List Int} {a b c t : Int} {w : Bool} {xs : List Sp} {h : Hh} (o : ToldOk ls a b c t xs) : callF P (n + 22) 76 [.d (lnP ls), .d (balP c w t), .d (.tuple (xs.map Sp.py)), .d (shr a b)] h =
    .ok (.d (.tuple [.int (lruns a b ls xs (ls0 c w t)).s.cell, .str (wst (lruns a b ls xs (ls0 c w t)).s.way), .tuple [.int (lruns a b ls xs (ls0 c w t)).T, .int (lruns a b ls xs (ls0 c w t)).B]])) h := by
  rw [call_eq f_ball_behind [some (.d (lnP ls)), some (.d (balP c w t)), some (.d (.tuple (xs.map Sp.py))), some (.d (shr a b)), none] BBeh.a_ball_behind rfl rfl]
  show endF false h (evSs (cfF P (n + 21)) b_ball_behind _ h) = _
  unfold b_ball_behind
  have r1 := o.need (P := P) (n := n + 14) (w := w) (h := h)
  have r2 := e_piece_at (P := P) (n := n) (w := w) (h := h) o.sh o.hl o.g o.gx o.lx
  obtain ⟨ok, es⟩ := lruns_ok (ss := xs) o.sh o.gx (ls0_ok (a := a) (b := b) (w := w) o.g)
  have e0 : (ls0 c w t).s = st0 c w t := rfl
  rw [e0] at es
  have we := worth_eq o.sh ok (by have := o.lx; omega)
  have c8 := ok.mono (c' := 8) (k' := 72) (by have := o.lx; omega) (by have := o.lx; omega)
  have p1 := ipw (show 8 + 4 * 8 ≤ 208 by omega)
  have p2 := ipw (show 1 + 4 * 8 ≤ 208 by omega)
  have o1 := c8.ok.o1
  have u1 := c8.ok.u1
  have t1 := c8.ok.t1
  have r3 := e_worth (P := P) (n := n + 18) (h := h) (times := (lruns a b ls xs (ls0 c w t)).s.times) o.sh c8.ok.o0 (by omega) c8.ok.u0 (by omega) c8.cop c8.ok.t0 (by omega)
  rw [we] at r3
  rw [← es] at r2
  generalize lruns a b ls xs (ls0 c w t) = q at *
  unfold PS.pc at r2
  simp [evSs, evS, evE, evEs, evO, evT, evI, itemsF, Res.bd, Res.to, Res.nox, asB, asI, okB, okD, isiF, MP.b2, Cm.ev, end_d, end_n, end_x, dats, dat, datT, pures, on1, on2, on2T, bindT, bindTs, Bi.ev, isCF, ixF, slF, bg1, bg2, bg3, bg4, bg5, bg6, bg7, bg8, O2.ev, r1, r2, at3, cut13, r3, bg (show 2 + 1 ≤ 10000 by omega)]
end
end MC
end
section
set_option Elab.async false
set_option linter.all false
set_option maxRecDepth 100000
set_option maxHeartbeats 1000000
/-! the law's own bounces -/
namespace MC
open PySem L2 MP
/-- the names of _law_leap -/
def kρ (ls : List Int) (q : LS) (a b : Int) (w4 o11 o12 o13 : Option Val) : En := [some (.d (lnP ls)), some (.d q.py), some (.d (shr a b)), some (.d (.int q.s.cell)), w4, some (.d (.int q.T)), some (.d (.int q.B)), some (.d (.tuple q.s.ev)), some (.d (.int q.s.over)), some (.d (.int q.s.under)), some (.d (.int q.s.times)), o11, o12, o13]
section
variable {P : Pc} [BBag P] [BLLow P]
theorem e_lshare [BLShare P] {n r : Nat} {h : Hh} (hb : BagAt h r) : Tk r h (fun p => ∃ a b, p = shr a b ∧ ShV a b) (callF P (n + 3) 78 [.ref r] h) := by
  rw [call_eq f__law_share [some (.ref r), none] BLShare.a__law_share rfl rfl]
  show Tk r h _ (endF false h (evSs (cfF P (n + 2)) b__law_share _ h))
  unfold b__law_share
  obtain ⟨p, h1, e1, b1, w, rfl, w0, w1⟩ := e_take (P := P) (n := n + 1) (m := 12) hb (by omega)
  obtain ⟨p, h2, e2, b2, u, rfl, u0, u1⟩ := e_take (P := P) (n := n + 1) (m := 1 + w + 1) (b1.bag hb) (by omega)
  have b12 := b1.trans b2
  have bp : 0 < 1 + w := by omega
  have el := e_llow (P := P) (n := n + 1) (h := h2) u0 bp (ipw8 (j := 8) (by have h8 : (2 : Int) ^ 8 = 256 := rfl; omega) (by omega))
  obtain ⟨l1, l2, l3, l4⟩ := low_nn u0 bp
  have cr := low_cross (t := u) (b := 1 + w)
  have cg := low_gcd (t := u) (b := 1 + w) bp
  refine ⟨shr (low1 u (1 + w)) (low2 u (1 + w)), h2, ?_, b12, _, _, rfl, l1, ?_, by omega, by omega, cg⟩
  · simp [evSs, evS, evE, evEs, evO, evT, evI, itemsF, Res.bd, Res.to, Res.nox, asB, asI, okB, okD, isiF, MP.b2, Cm.ev, end_d, end_n, end_x, dats, dat, datT, pures, on1, on2, on2T, bindT, bindTs, Bi.ev, isCF, ixF, slF, bg1, bg2, bg3, bg4, bg5, bg6, bg7, bg8, O2.ev, e1, e2, el, end_b b12, shr]
  · generalize low1 u (1 + w) = L1 at *
    generalize low2 u (1 + w) = L2 at *
    have h1 : u * L2 ≤ (1 + w) * L2 := Int.mul_le_mul_of_nonneg_right (by omega) (by omega)
    have h2 : L1 * (1 + w) ≤ L2 * (1 + w) := by
      have : (1 + w) * L2 = L2 * (1 + w) := Int.mul_comm ..
      omega
    exact Int.le_of_mul_le_mul_right h2 bp
omit [BBag P] in
theorem e_leap [BLeap P] {n : Nat} {a b : Int} {ls : List Int} {c k : Nat} {q : LS} {h : Hh} (sh : ShV a b) (hl : LaneN ls) (ok : LOk a b ls.length c k q) (hc : c ≤ 40) (hk : k ≤ 100) :
    callF P (n + 2) 79 [.d (lnP ls), .d q.py, .d (shr a b)] h = .ok (.d (lnx a b ls q).py) h := by
  rw [call_eq f__law_leap [some (.d (lnP ls)), some (.d q.py), some (.d (shr a b)), none, none, none, none, none, none, none, none, none, none, none] BLeap.a__law_leap rfl rfl]
  show endF false h (evSs (cfF P (n + 1)) b__law_leap _ h) = _
  unfold b__law_leap
  have le : q.s.ev.length + 1 ≤ big := bg (by have := ok.ok.e1; omega)
  obtain ⟨a1, b1⟩ := sh.bits
  have bp : 0 < q.B * b := Int.mul_pos (by have := ok.B0; omega) (by have := sh.b0; omega)
  have tp : 0 ≤ q.T * a := Int.mul_nonneg ok.T0 sh.a0
  have w1 : wideMul q.T a = true := wm_bits (bits3 ok.T0 ok.T1 (by omega)) (bits_of sh.a0 a1) (by omega)
  have w2 : wideMul q.B b = true := wm_bits (bits3 (by have := ok.B0; omega) ok.B1 (by omega)) (bits_of (by have := sh.b0; omega) b1) (by omega)
  have m2 := mul_pw (by have := ok.B0; omega) (by have := sh.b0; omega) ok.B1 b1
  have el := e_llow (P := P) (n := n) (h := h) tp bp (ipw8 m2 (by omega))
  have ok2 := lnx_ok sh ok
  have th : there q.s = q.s.cell + 1 ∨ there q.s = q.s.cell - 1 := by
    unfold there
    cases q.s.way
    · right; simp
    · left; simp
  obtain ⟨s1, hs1⟩ : ∃ s1 : PS, s1 = { q.s with times := q.s.times + 1 } := ⟨_, rfl⟩
  have hi2 : ∀ H : Int, s1.hi a b H = decide (H * (lnx a b ls q).B ≤ (lnx a b ls q).T) := fun H => by
    rw [← hi_iff sh ok2 H]
    obtain ⟨t1, t2, t3⟩ := bnc_times (a := a) (b := b) (ls := ls) (s := q.s)
    rw [hs1]
    show decide _ = decide (((bnc a b ls q.s).under) * H * b ^ (bnc a b ls q.s).times.toNat ≤ (bnc a b ls q.s).over * a ^ (bnc a b ls q.s).times.toNat)
    rw [t1, t2, t3]
  have gs : goes a b ls q.s = (decide (0 ≤ there q.s) && (decide (there q.s ≤ ls.length) && s1.hi a b (sill ls (if there q.s < q.s.cell then there q.s else q.s.cell)))) := by rw [hs1]; rfl
  have T2 : (lnx a b ls q).T = low1 (q.T * a) (q.B * b) := rfl
  have B2 : (lnx a b ls q).B = low2 (q.T * a) (q.B * b) := rfl
  have nx : lnx a b ls q = ⟨if goes a b ls q.s then { q.s with times := q.s.times + 1, cell := there q.s, ev := q.s.ev ++ [overE (there q.s)] } else { q.s with times := q.s.times + 1, way := !q.s.way, ev := q.s.ev ++ [backE q.s.cell] }, low1 (q.T * a) (q.B * b), low2 (q.T * a) (q.B * b)⟩ := rfl
  have B1b := ok2.B1
  have B0b := ok2.B0
  have T0b := ok2.T0
  rw [T2, B2] at hi2
  rw [B2] at B1b B0b
  rw [T2] at T0b
  rw [nx, gs]
  generalize low1 (q.T * a) (q.B * b) = T' at *
  generalize low2 (q.T * a) (q.B * b) = B' at *
  clear ok2 nx T2 B2 gs
  have st1 : evS (cfF P (n + 1)) (.asg (.t (.cons (.n 3) (.cons (.n 4) (.cons (.t (.cons (.n 5) (.cons (.n 6) .nil))) (.cons (.n 7) (.cons (.t (.cons (.n 8) (.cons (.n 9) (.cons (.n 10) .nil)))) .nil)))))) (.var 1)) [some (.d (lnP ls)), some (.d q.py), some (.d (shr a b)), none, none, none, none, none, none, none, none, none, none, none] h = .nx (kρ ls q a b (some (.d (.str (wst q.s.way)))) none none none) h := by
    simp [evSs, evS, evE, evEs, evO, evT, evI, itemsF, Res.bd, Res.to, Res.nox, asB, asI, okB, okD, isiF, MP.b2, Cm.ev, end_d, end_n, end_x, dats, dat, datT, pures, on1, on2, on2T, bindT, bindTs, Bi.ev, isCF, ixF, slF, bg1, bg2, bg3, bg4, bg5, bg6, bg7, bg8, bindT, bindTs, LS.py, kρ]
  have st2 : evS (cfF P (n + 1)) (.set 11 (.call 42 (.cons (.op .mul (.var 5) (.ix (.var 2) (.int 0))) (.cons (.op .mul (.var 6) (.ix (.var 2) (.int 1))) .nil)))) (kρ ls q a b (some (.d (.str (wst q.s.way)))) none none none) h = .nx (kρ ls q a b (some (.d (.str (wst q.s.way)))) (some (.d (.tuple [.int T', .int B']))) none none) h := by
    simp [evSs, evS, evE, evEs, evO, evT, evI, itemsF, Res.bd, Res.to, Res.nox, asB, asI, okB, okD, isiF, MP.b2, Cm.ev, end_d, end_n, end_x, dats, dat, datT, pures, on1, on2, on2T, bindT, bindTs, Bi.ev, isCF, ixF, slF, bg1, bg2, bg3, bg4, bg5, bg6, bg7, bg8, O2.ev, kρ, shr, at0, at1, w1, w2, el]
  have st3 : evS (cfF P (n + 1)) (.par (.cons (.n 12) (.cons (.n 13) .nil)) (.cons (.op .add (.var 3) (.ifx (.cmp .eq (.var 4) (.str "right")) (.int 1) (.neg (.int 1)))) (.cons (.tup (.cons (.var 8) (.cons (.var 9) (.cons (.op .add (.var 10) (.int 1)) .nil)))) .nil))) (kρ ls q a b (some (.d (.str (wst q.s.way)))) (some (.d (.tuple [.int T', .int B']))) none none) h = .nx (kρ ls q a b (some (.d (.str (wst q.s.way)))) (some (.d (.tuple [.int T', .int B']))) (some (.d (.int (there q.s)))) (some (.d (frm q.s)))) h := by
    have e : evE (cfF P (n + 1)) (.op .add (.var 3) (.ifx (.cmp .eq (.var 4) (.str "right")) (.int 1) (.neg (.int 1)))) (kρ ls q a b (some (.d (.str (wst q.s.way)))) (some (.d (.tuple [.int T', .int B']))) none none) h = .ok (.d (.int (there q.s))) h := by
      unfold kρ there
      simp only [evE, Res.bd, List.getElem?_cons_succ, List.getElem?_cons_zero, on2, dat, okD, MP.b2, wr, Option.map_some, asB, asI, on2T, datT, O2.ev]
      cases q.s.way <;> rfl
    have e2 : evE (cfF P (n + 1)) (.tup (.cons (.var 8) (.cons (.var 9) (.cons (.op .add (.var 10) (.int 1)) .nil)))) (kρ ls q a b (some (.d (.str (wst q.s.way)))) (some (.d (.tuple [.int T', .int B']))) none none) h = .ok (.d (frm q.s)) h := by
      simp [evSs, evS, evE, evEs, evO, evT, evI, itemsF, Res.bd, Res.to, Res.nox, asB, asI, okB, okD, isiF, MP.b2, Cm.ev, end_d, end_n, end_x, dats, dat, datT, pures, on1, on2, on2T, bindT, bindTs, Bi.ev, isCF, ixF, slF, bg1, bg2, bg3, bg4, bg5, bg6, bg7, bg8, O2.ev, kρ, frm]
    simp only [evS, evEs, e, e2, Res.bd, Res.to]
    rfl
  rw [seq_nx st1, seq_nx st2, seq_nx st3]
  have c0 := ok.ok.c0
  have c1 := ok.ok.c1
  have st5 : ∀ o11 o12 o13, evS (cfF P (n + 1)) (.set 4 (.ifx (.cmp .eq (.var 4) (.str "right")) (.str "left") (.str "right"))) (kρ ls q a b (some (.d (.str (wst q.s.way)))) o11 o12 o13) h = .nx (kρ ls q a b (some (.d (.str (wst (!q.s.way))))) o11 o12 o13) h := fun o11 o12 o13 => by
    unfold kρ
    simp only [evS, evE, Res.bd, List.getElem?_cons_succ, List.getElem?_cons_zero, on2, dat, okD, MP.b2, wr, Option.map_some, asB, Res.to]
    cases q.s.way <;> rfl
  by_cases g1 : 0 ≤ there q.s
  · by_cases g2 : there q.s ≤ ls.length
    · have mn0 : 0 ≤ (if q.s.cell < there q.s then q.s.cell else there q.s) := by split <;> omega
      have mn1 : (if q.s.cell < there q.s then q.s.cell else there q.s) < ls.length := by
        split
        · omega
        · omega
      have me : (if there q.s < q.s.cell then there q.s else q.s.cell) = (if q.s.cell < there q.s then q.s.cell else there q.s) := by
        rcases th with z | z
        · rw [if_neg (by omega), if_pos (by omega)]
        · rw [if_pos (by omega), if_neg (by omega)]
      have ma := min_at mn0 mn1
      have si := sill_in hl (if q.s.cell < there q.s then q.s.cell else there q.s)
      rw [me, hi2]
      have w3 : wideMul (sill ls (if q.s.cell < there q.s then q.s.cell else there q.s)) B' = true := wm_bits (bits_of si.1 (show _ < (2 : Int) ^ 8 by have h8 : (2 : Int) ^ 8 = 256 := rfl; omega)) (bits3 (by omega) B1b (by omega)) (by omega)
      generalize there q.s = t at *
      generalize sill ls (if q.s.cell < t then q.s.cell else t) = sl at *
      by_cases g3 : sl * B' ≤ T'
      · simp [evSs, evS, evE, evEs, evO, evT, evI, itemsF, Res.bd, Res.to, Res.nox, asB, asI, okB, okD, isiF, MP.b2, Cm.ev, end_d, end_n, end_x, dats, dat, datT, pures, on1, on2, on2T, bindT, bindTs, Bi.ev, isCF, ixF, slF, bg1, bg2, bg3, bg4, bg5, bg6, bg7, bg8, bindT, bindTs, O2.ev, kρ, lnP, frm, g1, g2, ma, w3, g3, at0, at1, le, LS.py, overE]
      · rw [seq_nx (ρ1 := kρ ls q a b (some (.d (.str (wst q.s.way)))) (some (.d (.tuple [.int T', .int B']))) (some (.d (.int t))) (some (.d (frm q.s)))) (h1 := h) (by simp [evSs, evS, evE, evEs, evO, evT, evI, itemsF, Res.bd, Res.to, Res.nox, asB, asI, okB, okD, isiF, MP.b2, Cm.ev, end_d, end_n, end_x, dats, dat, datT, pures, on1, on2, on2T, bindT, bindTs, Bi.ev, isCF, ixF, slF, bg1, bg2, bg3, bg4, bg5, bg6, bg7, bg8, bindT, bindTs, O2.ev, kρ, lnP, frm, g1, g2, ma, w3, g3, at0, at1]), seq_nx (st5 _ _ _)]
        simp [evSs, evS, evE, evEs, evO, evT, evI, itemsF, Res.bd, Res.to, Res.nox, asB, asI, okB, okD, isiF, MP.b2, Cm.ev, end_d, end_n, end_x, dats, dat, datT, pures, on1, on2, on2T, bindT, bindTs, Bi.ev, isCF, ixF, slF, bg1, bg2, bg3, bg4, bg5, bg6, bg7, bg8, bindT, bindTs, O2.ev, kρ, frm, g1, g2, g3, le, LS.py, backE]
    · rw [seq_nx (ρ1 := kρ ls q a b (some (.d (.str (wst q.s.way)))) (some (.d (.tuple [.int T', .int B']))) (some (.d (.int (there q.s)))) (some (.d (frm q.s)))) (h1 := h) (by simp [evSs, evS, evE, evEs, evO, evT, evI, itemsF, Res.bd, Res.to, Res.nox, asB, asI, okB, okD, isiF, MP.b2, Cm.ev, end_d, end_n, end_x, dats, dat, datT, pures, on1, on2, on2T, bindT, bindTs, Bi.ev, isCF, ixF, slF, bg1, bg2, bg3, bg4, bg5, bg6, bg7, bg8, bindT, bindTs, O2.ev, kρ, lnP, frm, g1, g2]), seq_nx (st5 _ _ _)]
      simp [evSs, evS, evE, evEs, evO, evT, evI, itemsF, Res.bd, Res.to, Res.nox, asB, asI, okB, okD, isiF, MP.b2, Cm.ev, end_d, end_n, end_x, dats, dat, datT, pures, on1, on2, on2T, bindT, bindTs, Bi.ev, isCF, ixF, slF, bg1, bg2, bg3, bg4, bg5, bg6, bg7, bg8, bindT, bindTs, O2.ev, kρ, frm, g1, g2, le, LS.py, backE]
  · rw [seq_nx (ρ1 := kρ ls q a b (some (.d (.str (wst q.s.way)))) (some (.d (.tuple [.int T', .int B']))) (some (.d (.int (there q.s)))) (some (.d (frm q.s)))) (h1 := h) (by simp [evSs, evS, evE, evEs, evO, evT, evI, itemsF, Res.bd, Res.to, Res.nox, asB, asI, okB, okD, isiF, MP.b2, Cm.ev, end_d, end_n, end_x, dats, dat, datT, pures, on1, on2, on2T, bindT, bindTs, Bi.ev, isCF, ixF, slF, bg1, bg2, bg3, bg4, bg5, bg6, bg7, bg8, bindT, bindTs, O2.ev, kρ, lnP, frm, g1]), seq_nx (st5 _ _ _)]
    simp [evSs, evS, evE, evEs, evO, evT, evI, itemsF, Res.bd, Res.to, Res.nox, asB, asI, okB, okD, isiF, MP.b2, Cm.ev, end_d, end_n, end_x, dats, dat, datT, pures, on1, on2, on2T, bindT, bindTs, Bi.ev, isCF, ixF, slF, bg1, bg2, bg3, bg4, bg5, bg6, bg7, bg8, bindT, bindTs, O2.ev, kρ, frm, g1, le, LS.py, backE]
end
end MC
end
section
set_option Elab.async false
set_option linter.all false
set_option maxRecDepth 100000
set_option maxHeartbeats 1000000
/-! the law's own scripts -/
namespace MC
open PySem L2 MP
theorem lit_succ {a b : Int} {ls : List Int} : ∀ (m : Nat) (q : LS), lit a b ls (m + 1) q = lnx a b ls (lit a b ls m q)
  | 0, q => rfl
  | m + 1, q => by
    show lit a b ls (m + 1) (lnx a b ls q) = _
    rw [lit_succ m (lnx a b ls q)]
    rfl
theorem lun_succ {a b H : Int} {ls : List Int} : ∀ (m : Nat) (q : LS), lun a b H ls (m + 1) q = if (lun a b H ls m q).s.hi a b H then lnx a b ls (lun a b H ls m q) else lun a b H ls m q
  | 0, q => rfl
  | m + 1, q => by
    show lun a b H ls (m + 1) (if q.s.hi a b H then lnx a b ls q else q) = _
    rw [lun_succ m]
    rfl
structure R10 where
  o5 : Option Val
  o6 : Option Val
  o7 : Option Val
  o8 : Option Val
  o9 : Option Val
  o10 : Option Val
  o11 : Option Val
  o12 : Option Val
  o13 : Option Val
  o14 : Option Val
theorem ifs_no {c : Cf} {t : E} {a b : Ss} {ρ : En} {h : Hh} (e : evE c t ρ h = .ok (.d (.bool false)) h) : evS c (.ifs t a b) ρ h = evSs c b ρ h := by
  simp only [evS, e, asB, Res.bd, Res.to, Bool.false_eq_true, if_false]
theorem ifs_yes {c : Cf} {t : E} {a b : Ss} {ρ : En} {h : Hh} (e : evE c t ρ h = .ok (.d (.bool true)) h) : evS c (.ifs t a b) ρ h = evSs c a ρ h := by
  simp only [evS, e, asB, Res.bd, Res.to, if_true]
theorem seq1 {c : Cf} {st : S} {ρ ρ1 : En} {h h1 : Hh} (e : evS c st ρ h = .nx ρ1 h1) : evSs c (.cons st .nil) ρ h = .nx ρ1 h1 := by
  rw [seq_nx e]
  rfl
theorem it_r1 {c : Cf} {e : E} {ρ : En} {h : Hh} {mm : Int} (ee : evE c e ρ h = .ok (.d (.int mm)) h) (m0 : 0 ≤ mm) (m1 : mm ≤ 10000) : evI c (.r1 e) ρ h = .ok (rngF 0 mm.toNat) h := by
  have c1 : small mm = true := small_of m0 (by omega)
  have c2 : mm.toNat ≤ big := bg (by omega)
  simp only [evI, ee, asI, Res.bd, c1, decide_eq_true c2, Bool.and_self, if_true]
/-- the names of _law_leapt -/
def eρ (ls : List Int) (q : LS) (steps : PyData) (a b : Int) (st : Option Val) (r : R10) : En := [some (.d (lnP ls)), some (.d q.py), some (.d steps), some (.d (shr a b)), st, r.o5, r.o6, r.o7, r.o8, r.o9, r.o10, r.o11, r.o12, r.o13, r.o14]
/-- the state, taken apart -/
def R10.of (q : LS) (o13 o14 : Option Val) : R10 := ⟨some (.d (.int q.s.cell)), some (.d (.str (wst q.s.way))), some (.d (.int q.T)), some (.d (.int q.B)), some (.d (.tuple q.s.ev)), some (.d (.int q.s.over)), some (.d (.int q.s.under)), some (.d (.int q.s.times)), o13, o14⟩
theorem atL1 {a b : PyData} : atI [a, b] (-1) = some b := by simp [atI, ixN]
theorem atL2 {a b c : PyData} : atI [a, b, c] (-1) = some c := by simp [atI, ixN]
theorem cut25 {a b c d e : PyData} : cutF [a, b, c, d, e] (some 2) none = [c, d, e] := rfl
theorem n16 : ¬ (Str.ofString "bounce" = Str.ofString "if") := by decide +kernel
theorem n17 : ¬ (Str.ofString "until" = Str.ofString "if") := by decide +kernel
theorem n18 : ¬ (Str.ofString "until" = Str.ofString "turn") := by decide +kernel
section
variable {P : Pc} [BLLow P] [BLeap P]
omit [BLLow P] [BLeap P] in
theorem lt_first {c : Cf} {ls : List Int} {q : LS} {steps : PyData} {a b : Int} {st : Option Val} {r : R10} {h : Hh} : evS c (.asg (.t (.cons (.n 5) (.cons (.n 6) (.cons (.t (.cons (.n 7) (.cons (.n 8) .nil))) (.cons (.n 9) (.cons (.t (.cons (.n 10) (.cons (.n 11) (.cons (.n 12) .nil)))) .nil)))))) (.var 1)) (eρ ls q steps a b st r) h = .nx (eρ ls q steps a b st (R10.of q r.o13 r.o14)) h := by
  simp [evSs, evS, evE, evEs, evO, evT, evI, itemsF, Res.bd, Res.to, Res.nox, asB, asI, okB, okD, isiF, MP.b2, Cm.ev, end_d, end_n, end_x, dats, dat, datT, pures, on1, on2, on2T, bindT, bindTs, Bi.ev, isCF, ixF, slF, bg1, bg2, bg3, bg4, bg5, bg6, bg7, bg8, bindT, bindTs, LS.py, eρ, R10.of]
theorem wideH {a b H : Int} {len c k : Nat} {q : LS} (ok : LOk a b len c k q) (hc : c ≤ 40) (hk : k ≤ 100) (H0 : 0 ≤ H) (H1 : H ≤ 99) : wideMul H q.B = true :=
  wm_bits (bits_of H0 (show H < (2 : Int) ^ 8 by have h8 : (2 : Int) ^ 8 = 256 := rfl; omega)) (bits3 (by have := ok.B0; omega) ok.B1 (by omega)) (by omega)
theorem e_lstep1 {n : Nat} {a b : Int} {ls : List Int} {c k : Nat} {x : Sp1} {q : LS} {steps : PyData} {r : R10} {h : Hh} (sh : ShV a b) (hl : LaneN ls) (g : x.Good) (ok : LOk a b ls.length c k q) (hc : c ≤ 38) (hk : k ≤ 90) :
    ∃ r', evSs (cfF P (n + 2)) l__law_leapt_1 (eρ ls q steps a b (some (.d x.py)) r) h = .nx (eρ ls (lrun1 a b ls x q) steps a b (some (.d x.py)) r') h := by
  unfold l__law_leapt_1
  rw [seq_nx lt_first]
  cases x with
  | bn m =>
    have gm : m ≤ 9 := g
    obtain ⟨mm, hmm⟩ : ∃ mm : Int, mm = (m : Int) := ⟨_, rfl⟩
    have em : m = mm.toNat := by omega
    have hpy : (Sp1.bn m).py = .tuple [.str "bounce", .int mm] := by rw [hmm]; rfl
    rw [hpy, show lrun1 a b ls (.bn m) q = lit a b ls mm.toNat q by rw [← em]; rfl]
    have mm0 : 0 ≤ mm := by omega
    have mm9 : mm ≤ 9 := by omega
    clear hpy em hmm g gm
    obtain ⟨y, key⟩ := forF_cn (α := Option Val) (g := fun x ρ1 h2 => match bindT (.n 14) (.d x) ρ1 with
      | some ρ2 => evSs (cfF P (n + 2)) l__law_leapt_0 ρ2 h2
      | none => .bad) (st := fun j x => eρ ls (lit a b ls j q) steps a b (some (.d (PyData.tuple [.str "bounce", .int mm]))) (R10.of q r.o13 x)) (h := h) (lo := 0) mm.toNat (fun j x hj => by
        have e1 := e_leap (P := P) (n := n) (h := h) sh hl (lit_ok sh j ok).1 (by omega) (by omega)
        refine ⟨some (.d (.int (0 + j))), ?_⟩
        show evSs (cfF P (n + 2)) l__law_leapt_0 (eρ ls (lit a b ls j q) steps a b (some (.d (PyData.tuple [.str "bounce", .int mm]))) (R10.of q r.o13 (some (.d (.int (0 + j)))))) h = _
        unfold l__law_leapt_0
        rw [lit_succ]
        generalize lit a b ls j q = q2 at *
        unfold LS.py at e1
        simp [evSs, evS, evE, evEs, evO, evT, evI, itemsF, Res.bd, Res.to, Res.nox, asB, asI, okB, okD, isiF, MP.b2, Cm.ev, end_d, end_n, end_x, dats, dat, datT, pures, on1, on2, on2T, bindT, bindTs, Bi.ev, isCF, ixF, slF, bg1, bg2, bg3, bg4, bg5, bg6, bg7, bg8, O2.ev, eρ, R10.of, at0, at1, at2, sBounce, PyData.eqv, LS.py, e1]) r.o14
    refine ⟨R10.of q r.o13 y, ?_⟩
    have i0 : lit a b ls 0 q = q := rfl
    rw [i0] at key
    have it : evI (cfF P (n + 2)) (.r1 (.ix (.var 4) (.neg (.int 1)))) (eρ ls q steps a b (some (.d (PyData.tuple [.str "bounce", .int mm]))) (R10.of q r.o13 r.o14)) h = .ok (rngF 0 mm.toNat) h := it_r1 (by
      simp only [evE, eρ, Res.bd, asI, List.getElem?_cons_succ, List.getElem?_cons_zero, on2, dat, okD, ixF, atL1]) (by omega) (by omega)
    have ce : ∀ w : Str, SeqAt.shaped (.str w) = true → PyData.eqv (.str "bounce") (.str w) = false → evE (cfF P (n + 2)) (.cmp .eq (.ix (.var 4) (.int 0)) (.str w)) (eρ ls q steps a b (some (.d (PyData.tuple [.str "bounce", .int mm]))) (R10.of q r.o13 r.o14)) h = .ok (.d (.bool false)) h := fun w hw he => by
      simp [evSs, evS, evE, evEs, evO, evT, evI, itemsF, Res.bd, Res.to, Res.nox, asB, asI, okB, okD, isiF, MP.b2, Cm.ev, end_d, end_n, end_x, dats, dat, datT, pures, on1, on2, on2T, bindT, bindTs, Bi.ev, isCF, ixF, slF, bg1, bg2, bg3, bg4, bg5, bg6, bg7, bg8, eρ, at0, sBounce, hw, he]
    have f1 := ce "turn" s1 (by simp [PyData.eqv, n6])
    have f2 := ce "lift" s4 (by simp [PyData.eqv, n8])
    have f3 := ce "if" s7 (by simp [PyData.eqv, n16])
    generalize hE : eρ ls q steps a b (some (.d (PyData.tuple [.str "bounce", .int mm]))) (R10.of q r.o13 r.o14) = E0 at *
    have key2 : evS (cfF P (n + 2)) (.fors (.n 14) (.r1 (.ix (.var 4) (.neg (.int 1)))) l__law_leapt_0) E0 h = .nx (eρ ls (lit a b ls mm.toNat q) steps a b (some (.d (PyData.tuple [.str "bounce", .int mm]))) (R10.of q r.o13 y)) h := by
      simp only [evS, it, Res.to]
      exact key
    exact seq1 ((ifs_no f1).trans (seq1 ((ifs_no f2).trans (seq1 ((ifs_no f3).trans (seq1 key2))))))
  | un H m =>
    obtain ⟨gH, gm⟩ := g
    obtain ⟨mm, hmm⟩ : ∃ mm : Int, mm = (m : Int) := ⟨_, rfl⟩
    have em : m = mm.toNat := by omega
    have hpy : (Sp1.un H m).py = .tuple [.str "until", .int H, .int mm] := by rw [hmm]; rfl
    rw [hpy, show lrun1 a b ls (.un H m) q = lun a b H ls mm.toNat q by rw [← em]; rfl]
    have mm0 : 0 ≤ mm := by omega
    have mm9 : mm ≤ 9 := by omega
    clear hpy em hmm gm
    obtain ⟨y, key⟩ := forF_cn (α := Option Val) (g := fun x ρ1 h2 => match bindT (.n 14) (.d x) ρ1 with
      | some ρ2 => evSs (cfF P (n + 2)) l__law_leapt_0 ρ2 h2
      | none => .bad) (st := fun j x => eρ ls (lun a b H ls j q) steps a b (some (.d (PyData.tuple [.str "until", .int H, .int mm]))) (R10.of q r.o13 x)) (h := h) (lo := 0) mm.toNat (fun j x hj => by
        have ok2 := (lun_ok (H := H) sh j ok).1
        have e1 := e_leap (P := P) (n := n) (h := h) sh hl ok2 (by omega) (by omega)
        have hi := hi_iff sh ok2 H
        have wH := wideH ok2 (by omega) (by omega) (show 0 ≤ H by omega) gH.2
        refine ⟨some (.d (.int (0 + j))), ?_⟩
        show evSs (cfF P (n + 2)) l__law_leapt_0 (eρ ls (lun a b H ls j q) steps a b (some (.d (PyData.tuple [.str "until", .int H, .int mm]))) (R10.of q r.o13 (some (.d (.int (0 + j)))))) h = _
        unfold l__law_leapt_0
        rw [lun_succ, hi]
        generalize lun a b H ls j q = q2 at *
        unfold LS.py at e1
        by_cases c : H * q2.B ≤ q2.T
        · rw [if_pos (decide_eq_true c)]
          simp [evSs, evS, evE, evEs, evO, evT, evI, itemsF, Res.bd, Res.to, Res.nox, asB, asI, okB, okD, isiF, MP.b2, Cm.ev, end_d, end_n, end_x, dats, dat, datT, pures, on1, on2, on2T, bindT, bindTs, Bi.ev, isCF, ixF, slF, bg1, bg2, bg3, bg4, bg5, bg6, bg7, bg8, O2.ev, eρ, R10.of, at0, at1, at2, sBounce, s3, PyData.eqv, n13, LS.py, wH, c, e1]
        · rw [if_neg (by simpa using c)]
          simp [evSs, evS, evE, evEs, evO, evT, evI, itemsF, Res.bd, Res.to, Res.nox, asB, asI, okB, okD, isiF, MP.b2, Cm.ev, end_d, end_n, end_x, dats, dat, datT, pures, on1, on2, on2T, bindT, bindTs, Bi.ev, isCF, ixF, slF, bg1, bg2, bg3, bg4, bg5, bg6, bg7, bg8, O2.ev, eρ, R10.of, at0, at1, at2, sBounce, s3, PyData.eqv, n13, LS.py, wH, c]) r.o14
    refine ⟨R10.of q r.o13 y, ?_⟩
    have i0 : lun a b H ls 0 q = q := rfl
    rw [i0] at key
    have it : evI (cfF P (n + 2)) (.r1 (.ix (.var 4) (.neg (.int 1)))) (eρ ls q steps a b (some (.d (PyData.tuple [.str "until", .int H, .int mm]))) (R10.of q r.o13 r.o14)) h = .ok (rngF 0 mm.toNat) h := it_r1 (by
      simp only [evE, eρ, Res.bd, asI, List.getElem?_cons_succ, List.getElem?_cons_zero, on2, dat, okD, ixF, atL2]) (by omega) (by omega)
    have ce : ∀ w : Str, SeqAt.shaped (.str w) = true → PyData.eqv (.str "until") (.str w) = false → evE (cfF P (n + 2)) (.cmp .eq (.ix (.var 4) (.int 0)) (.str w)) (eρ ls q steps a b (some (.d (PyData.tuple [.str "until", .int H, .int mm]))) (R10.of q r.o13 r.o14)) h = .ok (.d (.bool false)) h := fun w hw he => by
      simp [evSs, evS, evE, evEs, evO, evT, evI, itemsF, Res.bd, Res.to, Res.nox, asB, asI, okB, okD, isiF, MP.b2, Cm.ev, end_d, end_n, end_x, dats, dat, datT, pures, on1, on2, on2T, bindT, bindTs, Bi.ev, isCF, ixF, slF, bg1, bg2, bg3, bg4, bg5, bg6, bg7, bg8, eρ, at0, s3, hw, he]
    have f1 := ce "turn" s1 (by simp [PyData.eqv, n18])
    have f2 := ce "lift" s4 (by simp [PyData.eqv, n1])
    have f3 := ce "if" s7 (by simp [PyData.eqv, n17])
    generalize hE : eρ ls q steps a b (some (.d (PyData.tuple [.str "until", .int H, .int mm]))) (R10.of q r.o13 r.o14) = E0 at *
    have key2 : evS (cfF P (n + 2)) (.fors (.n 14) (.r1 (.ix (.var 4) (.neg (.int 1)))) l__law_leapt_0) E0 h = .nx (eρ ls (lun a b H ls mm.toNat q) steps a b (some (.d (PyData.tuple [.str "until", .int H, .int mm]))) (R10.of q r.o13 y)) h := by
      simp only [evS, it, Res.to]
      exact key
    exact seq1 ((ifs_no f1).trans (seq1 ((ifs_no f2).trans (seq1 ((ifs_no f3).trans (seq1 key2))))))
  | tu =>
    refine ⟨R10.of q r.o13 r.o14, ?_⟩
    have wr2 : Cm.ev .eq (.str (wst q.s.way)) (.str "right") = some q.s.way := wr
    have nx : lrun1 a b ls .tu q = ⟨{ q.s with way := !q.s.way }, q.T, q.B⟩ := rfl
    rw [nx]
    cases hw : q.s.way <;> rw [hw] at wr2 <;> simp [evSs, evS, evE, evEs, evO, evT, evI, itemsF, Res.bd, Res.to, Res.nox, asB, asI, okB, okD, isiF, MP.b2, Cm.ev, end_d, end_n, end_x, dats, dat, datT, pures, on1, on2, on2T, bindT, bindTs, Bi.ev, isCF, ixF, slF, bg1, bg2, bg3, bg4, bg5, bg6, bg7, bg8, O2.ev, eρ, R10.of, Sp1.py, at0, s1, PyData.eqv, LS.py, cut25, hw, wst, sRight, sLeft, nLR, bg (show 2 + 3 ≤ 10000 by omega)]
  | li x y =>
    obtain ⟨⟨x0, x1⟩, y0, y1⟩ := g
    have h8 : (2 : Int) ^ 8 = 256 := rfl
    have x2 : x.natAbs < 2 ^ 8 := bits_of (by omega) (by omega)
    have y2 : y.natAbs < 2 ^ 8 := bits_of (by omega) (by omega)
    have o2 := pw8 (by have := ok.ok.o0; omega) ok.ok.o1 (by omega) (show c ≤ 50 by omega)
    have u2 := pw8 (by have := ok.ok.u0; omega) ok.ok.u1 (by omega) (show c ≤ 50 by omega)
    have w1 : wideMul q.s.over x = true := wm_bits o2 x2 (by omega)
    have w2 : wideMul q.s.under y = true := wm_bits u2 y2 (by omega)
    have w3 : wideMul q.T x = true := wm_bits (bits3 ok.T0 ok.T1 (by omega)) x2 (by omega)
    have w4 : wideMul q.B y = true := wm_bits (bits3 (by have := ok.B0; omega) ok.B1 (by omega)) y2 (by omega)
    have op : 0 < q.s.over * x := Int.mul_pos (by have := ok.ok.o0; omega) (by omega)
    have up : 0 < q.s.under * y := Int.mul_pos (by have := ok.ok.u0; omega) (by omega)
    have bp : 0 < q.B * y := Int.mul_pos (by have := ok.B0; omega) (by omega)
    have tp : 0 ≤ q.T * x := Int.mul_nonneg ok.T0 (by omega)
    have e1 := e_llow (P := P) (n := n + 1) (h := h) (show 0 ≤ q.s.over * x by omega) up (ipw8 (mul_pw (show 0 ≤ q.s.under by have := ok.ok.u0; omega) (show 0 ≤ y by omega) ok.ok.u1 (show y < 2 ^ 8 by omega)) (by omega))
    have e2 := e_llow (P := P) (n := n + 1) (h := h) tp bp (ipw8 (mul_pw (show 0 ≤ q.B by have := ok.B0; omega) (show 0 ≤ y by omega) ok.B1 (show y < 2 ^ 8 by omega)) (by omega))
    have nx : lrun1 a b ls (.li x y) q = lli x y q := rfl
    rw [nx]
    refine ⟨R10.of q (some (.d (.tuple [.int (low1 (q.s.over * x) (q.s.under * y)), .int (low2 (q.s.over * x) (q.s.under * y)), .int q.s.times]))) r.o14, ?_⟩
    simp [evSs, evS, evE, evEs, evO, evT, evI, itemsF, Res.bd, Res.to, Res.nox, asB, asI, okB, okD, isiF, MP.b2, Cm.ev, end_d, end_n, end_x, dats, dat, datT, pures, on1, on2, on2T, bindT, bindTs, Bi.ev, isCF, ixF, slF, bg1, bg2, bg3, bg4, bg5, bg6, bg7, bg8, O2.ev, eρ, R10.of, Sp1.py, at0, at1, at2, s1, s4, PyData.eqv, n15, LS.py, lli, w1, w2, w3, w4, e1, e2, bg (show 2 + 1 ≤ 10000 by omega)]
/-- over a list of steps -/
theorem lt_loop {α : Type} {n : Nat} {a b : Int} {ls : List Int} {py : α → PyData} {rn : α → LS → LS} {w : Nat} {steps : PyData} {h : Hh} {big1 big2 : Nat} : ∀ {us : List α} {c k : Nat} {q : LS} {x4 : Option Val} {r : R10},
    (∀ x ∈ us, ∀ (c k : Nat) (q : LS) (r : R10), LOk a b ls.length c k q → c ≤ big1 → k ≤ big2 → (∃ r', evSs (cfF P n) l__law_leapt_1 (eρ ls q steps a b (some (.d (py x))) r) h = .nx (eρ ls (rn x q) steps a b (some (.d (py x))) r') h) ∧ LOk a b ls.length (c + w) (k + 9 * w) (rn x q)) →
    LOk a b ls.length c k q → c + w * us.length ≤ big1 → k + 9 * w * us.length ≤ big2 → ∃ y4 r', forF (fun x ρ1 h2 => match bindT (.n 4) (.d x) ρ1 with
      | some ρ2 => evSs (cfF P n) l__law_leapt_1 ρ2 h2
      | none => .bad) (us.map py) (eρ ls q steps a b x4 r) h = .nx (eρ ls (us.foldl (fun s x => rn x s) q) steps a b y4 r') h
  | [], c, k, q, x4, r, _, _, _, _ => ⟨x4, r, rfl⟩
  | u :: us, c, k, q, x4, r, hs, ok, hc, hk => by
    have m1 : w * (us.length + 1) = w * us.length + w := Nat.mul_succ ..
    have m2 : 9 * w * (us.length + 1) = 9 * w * us.length + 9 * w := Nat.mul_succ ..
    simp only [List.length_cons] at hc hk
    obtain ⟨⟨r1, e1⟩, ok2⟩ := hs u List.mem_cons_self c k q r ok (by omega) (by omega)
    obtain ⟨y4, r2, e2⟩ := lt_loop (n := n) (h := h) (x4 := some (.d (py u))) (r := r1) (fun x hx => hs x (List.mem_cons_of_mem _ hx)) ok2 (by omega) (by omega)
    refine ⟨y4, r2, ?_⟩
    rw [List.foldl_cons, ← e2, List.map_cons]
    show (match evSs (cfF P n) l__law_leapt_1 (eρ ls q steps a b (some (.d (py u))) r) h with
      | .nx ρ1 h1 => forF _ (us.map py) ρ1 h1
      | .ct ρ1 h1 => forF _ (us.map py) ρ1 h1
      | .bk ρ1 h1 => .nx ρ1 h1
      | r => r) = _
    rw [e1]
theorem e_leapt {α : Type} {n : Nat} {a b : Int} {ls : List Int} {py : α → PyData} {rn : α → LS → LS} {w : Nat} {h : Hh} {big1 big2 : Nat} {us : List α} {c k : Nat} {q : LS}
    (hs : ∀ x ∈ us, ∀ (c k : Nat) (q : LS) (r : R10), LOk a b ls.length c k q → c ≤ big1 → k ≤ big2 → (∃ r', evSs (cfF P n) l__law_leapt_1 (eρ ls q (.tuple (us.map py)) a b (some (.d (py x))) r) h = .nx (eρ ls (rn x q) (.tuple (us.map py)) a b (some (.d (py x))) r') h) ∧ LOk a b ls.length (c + w) (k + 9 * w) (rn x q))
    (ok : LOk a b ls.length c k q) (hc : c + w * us.length ≤ big1) (hk : k + 9 * w * us.length ≤ big2) :
    callF P (n + 1) 80 [.d (lnP ls), .d q.py, .d (.tuple (us.map py)), .d (shr a b)] h = .ok (.d (us.foldl (fun s x => rn x s) q).py) h := by
  rw [call_eq f__law_leapt [some (.d (lnP ls)), some (.d q.py), some (.d (.tuple (us.map py))), some (.d (shr a b)), none, none, none, none, none, none, none, none, none, none, none] BLeap.a__law_leapt rfl rfl]
  show endF false h (evSs (cfF P n) b__law_leapt (eρ ls q (.tuple (us.map py)) a b none ⟨none, none, none, none, none, none, none, none, none, none⟩) h) = _
  unfold b__law_leapt
  obtain ⟨y4, r', e⟩ := lt_loop (P := P) (x4 := none) (r := ⟨none, none, none, none, none, none, none, none, none, none⟩) hs ok hc hk
  have it : evI (cfF P n) (.e (.var 2)) (eρ ls q (.tuple (us.map py)) a b none ⟨none, none, none, none, none, none, none, none, none, none⟩) h = .ok (us.map py) h := by
    simp [evSs, evS, evE, evEs, evO, evT, evI, itemsF, Res.bd, Res.to, Res.nox, asB, asI, okB, okD, isiF, MP.b2, Cm.ev, end_d, end_n, end_x, dats, dat, datT, pures, on1, on2, on2T, bindT, bindTs, Bi.ev, isCF, ixF, slF, bg1, bg2, bg3, bg4, bg5, bg6, bg7, bg8, eρ]
  have st : evS (cfF P n) (.fors (.n 4) (.e (.var 2)) l__law_leapt_1) (eρ ls q (.tuple (us.map py)) a b none ⟨none, none, none, none, none, none, none, none, none, none⟩) h = .nx (eρ ls (us.foldl (fun s x => rn x s) q) (.tuple (us.map py)) a b y4 r') h := by
    simp only [evS, it, Res.to]
    exact e
  rw [seq_nx st]
  simp [evSs, evS, evE, evEs, evO, evT, evI, itemsF, Res.bd, Res.to, Res.nox, asB, asI, okB, okD, isiF, MP.b2, Cm.ev, end_d, end_n, end_x, dats, dat, datT, pures, on1, on2, on2T, bindT, bindTs, Bi.ev, isCF, ixF, slF, bg1, bg2, bg3, bg4, bg5, bg6, bg7, bg8, eρ]
theorem e_lstepP {n : Nat} {a b : Int} {ls : List Int} {c k : Nat} {x : Sp} {q : LS} {steps : PyData} {r : R10} {h : Hh} (sh : ShV a b) (hl : LaneN ls) (g : x.Good) (ok : LOk a b ls.length c k q) (hc : c ≤ 30) (hk : k ≤ 72) :
    ∃ r', evSs (cfF P (n + 3)) l__law_leapt_1 (eρ ls q steps a b (some (.d x.py)) r) h = .nx (eρ ls (lrun a b ls x q) steps a b (some (.d x.py)) r') h := by
  cases x with
  | one x => exact e_lstep1 (P := P) (n := n + 1) (h := h) (x := x) sh hl g ok (by omega) (by omega)
  | ifs H xs ys =>
    obtain ⟨⟨H0, H1⟩, ⟨lx, gx⟩, ly, gy⟩ := g
    have ax : (cfF P (n + 3)).call 80 [.d (lnP ls), .d q.py, .d (.tuple (xs.map Sp1.py)), .d (shr a b)] h = .ok (.d (lruns1 a b ls xs q).py) h :=
      e_leapt (P := P) (n := n + 2) (w := 1) (big1 := 38) (big2 := 90) (rn := fun x q => lrun1 a b ls x q) (fun x hx c k q r ok hc hk => ⟨e_lstep1 (P := P) (n := n) sh hl (gx x hx) ok hc hk, (lrun1_ok sh (gx x hx) ok).1⟩) ok (by omega) (by omega)
    have ay : (cfF P (n + 3)).call 80 [.d (lnP ls), .d q.py, .d (.tuple (ys.map Sp1.py)), .d (shr a b)] h = .ok (.d (lruns1 a b ls ys q).py) h :=
      e_leapt (P := P) (n := n + 2) (w := 1) (big1 := 38) (big2 := 90) (rn := fun x q => lrun1 a b ls x q) (fun x hx c k q r ok hc hk => ⟨e_lstep1 (P := P) (n := n) sh hl (gy x hx) ok hc hk, (lrun1_ok sh (gy x hx) ok).1⟩) ok (by omega) (by omega)
    unfold l__law_leapt_1
    rw [seq_nx lt_first]
    refine ⟨R10.of q r.o13 r.o14, ?_⟩
    have wH := wideH ok (by omega) (by omega) (show 0 ≤ H by omega) H1
    have hi := hi_iff sh ok H
    have rn : lrun a b ls (.ifs H xs ys) q = if q.s.hi a b H then lruns1 a b ls xs q else lruns1 a b ls ys q := rfl
    rw [rn, hi]
    by_cases cc : H * q.B ≤ q.T
    · rw [if_pos (decide_eq_true cc)]
      simp [evSs, evS, evE, evEs, evO, evT, evI, itemsF, Res.bd, Res.to, Res.nox, asB, asI, okB, okD, isiF, MP.b2, Cm.ev, end_d, end_n, end_x, dats, dat, datT, pures, on1, on2, on2T, bindT, bindTs, Bi.ev, isCF, ixF, slF, bg1, bg2, bg3, bg4, bg5, bg6, bg7, bg8, O2.ev, eρ, R10.of, Sp.py, at0, at1, at2, at3, s1, s4, s7, PyData.eqv, n11, n12, wH, cc, ax]
    · rw [if_neg (by simpa using cc)]
      simp [evSs, evS, evE, evEs, evO, evT, evI, itemsF, Res.bd, Res.to, Res.nox, asB, asI, okB, okD, isiF, MP.b2, Cm.ev, end_d, end_n, end_x, dats, dat, datT, pures, on1, on2, on2T, bindT, bindTs, Bi.ev, isCF, ixF, slF, bg1, bg2, bg3, bg4, bg5, bg6, bg7, bg8, O2.ev, eρ, R10.of, Sp.py, at0, at1, at2, at3, s1, s4, s7, PyData.eqv, n11, n12, wH, cc, ay]
theorem e_lruns {n : Nat} {a b c t : Int} {w : Bool} {ls : List Int} {xs : List Sp} {h : Hh} (o : ToldOk ls a b c t xs) :
    callF P (n + 4) 80 [.d (lnP ls), .d (ls0 c w t).py, .d (.tuple (xs.map Sp.py)), .d (shr a b)] h = .ok (.d (lruns a b ls xs (ls0 c w t)).py) h :=
  e_leapt (P := P) (n := n + 3) (w := 2) (big1 := 30) (big2 := 72) (rn := fun x q => lrun a b ls x q) (fun x hx c k q r ok hc hk => ⟨e_lstepP (P := P) (n := n) o.sh o.hl (o.gx x hx) ok hc hk, (lrun_ok o.sh (o.gx x hx) ok).1⟩) (ls0_ok o.g) (by have := o.lx; omega) (by have := o.lx; omega)
end
end MC
end
section
set_option Elab.async false
set_option linter.all false
set_option maxRecDepth 100000
set_option maxHeartbeats 1000000
/-! the law's own powers, floors, roots -/
namespace MC
open PySem L2 MP
class BLRoot (P : Pc) : Prop where
  a__law_power : P.fns 43 = some f__law_power
  a__law_floor : P.fns 44 = some f__law_floor
  a__law_root : P.fns 45 = some f__law_root
  a__law_before : P.fns 46 = some f__law_before
section
variable {P : Pc}
theorem e_lpow [BLRoot P] {n : Nat} {b kk : Int} {m : Nat} {h : Hh} (hb : b.natAbs < 2 ^ m) (h0 : 0 ≤ kk) (hm : m * kk.toNat + m + 2 ≤ 1000000) (hk : kk ≤ 10000) : callF P (n + 1) 43 [.d (.int b), .d (.int kk)] h = .ok (.d (.int (b ^ kk.toNat))) h := by
  rw [call_eq f__law_power [some (.d (.int b)), some (.d (.int kk)), none, none] BLRoot.a__law_power rfl rfl]
  show endF false h (evSs (cfF P n) b__law_power _ h) = _
  unfold b__law_power
  obtain ⟨y, key⟩ := forF_cnt (g := fun x ρ1 h2 => match bindT (.n 3) (.d x) ρ1 with
    | some ρ2 => evSs (cfF P n) l__law_power_0 ρ2 h2
    | none => .bad) (st := fun j x => [some (.d (.int b)), some (.d (.int kk)), some (.d (.int (b ^ j))), x]) (h := h) (lo := 0) kk.toNat (fun j x hj => by
      have w : wideMul (b ^ j) b = true := wm_bits (pow_bits hb j) hb (by
        have := Nat.mul_le_mul_left m (Nat.le_of_lt hj)
        omega)
      refine ⟨some (.d (.int (0 + j))), ?_⟩
      show evSs (cfF P n) l__law_power_0 [some (.d (.int b)), some (.d (.int kk)), some (.d (.int (b ^ j))), some (.d (.int (0 + j)))] h = _
      unfold l__law_power_0
      simp [evSs, evS, evE, evEs, evO, evT, evI, itemsF, Res.bd, Res.to, Res.nox, asB, asI, okB, okD, isiF, MP.b2, Cm.ev, end_d, end_n, end_x, dats, dat, datT, pures, on1, on2, on2T, bindT, bindTs, Bi.ev, isCF, ixF, slF, bg1, bg2, bg3, bg4, bg5, bg6, bg7, bg8, O2.ev, w, Int.pow_succ]) none
  have c2 : kk.toNat ≤ big := bg (by omega)
  generalize b ^ kk.toNat = r at key ⊢
  simp [evSs, evS, evE, evEs, evO, evT, evI, itemsF, Res.bd, Res.to, Res.nox, asB, asI, okB, okD, isiF, MP.b2, Cm.ev, end_d, end_n, end_x, dats, dat, datT, pures, on1, on2, on2T, bindT, bindTs, Bi.ev, isCF, ixF, slF, bg1, bg2, bg3, bg4, bg5, bg6, bg7, bg8, O2.ev, small_of h0 (show kk ≤ 1000000 by omega), c2] at key ⊢
  rw [key]
  simp [evSs, evS, evE, evEs, evO, evT, evI, itemsF, Res.bd, Res.to, Res.nox, asB, asI, okB, okD, isiF, MP.b2, Cm.ev, end_d, end_n, end_x, dats, dat, datT, pures, on1, on2, on2T, bindT, bindTs, Bi.ev, isCF, ixF, slF, bg1, bg2, bg3, bg4, bg5, bg6, bg7, bg8]
/-! ### floors -/
theorem ipow_lt_iff {a b : Int} {d : Nat} (h0 : 0 ≤ a) (h1 : 0 ≤ b) (h : a ^ d < b ^ d) : a < b := by
  rcases Int.lt_or_le a b with z | z
  · exact z
  · have := ipow_le h1 z d
    omega
theorem p2 {m : Nat} : (0 : Int) < 2 ^ m := Int.pow_pos (by omega)
theorem p2_le {a b : Nat} (h : a ≤ b) : (2 : Int) ^ a ≤ 2 ^ b := by
  have := Nat.pow_le_pow_right (n := 2) (by omega) h
  have : ((2 ^ a : Nat) : Int) ≤ ((2 ^ b : Nat) : Int) := Int.ofNat_le.mpr this
  rw [Int.natCast_pow, Int.natCast_pow] at this
  exact this
theorem floor_up [BLRoot P] {n : Nat} {N d : Int} {m : Nat} {h : Hh} (hN : 0 ≤ N) (hd : 1 ≤ d) (hd2 : d ≤ 1000) (hb : N < (2 ^ m) ^ d.toNat) (hm : (m + 2) * d.toNat + m + 8 ≤ 900000) {x3 x4 : Option Val} : ∀ (k j : Nat) {f : Nat}, j + k = m → k + 1 ≤ f →
    ∃ i : Nat, i ≤ m ∧ whlF (evE (cfF P (n + 1)) (.cmp .le (.call 43 (.cons (.var 2) (.cons (.var 1) .nil))) (.var 0))) (evSs (cfF P (n + 1)) l__law_floor_0) f [some (.d (.int N)), some (.d (.int d)), some (.d (.int (2 ^ j))), x3, x4] h = .nx [some (.d (.int N)), some (.d (.int d)), some (.d (.int (2 ^ i))), x3, x4] h ∧ N < (2 ^ i) ^ d.toNat := by
  intro k
  induction k with
  | zero =>
    intro j f hj hf
    obtain ⟨f, rfl⟩ : ∃ g, f = g + 1 := ⟨f - 1, by omega⟩
    have : j = m := by omega
    subst this
    have ep := e_lpow (P := P) (n := n) (h := h) (b := 2 ^ j) (kk := d) (m := j + 1) (bits_of (Int.le_of_lt p2) (by rw [Int.pow_succ]; have := p2 (m := j); omega)) (by omega) (by
      have := Nat.mul_le_mul_right d.toNat (show j + 1 ≤ j + 2 by omega)
      omega) (by omega)
    have c : ¬ (2 ^ j) ^ d.toNat ≤ N := by omega
    refine ⟨j, Nat.le_refl _, ?_, hb⟩
    generalize (2 : Int) ^ j = X at *
    simp [whlF, evSs, evS, evE, evEs, evO, evT, evI, itemsF, Res.bd, Res.to, Res.nox, asB, asI, okB, okD, isiF, MP.b2, Cm.ev, end_d, end_n, end_x, dats, dat, datT, pures, on1, on2, on2T, bindT, bindTs, Bi.ev, isCF, ixF, slF, bg1, bg2, bg3, bg4, bg5, bg6, bg7, bg8, ep, c]
  | succ k ih =>
    intro j f hj hf
    obtain ⟨f, rfl⟩ : ∃ g, f = g + 1 := ⟨f - 1, by omega⟩
    have ep := e_lpow (P := P) (n := n) (h := h) (b := 2 ^ j) (kk := d) (m := j + 1) (bits_of (Int.le_of_lt p2) (by rw [Int.pow_succ]; have := p2 (m := j); omega)) (by omega) (by
      have := Nat.mul_le_mul_right d.toNat (show j + 1 ≤ m + 2 by omega)
      omega) (by omega)
    by_cases c : (2 ^ j) ^ d.toNat ≤ N
    · obtain ⟨i, hi, e, r⟩ := ih (j + 1) (f := f) (by omega) (by omega)
      refine ⟨i, hi, ?_, r⟩
      rw [← e]
      have hp : (2 : Int) ^ (j + 1) = 2 * 2 ^ j := by rw [Int.pow_succ]; omega
      have w : wideMul 2 (2 ^ j) = true := wm_bits (a := 2) (b := j + 1) (by decide) (bits_of (Int.le_of_lt p2) (by rw [Int.pow_succ]; have := p2 (m := j); omega)) (by omega)
      rw [hp]
      simp only [whlF]
      generalize (2 : Int) ^ j = X at *
      simp [evSs, evS, evE, evEs, evO, evT, evI, itemsF, Res.bd, Res.to, Res.nox, asB, asI, okB, okD, isiF, MP.b2, Cm.ev, end_d, end_n, end_x, dats, dat, datT, pures, on1, on2, on2T, bindT, bindTs, Bi.ev, isCF, ixF, slF, bg1, bg2, bg3, bg4, bg5, bg6, bg7, bg8, ep, c, l__law_floor_0, O2.ev, w]
    · refine ⟨j, by omega, ?_, by omega⟩
      generalize (2 : Int) ^ j = X at *
      simp [whlF, evSs, evS, evE, evEs, evO, evT, evI, itemsF, Res.bd, Res.to, Res.nox, asB, asI, okB, okD, isiF, MP.b2, Cm.ev, end_d, end_n, end_x, dats, dat, datT, pures, on1, on2, on2T, bindT, bindTs, Bi.ev, isCF, ixF, slF, bg1, bg2, bg3, bg4, bg5, bg6, bg7, bg8, ep, c]
theorem fl_cond {c : Cf} {N d low high : Int} {x4 : Option Val} {h : Hh} : evE c (.cmp .gt (.op .sub (.var 2) (.var 3)) (.int 1)) [some (.d (.int N)), some (.d (.int d)), some (.d (.int high)), some (.d (.int low)), x4] h = .ok (.d (.bool (decide (1 < high - low)))) h := by
  simp [evSs, evS, evE, evEs, evO, evT, evI, itemsF, Res.bd, Res.to, Res.nox, asB, asI, okB, okD, isiF, MP.b2, Cm.ev, end_d, end_n, end_x, dats, dat, datT, pures, on1, on2, on2T, bindT, bindTs, Bi.ev, isCF, ixF, slF, bg1, bg2, bg3, bg4, bg5, bg6, bg7, bg8, O2.ev]
theorem fl_body {c : Cf} {N d low high mid : Int} {x4 : Option Val} {h : Hh} {R : Int} (hm : (low + high) / 2 = mid) (ec : c.call 43 [.d (.int mid), .d (.int d)] h = .ok (.d (.int R)) h) : evSs c l__law_floor_1 [some (.d (.int N)), some (.d (.int d)), some (.d (.int high)), some (.d (.int low)), x4] h = .nx [some (.d (.int N)), some (.d (.int d)), some (.d (.int (if R ≤ N then high else mid))), some (.d (.int (if R ≤ N then mid else low))), some (.d (.int mid))] h := by
  unfold l__law_floor_1
  have wd2 : wideDiv 2 = true := by decide
  have a1 : evS c (.set 4 (.op .fdiv (.op .add (.var 3) (.var 2)) (.int 2))) [some (.d (.int N)), some (.d (.int d)), some (.d (.int high)), some (.d (.int low)), x4] h = .nx [some (.d (.int N)), some (.d (.int d)), some (.d (.int high)), some (.d (.int low)), some (.d (.int mid))] h := by
    simp [evSs, evS, evE, evEs, evO, evT, evI, itemsF, Res.bd, Res.to, Res.nox, asB, asI, okB, okD, isiF, MP.b2, Cm.ev, end_d, end_n, end_x, dats, dat, datT, pures, on1, on2, on2T, bindT, bindTs, Bi.ev, isCF, ixF, slF, bg1, bg2, bg3, bg4, bg5, bg6, bg7, bg8, O2.ev, wd2, hm]
  rw [seq_nx a1]
  by_cases c2 : R ≤ N
  · simp [evSs, evS, evE, evEs, evO, evT, evI, itemsF, Res.bd, Res.to, Res.nox, asB, asI, okB, okD, isiF, MP.b2, Cm.ev, end_d, end_n, end_x, dats, dat, datT, pures, on1, on2, on2T, bindT, bindTs, Bi.ev, isCF, ixF, slF, bg1, bg2, bg3, bg4, bg5, bg6, bg7, bg8, O2.ev, ec, c2]
  · simp [evSs, evS, evE, evEs, evO, evT, evI, itemsF, Res.bd, Res.to, Res.nox, asB, asI, okB, okD, isiF, MP.b2, Cm.ev, end_d, end_n, end_x, dats, dat, datT, pures, on1, on2, on2T, bindT, bindTs, Bi.ev, isCF, ixF, slF, bg1, bg2, bg3, bg4, bg5, bg6, bg7, bg8, O2.ev, ec, c2]
theorem whl_go {t : En → Hh → Res Val} {g : En → Hh → Out} {f : Nat} {ρ ρ1 : En} {h h1 h2 : Hh} (e1 : t ρ h = .ok (.d (.bool true)) h1) (e2 : g ρ h1 = .nx ρ1 h2) : whlF t g (f + 1) ρ h = whlF t g f ρ1 h2 := by
  simp only [whlF, e1, asB, Res.bd, Res.to, e2, if_true]
theorem whl_end {t : En → Hh → Res Val} {g : En → Hh → Out} {f : Nat} {ρ : En} {h h1 : Hh} (e1 : t ρ h = .ok (.d (.bool false)) h1) : whlF t g (f + 1) ρ h = .nx ρ h1 := by
  simp [whlF, e1, asB, Res.bd, Res.to]
theorem floor_in [BLRoot P] {n : Nat} {N d : Int} {m : Nat} {h : Hh} (hN : 0 ≤ N) (hd : 1 ≤ d) (hd2 : d ≤ 1000) (hm : (m + 2) * d.toNat + m + 8 ≤ 900000) : ∀ (k : Nat) {low high : Int} {x4 : Option Val} {f : Nat}, 0 ≤ low → low < high → high ≤ 2 ^ m → high - low ≤ 2 ^ k → k + 1 ≤ f → low ^ d.toNat ≤ N → N < high ^ d.toNat →
    ∃ lo x, whlF (evE (cfF P (n + 1)) (.cmp .gt (.op .sub (.var 2) (.var 3)) (.int 1))) (evSs (cfF P (n + 1)) l__law_floor_1) f [some (.d (.int N)), some (.d (.int d)), some (.d (.int high)), some (.d (.int low)), x4] h = .nx [some (.d (.int N)), some (.d (.int d)), some (.d (.int (lo + 1))), some (.d (.int lo)), x] h ∧ 0 ≤ lo ∧ lo ^ d.toNat ≤ N ∧ N < (lo + 1) ^ d.toNat := by
  intro k
  induction k with
  | zero =>
    intro low high x4 f h0 h1 h2 h3 hf h4 h5
    obtain ⟨f, rfl⟩ : ∃ g, f = g + 1 := ⟨f - 1, by omega⟩
    rw [Int.pow_zero] at h3
    obtain rfl : high = low + 1 := by omega
    have q : decide (1 < low + 1 - low) = false := decide_eq_false (by omega)
    exact ⟨low, x4, whl_end (by rw [fl_cond, q]), h0, h4, h5⟩
  | succ k ih =>
    intro low high x4 f h0 h1 h2 h3 hf h4 h5
    obtain ⟨f, rfl⟩ : ∃ g, f = g + 1 := ⟨f - 1, by omega⟩
    by_cases c : 1 < high - low
    · have hp : (2 : Int) ^ (k + 1) = 2 * 2 ^ k := by rw [Int.pow_succ]; omega
      obtain ⟨mid, em⟩ : ∃ mid, (low + high) / 2 = mid := ⟨_, rfl⟩
      have q0 : 0 ≤ mid := by omega
      have q1 : mid < 2 ^ m := by omega
      have ep := e_lpow (P := P) (n := n) (h := h) (b := mid) (kk := d) (m := m) (bits_of q0 q1) (by omega) (by
        have := Nat.mul_le_mul_right d.toNat (show m ≤ m + 2 by omega)
        omega) (by omega)
      have q : decide (1 < high - low) = true := decide_eq_true c
      have go := whl_go (f := f) (t := evE (cfF P (n + 1)) (.cmp .gt (.op .sub (.var 2) (.var 3)) (.int 1))) (g := evSs (cfF P (n + 1)) l__law_floor_1) (h := h) (h1 := h) (h2 := h) (by rw [fl_cond (N := N) (d := d) (low := low) (high := high) (x4 := x4), q]) (fl_body (c := cfF P (n + 1)) (N := N) em ep)
      rw [go]
      by_cases c2 : mid ^ d.toNat ≤ N
      · rw [if_pos c2, if_pos c2]
        exact ih q0 (by omega) h2 (by omega) (by omega) c2 h5
      · rw [if_neg c2, if_neg c2]
        exact ih h0 (by omega) (by omega) (by omega) (by omega) h4 (by omega)
    · obtain rfl : high = low + 1 := by omega
      have q : decide (1 < low + 1 - low) = false := decide_eq_false c
      exact ⟨low, x4, whl_end (by rw [fl_cond, q]), h0, h4, h5⟩
/-- the floor of a root -/
def Fl (N : Int) (d : Nat) (lo : Int) : Prop := 0 ≤ lo ∧ lo ^ d ≤ N ∧ N < (lo + 1) ^ d
theorem e_floor [BLRoot P] {n : Nat} {N d : Int} {m : Nat} {h : Hh} (hN : 0 ≤ N) (hd : 1 ≤ d) (hd2 : d ≤ 1000) (hb : N < (2 ^ m) ^ d.toNat) (hm : (m + 2) * d.toNat + m + 8 ≤ 900000) :
    ∃ lo, callF P (n + 2) 44 [.d (.int N), .d (.int d)] h = .ok (.d (.int lo)) h ∧ Fl N d.toNat lo := by
  rw [call_eq f__law_floor [some (.d (.int N)), some (.d (.int d)), none, none, none] BLRoot.a__law_floor rfl rfl]
  show ∃ lo, endF false h (evSs (cfF P (n + 1)) b__law_floor _ h) = _ ∧ _
  unfold b__law_floor
  obtain ⟨i, hi, e1, g1⟩ := floor_up (P := P) (n := n) (h := h) (x3 := none) (x4 := none) hN hd hd2 hb hm m 0 (f := turns) (by omega) (by unfold turns; omega)
  have z0 : (0 : Int) ^ d.toNat ≤ N := by
    rw [Int.zero_pow (by omega)]
    exact hN
  obtain ⟨lo, x, e2, l0, l1, l2⟩ := floor_in (P := P) (n := n) (h := h) hN hd hd2 hm i (low := 0) (high := 2 ^ i) (x4 := none) (f := turns) (Int.le_refl _) p2 (p2_le hi) (by omega) (by unfold turns; omega) z0 g1
  refine ⟨lo, ?_, l0, l1, l2⟩
  rw [Int.pow_zero] at e1
  generalize (2 : Int) ^ i = X at *
  have a1 : evS (cfF P (n + 1)) (.set 2 (.int 1)) [some (.d (.int N)), some (.d (.int d)), none, none, none] h = .nx [some (.d (.int N)), some (.d (.int d)), some (.d (.int 1)), none, none] h := by simp [evSs, evS, evE, evEs, evO, evT, evI, itemsF, Res.bd, Res.to, Res.nox, asB, asI, okB, okD, isiF, MP.b2, Cm.ev, end_d, end_n, end_x, dats, dat, datT, pures, on1, on2, on2T, bindT, bindTs, Bi.ev, isCF, ixF, slF, bg1, bg2, bg3, bg4, bg5, bg6, bg7, bg8]
  have a2 : evS (cfF P (n + 1)) (.whl (.cmp .le (.call 43 (.cons (.var 2) (.cons (.var 1) .nil))) (.var 0)) l__law_floor_0) [some (.d (.int N)), some (.d (.int d)), some (.d (.int 1)), none, none] h = .nx [some (.d (.int N)), some (.d (.int d)), some (.d (.int X)), none, none] h := by
    simp only [evS]
    exact e1
  have a3 : evS (cfF P (n + 1)) (.set 3 (.int 0)) [some (.d (.int N)), some (.d (.int d)), some (.d (.int X)), none, none] h = .nx [some (.d (.int N)), some (.d (.int d)), some (.d (.int X)), some (.d (.int 0)), none] h := by simp [evSs, evS, evE, evEs, evO, evT, evI, itemsF, Res.bd, Res.to, Res.nox, asB, asI, okB, okD, isiF, MP.b2, Cm.ev, end_d, end_n, end_x, dats, dat, datT, pures, on1, on2, on2T, bindT, bindTs, Bi.ev, isCF, ixF, slF, bg1, bg2, bg3, bg4, bg5, bg6, bg7, bg8]
  have a4 : evS (cfF P (n + 1)) (.whl (.cmp .gt (.op .sub (.var 2) (.var 3)) (.int 1)) l__law_floor_1) [some (.d (.int N)), some (.d (.int d)), some (.d (.int X)), some (.d (.int 0)), none] h = .nx [some (.d (.int N)), some (.d (.int d)), some (.d (.int (lo + 1))), some (.d (.int lo)), x] h := by
    simp only [evS]
    exact e2
  rw [seq_nx a1, seq_nx a2, seq_nx a3, seq_nx a4]
  simp [evSs, evS, evE, evEs, evO, evT, evI, itemsF, Res.bd, Res.to, Res.nox, asB, asI, okB, okD, isiF, MP.b2, Cm.ev, end_d, end_n, end_x, dats, dat, datT, pures, on1, on2, on2T, bindT, bindTs, Bi.ev, isCF, ixF, slF, bg1, bg2, bg3, bg4, bg5, bg6, bg7, bg8, endF, fin]
/-! ### roots -/
theorem RootV.uni {D t b : Int} {p q : PyData} (h : RootV D t b p) (k : RootV D t b q) : p = q := by
  obtain ⟨f, x, y, f1, f2, f3, x0, y0, ex, ey, rfl, mx⟩ := h.ex
  obtain ⟨g, z, w, g1, g2, g3, z0, w0, ez, ew, rfl, mz⟩ := k.ex
  have : f = g := by
    rcases Int.lt_trichotomy f g with c | c | c
    · exact absurd ew (mx g c g3 g2 z w z0 w0 ez)
    · exact c
    · exact absurd ey (mz f c f3 f2 x y x0 y0 ex)
  subst this
  have e1 : x = z := ipow_inj x0 z0 (d := f.toNat) (by omega) (by rw [ex, ez])
  have e2 : y = w := ipow_inj y0 w0 (d := f.toNat) (by omega) (by rw [ey, ew])
  rw [e1, e2]
theorem Fl.root {N lo r : Int} {d : Nat} (h : Fl N d lo) (hd : 1 ≤ d) (hr : 0 ≤ r) (e : r ^ d = N) : lo = r := (between_no h.1 hr h.2.1 h.2.2 e hd).symm
end
end MC
end
section
set_option Elab.async false
set_option linter.all false
set_option maxRecDepth 100000
set_option maxHeartbeats 1000000
/-! the law's own roots; canonical numbers -/
namespace MC
open PySem L2 MP
section
variable {P : Pc}
theorem p2_pow_lt {N : Int} {m : Nat} {d : Nat} (h0 : 0 ≤ N) (h : N < 2 ^ m) (hd : 1 ≤ d) : N < (2 ^ m) ^ d := by
  have := ipow_self (a := 2 ^ m) (by have := p2 (m := m); omega) hd
  omega
theorem e_lroot0 [BLRoot P] {n : Nat} {D b : Int} {h : Hh} : callF P (n + 1) 45 [.d (.int D), .d (.int 0), .d (.int b)] h = .ok (.d (.tuple [.int 1, .int 0, .int 1])) h := by
  rw [call_eq f__law_root [some (.d (.int D)), some (.d (.int 0)), some (.d (.int b)), none, none, none] BLRoot.a__law_root rfl rfl]
  show endF false h (evSs (cfF P n) b__law_root _ h) = _
  unfold b__law_root
  have s8 : ∀ i, SeqAt.shaped (.int i) = true := fun _ => rfl
  simp [evSs, evS, evE, evEs, evO, evT, evI, itemsF, Res.bd, Res.to, Res.nox, asB, asI, okB, okD, isiF, MP.b2, Cm.ev, end_d, end_n, end_x, dats, dat, datT, pures, on1, on2, on2T, bindT, bindTs, Bi.ev, isCF, ixF, slF, bg1, bg2, bg3, bg4, bg5, bg6, bg7, bg8, O2.ev, s8, PyData.eqv]
theorem lroot_body {c : Cf} {D T B s f x y X Y : Int} {x4 x5 : Option Val} {h : Hh} (hs : 0 < s) (hs2 : s ≤ 1000) (h0 : D % s = 0) (hf : D / s = f)
    (e1 : c.call 44 [.d (.int T), .d (.int f)] h = .ok (.d (.int x)) h) (e2 : c.call 44 [.d (.int B), .d (.int f)] h = .ok (.d (.int y)) h)
    (e3 : c.call 43 [.d (.int x), .d (.int f)] h = .ok (.d (.int X)) h) (e4 : c.call 43 [.d (.int y), .d (.int f)] h = .ok (.d (.int Y)) h) :
    evSs c l__law_root_0 [some (.d (.int D)), some (.d (.int T)), some (.d (.int B)), some (.d (.int s)), x4, x5] h = if X = T ∧ Y = B then .rt (.d (.tuple [.int s, .int x, .int y])) h else .nx [some (.d (.int D)), some (.d (.int T)), some (.d (.int B)), some (.d (.int s)), some (.d (.int x)), some (.d (.int y))] h := by
  unfold l__law_root_0
  have s8 : ∀ i, SeqAt.shaped (.int i) = true := fun _ => rfl
  have wf : wideDiv s = true := wd hs (by omega)
  by_cases c1 : X = T
  · by_cases c2 : Y = B
    · simp [evSs, evS, evE, evEs, evO, evT, evI, itemsF, Res.bd, Res.to, Res.nox, asB, asI, okB, okD, isiF, MP.b2, Cm.ev, end_d, end_n, end_x, dats, dat, datT, pures, on1, on2, on2T, bindT, bindTs, Bi.ev, isCF, ixF, slF, bg1, bg2, bg3, bg4, bg5, bg6, bg7, bg8, O2.ev, s8, PyData.eqv, hs, h0, hf, e1, e2, e3, e4, wf, c1, c2]
    · simp [evSs, evS, evE, evEs, evO, evT, evI, itemsF, Res.bd, Res.to, Res.nox, asB, asI, okB, okD, isiF, MP.b2, Cm.ev, end_d, end_n, end_x, dats, dat, datT, pures, on1, on2, on2T, bindT, bindTs, Bi.ev, isCF, ixF, slF, bg1, bg2, bg3, bg4, bg5, bg6, bg7, bg8, O2.ev, s8, PyData.eqv, hs, h0, hf, e1, e2, e3, e4, wf, c1, c2]
  · simp [evSs, evS, evE, evEs, evO, evT, evI, itemsF, Res.bd, Res.to, Res.nox, asB, asI, okB, okD, isiF, MP.b2, Cm.ev, end_d, end_n, end_x, dats, dat, datT, pures, on1, on2, on2T, bindT, bindTs, Bi.ev, isCF, ixF, slF, bg1, bg2, bg3, bg4, bg5, bg6, bg7, bg8, O2.ev, s8, PyData.eqv, hs, h0, hf, e1, e2, e3, e4, wf, c1]
theorem lroot_skip {c : Cf} {D T B s : Int} {x4 x5 : Option Val} {h : Hh} (hs : 0 < s) (h0 : D % s ≠ 0) :
    evSs c l__law_root_0 [some (.d (.int D)), some (.d (.int T)), some (.d (.int B)), some (.d (.int s)), x4, x5] h = .nx [some (.d (.int D)), some (.d (.int T)), some (.d (.int B)), some (.d (.int s)), x4, x5] h := by
  unfold l__law_root_0
  have s8 : ∀ i, SeqAt.shaped (.int i) = true := fun _ => rfl
  simp [evSs, evS, evE, evEs, evO, evT, evI, itemsF, Res.bd, Res.to, Res.nox, asB, asI, okB, okD, isiF, MP.b2, Cm.ev, end_d, end_n, end_x, dats, dat, datT, pures, on1, on2, on2T, bindT, bindTs, Bi.ev, isCF, ixF, slF, bg1, bg2, bg3, bg4, bg5, bg6, bg7, bg8, O2.ev, s8, PyData.eqv, hs, h0]
theorem rngF_get {lo : Int} {n i : Nat} {p : PyData} (h : (rngF lo n)[i]? = some p) : i < n ∧ p = .int (lo + (i : Int)) := by
  unfold rngF at h
  rw [List.getElem?_map] at h
  cases q : (List.range n)[i]? with
  | none => rw [q] at h; cases h
  | some k =>
    rw [q] at h
    obtain ⟨h1, h2⟩ := List.getElem?_eq_some_iff.mp q
    have h1' : i < n := by simpa using h1
    have : k = i := by simpa using h2.symm
    subst this
    cases h
    exact ⟨h1', rfl⟩
theorem rngF_at {lo : Int} {n i : Nat} (h : i < n) : (rngF lo n)[i]? = some (.int (lo + (i : Int))) := by
  unfold rngF
  rw [List.getElem?_map, List.getElem?_range h]
  rfl
/-- f ↦ D / f turns the divisors round -/
theorem div_div {D s : Int} (hD : 0 < D) (hs : 0 < s) (h : D % s = 0) : 0 < D / s ∧ D / s ≤ D ∧ D % (D / s) = 0 ∧ D / (D / s) = s ∧ (D / s) * s = D := by
  obtain ⟨k, rfl⟩ := Int.dvd_of_emod_eq_zero h
  have k0 : 0 < k := by
    rcases Int.lt_trichotomy k 0 with c | c | c
    · have := Int.mul_neg_of_pos_of_neg hs c; omega
    · subst c; simp at hD
    · exact c
  have e : s * k / s = k := Int.mul_ediv_cancel_left _ (by omega)
  rw [e]
  refine ⟨k0, ?_, ?_, ?_, Int.mul_comm ..⟩
  · have := Int.mul_le_mul_of_nonneg_right (show 1 ≤ s by omega) (show 0 ≤ k by omega)
    omega
  · exact Int.mul_emod_left ..
  · exact Int.mul_ediv_cancel _ (by omega)
theorem e_lroot [BLLow P] [BLRoot P] {n : Nat} {D t b : Int} {m : Nat} {h : Hh} (hD : 1 ≤ D) (hD2 : D ≤ 1000) (ht : 0 < t) (hb : 0 < b) (htm : t < 2 ^ m) (hbm : b < 2 ^ m) (hm : (m + 2) * D.toNat + m + 8 ≤ 900000) (hm2 : m ≤ 8000) :
    ∃ p, callF P (n + 3) 45 [.d (.int D), .d (.int t), .d (.int b)] h = .ok (.d p) h ∧ RootV D (low1 t b) (low2 t b) p := by
  rw [call_eq f__law_root [some (.d (.int D)), some (.d (.int t)), some (.d (.int b)), none, none, none] BLRoot.a__law_root rfl rfl]
  show ∃ p, endF false h (evSs (cfF P (n + 2)) b__law_root _ h) = _ ∧ _
  unfold b__law_root
  have s8 : ∀ i, SeqAt.shaped (.int i) = true := fun _ => rfl
  have smb : sm b := by
    unfold sm
    have := p2_le hm2
    omega
  have el := e_llow (P := P) (n := n + 1) (h := h) (show 0 ≤ t by omega) hb smb
  obtain ⟨l1, l2, l3, l4⟩ := low_pos ht hb
  generalize low1 t b = T at *
  generalize low2 t b = B at *
  have t0 : ¬ t = 0 := by omega
  have a1 : evS (cfF P (n + 2)) (.ifs (.cmp .eq (.var 1) (.int 0)) (.cons (.ret (.tup (.cons (.int 1) (.cons (.int 0) (.cons (.int 1) .nil))))) .nil) .nil) [some (.d (.int D)), some (.d (.int t)), some (.d (.int b)), none, none, none] h = .nx [some (.d (.int D)), some (.d (.int t)), some (.d (.int b)), none, none, none] h := by
    simp [evSs, evS, evE, evEs, evO, evT, evI, itemsF, Res.bd, Res.to, Res.nox, asB, asI, okB, okD, isiF, MP.b2, Cm.ev, end_d, end_n, end_x, dats, dat, datT, pures, on1, on2, on2T, bindT, bindTs, Bi.ev, isCF, ixF, slF, bg1, bg2, bg3, bg4, bg5, bg6, bg7, bg8, O2.ev, s8, PyData.eqv, t0]
  have a2 : evS (cfF P (n + 2)) (.asg (.t (.cons (.n 1) (.cons (.n 2) .nil))) (.call 42 (.cons (.var 1) (.cons (.var 2) .nil)))) [some (.d (.int D)), some (.d (.int t)), some (.d (.int b)), none, none, none] h = .nx [some (.d (.int D)), some (.d (.int T)), some (.d (.int B)), none, none, none] h := by
    simp [evSs, evS, evE, evEs, evO, evT, evI, itemsF, Res.bd, Res.to, Res.nox, asB, asI, okB, okD, isiF, MP.b2, Cm.ev, end_d, end_n, end_x, dats, dat, datT, pures, on1, on2, on2T, bindT, bindTs, Bi.ev, isCF, ixF, slF, bg1, bg2, bg3, bg4, bg5, bg6, bg7, bg8, el]
  rw [seq_nx a1, seq_nx a2]
  have key := forF_ret (g := fun x ρ1 h2 => match bindT (.n 3) (.d x) ρ1 with
    | some ρ2 => evSs (cfF P (n + 2)) l__law_root_0 ρ2 h2
    | none => .bad) (I := fun ρ => ∃ x3 x4 x5, ρ = [some (.d (.int D)), some (.d (.int T)), some (.d (.int B)), x3, x4, x5])
    (N := fun p => ∃ s : Int, p = .int s ∧ (D % s = 0 → ∀ x y : Int, 0 ≤ x → 0 ≤ y → x ^ (D / s).toNat = T → y ^ (D / s).toNat ≠ B))
    (Q := fun p v => ∃ s x y : Int, p = .int s ∧ D % s = 0 ∧ 0 ≤ x ∧ 0 ≤ y ∧ x ^ (D / s).toNat = T ∧ y ^ (D / s).toNat = B ∧ v = .d (.tuple [.int s, .int x, .int y])) (h := h)
    (xs := rngF 1 D.toNat) (ρ := [some (.d (.int D)), some (.d (.int T)), some (.d (.int B)), none, none, none]) ⟨_, _, _, rfl⟩ (fun p hp ρ hi => by
      obtain ⟨x3, x4, x5, rfl⟩ := hi
      obtain ⟨i, hi⟩ := List.getElem?_of_mem hp
      obtain ⟨hi, rfl⟩ := rngF_get hi
      obtain ⟨s, hs⟩ : ∃ s : Int, 1 + (i : Int) = s := ⟨_, rfl⟩
      rw [hs]
      have s1 : 0 < s := by omega
      have s2 : s ≤ D := by omega
      show (∃ v, evSs (cfF P (n + 2)) l__law_root_0 [some (.d (.int D)), some (.d (.int T)), some (.d (.int B)), some (.d (.int s)), x4, x5] h = _ ∧ _) ∨ (_ ∧ ∃ ρ', evSs (cfF P (n + 2)) l__law_root_0 [some (.d (.int D)), some (.d (.int T)), some (.d (.int B)), some (.d (.int s)), x4, x5] h = _ ∧ _)
      by_cases c : D % s = 0
      · obtain ⟨f, hf⟩ : ∃ f, D / s = f := ⟨_, rfl⟩
        obtain ⟨d1, d2, d3, d4, d5⟩ := div_div (by omega) s1 c
        rw [hf] at d1 d2 d3 d4 d5
        have fn : 1 ≤ f.toNat := by omega
        have hmf : (m + 2) * f.toNat + m + 8 ≤ 900000 := by
          have := Nat.mul_le_mul_left (m + 2) (show f.toNat ≤ D.toNat by omega)
          omega
        have hmf2 : m * f.toNat + m + 2 ≤ 1000000 := by
          have := Nat.mul_le_mul_right f.toNat (show m ≤ m + 2 by omega)
          omega
        obtain ⟨x, e1, w1⟩ := e_floor (P := P) (n := n) (N := T) (d := f) (m := m) (h := h) (by omega) (by omega) (by omega) (p2_pow_lt (by omega) (by omega) fn) hmf
        obtain ⟨y, e2, w2⟩ := e_floor (P := P) (n := n) (N := B) (d := f) (m := m) (h := h) (by omega) (by omega) (by omega) (p2_pow_lt (by omega) (by omega) fn) hmf
        have lx : ∀ {N z : Int}, 0 < N → N < 2 ^ m → Fl N f.toNat z → z < 2 ^ m := fun {N z} h0 hN w => by
          have hp := p2 (m := m)
          by_cases z1 : 1 ≤ z
          · have := ipow_self z1 fn
            have := w.2.1
            omega
          · omega
        have x0 := w1.1
        have y0 := w2.1
        have e3 := e_lpow (P := P) (n := n + 1) (h := h) (b := x) (kk := f) (m := m) (bits_of x0 (lx l1 (by omega) w1)) (by omega) hmf2 (by omega)
        have e4 := e_lpow (P := P) (n := n + 1) (h := h) (b := y) (kk := f) (m := m) (bits_of y0 (lx l2 (by omega) w2)) (by omega) hmf2 (by omega)
        have bd := lroot_body (c := cfF P (n + 2)) (x4 := x4) (x5 := x5) (T := T) (B := B) s1 (by omega) c hf e1 e2 e3 e4
        rw [bd]
        by_cases c1 : x ^ f.toNat = T ∧ y ^ f.toNat = B
        · rw [if_pos c1]
          exact .inl ⟨_, rfl, s, x, y, rfl, c, x0, y0, by rw [hf]; exact c1.1, by rw [hf]; exact c1.2, rfl⟩
        · rw [if_neg c1]
          refine .inr ⟨⟨s, rfl, fun _ z w hz hw q1 q2 => c1 ?_⟩, _, rfl, _, _, _, rfl⟩
          rw [hf] at q1 q2
          rw [w1.root fn hz q1, w2.root fn hw q2]
          exact ⟨q1, q2⟩
      · exact .inr ⟨⟨s, rfl, fun z => absurd z c⟩, _, lroot_skip s1 c, _, _, _, rfl⟩)
  have c2 : D.toNat ≤ big := bg (by omega)
  rcases key with ⟨i, p, v, hi, hn, e, s, x, y, rfl, s0, x0, y0, ex, ey, rfl⟩ | ⟨hn, ρ', e, x3, x4, x5, rfl⟩
  · obtain ⟨hi, hs⟩ := rngF_get hi
    cases hs
    obtain ⟨d1, d2, d3, d4, d5⟩ := div_div (D := D) (s := 1 + (i : Int)) (by omega) (by omega) s0
    refine ⟨.tuple [.int (1 + (i : Int)), .int x, .int y], ?_, ⟨D / (1 + (i : Int)), x, y, by omega, d3, d2, x0, y0, ex, ey, by rw [d4], fun g g1 g2 g3 z w hz hw q1 q2 => ?_⟩⟩
    · have it : evI (cfF P (n + 2)) (.r2 (.int 1) (.op .add (.var 0) (.int 1))) [some (.d (.int D)), some (.d (.int T)), some (.d (.int B)), none, none, none] h = .ok (rngF 1 D.toNat) h := by
        have c1 : small (D + 1) = true := small_of (by omega) (by omega)
        have c3 : small 1 = true := rfl
        have c4 : D + 1 - 1 = D := by omega
        have c5 : D ≤ (big : Int) := by unfold big; omega
        simp [evSs, evS, evE, evEs, evO, evT, evI, itemsF, Res.bd, Res.to, Res.nox, asB, asI, okB, okD, isiF, MP.b2, Cm.ev, end_d, end_n, end_x, dats, dat, datT, pures, on1, on2, on2T, bindT, bindTs, Bi.ev, isCF, ixF, slF, bg1, bg2, bg3, bg4, bg5, bg6, bg7, bg8, O2.ev, c1, c2, c3, c4, c5]
      have a3 : evS (cfF P (n + 2)) (.fors (.n 3) (.r2 (.int 1) (.op .add (.var 0) (.int 1))) l__law_root_0) [some (.d (.int D)), some (.d (.int T)), some (.d (.int B)), none, none, none] h = .rt (.d (.tuple [.int (1 + (i : Int)), .int x, .int y])) h := by
        simp only [evS, it, Res.to]
        exact e
      rw [seq_rt a3]
      simp [endF, fin]
    · obtain ⟨g4, g5, g6, g7, g8⟩ := div_div (D := D) (s := g) (by omega) (by omega) g3
      have lt : D / g < 1 + (i : Int) := by
        rcases Int.lt_or_le (D / g) (1 + (i : Int)) with c | c
        · exact c
        · have h1 : (D / (1 + (i : Int))) * (1 + (i : Int)) ≤ (D / (1 + (i : Int))) * (D / g) := Int.mul_le_mul_of_nonneg_left c (by omega)
          have h2 : (D / (1 + (i : Int))) * (D / g) < g * (D / g) := Int.mul_lt_mul_of_pos_right g1 g4
          rw [Int.mul_comm g (D / g), g8] at h2
          omega
      obtain ⟨s', es, hs'⟩ := hn (D / g - 1).toNat (.int (D / g)) (by omega) (by
        rw [rngF_at (by omega)]
        congr 2
        omega)
      cases es
      rw [g7] at hs'
      exact hs' g6 z w hz hw q1 q2
  · exfalso
    obtain ⟨s', es, hs'⟩ := hn (.int D) (List.mem_of_getElem? (by
      have : (rngF 1 D.toNat)[(D - 1).toNat]? = some (.int (1 + ((D - 1).toNat : Int))) := rngF_at (by omega)
      have e2 : 1 + ((D - 1).toNat : Int) = D := by omega
      rw [e2] at this
      exact this))
    cases es
    have e1 : D / D = 1 := Int.ediv_self (by omega)
    rw [e1] at hs'
    exact hs' (Int.emod_self) T B (by omega) (by omega) (by show T ^ 1 = T; rw [Int.pow_succ, Int.pow_zero, Int.one_mul]) (by show B ^ 1 = B; rw [Int.pow_succ, Int.pow_zero, Int.one_mul])
end
end MC
end
section
set_option Elab.async false
set_option linter.all false
set_option maxRecDepth 100000
set_option maxHeartbeats 1000000
/-! plain numbers: coprime powers, separation -/
namespace MC
theorem cop_pow : ∀ (k m n a b : Nat), m + n ≤ k → Nat.gcd m n = 1 → 0 < a → 0 < b → a ^ m = b ^ n → ∃ u, a = u ^ n ∧ b = u ^ m := by
  intro k
  induction k with
  | zero =>
    intro m n a b hk hg
    obtain rfl : m = 0 := by omega
    obtain rfl : n = 0 := by omega
    simp at hg
  | succ k ih =>
    intro m n a b hk hg ha hb e
    rcases Nat.eq_zero_or_pos m with rfl | m0
    · rw [Nat.gcd_zero_left] at hg
      subst hg
      exact ⟨a, by simp, by simpa using e.symm⟩
    rcases Nat.eq_zero_or_pos n with rfl | n0
    · rw [Nat.gcd_zero_right] at hg
      subst hg
      exact ⟨b, by simpa using e, by simp⟩
    rcases Nat.le_total n m with c | c
    · have d : a ∣ b := (Nat.pow_dvd_pow_iff (by omega : n ≠ 0)).mp (by rw [← e]; exact Nat.pow_dvd_pow a c)
      obtain ⟨q, rfl⟩ := d
      have q0 : 0 < q := Nat.pos_of_mul_pos_left hb
      have e2 : a ^ (m - n) = q ^ n := by
        have h1 : a ^ m = a ^ n * a ^ (m - n) := by rw [← Nat.pow_add]; congr 1; omega
        rw [h1, Nat.mul_pow] at e
        exact Nat.eq_of_mul_eq_mul_left (Nat.pow_pos ha) e
      obtain ⟨u, hu, hv⟩ := ih (m - n) n a q (by omega) (by rw [Nat.gcd_sub_self_left c]; exact hg) ha q0 e2
      refine ⟨u, hu, ?_⟩
      rw [hu, hv, ← Nat.pow_add]
      congr 1
      omega
    · have d : b ∣ a := (Nat.pow_dvd_pow_iff (by omega : m ≠ 0)).mp (by rw [e]; exact Nat.pow_dvd_pow b c)
      obtain ⟨q, rfl⟩ := d
      have q0 : 0 < q := Nat.pos_of_mul_pos_left ha
      have e2 : q ^ m = b ^ (n - m) := by
        have h1 : b ^ n = b ^ m * b ^ (n - m) := by rw [← Nat.pow_add]; congr 1; omega
        rw [h1, Nat.mul_pow] at e
        exact Nat.eq_of_mul_eq_mul_left (Nat.pow_pos hb) e
      obtain ⟨u, hu, hv⟩ := ih m (n - m) q b (by omega) (by rw [Nat.gcd_sub_self_right c]; exact hg) q0 hb e2
      refine ⟨u, ?_, hv⟩
      rw [hu, hv, ← Nat.pow_add]
      congr 1
      omega
theorem npow_inj {a b g : Nat} (hg : 0 < g) (h : a ^ g = b ^ g) : a = b := by
  rcases Nat.lt_trichotomy a b with c | c | c
  · have := Nat.pow_lt_pow_left c (by omega : g ≠ 0); omega
  · exact c
  · have := Nat.pow_lt_pow_left c (by omega : g ≠ 0); omega
/-- no power of a fraction by an exponent of the degree -/
def Prim (d t b : Nat) : Prop := ∀ g, 1 < g → g ∣ d → ∀ x y : Nat, x ^ g = t → y ^ g ≠ b
theorem prim_uni {d t b e u v : Nat} (d0 : 0 < d) (e0 : 0 < e) (t0 : 0 < t) (b0 : 0 < b) (u0 : 0 < u) (v0 : 0 < v) (p1 : Prim d t b) (p2 : Prim e u v) (h1 : t ^ e = u ^ d) (h2 : b ^ e = v ^ d) : d = e ∧ t = u ∧ b = v := by
  have g0 : 0 < Nat.gcd d e := Nat.gcd_pos_of_pos_left _ d0
  obtain ⟨d', hd⟩ := Nat.gcd_dvd_left d e
  obtain ⟨e', he⟩ := Nat.gcd_dvd_right d e
  have cop : Nat.gcd d' e' = 1 := by
    have h := Nat.gcd_mul_left (Nat.gcd d e) d' e'
    rw [← hd, ← he] at h
    exact Nat.eq_of_mul_eq_mul_left g0 (by rw [← h]; simp)
  have root : ∀ {x y : Nat}, x ^ e = y ^ d → x ^ e' = y ^ d' := fun {x y} h => npow_inj g0 (by
    rw [← Nat.pow_mul, ← Nat.pow_mul, Nat.mul_comm e', Nat.mul_comm d', ← hd, ← he]
    exact h)
  obtain ⟨x, ex, ex2⟩ := cop_pow _ e' d' t u (Nat.le_refl _) (by rw [Nat.gcd_comm]; exact cop) t0 u0 (root h1)
  obtain ⟨y, ey, ey2⟩ := cop_pow _ e' d' b v (Nat.le_refl _) (by rw [Nat.gcd_comm]; exact cop) b0 v0 (root h2)
  have pos : ∀ {k z : Nat}, 0 < z → z = Nat.gcd d e * k → 0 < k := fun {k z} h q => by
    rcases Nat.eq_zero_or_pos k with rfl | c
    · simp at q; omega
    · exact c
  have d1 : d' = 1 := by
    have := pos d0 hd
    rcases Nat.lt_or_ge 1 d' with c | c
    · exact absurd ey.symm (p1 d' c ⟨Nat.gcd d e, by rw [Nat.mul_comm]; exact hd⟩ x y ex.symm)
    · omega
  have e1 : e' = 1 := by
    have := pos e0 he
    rcases Nat.lt_or_ge 1 e' with c | c
    · exact absurd ey2.symm (p2 e' c ⟨Nat.gcd d e, by rw [Nat.mul_comm]; exact he⟩ x y ex2.symm)
    · omega
  subst d1
  subst e1
  rw [Nat.mul_one] at hd he
  simp at ex ex2 ey ey2
  exact ⟨by omega, by rw [ex, ex2], by rw [ey, ey2]⟩
/-- fractions that are the same and in lowest terms -/
theorem low_uni {t b u v e d : Nat} (t0 : 0 < t) (c1 : Nat.gcd t b = 1) (c2 : Nat.gcd u v = 1) (h : t ^ e * v ^ d = u ^ d * b ^ e) : t ^ e = u ^ d ∧ b ^ e = v ^ d := by
  have k1 : Nat.Coprime (t ^ e) (b ^ e) := Nat.Coprime.pow _ _ c1
  have k2 : Nat.Coprime (u ^ d) (v ^ d) := Nat.Coprime.pow _ _ c2
  have d1 : t ^ e ∣ u ^ d := k1.dvd_of_dvd_mul_right ⟨v ^ d, h.symm⟩
  have d2 : u ^ d ∣ t ^ e := k2.dvd_of_dvd_mul_right ⟨b ^ e, h⟩
  have q := Nat.dvd_antisymm d1 d2
  rw [q] at h
  exact ⟨q, (Nat.eq_of_mul_eq_mul_left (by rw [← q]; exact Nat.pow_pos t0) h).symm⟩
/-! ### boxes -/
theorem box_up {p d e t b v s : Nat} (h : p ^ d * b ≤ t * s ^ d) : p ^ (d * e) * (b ^ e * v) ≤ t ^ e * v * s ^ (d * e) := by
  have h1 := Nat.pow_le_pow_left h e
  rw [Nat.mul_pow, Nat.mul_pow, ← Nat.pow_mul, ← Nat.pow_mul] at h1
  have h2 := Nat.mul_le_mul_right v h1
  rw [← Nat.mul_assoc, show t ^ e * v * s ^ (d * e) = t ^ e * s ^ (d * e) * v by rw [Nat.mul_right_comm]]
  exact h2
theorem box_lt {p d e t b v s : Nat} (he : 0 < e) (hv : 0 < v) (h : t * s ^ d < p ^ d * b) : t ^ e * v * s ^ (d * e) < p ^ (d * e) * (b ^ e * v) := by
  have h1 := Nat.pow_lt_pow_left h (by omega : e ≠ 0)
  rw [Nat.mul_pow, Nat.mul_pow, ← Nat.pow_mul, ← Nat.pow_mul] at h1
  have h2 := Nat.mul_lt_mul_of_pos_right h1 hv
  rw [← Nat.mul_assoc, show t ^ e * v * s ^ (d * e) = t ^ e * s ^ (d * e) * v by rw [Nat.mul_right_comm]]
  exact h2
theorem bern (p : Nat) : ∀ k : Nat, (p + 1) ^ (k + 1) ≤ p ^ (k + 1) + (k + 1) * (p + 1) ^ k
  | 0 => by simp
  | k + 1 => by
    have h1 := bern p k
    have h2 := Nat.mul_le_mul_right (p + 1) h1
    have h0 : (p + 1) ^ (k + 1 + 1) = (p + 1) ^ (k + 1) * (p + 1) := Nat.pow_succ ..
    have h3 : p ^ (k + 1) ≤ (p + 1) ^ (k + 1) := Nat.pow_le_pow_left (by omega) _
    have h4 : (p ^ (k + 1) + (k + 1) * (p + 1) ^ k) * (p + 1) = p ^ (k + 1 + 1) + p ^ (k + 1) + (k + 1) * (p + 1) ^ (k + 1) := by
      rw [Nat.add_mul, Nat.mul_assoc, show (p + 1) ^ k * (p + 1) = (p + 1) ^ (k + 1) from (Nat.pow_succ ..).symm, Nat.mul_add, Nat.mul_one, show p ^ (k + 1) * p = p ^ (k + 1 + 1) from (Nat.pow_succ ..).symm]
    rw [h4] at h2
    have h5 : (k + 1 + 1) * (p + 1) ^ (k + 1) = (k + 1) * (p + 1) ^ (k + 1) + (p + 1) ^ (k + 1) := by
      rw [Nat.add_mul (k + 1) 1, Nat.one_mul]
    omega
/-- two fractions in one box are near -/
theorem sep {p k s A C B : Nat} (hs : 0 < s) (hB : 0 < B) (h1 : p ^ (k + 1) * B ≤ A * s ^ (k + 1)) (h2 : A * s ^ (k + 1) < (p + 1) ^ (k + 1) * B) (h3 : p ^ (k + 1) * B ≤ C * s ^ (k + 1)) (h4 : C * s ^ (k + 1) < (p + 1) ^ (k + 1) * B) (ne : A ≠ C) : s < (k + 1) * 2 ^ k * A ∨ s < (k + 1) * B := by
  have key : s ^ (k + 1) + p ^ (k + 1) * B < (p + 1) ^ (k + 1) * B := by
    rcases Nat.lt_or_gt_of_ne ne with c | c
    · have := Nat.mul_le_mul_right (s ^ (k + 1)) (show A + 1 ≤ C by omega)
      rw [Nat.add_mul, Nat.one_mul] at this
      omega
    · have := Nat.mul_le_mul_right (s ^ (k + 1)) (show C + 1 ≤ A by omega)
      rw [Nat.add_mul, Nat.one_mul] at this
      omega
  have b := Nat.mul_le_mul_right B (bern p k)
  rw [Nat.add_mul] at b
  have g : s ^ (k + 1) < (k + 1) * (p + 1) ^ k * B := by omega
  have sk : 0 < s ^ k := Nat.pow_pos hs
  rw [Nat.pow_succ] at g
  rcases Nat.lt_or_ge p s with c | c
  · right
    have h5 : (p + 1) ^ k ≤ s ^ k := Nat.pow_le_pow_left (by omega) _
    have h6 : (k + 1) * (p + 1) ^ k * B ≤ (k + 1) * s ^ k * B := Nat.mul_le_mul_right _ (Nat.mul_le_mul_left _ h5)
    have h7 : (k + 1) * s ^ k * B = s ^ k * ((k + 1) * B) := by rw [Nat.mul_comm (k + 1), Nat.mul_assoc]
    exact Nat.lt_of_mul_lt_mul_left (a := s ^ k) (by omega)
  · left
    have h5 : (p + 1) ^ k ≤ 2 ^ k * p ^ k := by
      rw [← Nat.mul_pow]
      exact Nat.pow_le_pow_left (by omega) _
    have h6 : p ^ k * B ≤ A * s ^ k := by
      have q1 : s * (p ^ k * B) ≤ p * (p ^ k * B) := Nat.mul_le_mul_right _ c
      have q2 : p * (p ^ k * B) = p ^ (k + 1) * B := by rw [Nat.pow_succ, Nat.mul_comm (p ^ k) p, Nat.mul_assoc]
      have q3 : A * s ^ (k + 1) = s * (A * s ^ k) := by rw [Nat.pow_succ, Nat.mul_comm s, Nat.mul_assoc]
      exact Nat.le_of_mul_le_mul_left (by omega) hs
    have h7 : (k + 1) * (p + 1) ^ k * B ≤ (k + 1) * (2 ^ k * p ^ k) * B := Nat.mul_le_mul_right _ (Nat.mul_le_mul_left _ h5)
    have h8 : (k + 1) * (2 ^ k * p ^ k) * B = (k + 1) * 2 ^ k * (p ^ k * B) := by simp only [Nat.mul_assoc]
    have h9 : (k + 1) * 2 ^ k * (p ^ k * B) ≤ (k + 1) * 2 ^ k * (A * s ^ k) := Nat.mul_le_mul_left _ h6
    have h10 : (k + 1) * 2 ^ k * (A * s ^ k) = s ^ k * ((k + 1) * 2 ^ k * A) := by rw [← Nat.mul_assoc, Nat.mul_comm]
    exact Nat.lt_of_mul_lt_mul_left (a := s ^ k) (by omega)
/-- boxes apart tell which is less -/
theorem box_ord {p q d e t b u v s : Nat} (d0 : 0 < d) (e0 : 0 < e) (b0 : 0 < b) (v0 : 0 < v) (h1 : t * s ^ d < (p + 1) ^ d * b) (h2 : q ^ e * v ≤ u * s ^ e) (h : p < q) : t ^ e * v ^ d < u ^ d * b ^ e := by
  have k1 := box_lt (v := v ^ d) e0 (Nat.pow_pos v0) h1
  have k2 := box_up (e := d) (v := b ^ e) h2
  rw [Nat.mul_comm e d, Nat.mul_comm (v ^ d)] at k2
  have k3 : (p + 1) ^ (d * e) * (b ^ e * v ^ d) ≤ q ^ (d * e) * (b ^ e * v ^ d) := Nat.mul_le_mul_right _ (Nat.pow_le_pow_left h _)
  exact Nat.lt_of_mul_lt_mul_right (a := s ^ (d * e)) (by omega)
/-- in small enough boxes different numbers are apart -/
theorem box_sep {p d e t b u v s : Nat} (d0 : 0 < d) (d1 : d ≤ 40) (e0 : 0 < e) (e1 : e ≤ 40) (b0 : 0 < b) (v0 : 0 < v) (t1 : t < 2 ^ 32) (b1 : b < 2 ^ 32) (v1 : v < 2 ^ 32) (hs : 2 ^ 4200 ≤ s)
    (h1 : p ^ d * b ≤ t * s ^ d) (h2 : t * s ^ d < (p + 1) ^ d * b) (h3 : p ^ e * v ≤ u * s ^ e) (h4 : u * s ^ e < (p + 1) ^ e * v) : t ^ e * v ^ d = u ^ d * b ^ e := by
  by_cases ne : t ^ e * v ^ d = u ^ d * b ^ e
  · exact ne
  exfalso
  have s0 : 0 < s := Nat.lt_of_lt_of_le (Nat.pow_pos (by omega)) hs
  have k1 := box_up (e := e) (v := v ^ d) h1
  have k2 := box_lt (v := v ^ d) e0 (Nat.pow_pos v0) h2
  have k3 := box_up (e := d) (v := b ^ e) h3
  have k4 := box_lt (v := b ^ e) d0 (Nat.pow_pos b0) h4
  rw [Nat.mul_comm e d, Nat.mul_comm (v ^ d)] at k3 k4
  have hn : 0 < d * e := Nat.mul_pos d0 e0
  have hn2 : d * e ≤ 1600 := Nat.mul_le_mul d1 e1
  obtain ⟨k, hk⟩ : ∃ k, d * e = k + 1 := ⟨d * e - 1, by omega⟩
  rw [hk] at k1 k2 k3 k4 hn2
  have pw : ∀ {x j : Nat}, x < 2 ^ 32 → j ≤ 40 → x ^ j ≤ 2 ^ 1280 := fun {x j} hx hj => by
    have q1 : x ^ j ≤ (2 ^ 32) ^ j := Nat.pow_le_pow_left (Nat.le_of_lt hx) _
    rw [← Nat.pow_mul] at q1
    have q2 : 2 ^ (32 * j) ≤ 2 ^ 1280 := Nat.pow_le_pow_right (by omega) (by omega)
    exact Nat.le_trans q1 q2
  have hA : t ^ e * v ^ d ≤ 2 ^ 2560 := by
    have := Nat.mul_le_mul (pw t1 e1) (pw v1 d1)
    rw [← Nat.pow_add] at this
    exact this
  have hB : b ^ e * v ^ d ≤ 2 ^ 2560 := by
    have := Nat.mul_le_mul (pw b1 e1) (pw v1 d1)
    rw [← Nat.pow_add] at this
    exact this
  have hB0 : 0 < b ^ e * v ^ d := Nat.mul_pos (Nat.pow_pos b0) (Nat.pow_pos v0)
  have hk2 : (k + 1) * 2 ^ k ≤ 2 ^ 1640 := by
    have q1 : k + 1 ≤ 2 ^ 11 := by
      have : (2 : Nat) ^ 11 = 2048 := by decide
      omega
    have q2 : 2 ^ k ≤ 2 ^ 1629 := Nat.pow_le_pow_right (by omega) (by omega)
    have := Nat.mul_le_mul q1 q2
    rw [← Nat.pow_add] at this
    exact this
  have hk3 : k + 1 ≤ 2 ^ 1640 := Nat.le_trans (by have := Nat.pow_pos (n := k) (show 0 < 2 by omega); exact Nat.le_mul_of_pos_right _ this) hk2
  generalize hx : t ^ e * v ^ d = A at *
  generalize hy : u ^ d * b ^ e = C at *
  generalize hz : b ^ e * v ^ d = B at *
  rcases sep s0 hB0 k1 k2 k3 k4 ne with z | z
  · have q := Nat.mul_le_mul hk2 hA
    rw [← Nat.pow_add] at q
    have : (2 : Nat) ^ (1640 + 2560) = 2 ^ 4200 := rfl
    omega
  · have q := Nat.mul_le_mul hk3 hB
    rw [← Nat.pow_add] at q
    have : (2 : Nat) ^ (1640 + 2560) = 2 ^ 4200 := rfl
    omega
end MC
end
section
set_option Elab.async false
set_option linter.all false
set_option maxRecDepth 100000
set_option maxHeartbeats 1000000
/-! numbers: which is less, by boxes -/
namespace MC
open PySem L2 MP
def NumP (d t b : Int) : PyData := .tuple [.int d, .int t, .int b]
structure Num (d t b : Int) : Prop where
  d0 : 1 ≤ d
  d1 : d ≤ 40
  t0 : 0 ≤ t
  t1 : t < 4294967296
  b0 : 1 ≤ b
  b1 : b < 4294967296
  co : Int.gcd t b = 1
  z : t = 0 → d = 1
  pr : 0 < t → ∀ g : Int, 1 < g → g ≤ d → d % g = 0 → ∀ x y : Int, 0 ≤ x → 0 ≤ y → x ^ g.toNat = t → y ^ g.toNat ≠ b
/-- what is compared -/
def cA (d t b e u v : Int) : Int := t ^ e.toNat * v ^ d.toNat
section
variable {P : Pc}
theorem cast_pow_mul {t v : Nat} {e d : Nat} : ((t : Int) ^ e * (v : Int) ^ d) = ((t ^ e * v ^ d : Nat) : Int) := by
  rw [Int.natCast_mul, Int.natCast_pow, Int.natCast_pow]
theorem Num.uni {d t b e u v : Int} (h : Num d t b) (k : Num e u v) (q : cA d t b e u v = cA e u v d t b) : d = e ∧ t = u ∧ b = v := by
  obtain ⟨d0, d1, t0, t1, b0, b1, co, z, pr⟩ := h
  obtain ⟨e0, e1, u0, u1, v0, v1, co2, z2, pr2⟩ := k
  obtain ⟨t, rfl⟩ := Int.eq_ofNat_of_zero_le t0
  obtain ⟨u, rfl⟩ := Int.eq_ofNat_of_zero_le u0
  obtain ⟨b, rfl⟩ := Int.eq_ofNat_of_zero_le (show 0 ≤ b by omega)
  obtain ⟨v, rfl⟩ := Int.eq_ofNat_of_zero_le (show 0 ≤ v by omega)
  obtain ⟨d, rfl⟩ := Int.eq_ofNat_of_zero_le (show 0 ≤ d by omega)
  obtain ⟨e, rfl⟩ := Int.eq_ofNat_of_zero_le (show 0 ≤ e by omega)
  unfold cA at q
  rw [Int.toNat_natCast, Int.toNat_natCast, cast_pow_mul, cast_pow_mul] at q
  have q := Int.ofNat.inj q
  have co : Nat.gcd t b = 1 := co
  have co2 : Nat.gcd u v = 1 := co2
  rcases Nat.eq_zero_or_pos t with rfl | tp
  · rw [Nat.zero_pow (by omega), Nat.zero_mul] at q
    have u0 : u = 0 := by
      rcases Nat.eq_zero_or_pos u with c | c
      · exact c
      · have := Nat.mul_pos (Nat.pow_pos (n := d) c) (Nat.pow_pos (n := e) (show 0 < b by omega))
        omega
    subst u0
    have := z rfl
    have := z2 rfl
    rw [Nat.gcd_zero_left] at co co2
    exact ⟨by omega, rfl, by omega⟩
  · have up : 0 < u := by
      rcases Nat.eq_zero_or_pos u with rfl | c
      · rw [Nat.zero_pow (by omega), Nat.zero_mul] at q
        have := Nat.mul_pos (Nat.pow_pos (n := e) tp) (Nat.pow_pos (n := d) (show 0 < v by omega))
        omega
      · exact c
    have prim : ∀ {d t b : Nat}, 1 ≤ (d : Int) → 0 < t → (0 < (t : Int) → ∀ g : Int, 1 < g → g ≤ d → (d : Int) % g = 0 → ∀ x y : Int, 0 ≤ x → 0 ≤ y → x ^ g.toNat = t → y ^ g.toNat ≠ b) → Prim d t b := fun {d t b} hd ht pr g g1 gd x y ex ey => by
      have gl := Nat.le_of_dvd (by omega) gd
      refine pr (by omega) (g : Int) (by omega) (by omega) ?_ (x : Int) (y : Int) (by omega) (by omega) ?_ ?_
      · rw [← Int.natCast_emod, Nat.mod_eq_zero_of_dvd gd]
        rfl
      · rw [Int.toNat_natCast, ← Int.natCast_pow, ex]
      · rw [Int.toNat_natCast, ← Int.natCast_pow, ey]
    obtain ⟨r1, r2⟩ := low_uni tp co co2 q
    obtain ⟨s1, s2, s3⟩ := prim_uni (by omega) (by omega) tp (by omega) up (by omega) (prim d0 tp pr) (prim e0 up pr2) r1 r2
    subst s1 s2 s3
    exact ⟨rfl, rfl, rfl⟩
/-- the box of a number -/
def Box (s d t b p : Int) : Prop := 0 ≤ p ∧ p ^ d.toNat * b ≤ t * s ^ d.toNat ∧ t * s ^ d.toNat < (p + 1) ^ d.toNat * b
theorem box_of {s d t b p : Int} (hb : 0 < b) (h : Fl (t * s ^ d.toNat / b) d.toNat p) : Box s d t b p :=
  ⟨h.1, (Int.le_ediv_iff_mul_le hb).mp h.2.1, (Int.ediv_lt_iff_lt_mul hb).mp h.2.2⟩
theorem nat_pm {a b c d : Nat} {k : Nat} : ((a : Int) ^ k * (b : Int) ≤ (c : Int) * (d : Int) ^ k) ↔ a ^ k * b ≤ c * d ^ k := by
  rw [← Int.natCast_pow, ← Int.natCast_pow, ← Int.natCast_mul, ← Int.natCast_mul]
  exact Int.ofNat_le
theorem nat_lm {a b c d : Nat} {k : Nat} : ((c : Int) * (d : Int) ^ k < ((a : Int) + 1) ^ k * (b : Int)) ↔ c * d ^ k < (a + 1) ^ k * b := by
  rw [show ((a : Int) + 1) = ((a + 1 : Nat) : Int) by omega, ← Int.natCast_pow, ← Int.natCast_pow, ← Int.natCast_mul, ← Int.natCast_mul]
  exact Int.ofNat_lt
theorem Box.sep {s d t b e u v p : Int} (h : Num d t b) (k : Num e u v) (hs : 2 ^ 4200 ≤ s) (b1 : Box s d t b p) (b2 : Box s e u v p) : cA d t b e u v = cA e u v d t b := by
  obtain ⟨d0, d1, t0, t1, b0, b1', co, z, pr⟩ := h
  obtain ⟨e0, e1, u0, u1, v0, v1, co2, z2, pr2⟩ := k
  obtain ⟨t, rfl⟩ := Int.eq_ofNat_of_zero_le t0
  obtain ⟨u, rfl⟩ := Int.eq_ofNat_of_zero_le u0
  obtain ⟨b, rfl⟩ := Int.eq_ofNat_of_zero_le (show 0 ≤ b by omega)
  obtain ⟨v, rfl⟩ := Int.eq_ofNat_of_zero_le (show 0 ≤ v by omega)
  obtain ⟨d, rfl⟩ := Int.eq_ofNat_of_zero_le (show 0 ≤ d by omega)
  obtain ⟨e, rfl⟩ := Int.eq_ofNat_of_zero_le (show 0 ≤ e by omega)
  obtain ⟨p, rfl⟩ := Int.eq_ofNat_of_zero_le b1.1
  obtain ⟨s, rfl⟩ := Int.eq_ofNat_of_zero_le (show 0 ≤ s by have := p2 (m := 4200); omega)
  have hs : 2 ^ 4200 ≤ s := by
    rw [show (2 : Int) = ((2 : Nat) : Int) from rfl, ← Int.natCast_pow] at hs
    exact Int.ofNat_le.mp hs
  obtain ⟨_, c1, c2⟩ := b1
  obtain ⟨_, c3, c4⟩ := b2
  rw [Int.toNat_natCast] at c1 c2 c3 c4
  unfold cA
  rw [Int.toNat_natCast, Int.toNat_natCast, cast_pow_mul, cast_pow_mul]
  have q32 : (2 : Nat) ^ 32 = 4294967296 := by decide
  rw [box_sep (d := d) (e := e) (t := t) (b := b) (u := u) (v := v) (s := s) (p := p) (by omega) (by omega) (by omega) (by omega) (by omega) (by omega) (by omega) (by omega) (by omega) hs (nat_pm.mp c1) (nat_lm.mp c2) (nat_pm.mp c3) (nat_lm.mp c4)]
theorem Box.ord {s d t b e u v p q : Int} (hs0 : 0 ≤ s) (h : Num d t b) (k : Num e u v) (b1 : Box s d t b p) (b2 : Box s e u v q) (hp : p < q) : cA d t b e u v < cA e u v d t b := by
  obtain ⟨d0, d1, t0, t1, b0, b1', co, z, pr⟩ := h
  obtain ⟨e0, e1, u0, u1, v0, v1, co2, z2, pr2⟩ := k
  obtain ⟨t, rfl⟩ := Int.eq_ofNat_of_zero_le t0
  obtain ⟨u, rfl⟩ := Int.eq_ofNat_of_zero_le u0
  obtain ⟨b, rfl⟩ := Int.eq_ofNat_of_zero_le (show 0 ≤ b by omega)
  obtain ⟨v, rfl⟩ := Int.eq_ofNat_of_zero_le (show 0 ≤ v by omega)
  obtain ⟨d, rfl⟩ := Int.eq_ofNat_of_zero_le (show 0 ≤ d by omega)
  obtain ⟨e, rfl⟩ := Int.eq_ofNat_of_zero_le (show 0 ≤ e by omega)
  obtain ⟨p, rfl⟩ := Int.eq_ofNat_of_zero_le b1.1
  obtain ⟨q, rfl⟩ := Int.eq_ofNat_of_zero_le b2.1
  obtain ⟨s, rfl⟩ := Int.eq_ofNat_of_zero_le hs0
  obtain ⟨_, c1, c2⟩ := b1
  obtain ⟨_, c3, c4⟩ := b2
  rw [Int.toNat_natCast] at c1 c2 c3 c4
  unfold cA
  rw [Int.toNat_natCast, Int.toNat_natCast, cast_pow_mul, cast_pow_mul]
  exact Int.ofNat_lt.mpr (box_ord (d := d) (e := e) (t := t) (b := b) (u := u) (v := v) (s := s) (p := p) (q := q) (by omega) (by omega) (by omega) (by omega) (nat_lm.mp c2) (nat_pm.mp c3) (by omega))
/-! ### the walk -/
theorem app_new {c : Cf} {i : Nat} {e : E} {ρ : En} {h : Hh} {p : PyData} {ps : List PyData} (hi : ρ[i]? = some (some (.ref h.length))) (he : evE c e ρ (h ++ [.lst ps]) = .ok (.d p) (h ++ [.lst ps])) (hl : ps.length ≤ big) :
    evS c (.app i e) ρ (h ++ [.lst ps]) = .nx ρ (h ++ [.lst (ps ++ [p])]) := by
  have g : (h ++ [Cell.lst ps])[h.length]? = some (.lst ps) := by simp
  simp only [evS, hi, g, he, Res.to, if_pos hl]
  congr 1
  rw [List.set_append_right _ _ (Nat.le_refl _)]
  simp
theorem before_app {c : Cf} {one other : PyData} {s d t b Y p : Int} {h : Hh} {ps : List PyData} (hb : 0 < b) (hb2 : b < 4294967296) (hl : ps.length ≤ big) (w : wideMul t Y = true)
    (e1 : c.call 43 [.d (.int s), .d (.int d)] (h ++ [.lst ps]) = .ok (.d (.int Y)) (h ++ [.lst ps])) (e2 : c.call 44 [.d (.int (t * Y / b)), .d (.int d)] (h ++ [.lst ps]) = .ok (.d (.int p)) (h ++ [.lst ps])) :
    evSs c l__law_before_0 [some (.d one), some (.d other), some (.d (.int s)), some (.ref h.length), some (.d (.int d)), some (.d (.int t)), some (.d (.int b))] (h ++ [.lst ps]) = .nx [some (.d one), some (.d other), some (.d (.int s)), some (.ref h.length), some (.d (.int d)), some (.d (.int t)), some (.d (.int b))] (h ++ [.lst (ps ++ [.int p])]) := by
  unfold l__law_before_0
  have wf : wideDiv b = true := wd hb (by omega)
  refine seq1 (app_new rfl ?_ hl)
  simp [evSs, evS, evE, evEs, evO, evT, evI, itemsF, Res.bd, Res.to, Res.nox, asB, asI, okB, okD, isiF, MP.b2, Cm.ev, end_d, end_n, end_x, dats, dat, datT, pures, on1, on2, on2T, bindT, bindTs, Bi.ev, isCF, ixF, slF, bg1, bg2, bg3, bg4, bg5, bg6, bg7, bg8, O2.ev, e1, e2, w, wf]
theorem before_body {c : Cf} {s d t b e u v Y Z p q : Int} {h : Hh} {x3 x4 x5 x6 : Option Val} (hb : 0 < b) (hb2 : b < 4294967296) (hv : 0 < v) (hv2 : v < 4294967296) (w1 : wideMul t Y = true) (w2 : wideMul u Z = true) (w3 : wideMul s 4096 = true)
    (e1 : ∀ h, c.call 43 [.d (.int s), .d (.int d)] h = .ok (.d (.int Y)) h) (e2 : ∀ h, c.call 44 [.d (.int (t * Y / b)), .d (.int d)] h = .ok (.d (.int p)) h)
    (e3 : ∀ h, c.call 43 [.d (.int s), .d (.int e)] h = .ok (.d (.int Z)) h) (e4 : ∀ h, c.call 44 [.d (.int (u * Z / v)), .d (.int e)] h = .ok (.d (.int q)) h) :
    ∃ y4 y5 y6, evSs c l__law_before_1 [some (.d (NumP d t b)), some (.d (NumP e u v)), some (.d (.int s)), x3, x4, x5, x6] h = if p = q then .nx [some (.d (NumP d t b)), some (.d (NumP e u v)), some (.d (.int (s * 4096))), some (.ref h.length), y4, y5, y6] (h ++ [.lst [.int p, .int q]]) else .rt (.d (.bool (decide (p < q)))) (h ++ [.lst [.int p, .int q]]) := by
  unfold l__law_before_1
  have s8 : ∀ i, SeqAt.shaped (.int i) = true := fun _ => rfl
  have a1 : evS c (.set 3 (.lstM .nil)) [some (.d (NumP d t b)), some (.d (NumP e u v)), some (.d (.int s)), x3, x4, x5, x6] h = .nx [some (.d (NumP d t b)), some (.d (NumP e u v)), some (.d (.int s)), some (.ref h.length), x4, x5, x6] (h ++ [.lst []]) := by
    simp [evSs, evS, evE, evEs, evO, evT, evI, itemsF, Res.bd, Res.to, Res.nox, asB, asI, okB, okD, isiF, MP.b2, Cm.ev, end_d, end_n, end_x, dats, dat, datT, pures, on1, on2, on2T, bindT, bindTs, Bi.ev, isCF, ixF, slF, bg1, bg2, bg3, bg4, bg5, bg6, bg7, bg8]
  have b1 := before_app (c := c) (one := NumP d t b) (other := NumP e u v) (h := h) (ps := []) hb hb2 (by show 0 ≤ big; decide) w1 (e1 _) (e2 _)
  have b2 := before_app (c := c) (one := NumP d t b) (other := NumP e u v) (h := h) (ps := [.int p]) hv hv2 (by show 1 ≤ big; decide) w2 (e3 _) (e4 _)
  have it : evI c (.e (.lst (.cons (.var 0) (.cons (.var 1) .nil)))) [some (.d (NumP d t b)), some (.d (NumP e u v)), some (.d (.int s)), some (.ref h.length), x4, x5, x6] (h ++ [.lst []]) = .ok [NumP d t b, NumP e u v] (h ++ [.lst []]) := by
    simp [evSs, evS, evE, evEs, evO, evT, evI, itemsF, Res.bd, Res.to, Res.nox, asB, asI, okB, okD, isiF, MP.b2, Cm.ev, end_d, end_n, end_x, dats, dat, datT, pures, on1, on2, on2T, bindT, bindTs, Bi.ev, isCF, ixF, slF, bg1, bg2, bg3, bg4, bg5, bg6, bg7, bg8]
  have a2 : evS c (.fors (.t (.cons (.n 4) (.cons (.n 5) (.cons (.n 6) .nil)))) (.e (.lst (.cons (.var 0) (.cons (.var 1) .nil)))) l__law_before_0) [some (.d (NumP d t b)), some (.d (NumP e u v)), some (.d (.int s)), some (.ref h.length), x4, x5, x6] (h ++ [.lst []]) = .nx [some (.d (NumP d t b)), some (.d (NumP e u v)), some (.d (.int s)), some (.ref h.length), some (.d (.int e)), some (.d (.int u)), some (.d (.int v))] (h ++ [.lst [.int p, .int q]]) := by
    simp only [evS, it, Res.to, forF]
    show (match evSs c l__law_before_0 [some (.d (NumP d t b)), some (.d (NumP e u v)), some (.d (.int s)), some (.ref h.length), some (.d (.int d)), some (.d (.int t)), some (.d (.int b))] (h ++ [.lst []]) with
      | .nx ρ1 h1 => _
      | .ct ρ1 h1 => _
      | .bk ρ1 h1 => _
      | r => r) = _
    rw [b1]
    show (match evSs c l__law_before_0 [some (.d (NumP d t b)), some (.d (NumP e u v)), some (.d (.int s)), some (.ref h.length), some (.d (.int e)), some (.d (.int u)), some (.d (.int v))] (h ++ [.lst [.int p]]) with
      | .nx ρ1 h1 => _
      | .ct ρ1 h1 => _
      | .bk ρ1 h1 => _
      | r => r) = _
    rw [b2]
    rfl
  refine ⟨some (.d (.int e)), some (.d (.int u)), some (.d (.int v)), ?_⟩
  rw [seq_nx a1, seq_nx a2]
  have j0 : ixN 2 0 = some 0 := rfl
  have j1 : ixN 2 1 = some 1 := rfl
  have cn : evE c (.cmp .ne (.ix (.var 3) (.int 0)) (.ix (.var 3) (.int 1))) [some (.d (NumP d t b)), some (.d (NumP e u v)), some (.d (.int s)), some (.ref h.length), some (.d (.int e)), some (.d (.int u)), some (.d (.int v))] (h ++ [.lst [.int p, .int q]]) = .ok (.d (.bool (!decide (p = q)))) (h ++ [.lst [.int p, .int q]]) := by
    simp [evSs, evS, evE, evEs, evO, evT, evI, itemsF, Res.bd, Res.to, Res.nox, asB, asI, okB, okD, isiF, MP.b2, Cm.ev, end_d, end_n, end_x, dats, dat, datT, pures, on1, on2, on2T, bindT, bindTs, Bi.ev, isCF, ixF, slF, bg1, bg2, bg3, bg4, bg5, bg6, bg7, bg8, atI, j0, j1, s8, PyData.eqv]
    by_cases cc : p = q
    · simp [cc]
    · simp [cc]
  by_cases c1 : p = q
  · rw [if_pos c1]
    rw [decide_eq_true c1] at cn
    rw [seq_nx (ifs_no cn)]
    refine seq1 ?_
    simp [evSs, evS, evE, evEs, evO, evT, evI, itemsF, Res.bd, Res.to, Res.nox, asB, asI, okB, okD, isiF, MP.b2, Cm.ev, end_d, end_n, end_x, dats, dat, datT, pures, on1, on2, on2T, bindT, bindTs, Bi.ev, isCF, ixF, slF, bg1, bg2, bg3, bg4, bg5, bg6, bg7, bg8, O2.ev, w3]
  · rw [if_neg c1]
    rw [decide_eq_false c1] at cn
    refine seq_rt ?_
    rw [ifs_yes cn]
    simp [evSs, evS, evE, evEs, evO, evT, evI, itemsF, Res.bd, Res.to, Res.nox, asB, asI, okB, okD, isiF, MP.b2, Cm.ev, end_d, end_n, end_x, dats, dat, datT, pures, on1, on2, on2T, bindT, bindTs, Bi.ev, isCF, ixF, slF, bg1, bg2, bg3, bg4, bg5, bg6, bg7, bg8, atI, j0, j1]
theorem Num.bits {s d t b : Int} {m : Nat} (hs : s = 2 ^ m) (hm : m ≤ 4300) (h : Num d t b) : wideMul t (s ^ d.toNat) = true ∧ 0 ≤ t * s ^ d.toNat / b ∧ t * s ^ d.toNat / b < (2 ^ (m + 33)) ^ d.toNat := by
  have hs0 : 0 < s := by rw [hs]; exact p2
  have hp : 0 < s ^ d.toNat := Int.pow_pos hs0
  have dn : d.toNat ≤ 40 := by have := h.d1; omega
  have d1 : 1 ≤ d.toNat := by have := h.d0; omega
  have hb := h.b0
  have ht := h.t0
  have hmd : (m + 1) * d.toNat ≤ 4301 * 40 := Nat.mul_le_mul (by omega) dn
  have e0 : s < 2 ^ (m + 1) := by rw [hs, Int.pow_succ]; have := p2 (m := m); omega
  have t32 : t < 2 ^ 32 := by have := h.t1; have : (2 : Int) ^ 32 = 4294967296 := by decide
                              omega
  refine ⟨wm_bits (a := 32) (b := (m + 1) * d.toNat + 1) (bits_of ht t32) (pow_bits (bits_of (by omega) e0) _) (by omega), Int.ediv_nonneg (Int.mul_nonneg ht (by omega)) (by omega), ?_⟩
  have h1 : t * s ^ d.toNat / b ≤ t * s ^ d.toNat := Int.ediv_le_self _ (Int.mul_nonneg ht (by omega))
  have h2 : t * s ^ d.toNat < 2 ^ 32 * s ^ d.toNat := Int.mul_lt_mul_of_pos_right t32 hp
  have h3 : (2 : Int) ^ 32 * s ^ d.toNat ≤ (2 ^ (m + 33)) ^ d.toNat := by
    have q1 : (2 : Int) ^ (m + 33) = 2 ^ 33 * s := by rw [hs, ← Int.pow_add, Nat.add_comm]
    rw [q1, Int.mul_pow]
    refine Int.mul_le_mul_of_nonneg_right ?_ (by omega)
    have := ipow_self (a := 2 ^ 33) (by have := p2 (m := 33); omega) d1
    have q2 : (2 : Int) ^ 32 ≤ 2 ^ 33 := p2_le (by omega)
    omega
  omega
theorem num_eqv {d t b e u v : Int} : PyData.eqv (NumP d t b) (NumP e u v) = decide (d = e ∧ t = u ∧ b = v) := by
  unfold NumP
  by_cases c1 : d = e
  · by_cases c2 : t = u
    · by_cases c3 : b = v
      · simp [PyData.eqv, PyData.eqvAll, c1, c2, c3]
      · simp [PyData.eqv, PyData.eqvAll, c1, c2, c3]
    · simp [PyData.eqv, PyData.eqvAll, c1, c2]
  · simp [PyData.eqv, PyData.eqvAll, c1]
theorem nump_sh {d t b : Int} : SeqAt.shaped (NumP d t b) = true := okd_sh (d := 1) (m := 3) rfl (by omega)
theorem before_ne {c : Cf} {d t b e u v s : Int} {x3 x4 x5 x6 : Option Val} {h : Hh} (ne : cA d t b e u v ≠ cA e u v d t b) : evE c (.cmp .ne (.var 0) (.var 1)) [some (.d (NumP d t b)), some (.d (NumP e u v)), some (.d (.int s)), x3, x4, x5, x6] h = .ok (.d (.bool true)) h := by
  have q : decide (d = e ∧ t = u ∧ b = v) = false := decide_eq_false fun ⟨a, b, c⟩ => ne (by subst a b c; rfl)
  simp [evSs, evS, evE, evEs, evO, evT, evI, itemsF, Res.bd, Res.to, Res.nox, asB, asI, okB, okD, isiF, MP.b2, Cm.ev, end_d, end_n, end_x, dats, dat, datT, pures, on1, on2, on2T, bindT, bindTs, Bi.ev, isCF, ixF, slF, bg1, bg2, bg3, bg4, bg5, bg6, bg7, bg8, nump_sh, num_eqv, q]
theorem before_dec {d t b e u v s p q : Int} (H : Num d t b) (K : Num e u v) (hs : 0 ≤ s) (b1 : Box s d t b p) (b2 : Box s e u v q) (c : p ≠ q) : decide (p < q) = decide (cA d t b e u v < cA e u v d t b) := by
  rcases Int.lt_or_gt_of_ne c with z | z
  · rw [decide_eq_true z, decide_eq_true (Box.ord hs H K b1 b2 z)]
  · have := Box.ord hs K H b2 b1 z
    rw [decide_eq_false (by omega), decide_eq_false (by omega)]
theorem whl_rt {t : En → Hh → Res Val} {g : En → Hh → Out} {f : Nat} {ρ : En} {v : Val} {h h1 h2 : Hh} (e1 : t ρ h = .ok (.d (.bool true)) h1) (e2 : g ρ h1 = .rt v h2) : whlF t g (f + 1) ρ h = .rt v h2 := by
  simp only [whlF, e1, asB, Res.bd, Res.to, e2, if_true]
theorem before_turn [BLRoot P] {n : Nat} {d t b e u v : Int} (H : Num d t b) (K : Num e u v) {j : Nat} (hj : j ≤ 350) {h : Hh} {x3 x4 x5 x6 : Option Val} :
    ∃ p q y4 y5 y6, Box (2 ^ (4 + 12 * j)) d t b p ∧ Box (2 ^ (4 + 12 * j)) e u v q ∧ evSs (cfF P (n + 3)) l__law_before_1 [some (.d (NumP d t b)), some (.d (NumP e u v)), some (.d (.int (2 ^ (4 + 12 * j)))), x3, x4, x5, x6] h = if p = q then .nx [some (.d (NumP d t b)), some (.d (NumP e u v)), some (.d (.int (2 ^ (4 + 12 * j) * 4096))), some (.ref h.length), y4, y5, y6] (h ++ [.lst [.int p, .int q]]) else .rt (.d (.bool (decide (p < q)))) (h ++ [.lst [.int p, .int q]]) := by
  have one : ∀ {d t b : Int}, Num d t b → ∃ p, Box (2 ^ (4 + 12 * j)) d t b p ∧ (∀ h, callF P (n + 3) 43 [.d (.int (2 ^ (4 + 12 * j))), .d (.int d)] h = .ok (.d (.int ((2 ^ (4 + 12 * j)) ^ d.toNat))) h) ∧ (∀ h, callF P (n + 3) 44 [.d (.int (t * (2 ^ (4 + 12 * j)) ^ d.toNat / b)), .d (.int d)] h = .ok (.d (.int p)) h) := fun {d t b} H => by
    obtain ⟨g1, g2, g3⟩ := H.bits (s := 2 ^ (4 + 12 * j)) (m := 4 + 12 * j) rfl (by omega)
    have dn : d.toNat ≤ 40 := by have := H.d1; omega
    have k0 := H.d0
    have k1 := H.d1
    have m1 : (4 + 12 * j + 33 + 2) * d.toNat ≤ 4239 * 40 := Nat.mul_le_mul (by omega) dn
    have m2 : (4 + 12 * j + 1) * d.toNat ≤ 4205 * 40 := Nat.mul_le_mul (by omega) dn
    obtain ⟨p, ep, fp⟩ := e_floor (P := P) (n := n + 1) (N := t * (2 ^ (4 + 12 * j)) ^ d.toNat / b) (d := d) (m := 4 + 12 * j + 33) (h := []) g2 (by omega) (by omega) g3 (by omega)
    refine ⟨p, box_of (by have := H.b0; omega) fp, fun h => e_lpow (n := n + 2) (m := 4 + 12 * j + 1) (bits_of (Int.le_of_lt p2) (by rw [Int.pow_succ 2 (4 + 12 * j)]; have := p2 (m := 4 + 12 * j); omega)) (by omega) (by omega) (by omega), fun h => ?_⟩
    obtain ⟨p', ep', fp'⟩ := e_floor (P := P) (n := n + 1) (N := t * (2 ^ (4 + 12 * j)) ^ d.toNat / b) (d := d) (m := 4 + 12 * j + 33) (h := h) g2 (by omega) (by omega) g3 (by omega)
    have : p' = p := by
      rcases Int.lt_trichotomy p' p with c | c | c
      · have := ipow_le (show 0 ≤ p' + 1 by have := fp'.1; omega) (show p' + 1 ≤ p by omega) d.toNat
        have := fp'.2.2
        have := fp.2.1
        omega
      · exact c
      · have := ipow_le (show 0 ≤ p + 1 by have := fp.1; omega) (show p + 1 ≤ p' by omega) d.toNat
        have := fp.2.2
        have := fp'.2.1
        omega
    rw [this] at ep'
    exact ep'
  obtain ⟨p, bp, e1, e2⟩ := one H
  obtain ⟨q, bq, e3, e4⟩ := one K
  have w3 : wideMul (2 ^ (4 + 12 * j)) 4096 = true := wm_bits (a := 4 + 12 * j + 1) (b := 13) (bits_of (Int.le_of_lt p2) (by rw [Int.pow_succ 2 (4 + 12 * j)]; have := p2 (m := 4 + 12 * j); omega)) (by decide) (by omega)
  obtain ⟨y4, y5, y6, eb⟩ := before_body (c := cfF P (n + 3)) (h := h) (x3 := x3) (x4 := x4) (x5 := x5) (x6 := x6) (by have := H.b0; omega) H.b1 (by have := K.b0; omega) K.b1 (H.bits (s := 2 ^ (4 + 12 * j)) rfl (by omega)).1 (K.bits (s := 2 ^ (4 + 12 * j)) rfl (by omega)).1 w3 e1 e2 e3 e4
  exact ⟨p, q, y4, y5, y6, bp, bq, eb⟩
theorem before_loop [BLRoot P] {n : Nat} {d t b e u v : Int} (H : Num d t b) (K : Num e u v) (ne : cA d t b e u v ≠ cA e u v d t b) : ∀ (k j : Nat) {f : Nat} {h h1 : Hh} {x3 x4 x5 x6 : Option Val}, j + k = 350 → k + 1 ≤ f → h <+: h1 →
    ∃ h2, whlF (evE (cfF P (n + 3)) (.cmp .ne (.var 0) (.var 1))) (evSs (cfF P (n + 3)) l__law_before_1) f [some (.d (NumP d t b)), some (.d (NumP e u v)), some (.d (.int (2 ^ (4 + 12 * j)))), x3, x4, x5, x6] h1 = .rt (.d (.bool (decide (cA d t b e u v < cA e u v d t b)))) h2 ∧ h <+: h2 := by
  intro k
  induction k with
  | zero =>
    intro j f h h1 x3 x4 x5 x6 hj hf hp
    obtain ⟨f, rfl⟩ : ∃ g, f = g + 1 := ⟨f - 1, by omega⟩
    obtain ⟨p, q, y4, y5, y6, b1, b2, eb⟩ := before_turn (P := P) (n := n) H K (j := j) (by omega) (h := h1) (x3 := x3) (x4 := x4) (x5 := x5) (x6 := x6)
    by_cases c : p = q
    · subst c
      exact absurd (Box.sep H K (p2_le (by omega)) b1 b2) ne
    · rw [if_neg c] at eb
      refine ⟨h1 ++ [.lst [.int p, .int q]], ?_, hp.trans (List.prefix_append ..)⟩
      rw [whl_rt (before_ne ne) eb, before_dec H K (Int.le_of_lt p2) b1 b2 c]
  | succ k ih =>
    intro j f h h1 x3 x4 x5 x6 hj hf hp
    obtain ⟨f, rfl⟩ : ∃ g, f = g + 1 := ⟨f - 1, by omega⟩
    obtain ⟨p, q, y4, y5, y6, b1, b2, eb⟩ := before_turn (P := P) (n := n) H K (j := j) (by omega) (h := h1) (x3 := x3) (x4 := x4) (x5 := x5) (x6 := x6)
    by_cases c : p = q
    · rw [if_pos c] at eb
      have es : (2 : Int) ^ (4 + 12 * j) * 4096 = 2 ^ (4 + 12 * (j + 1)) := by
        rw [show (4096 : Int) = 2 ^ 12 from rfl, ← Int.pow_add]
        congr 1
      rw [es] at eb
      obtain ⟨h2, e2, p2'⟩ := ih (j + 1) (f := f) (h := h) (h1 := h1 ++ [.lst [.int p, .int q]]) (x3 := some (.ref h1.length)) (x4 := y4) (x5 := y5) (x6 := y6) (by omega) (by omega) (hp.trans (List.prefix_append ..))
      refine ⟨h2, ?_, p2'⟩
      rw [whl_go (before_ne ne) eb]
      exact e2
    · rw [if_neg c] at eb
      refine ⟨h1 ++ [.lst [.int p, .int q]], ?_, hp.trans (List.prefix_append ..)⟩
      rw [whl_rt (before_ne ne) eb, before_dec H K (Int.le_of_lt p2) b1 b2 c]
theorem e_before [BLRoot P] {n : Nat} {d t b e u v : Int} {h : Hh} (H : Num d t b) (K : Num e u v) (ne : cA d t b e u v ≠ cA e u v d t b) :
    callF P (n + 4) 46 [.d (NumP d t b), .d (NumP e u v)] h = .ok (.d (.bool (decide (cA d t b e u v < cA e u v d t b)))) h := by
  rw [call_eq f__law_before [some (.d (NumP d t b)), some (.d (NumP e u v)), none, none, none, none, none] BLRoot.a__law_before rfl rfl]
  show endF false h (evSs (cfF P (n + 3)) b__law_before _ h) = _
  unfold b__law_before
  have a1 : evS (cfF P (n + 3)) (.set 2 (.int 16)) [some (.d (NumP d t b)), some (.d (NumP e u v)), none, none, none, none, none] h = .nx [some (.d (NumP d t b)), some (.d (NumP e u v)), some (.d (.int 16)), none, none, none, none] h := by simp [evSs, evS, evE, evEs, evO, evT, evI, itemsF, Res.bd, Res.to, Res.nox, asB, asI, okB, okD, isiF, MP.b2, Cm.ev, end_d, end_n, end_x, dats, dat, datT, pures, on1, on2, on2T, bindT, bindTs, Bi.ev, isCF, ixF, slF, bg1, bg2, bg3, bg4, bg5, bg6, bg7, bg8]
  obtain ⟨h2, e2, hp⟩ := before_loop (P := P) (n := n) H K ne 350 0 (f := turns) (h := h) (h1 := h) (x3 := none) (x4 := none) (x5 := none) (x6 := none) (by omega) (by unfold turns; omega) (List.prefix_refl h)
  have a2 : evS (cfF P (n + 3)) (.whl (.cmp .ne (.var 0) (.var 1)) l__law_before_1) [some (.d (NumP d t b)), some (.d (NumP e u v)), some (.d (.int 16)), none, none, none, none] h = .rt (.d (.bool (decide (cA d t b e u v < cA e u v d t b)))) h2 := by
    simp only [evS]
    exact e2
  rw [seq_nx a1, seq_rt a2]
  have : h2.take h.length = h := by
    obtain ⟨z, rfl⟩ := hp
    simp
  simp only [endF, fin, this]
end
end MC
end
section
set_option Elab.async false
set_option linter.all false
set_option maxRecDepth 100000
set_option maxHeartbeats 1000000
/-! numbers: compared; canonical numbers out of roots -/
namespace MC
open PySem L2 MP
section
variable {P : Pc}
theorem Num.pw {d t b : Int} (h : Num d t b) : t.natAbs < 2 ^ 32 ∧ b.natAbs < 2 ^ 32 := by
  have h1 := h.t1
  have h2 := h.b1
  have h3 := h.t0
  have h4 := h.b0
  have : (2 : Nat) ^ 32 = 4294967296 := by decide
  omega
theorem e_compared [BCmp P] [BRoot P] {n : Nat} {d t b e u v : Int} {h : Hh} (H : Num d t b) (K : Num e u v) : callF P (n + 2) 35 [.d (NumP d t b), .d (NumP e u v)] h = .ok (.d (.int (sgn (cA d t b e u v - cA e u v d t b)))) h := by
  rw [call_eq f_compared [some (.d (NumP d t b)), some (.d (NumP e u v)), none, none, none, none, none, none] BCmp.a_compared rfl rfl]
  show endF false h (evSs (cfF P (n + 1)) b_compared _ h) = _
  unfold b_compared NumP cA
  obtain ⟨tb, bb⟩ := H.pw
  obtain ⟨ub, vb⟩ := K.pw
  have d0 := H.d0
  have d1 := H.d1
  have e0 := K.d0
  have e1 := K.d1
  have p1 := e_power' (P := P) (n := n) (h := h) (kk := e) tb (by omega) (by omega) (by omega)
  have p2 := e_power' (P := P) (n := n) (h := h) (kk := d) vb (by omega) (by omega) (by omega)
  have p3 := e_power' (P := P) (n := n) (h := h) (kk := d) ub (by omega) (by omega) (by omega)
  have p4 := e_power' (P := P) (n := n) (h := h) (kk := e) bb (by omega) (by omega) (by omega)
  have w3 : wideMul (t ^ e.toNat) (v ^ d.toNat) = true := wm_bits (pow_bits tb _) (pow_bits vb _) (by omega)
  have w4 : wideMul (u ^ d.toNat) (b ^ e.toNat) = true := wm_bits (pow_bits ub _) (pow_bits bb _) (by omega)
  have sg : ∀ i, (cfF P (n + 1)).call 34 [.d (.int i)] h = .ok (.d (.int (sgn i))) h := fun i => e_sign
  simp [evSs, evS, evE, evEs, evO, evT, evI, itemsF, Res.bd, Res.to, Res.nox, asB, asI, okB, okD, isiF, MP.b2, Cm.ev, end_d, end_n, end_x, dats, dat, datT, pures, on1, on2, on2T, bindT, bindTs, Bi.ev, isCF, ixF, slF, bg1, bg2, bg3, bg4, bg5, bg6, bg7, bg8, bindT, bindTs, O2.ev, p1, p2, p3, p4, w3, w4, sg]
/-- a root in lowest terms is canonical -/
theorem RootV.num {D T B : Int} {p : PyData} (h : RootV D T B p) (hD : 1 ≤ D) (hD2 : D ≤ 40) (T0 : 0 < T) (T1 : T < 4294967296) (B0 : 0 < B) (B1 : B < 4294967296) (co : Int.gcd T B = 1) :
    ∃ d t b f : Int, p = NumP d t b ∧ Num d t b ∧ 1 ≤ f ∧ d * f = D ∧ 0 < t ∧ t ^ f.toNat = T ∧ b ^ f.toNat = B ∧ (∀ g : Int, 1 ≤ g → g ≤ D → D % g = 0 → ∀ x y : Int, 0 ≤ x → 0 ≤ y → x ^ g.toNat = T → y ^ g.toNat = B → g ≤ f) := by
  obtain ⟨f, x, y, f1, f2, f3, x0, y0, ex, ey, rfl, mx⟩ := h.ex
  have fn : 1 ≤ f.toNat := by omega
  obtain ⟨q1, q2, q3, q4, q5⟩ := div_div (D := D) (s := f) (by omega) (by omega) f2
  have xp : 0 < x := by
    rcases Int.lt_or_eq_of_le x0 with c | c
    · exact c
    · rw [← c, Int.zero_pow (by omega)] at ex
      omega
  have yp : 0 < y := by
    rcases Int.lt_or_eq_of_le y0 with c | c
    · exact c
    · rw [← c, Int.zero_pow (by omega)] at ey
      omega
  have xl := ipow_self (a := x) (by omega) fn
  have yl := ipow_self (a := y) (by omega) fn
  refine ⟨D / f, x, y, f, rfl, ⟨by omega, by omega, x0, by omega, by omega, by omega, ?_, fun z => by omega, fun _ g g1 g2 g3 z w hz hw ez ew => ?_⟩, f1, q5, xp, ex, ey, fun g g1 g2 g3 z w hz hw ez ew => ?_⟩
  · have k : Nat.Coprime (x.natAbs ^ f.toNat) (y.natAbs ^ f.toNat) := by
      rw [← Int.natAbs_pow, ← Int.natAbs_pow, ex, ey]
      exact co
    have d1 : Nat.gcd x.natAbs y.natAbs ∣ 1 := by
      have a1 : Nat.gcd x.natAbs y.natAbs ∣ x.natAbs ^ f.toNat := Nat.dvd_trans (Nat.gcd_dvd_left ..) (Nat.div_pow_of_pos _ _ (by omega))
      have a2 : Nat.gcd x.natAbs y.natAbs ∣ y.natAbs ^ f.toNat := Nat.dvd_trans (Nat.gcd_dvd_right ..) (Nat.div_pow_of_pos _ _ (by omega))
      have := Nat.dvd_gcd a1 a2
      rwa [k] at this
    exact Nat.dvd_one.mp d1
  · obtain ⟨r1, r2, r3, r4, r5⟩ := div_div (D := D / f) (s := g) q1 (by omega) g3
    have gf : f < g * f := by
      have := Int.mul_lt_mul_of_pos_right g1 (show 0 < f by omega)
      omega
    have gD : g * f ≤ D := by
      have := Int.mul_le_mul_of_nonneg_right g2 (show 0 ≤ f by omega)
      omega
    have gm : D % (g * f) = 0 := by
      have : D = (g * f) * ((D / f) / g) := by
        rw [Int.mul_comm g f, Int.mul_assoc, Int.mul_comm g, r5, Int.mul_comm, q5]
      rw [this]
      exact Int.mul_emod_right ..
    have tn : (g * f).toNat = g.toNat * f.toNat := Int.toNat_mul (by omega) (by omega)
    refine mx (g * f) gf gD gm z w hz hw ?_ ?_
    · rw [tn, Int.pow_mul, ez, ex]
    · rw [tn, Int.pow_mul, ew, ey]
  · rcases Int.lt_or_le f g with c | c
    · exact absurd ew (mx g c g2 g3 z w hz hw ez)
    · exact c
/-- a number is its own root -/
theorem Num.self {d t b : Int} {p : PyData} (h : Num d t b) (ht : 0 < t) (r : RootV d t b p) : p = NumP d t b := by
  obtain ⟨f, x, y, f1, f2, f3, x0, y0, ex, ey, rfl, mx⟩ := r.ex
  have : f = 1 := by
    rcases Int.lt_or_eq_of_le f1 with c | c
    · exact absurd ey (h.pr ht f c f3 f2 x y x0 y0 ex)
    · exact c.symm
  subst this
  have e1 : x = t := by
    have q : x ^ 1 = t := ex
    rwa [Int.pow_succ, Int.pow_zero, Int.one_mul] at q
  have e2 : y = b := by
    have q : y ^ 1 = b := ey
    rwa [Int.pow_succ, Int.pow_zero, Int.one_mul] at q
  rw [Int.ediv_one, e1, e2]
  rfl
theorem low_co {t b : Int} (hb : 0 < b) : Int.gcd (low1 t b) (low2 t b) = 1 := by
  have gp : 0 < Int.gcd t b := Int.gcd_pos_of_ne_zero_right t (by omega)
  unfold low1 low2
  exact Int.gcd_ediv_gcd_ediv_gcd gp
theorem low_self {t b : Int} (h : Int.gcd t b = 1) : low1 t b = t ∧ low2 t b = b := by
  unfold low1 low2
  rw [h]
  exact ⟨Int.ediv_one t, Int.ediv_one b⟩
theorem num0 : Num 1 0 1 := ⟨by omega, by omega, by omega, by omega, by omega, by omega, by decide, fun _ => rfl, fun h => absurd h (by omega)⟩
theorem num_one {t b : Int} (t0 : 0 ≤ t) (t1 : t < 4294967296) (b0 : 1 ≤ b) (b1 : b < 4294967296) (co : Int.gcd t b = 1) : Num 1 t b :=
  ⟨by omega, by omega, t0, t1, b0, b1, co, fun _ => rfl, fun _ g g1 g2 => by omega⟩
end
end MC
end
section
set_option Elab.async false
set_option linter.all false
set_option maxRecDepth 100000
namespace K02
open PySem L2 MP MC
def b_is_fraction : Ss := .cons (.ifs (.or (.not (.isi .tuple (.var 0))) (.cmp .ne (.bi .len (.cons (.var 0) .nil)) (.int 2))) (.cons (.ret (.bl false)) .nil) .nil) (.cons (.ifs (.or (.not (.call 36 (.cons (.ix (.var 0) (.int 0)) (.cons (.int 0) (.cons (.glo 3) .nil))))) (.not (.call 36 (.cons (.ix (.var 0) (.int 1)) (.cons (.int 1) (.cons (.glo 3) .nil)))))) (.cons (.ret (.bl false)) .nil) .nil) (.cons (.ret (.cmp .eq (.call 0 (.cons (.ix (.var 0) (.int 0)) (.cons (.ix (.var 0) (.int 1)) .nil))) (.int 1))) .nil))
def f_is_fraction : FD := ⟨"is_fraction", ["value"], 1, b_is_fraction, false⟩
def b_is_number : Ss := .cons (.ifs (.or (.not (.isi .tuple (.var 0))) (.or (.cmp .ne (.bi .len (.cons (.var 0) .nil)) (.int 3)) (.or (.not (.call 36 (.cons (.ix (.var 0) (.int 0)) (.cons (.int 1) (.cons (.int 99) .nil))))) (.not (.call 37 (.cons (.sl (.var 0) (.yes (.int 1)) .no) .nil)))))) (.cons (.ret (.bl false)) .nil) .nil) (.cons (.ret (.cmp .eq (.call 33 (.cons (.ix (.var 0) (.int 0)) (.cons (.ix (.var 0) (.int 1)) (.cons (.ix (.var 0) (.int 2)) .nil)))) (.var 0))) .nil)
def f_is_number : FD := ⟨"is_number", ["value"], 1, b_is_number, false⟩
def b_need_number : Ss := .cons (.ifs (.not (.call 38 (.cons (.var 0) .nil))) (.cons (.raise 6) .nil) .nil) .nil
def f_need_number : FD := ⟨"need_number", ["value"], 1, b_need_number, false⟩
def b_root : Ss := .cons (.ifs (.not (.call 36 (.cons (.var 0) (.cons (.int 1) (.cons (.int 99) .nil))))) (.cons (.raise 6) .nil) .nil) (.cons (.ifs (.not (.call 37 (.cons (.var 1) .nil))) (.cons (.raise 6) .nil) .nil) (.cons (.ret (.call 33 (.cons (.var 0) (.cons (.ix (.var 1) (.int 0)) (.cons (.ix (.var 1) (.int 1)) .nil))))) .nil))
def f_root : FD := ⟨"root", ["degree", "fraction"], 2, b_root, false⟩
def b_compare : Ss := .cons (.exp (.call 39 (.cons (.var 0) .nil))) (.cons (.exp (.call 39 (.cons (.var 1) .nil))) (.cons (.ret (.call 35 (.cons (.var 0) (.cons (.var 1) .nil)))) .nil))
def f_compare : FD := ⟨"compare", ["number", "other_number"], 2, b_compare, false⟩
def b__law_fraction : Ss := .cons (.set 1 (.call 15 (.cons (.var 0) (.cons (.lst (.cons (.int 3) (.cons (.int 10) (.cons (.int 100) (.cons (.op .pow (.int 10) (.int 6)) (.cons (.op .pow (.int 10) (.int 11)) .nil)))))) .nil)))) (.cons (.ret (.call 42 (.cons (.call 14 (.cons (.var 0) (.cons (.op .add (.var 1) (.int 1)) .nil))) (.cons (.op .add (.int 1) (.call 14 (.cons (.var 0) (.cons (.var 1) .nil)))) .nil)))) .nil)
def f__law_fraction : FD := ⟨"_law_fraction", ["bag", "size"], 1, b__law_fraction, false⟩
def b__law_powered : Ss := .cons (.par (.cons (.n 1) (.cons (.t (.cons (.n 2) (.cons (.n 3) .nil))) .nil)) (.cons (.op .add (.int 1) (.call 14 (.cons (.var 0) (.cons (.int 5) .nil)))) (.cons (.call 42 (.cons (.call 14 (.cons (.var 0) (.cons (.int 30) .nil))) (.cons (.op .add (.int 1) (.call 14 (.cons (.var 0) (.cons (.int 29) .nil)))) .nil))) .nil))) (.cons (.ret (.tup (.cons (.op .mul (.var 1) (.op .add (.int 1) (.call 14 (.cons (.var 0) (.cons (.int 4) .nil))))) (.cons (.tup (.cons (.call 43 (.cons (.var 2) (.cons (.var 1) .nil))) (.cons (.call 43 (.cons (.var 3) (.cons (.var 1) .nil))) .nil))) .nil)))) .nil)
def f__law_powered : FD := ⟨"_law_powered", ["bag", "often", "top", "below"], 1, b__law_powered, false⟩
def b__law_near : Ss := .cons (.asg (.t (.cons (.n 2) (.cons (.n 3) (.cons (.n 4) .nil)))) (.var 1)) (.cons (.ifs (.and (.cmp .lt (.var 2) (.int 40)) (.and (.cmp .lt (.bi .max (.cons (.var 3) (.cons (.var 4) .nil))) (.op .pow (.int 10) (.int 5))) (.cmp .eq (.call 14 (.cons (.var 0) (.cons (.int 2) .nil))) (.int 0)))) (.cons (.ret (.call 45 (.cons (.op .mul (.int 2) (.var 2)) (.cons (.op .add (.op .mul (.var 3) (.var 3)) (.call 14 (.cons (.var 0) (.cons (.int 2) .nil)))) (.cons (.op .mul (.var 4) (.var 4)) .nil))))) .nil) .nil) (.cons (.set 5 (.call 15 (.cons (.var 0) (.cons (.lst (.cons (.int 1) (.cons (.int 7) (.cons (.int 1000) (.cons (.op .pow (.int 10) (.int 5)) .nil))))) .nil)))) (.cons (.ret (.op .add (.tup (.cons (.int 1) .nil)) (.call 42 (.cons (.op .add (.call 44 (.cons (.op .fdiv (.op .mul (.var 3) (.call 43 (.cons (.var 5) (.cons (.var 2) .nil)))) (.var 4)) (.cons (.var 2) .nil))) (.call 14 (.cons (.var 0) (.cons (.int 2) .nil)))) (.cons (.var 5) .nil))))) .nil)))
def f__law_near : FD := ⟨"_law_near", ["bag", "number", "degree", "top", "below", "size"], 2, b__law_near, false⟩
def b__law_refused : Ss := .cons (.set 0 (.lst (.cons .non (.cons (.int 3) (.cons (.tup (.cons (.int 1) (.cons (.int 2) .nil))) (.cons (.tup (.cons (.int 0) (.cons (.int 1) (.cons (.int 2) .nil)))) (.cons (.tup (.cons (.int 100) (.cons (.int 1) (.cons (.int 2) .nil)))) (.cons (.tup (.cons (.int 2) (.cons (.int 1) (.cons (.int 4) .nil)))) (.cons (.tup (.cons (.int 6) (.cons (.int 4) (.cons (.int 9) .nil)))) (.cons (.tup (.cons (.int 2) (.cons (.int 0) (.cons (.int 1) .nil)))) (.cons (.tup (.cons (.int 1) (.cons (.int 2) (.cons (.int 4) .nil)))) (.cons (.tup (.cons (.int 1) (.cons (.int 1) (.cons (.int 0) .nil)))) (.cons (.lst (.cons (.int 2) (.cons (.int 1) (.cons (.int 2) .nil)))) .nil))))))))))))) (.cons (.set 0 (.op .add (.var 0) (.lst (.cons (.tup (.cons (.bl true) (.cons (.int 1) (.cons (.int 2) .nil)))) (.cons (.tup (.cons (.int 2) (.cons (.bl true) (.cons (.int 2) .nil)))) (.cons (.tup (.cons (.int 1) (.cons (.neg (.int 1)) (.cons (.int 2) .nil)))) (.cons (.tup (.cons (.int 1) (.cons (.op .add (.op .pow (.int 10) (.int 12)) (.int 1)) (.cons (.int 1) .nil)))) .nil))))))) (.cons (.ifs (.cmp .ne (.lc [("odd", 1)] (.n 1) (.e (.var 0)) (.yes (.isC true (some false) (.call 38 (.cons (.var 1) .nil)))) (.var 1)) (.lst .nil)) (.cons (.ret (.bl false)) .nil) .nil) (.cons (.ifs (.not (.calll 47 [1] (.call 41 (.cons (.var 1) (.cons .non .nil))) (.cons (.var 0) (.cons (.str "number") .nil)))) (.cons (.ret (.bl false)) .nil) .nil) (.cons (.ifs (.not (.calll 47 [1] (.call 41 (.cons (.tup (.cons (.int 1) (.cons (.int 1) (.cons (.int 2) .nil)))) (.cons (.var 1) .nil))) (.cons (.var 0) (.cons (.str "number") .nil)))) (.cons (.ret (.bl false)) .nil) .nil) (.cons (.ifs (.not (.calll 47 [1] (.call 40 (.cons (.var 1) (.cons .non .nil))) (.cons (.lst (.cons .non (.cons (.int 0) (.cons (.int 100) (.cons (.bl true) .nil))))) (.cons (.str "number") .nil)))) (.cons (.ret (.bl false)) .nil) .nil) (.cons (.set 0 (.lst (.cons .non (.cons (.int 3) (.cons (.tup (.cons (.int 1) (.cons (.int 0) .nil))) (.cons (.tup (.cons (.int 2) (.cons (.int 4) .nil))) (.cons (.tup (.cons (.neg (.int 1)) (.cons (.int 2) .nil))) (.cons (.tup (.cons (.bl true) (.cons (.int 2) .nil))) (.cons (.lst (.cons (.int 1) (.cons (.int 2) .nil))) (.cons (.tup (.cons (.op .add (.op .pow (.int 10) (.int 12)) (.int 1)) (.cons (.int 1) .nil))) .nil)))))))))) (.cons (.ret (.calll 47 [1] (.call 40 (.cons (.int 3) (.cons (.var 1) .nil))) (.cons (.var 0) (.cons (.str "number") .nil)))) .nil)))))))
def f__law_refused : FD := ⟨"_law_refused", ["odds", "odd"], 0, b__law_refused, false⟩
def l_law_2_0 : Ss := .cons (.par (.cons (.n 5) (.cons (.n 6) .nil)) (.cons (.op .add (.int 1) (.call 14 (.cons (.var 2) (.cons (.int 12) .nil)))) (.cons (.call 48 (.cons (.var 2) .nil)) .nil))) (.cons (.ifs (.cmp .gt (.var 4) (.int 1)) (.cons (.asg (.t (.cons (.n 5) (.cons (.n 6) .nil))) (.call 49 (.cons (.var 2) .nil))) .nil) .nil) (.cons (.set 7 (.call 45 (.cons (.var 5) (.cons (.ix (.var 6) (.int 0)) (.cons (.ix (.var 6) (.int 1)) .nil))))) (.cons (.ifs (.cmp .ne (.call 40 (.cons (.var 5) (.cons (.var 6) .nil))) (.var 7)) (.cons (.ret (.bl false)) .nil) .nil) (.cons (.set 3 (.op .add (.var 3) (.lst (.cons (.var 7) (.cons (.call 50 (.cons (.var 2) (.cons (.var 7) .nil))) .nil))))) .nil))))
def l_law_2_1 : Ss := .cons (.set 7 (.ifx (.cmp .eq (.var 8) (.var 9)) (.int 0) (.ifx (.call 46 (.cons (.var 8) (.cons (.var 9) .nil))) (.neg (.int 1)) (.int 1)))) (.cons (.ifs (.cmp .ne (.call 41 (.cons (.var 8) (.cons (.var 9) .nil))) (.var 7)) (.cons (.ret (.bl false)) .nil) .nil) .nil)
def l_law_2_2 : Ss := .cons (.ifs (.isC true (some true) (.call 38 (.cons (.var 8) .nil))) (.cons (.ret (.bl false)) .nil) .nil) (.cons (.fors (.n 9) (.e (.var 3)) l_law_2_1) .nil)
def l_law_2_3 : Ss := .cons (.set 2 (.call 13 (.cons (.var 0) (.cons (.var 1) .nil)))) (.cons (.set 3 (.lst (.cons (.tup (.cons (.int 1) (.cons (.int 0) (.cons (.int 1) .nil)))) (.cons (.tup (.cons (.int 1) (.cons (.int 1) (.cons (.int 1) .nil)))) .nil)))) (.cons (.fors (.n 4) (.r1 (.int 4)) l_law_2_0) (.cons (.fors (.n 8) (.e (.var 3)) l_law_2_2) .nil)))
def b_law_2 : Ss := .cons (.fors (.n 1) (.r1 (.int 9)) l_law_2_3) (.cons (.ifs (.not (.call 51 .nil)) (.cons (.ret (.bl false)) .nil) .nil) (.cons (.set 10 (.lst (.cons (.call 40 (.cons (.int 6) (.cons (.tup (.cons (.int 4) (.cons (.int 9) .nil))) .nil))) (.cons (.call 40 (.cons (.int 2) (.cons (.tup (.cons (.int 1) (.cons (.int 4) .nil))) .nil))) (.cons (.call 40 (.cons (.int 3) (.cons (.tup (.cons (.int 3) (.cons (.int 8) .nil))) .nil))) (.cons (.call 40 (.cons (.int 4) (.cons (.tup (.cons (.int 0) (.cons (.int 1) .nil))) .nil))) (.cons (.call 40 (.cons (.int 12) (.cons (.tup (.cons (.int 64) (.cons (.int 729) .nil))) .nil))) .nil))))))) (.cons (.ifs (.cmp .ne (.var 10) (.lst (.cons (.tup (.cons (.int 3) (.cons (.int 2) (.cons (.int 3) .nil)))) (.cons (.tup (.cons (.int 1) (.cons (.int 1) (.cons (.int 2) .nil)))) (.cons (.tup (.cons (.int 3) (.cons (.int 3) (.cons (.int 8) .nil)))) (.cons (.tup (.cons (.int 1) (.cons (.int 0) (.cons (.int 1) .nil)))) (.cons (.tup (.cons (.int 2) (.cons (.int 2) (.cons (.int 3) .nil)))) .nil))))))) (.cons (.ret (.bl false)) .nil) .nil) (.cons (.ret (.and (.cmp .eq (.call 41 (.cons (.tup (.cons (.int 2) (.cons (.int 3) (.cons (.int 8) .nil)))) (.cons (.tup (.cons (.int 3) (.cons (.int 3) (.cons (.int 8) .nil)))) .nil))) (.neg (.int 1))) (.cmp .eq (.call 41 (.cons (.tup (.cons (.int 2) (.cons (.int 1) (.cons (.int 2) .nil)))) (.cons (.tup (.cons (.int 3) (.cons (.int 1) (.cons (.int 3) .nil)))) .nil))) (.int 1)))) .nil))))
def f_law_2 : FD := ⟨"law", ["script", "k", "bag", "numbers", "turn", "degree", "share_so", "due", "one", "other", "some"], 1, b_law_2, false⟩
def fl : FdL := ([(0, (f_divisor_of, 13)), (30, (f_lowest, 14)), (31, (f_power, 15)), (32, (f_whole_root, 16)), (33, (f_root_of, 17)), (34, (f_sign_of, 18)), (35, (f_compared, 19)), (36, (f_is_plain, 22)), (37, (f_is_fraction, 23)), (38, (f_is_number, 24)), (39, (f_need_number, 25)), (40, (f_root, 26)), (41, (f_compare, 27)), (11, (f__law_cell, 29)), (12, (f__law_draws, 30)), (13, (f__law_bag, 31)), (14, (f__law_take, 32)), (15, (f__law_choice, 33)), (42, (f__law_lowest, 34)), (43, (f__law_power, 35)), (44, (f__law_floor, 36)), (45, (f__law_root, 37)), (46, (f__law_before, 38)), (47, (f__law_all_refused, 41)), (48, (f__law_fraction, 42)), (49, (f__law_powered, 43)), (50, (f__law_near, 44)), (51, (f__law_refused, 45)), (52, (f_law_2, 46))] : List (Nat × (FD × Nat)))
def gl : List (Nat × (Str × PyData)) := ([(2, g_NONE), (3, g_GREATEST_2)] : List (Nat × (Str × PyData)))
abbrev P : Pc := mkPc fl gl
instance : BDiv P := ⟨rfl⟩
instance : BBag P := ⟨rfl, rfl, rfl, rfl, rfl⟩
instance : BLLow P := ⟨rfl⟩
instance : BLow P := ⟨rfl⟩
instance : BRoot P := ⟨rfl, rfl, rfl, rfl⟩
instance : BCmp P := ⟨rfl, rfl⟩
def idLaw : Nat := 52
end K02
end
section
set_option Elab.async false
set_option linter.all false
set_option maxRecDepth 100000
set_option maxHeartbeats 2000000
namespace K02
open PySem L2 MP MC
instance : BLRoot P := ⟨rfl, rfl, rfl, rfl⟩
theorem glo3 {n : Nat} : (cfF P n).glo 3 = some (.int 1000000000000) := by
  rw [cfF_glo]
  rfl
def plainB (p : PyData) (lo hi : Int) : Bool := match p with
  | .int i => decide (lo ≤ i) && decide (i ≤ hi)
  | _ => false
theorem e_plain {n : Nat} {p : PyData} {lo hi : Int} {h : Hh} (hp : noDict p = true) : callF P (n + 1) 36 [.d p, .d (.int lo), .d (.int hi)] h = .ok (.d (.bool (plainB p lo hi))) h := by
  rw [call_eq f_is_plain [some (.d p), some (.d (.int lo)), some (.d (.int hi))] rfl rfl rfl]
  show endF false h (evSs (cfF P n) b_is_plain _ h) = _
  unfold b_is_plain
  cases p with
  | int i => 
    by_cases c : lo ≤ i
    · simp [evSs, evS, evE, evEs, evO, evT, evI, itemsF, Res.bd, Res.to, Res.nox, asB, asI, okB, okD, isiF, MP.b2, Cm.ev, end_d, end_n, end_x, dats, dat, datT, pures, on1, on2, on2T, bindT, bindTs, Bi.ev, isCF, ixF, slF, bg1, bg2, bg3, bg4, bg5, bg6, bg7, bg8, plainB, c]
    · simp [evSs, evS, evE, evEs, evO, evT, evI, itemsF, Res.bd, Res.to, Res.nox, asB, asI, okB, okD, isiF, MP.b2, Cm.ev, end_d, end_n, end_x, dats, dat, datT, pures, on1, on2, on2T, bindT, bindTs, Bi.ev, isCF, ixF, slF, bg1, bg2, bg3, bg4, bg5, bg6, bg7, bg8, plainB, c]
  | dict ps => cases hp
  | _ => simp [evSs, evS, evE, evEs, evO, evT, evI, itemsF, Res.bd, Res.to, Res.nox, asB, asI, okB, okD, isiF, MP.b2, Cm.ev, end_d, end_n, end_x, dats, dat, datT, pures, on1, on2, on2T, bindT, bindTs, Bi.ev, isCF, ixF, slF, bg1, bg2, bg3, bg4, bg5, bg6, bg7, bg8, plainB]
theorem e_fracI {n : Nat} {t b : Int} {h : Hh} : callF P (n + 2) 37 [.d (.tuple [.int t, .int b])] h = .ok (.d (.bool (decide ((0 ≤ t ∧ t ≤ 1000000000000) ∧ (1 ≤ b ∧ b ≤ 1000000000000) ∧ Int.gcd t b = 1)))) h := by
  rw [call_eq f_is_fraction [some (.d (.tuple [.int t, .int b]))] rfl rfl rfl]
  show endF false h (evSs (cfF P (n + 1)) b_is_fraction _ h) = _
  unfold b_is_fraction
  have pl : ∀ {i lo hi : Int}, (cfF P (n + 1)).call 36 [.d (.int i), .d (.int lo), .d (.int hi)] h = .ok (.d (.bool (decide (lo ≤ i) && decide (i ≤ hi)))) h := fun {i lo hi} => e_plain rfl
  have s8 : ∀ i, SeqAt.shaped (.int i) = true := fun _ => rfl
  have j0 : ixN 2 0 = some 0 := rfl
  have j1 : ixN 2 1 = some 1 := rfl
  by_cases c1 : 0 ≤ t ∧ t ≤ 1000000000000
  · by_cases c2 : 1 ≤ b ∧ b ≤ 1000000000000
    · have ed : (cfF P (n + 1)).call 0 [.d (.int t), .d (.int b)] h = .ok (.d (.int (Int.gcd t b))) h := e_div c1.1 (by omega) (by
        have h1 : (2 : Int) ^ 40 ≤ 2 ^ 400000 := p2_le (by omega)
        have h2 : (2 : Int) ^ 40 = 1099511627776 := by decide
        omega)
      by_cases c3 : Int.gcd t b = 1
      · simp [evSs, evS, evE, evEs, evO, evT, evI, itemsF, Res.bd, Res.to, Res.nox, asB, asI, okB, okD, isiF, MP.b2, Cm.ev, end_d, end_n, end_x, dats, dat, datT, pures, on1, on2, on2T, bindT, bindTs, Bi.ev, isCF, ixF, slF, bg1, bg2, bg3, bg4, bg5, bg6, bg7, bg8, atI, j0, j1, pl, glo3, c1, c2, s8, PyData.eqv, ed, c3]
      · have c3' : ¬ ((Int.gcd t b : Nat) : Int) = 1 := by omega
        simp [evSs, evS, evE, evEs, evO, evT, evI, itemsF, Res.bd, Res.to, Res.nox, asB, asI, okB, okD, isiF, MP.b2, Cm.ev, end_d, end_n, end_x, dats, dat, datT, pures, on1, on2, on2T, bindT, bindTs, Bi.ev, isCF, ixF, slF, bg1, bg2, bg3, bg4, bg5, bg6, bg7, bg8, atI, j0, j1, pl, glo3, c1, c2, s8, PyData.eqv, ed, c3, c3']
    · have c2' : 1 ≤ b → ¬ b ≤ 1000000000000 := fun a b => c2 ⟨a, b⟩
      by_cases c4 : 1 ≤ b
      · simp [evSs, evS, evE, evEs, evO, evT, evI, itemsF, Res.bd, Res.to, Res.nox, asB, asI, okB, okD, isiF, MP.b2, Cm.ev, end_d, end_n, end_x, dats, dat, datT, pures, on1, on2, on2T, bindT, bindTs, Bi.ev, isCF, ixF, slF, bg1, bg2, bg3, bg4, bg5, bg6, bg7, bg8, atI, j0, j1, pl, glo3, c1, c2, c2' c4, c4, s8, PyData.eqv]
      · simp [evSs, evS, evE, evEs, evO, evT, evI, itemsF, Res.bd, Res.to, Res.nox, asB, asI, okB, okD, isiF, MP.b2, Cm.ev, end_d, end_n, end_x, dats, dat, datT, pures, on1, on2, on2T, bindT, bindTs, Bi.ev, isCF, ixF, slF, bg1, bg2, bg3, bg4, bg5, bg6, bg7, bg8, atI, j0, j1, pl, glo3, c1, c2, c4, s8, PyData.eqv]
  · by_cases c4 : 0 ≤ t
    · have c5 : ¬ t ≤ 1000000000000 := fun b => c1 ⟨c4, b⟩
      simp [evSs, evS, evE, evEs, evO, evT, evI, itemsF, Res.bd, Res.to, Res.nox, asB, asI, okB, okD, isiF, MP.b2, Cm.ev, end_d, end_n, end_x, dats, dat, datT, pures, on1, on2, on2T, bindT, bindTs, Bi.ev, isCF, ixF, slF, bg1, bg2, bg3, bg4, bg5, bg6, bg7, bg8, atI, j0, j1, pl, glo3, c1, c4, c5, s8, PyData.eqv]
    · simp [evSs, evS, evE, evEs, evO, evT, evI, itemsF, Res.bd, Res.to, Res.nox, asB, asI, okB, okD, isiF, MP.b2, Cm.ev, end_d, end_n, end_x, dats, dat, datT, pures, on1, on2, on2T, bindT, bindTs, Bi.ev, isCF, ixF, slF, bg1, bg2, bg3, bg4, bg5, bg6, bg7, bg8, atI, j0, j1, pl, glo3, c1, c4, s8, PyData.eqv]
theorem sl3 {a b c : PyData} : cutF [a, b, c] (some 1) none = [b, c] := rfl
theorem fr_yes {t b : Int} (t0 : 0 ≤ t) (t1 : t < 4294967296) (b0 : 1 ≤ b) (b1 : b < 4294967296) (co : Int.gcd t b = 1) : decide ((0 ≤ t ∧ t ≤ 1000000000000) ∧ (1 ≤ b ∧ b ≤ 1000000000000) ∧ Int.gcd t b = 1) = true :=
  decide_eq_true ⟨⟨t0, by omega⟩, ⟨b0, by omega⟩, co⟩
/-- is_number, the parts told -/
theorem e_isn {n : Nat} {d t b : Int} {q : PyData} {k : Bool} {h : Hh} (hd : 1 ≤ d) (hd2 : d ≤ 99) (hf : decide ((0 ≤ t ∧ t ≤ 1000000000000) ∧ (1 ≤ b ∧ b ≤ 1000000000000) ∧ Int.gcd t b = 1) = true) (er : callF P (n + 2) 33 [.d (.int d), .d (.int t), .d (.int b)] h = .ok (.d q) h) (sq : SeqAt.shaped q = true) (eq : PyData.eqv q (NumP d t b) = k) :
    callF P (n + 3) 38 [.d (NumP d t b)] h = .ok (.d (.bool k)) h := by
  rw [call_eq f_is_number [some (.d (NumP d t b))] rfl rfl rfl]
  show endF false h (evSs (cfF P (n + 2)) b_is_number _ h) = _
  unfold b_is_number
  have pl : ∀ {i lo hi : Int}, (cfF P (n + 2)).call 36 [.d (.int i), .d (.int lo), .d (.int hi)] h = .ok (.d (.bool (decide (lo ≤ i) && decide (i ≤ hi)))) h := fun {i lo hi} => e_plain rfl
  have fr : (cfF P (n + 2)).call 37 [.d (.tuple [.int t, .int b])] h = .ok (.d (.bool true)) h := by
    rw [← hf]
    exact e_fracI
  have s8 : ∀ i, SeqAt.shaped (.int i) = true := fun _ => rfl
  have j0 : ixN 3 0 = some 0 := rfl
  have j1 : ixN 3 1 = some 1 := rfl
  have j2 : ixN 3 2 = some 2 := rfl
  have sn := nump_sh (d := d) (t := t) (b := b)
  unfold NumP at sn eq ⊢
  simp [evSs, evS, evE, evEs, evO, evT, evI, itemsF, Res.bd, Res.to, Res.nox, asB, asI, okB, okD, isiF, MP.b2, Cm.ev, end_d, end_n, end_x, dats, dat, datT, pures, on1, on2, on2T, bindT, bindTs, Bi.ev, isCF, ixF, slF, bg1, bg2, bg3, bg4, bg5, bg6, bg7, bg8, atI, j0, j1, j2, pl, fr, sl3, hd, hd2, s8, PyData.eqv, er, sq, sn]
  simpa using eq
theorem e_isnum {n : Nat} {d t b : Int} {h : Hh} (H : Num d t b) : callF P (n + 5) 38 [.d (NumP d t b)] h = .ok (.d (.bool true)) h := by
  have hf := fr_yes H.t0 H.t1 H.b0 H.b1 H.co
  have d0 := H.d0
  have d1 := H.d1
  rcases Int.lt_or_eq_of_le H.t0 with c | c
  · have t33 : (2 : Int) ^ 33 = 8589934592 := by decide
    have t1 := H.t1
    have b1 := H.b1
    obtain ⟨q, eq, r⟩ := e_rootof (P := P) (n := n + 1) (D := d) (t := t) (b := b) (m := 33) (h := h) (by omega) (by omega) c (by have := H.b0; omega) (by omega) (by omega) (by omega) (by omega)
    obtain ⟨l1, l2⟩ := low_self H.co
    rw [l1, l2] at r
    have := H.self c r
    subst this
    exact e_isn (n := n + 2) d0 (by omega) hf eq nump_sh (by rw [num_eqv]; exact decide_eq_true ⟨rfl, rfl, rfl⟩)
  · have hd := H.z c.symm
    have hb : b = 1 := by
      have co := H.co
      rw [← c, Int.gcd_zero_left] at co
      have := H.b0
      omega
    subst hd hb
    rw [← c]
    refine e_isn (n := n + 2) (by omega) (by omega) (by decide) (e_rootof0 (n := n + 3)) (q := NumP 1 0 1) nump_sh (by rw [num_eqv]; decide)
theorem e_need {n : Nat} {d t b : Int} {h : Hh} (H : Num d t b) : callF P (n + 6) 39 [.d (NumP d t b)] h = .ok (.d .none) h := by
  rw [call_eq f_need_number [some (.d (NumP d t b))] rfl rfl rfl]
  show endF false h (evSs (cfF P (n + 5)) b_need_number _ h) = _
  unfold b_need_number
  have e := e_isnum (n := n) (h := h) H
  simp [evSs, evS, evE, evEs, evO, evT, evI, itemsF, Res.bd, Res.to, Res.nox, asB, asI, okB, okD, isiF, MP.b2, Cm.ev, end_d, end_n, end_x, dats, dat, datT, pures, on1, on2, on2T, bindT, bindTs, Bi.ev, isCF, ixF, slF, bg1, bg2, bg3, bg4, bg5, bg6, bg7, bg8, e]
theorem e_need_no {n : Nat} {p : PyData} {h : Hh} (e : callF P n 38 [.d p] h = .ok (.d (.bool false)) h) : callF P (n + 1) 39 [.d p] h = .exc 6 h := by
  rw [call_eq f_need_number [some (.d p)] rfl rfl rfl]
  show endF false h (evSs (cfF P n) b_need_number _ h) = _
  unfold b_need_number
  simp [evSs, evS, evE, evEs, evO, evT, evI, itemsF, Res.bd, Res.to, Res.nox, asB, asI, okB, okD, isiF, MP.b2, Cm.ev, end_d, end_n, end_x, dats, dat, datT, pures, on1, on2, on2T, bindT, bindTs, Bi.ev, isCF, ixF, slF, bg1, bg2, bg3, bg4, bg5, bg6, bg7, bg8, e]
theorem e_compare {n : Nat} {d t b e u v : Int} {h : Hh} (H : Num d t b) (K : Num e u v) : callF P (n + 7) 41 [.d (NumP d t b), .d (NumP e u v)] h = .ok (.d (.int (sgn (cA d t b e u v - cA e u v d t b)))) h := by
  rw [call_eq f_compare [some (.d (NumP d t b)), some (.d (NumP e u v))] rfl rfl rfl]
  show endF false h (evSs (cfF P (n + 6)) b_compare _ h) = _
  unfold b_compare
  have e1 := e_need (n := n) (h := h) H
  have e2 := e_need (n := n) (h := h) K
  have e3 := e_compared (P := P) (n := n + 4) (h := h) H K
  simp [evSs, evS, evE, evEs, evO, evT, evI, itemsF, Res.bd, Res.to, Res.nox, asB, asI, okB, okD, isiF, MP.b2, Cm.ev, end_d, end_n, end_x, dats, dat, datT, pures, on1, on2, on2T, bindT, bindTs, Bi.ev, isCF, ixF, slF, bg1, bg2, bg3, bg4, bg5, bg6, bg7, bg8, e1, e2, e3]
theorem e_compare_no1 {n : Nat} {p q : PyData} {h : Hh} (e : callF P n 38 [.d p] h = .ok (.d (.bool false)) h) : callF P (n + 2) 41 [.d p, .d q] h = .exc 6 h := by
  rw [call_eq f_compare [some (.d p), some (.d q)] rfl rfl rfl]
  show endF false h (evSs (cfF P (n + 1)) b_compare _ h) = _
  unfold b_compare
  have e1 := e_need_no e
  simp [evSs, evS, evE, evEs, evO, evT, evI, itemsF, Res.bd, Res.to, Res.nox, asB, asI, okB, okD, isiF, MP.b2, Cm.ev, end_d, end_n, end_x, dats, dat, datT, pures, on1, on2, on2T, bindT, bindTs, Bi.ev, isCF, ixF, slF, bg1, bg2, bg3, bg4, bg5, bg6, bg7, bg8, e1]
theorem e_compare_no2 {n : Nat} {d t b : Int} {q : PyData} {h : Hh} (H : Num d t b) (e : callF P (n + 5) 38 [.d q] h = .ok (.d (.bool false)) h) : callF P (n + 7) 41 [.d (NumP d t b), .d q] h = .exc 6 h := by
  rw [call_eq f_compare [some (.d (NumP d t b)), some (.d q)] rfl rfl rfl]
  show endF false h (evSs (cfF P (n + 6)) b_compare _ h) = _
  unfold b_compare
  have e1 := e_need (n := n) (h := h) H
  have e2 := e_need_no e
  simp [evSs, evS, evE, evEs, evO, evT, evI, itemsF, Res.bd, Res.to, Res.nox, asB, asI, okB, okD, isiF, MP.b2, Cm.ev, end_d, end_n, end_x, dats, dat, datT, pures, on1, on2, on2T, bindT, bindTs, Bi.ev, isCF, ixF, slF, bg1, bg2, bg3, bg4, bg5, bg6, bg7, bg8, e1, e2]
theorem e_root {n : Nat} {D t b : Int} {q : PyData} {h : Hh} (hd : 1 ≤ D) (hd2 : D ≤ 99) (hf : decide ((0 ≤ t ∧ t ≤ 1000000000000) ∧ (1 ≤ b ∧ b ≤ 1000000000000) ∧ Int.gcd t b = 1) = true) (er : callF P (n + 2) 33 [.d (.int D), .d (.int t), .d (.int b)] h = .ok (.d q) h) : callF P (n + 3) 40 [.d (.int D), .d (.tuple [.int t, .int b])] h = .ok (.d q) h := by
  rw [call_eq f_root [some (.d (.int D)), some (.d (.tuple [.int t, .int b]))] rfl rfl rfl]
  show endF false h (evSs (cfF P (n + 2)) b_root _ h) = _
  unfold b_root
  have pl : ∀ {i lo hi : Int}, (cfF P (n + 2)).call 36 [.d (.int i), .d (.int lo), .d (.int hi)] h = .ok (.d (.bool (decide (lo ≤ i) && decide (i ≤ hi)))) h := fun {i lo hi} => e_plain rfl
  have fr : (cfF P (n + 2)).call 37 [.d (.tuple [.int t, .int b])] h = .ok (.d (.bool true)) h := by
    rw [← hf]
    exact e_fracI
  have j0 : ixN 2 0 = some 0 := rfl
  have j1 : ixN 2 1 = some 1 := rfl
  simp [evSs, evS, evE, evEs, evO, evT, evI, itemsF, Res.bd, Res.to, Res.nox, asB, asI, okB, okD, isiF, MP.b2, Cm.ev, end_d, end_n, end_x, dats, dat, datT, pures, on1, on2, on2T, bindT, bindTs, Bi.ev, isCF, ixF, slF, bg1, bg2, bg3, bg4, bg5, bg6, bg7, bg8, atI, j0, j1, pl, fr, hd, hd2, er]
end K02
end
section
set_option Elab.async false
set_option linter.all false
set_option maxRecDepth 100000
set_option maxHeartbeats 2000000
namespace K02
open PySem L2 MP MC
/-! ### bags with small numbers -/
def BagS (h : Hh) (r : Nat) : Prop := ∃ ns : List Int, h[r]? = some (.lst (ns.map PyData.int)) ∧ ∀ i ∈ ns, 0 ≤ i ∧ i < 27720
def BkS (r : Nat) (h h' : Hh) : Prop := ∃ ns : List Int, h' = h.set r (.lst (ns.map PyData.int)) ∧ ∀ i ∈ ns, 0 ≤ i ∧ i < 27720
def TkS (r : Nat) (h : Hh) (Q : PyData → Prop) (R : Res Val) : Prop := ∃ p h', R = .ok (.d p) h' ∧ BkS r h h' ∧ Q p
theorem BagS.lt {h : Hh} {r : Nat} (b : BagS h r) : r < h.length := by
  obtain ⟨ns, e, _⟩ := b
  exact (List.getElem?_eq_some_iff.mp e).1
theorem BagS.rfl {h : Hh} {r : Nat} (b : BagS h r) : BkS r h h := by
  obtain ⟨ns, e, q⟩ := b
  refine ⟨ns, ?_, q⟩
  obtain ⟨l, e⟩ := List.getElem?_eq_some_iff.mp e
  rw [← e, List.set_getElem_self]
theorem BkS.bk {r : Nat} {h h' : Hh} (b : BkS r h h') : Bk r h h' := by
  obtain ⟨ns, e, _⟩ := b
  exact ⟨ns, e⟩
theorem BkS.bag {r : Nat} {h h' : Hh} (b : BagS h r) (k : BkS r h h') : BagS h' r := by
  obtain ⟨ns, e, q⟩ := k
  subst e
  exact ⟨ns, by rw [List.getElem?_set_self b.lt], q⟩
theorem BkS.trans {r : Nat} {h h1 h2 : Hh} (a : BkS r h h1) (b : BkS r h1 h2) : BkS r h h2 := by
  obtain ⟨ns, e, q⟩ := a
  obtain ⟨ms, f, w⟩ := b
  subst e f
  exact ⟨ms, by rw [List.set_set], w⟩
theorem e_takeS {n r : Nat} {h : Hh} {m : Int} (hb : BagS h r) (hm : 0 < m) : TkS r h (fun p => ∃ i : Int, p = .int i ∧ 0 ≤ i ∧ i < m ∧ i < 27720) (callF P (n + 1) 14 [.ref r, .d (.int m)] h) := by
  rw [call_eq f__law_take [some (.ref r), some (.d (.int m)), none] rfl rfl rfl]
  show TkS r h _ (endF false h (evSs (cfF P n) b__law_take _ h))
  unfold b__law_take
  have hb0 := hb
  obtain ⟨ns, e, q⟩ := hb
  cases ns with
  | nil =>
    refine ⟨.int 0, h, ?_, hb0.rfl, 0, rfl, by omega, hm, by omega⟩
    have e : h[r]? = some (.lst []) := e
    simp [evSs, evS, evE, evEs, evO, evT, evI, itemsF, Res.bd, Res.to, Res.nox, asB, asI, okB, okD, isiF, MP.b2, Cm.ev, end_d, end_n, end_x, dats, dat, datT, pures, on1, on2, on2T, bindT, bindTs, Bi.ev, isCF, ixF, slF, bg1, bg2, bg3, bg4, bg5, bg6, bg7, bg8, e, sh_nil, PyData.eqv, PyData.eqvAll, O2.ev, hm]
  | cons x xs =>
    obtain ⟨x0, x1⟩ := q x List.mem_cons_self
    have xm : x % m ≤ x := by
      have := Int.emod_add_mul_ediv x m
      have := Int.mul_nonneg (show 0 ≤ m by omega) (Int.ediv_nonneg x0 (show 0 ≤ m by omega))
      omega
    refine ⟨.int (x % m), h.set r (.lst (xs.map PyData.int)), ?_, ⟨xs, rfl, fun i hi => q i (List.mem_cons_of_mem _ hi)⟩, x % m, rfl, Int.emod_nonneg _ (by omega), Int.emod_lt_of_pos _ hm, by omega⟩
    have e : h[r]? = some (.lst (.int x :: xs.map PyData.int)) := e
    have s : SeqAt.shaped (.list (.int x :: xs.map PyData.int)) = true := sh_ints (ns := x :: xs)
    simp [evSs, evS, evE, evEs, evO, evT, evI, itemsF, Res.bd, Res.to, Res.nox, asB, asI, okB, okD, isiF, MP.b2, Cm.ev, end_d, end_n, end_x, dats, dat, datT, pures, on1, on2, on2T, bindT, bindTs, Bi.ev, isCF, ixF, slF, bg1, bg2, bg3, bg4, bg5, bg6, bg7, bg8, e, s, sh_nil, PyData.eqv, PyData.eqvAll, O2.ev, hm, end_s]
theorem e_choiceS {n r : Nat} {h : Hh} {ps : List PyData} (hb : BagS h r) (hp : ps ≠ []) : TkS r h (fun p => p ∈ ps) (callF P (n + 2) 15 [.ref r, .d (.list ps)] h) := by
  rw [call_eq f__law_choice [some (.ref r), some (.d (.list ps))] rfl rfl rfl]
  show TkS r h _ (endF false h (evSs (cfF P (n + 1)) b__law_choice _ h))
  unfold b__law_choice
  have hl : 0 < (ps.length : Int) := by
    cases ps with
    | nil => exact absurd rfl hp
    | cons => simp
  obtain ⟨p, h1, e1, b1, i, rfl, i0, i1, _⟩ := e_takeS (n := n) hb hl
  obtain ⟨p, hm, ep⟩ := atI_mem i0 i1
  refine ⟨p, h1, ?_, b1, hm⟩
  simp [evSs, evS, evE, evEs, evO, evT, evI, itemsF, Res.bd, Res.to, Res.nox, asB, asI, okB, okD, isiF, MP.b2, Cm.ev, end_d, end_n, end_x, dats, dat, datT, pures, on1, on2, on2T, bindT, bindTs, Bi.ev, isCF, ixF, slF, bg1, bg2, bg3, bg4, bg5, bg6, bg7, bg8, e1, ep, end_b b1.bk]
/-! ### fractions -/
theorem small_sm {b : Int} (h : b < 4294967296) : sm b := by
  unfold sm
  have h1 : (2 : Int) ^ 32 ≤ 2 ^ 8000 := p2_le (by omega)
  have h2 : (2 : Int) ^ 32 = 4294967296 := by decide
  omega
theorem low_bd {t b : Int} (ht : 0 ≤ t) (hb : 0 < b) : 0 ≤ low1 t b ∧ low1 t b ≤ t ∧ 1 ≤ low2 t b ∧ low2 t b ≤ b ∧ Int.gcd (low1 t b) (low2 t b) = 1 := by
  rcases Int.lt_or_eq_of_le ht with c | c
  · obtain ⟨a1, a2, a3, a4⟩ := low_pos c hb
    exact ⟨by omega, a3, by omega, a4, low_co hb⟩
  · have co := low_co (t := t) hb
    have e1 : low1 t b = 0 := by
      rw [← c]
      unfold low1
      exact Int.zero_ediv _
    have e2 : low2 t b = 1 := by
      rw [← c]
      unfold low2
      rw [Int.gcd_zero_left]
      have : (b.natAbs : Int) = b := by omega
      rw [this]
      exact Int.ediv_self (by omega)
    rw [e1, e2] at co ⊢
    exact ⟨by omega, by omega, by omega, by omega, co⟩
theorem e_fraction {n r : Nat} {h : Hh} (hb : BagS h r) : TkS r h (fun p => ∃ t b : Int, p = .tuple [.int t, .int b] ∧ 0 ≤ t ∧ t ≤ 27719 ∧ 1 ≤ b ∧ b ≤ 27720 ∧ Int.gcd t b = 1) (callF P (n + 3) 48 [.ref r] h) := by
  rw [call_eq f__law_fraction [some (.ref r), none] rfl rfl rfl]
  show TkS r h _ (endF false h (evSs (cfF P (n + 2)) b__law_fraction _ h))
  unfold b__law_fraction
  obtain ⟨p, h1, e1, b1, m1⟩ := e_choiceS (n := n) (ps := [.int 3, .int 10, .int 100, .int 1000000, .int 100000000000]) hb (by simp)
  obtain ⟨z, rfl, z0⟩ : ∃ z : Int, p = .int z ∧ 1 ≤ z := by
    simp only [List.mem_cons, List.not_mem_nil, or_false] at m1
    rcases m1 with rfl | rfl | rfl | rfl | rfl <;> exact ⟨_, rfl, by omega⟩
  have a1 : evS (cfF P (n + 2)) (.set 1 (.call 15 (.cons (.var 0) (.cons (.lst (.cons (.int 3) (.cons (.int 10) (.cons (.int 100) (.cons (.op .pow (.int 10) (.int 6)) (.cons (.op .pow (.int 10) (.int 11)) .nil)))))) .nil)))) [some (.ref r), none] h = .nx [some (.ref r), some (.d (.int z))] h1 := by
    have q1 : (10 : Int) ^ (6 : Int).toNat = 1000000 := by decide
    have q2 : (10 : Int) ^ (11 : Int).toNat = 100000000000 := by decide
    simp [evSs, evS, evE, evEs, evO, evT, evI, itemsF, Res.bd, Res.to, Res.nox, asB, asI, okB, okD, isiF, MP.b2, Cm.ev, end_d, end_n, end_x, dats, dat, datT, pures, on1, on2, on2T, bindT, bindTs, Bi.ev, isCF, ixF, slF, bg1, bg2, bg3, bg4, bg5, bg6, bg7, bg8, O2.ev, q1, q2, e1]
  rw [seq_nx a1]
  obtain ⟨_, h2, e2, b2, i, rfl, i0, i1, i2⟩ := e_takeS (n := n + 1) (m := z + 1) (b1.bag hb) (by omega)
  obtain ⟨_, h3, e3, b3, j, rfl, j0, j1, j2⟩ := e_takeS (n := n + 1) (m := z) (b2.bag (b1.bag hb)) (by omega)
  have el := e_llow (P := P) (n := n + 1) (h := h3) (t := i) (b := 1 + j) i0 (by omega) (small_sm (by omega))
  obtain ⟨l1, l2, l3, l4, l5⟩ := low_bd i0 (show 0 < 1 + j by omega)
  refine ⟨_, h3, ?_, (b1.trans b2).trans b3, low1 i (1 + j), low2 i (1 + j), rfl, l1, by omega, l3, by omega, l5⟩
  simp [evSs, evS, evE, evEs, evO, evT, evI, itemsF, Res.bd, Res.to, Res.nox, asB, asI, okB, okD, isiF, MP.b2, Cm.ev, end_d, end_n, end_x, dats, dat, datT, pures, on1, on2, on2T, bindT, bindTs, Bi.ev, isCF, ixF, slF, bg1, bg2, bg3, bg4, bg5, bg6, bg7, bg8, O2.ev, e2, e3, el, end_b ((b1.trans b2).trans b3).bk]
theorem e_powered {n r : Nat} {h : Hh} (hb : BagS h r) : TkS r h (fun p => ∃ k f t b : Int, p = .tuple [.int (f * k), .tuple [.int (t ^ f.toNat), .int (b ^ f.toNat)]] ∧ 1 ≤ f ∧ f ≤ 5 ∧ 1 ≤ k ∧ k ≤ 4 ∧ 0 ≤ t ∧ t ≤ 29 ∧ 1 ≤ b ∧ b ≤ 29 ∧ Int.gcd t b = 1) (callF P (n + 3) 49 [.ref r] h) := by
  rw [call_eq f__law_powered [some (.ref r), none, none, none] rfl rfl rfl]
  show TkS r h _ (endF false h (evSs (cfF P (n + 2)) b__law_powered _ h))
  unfold b__law_powered
  obtain ⟨_, h1, e1, b1, f, rfl, f0, f1, _⟩ := e_takeS (n := n + 1) (m := 5) hb (by omega)
  obtain ⟨_, h2, e2, b2, i, rfl, i0, i1, i2⟩ := e_takeS (n := n + 1) (m := 30) (b1.bag hb) (by omega)
  obtain ⟨_, h3, e3, b3, j, rfl, j0, j1, j2⟩ := e_takeS (n := n + 1) (m := 29) (b2.bag (b1.bag hb)) (by omega)
  have el := e_llow (P := P) (n := n + 1) (h := h3) (t := i) (b := 1 + j) i0 (by omega) (small_sm (by omega))
  obtain ⟨l1, l2, l3, l4, l5⟩ := low_bd i0 (show 0 < 1 + j by omega)
  obtain ⟨_, h4, e4, b4, k, rfl, k0, k1, _⟩ := e_takeS (n := n + 1) (m := 4) (b3.bag (b2.bag (b1.bag hb))) (by omega)
  have bt : (low1 i (1 + j)).natAbs < 2 ^ 5 := by have : (2 : Nat) ^ 5 = 32 := by decide
                                                  omega
  have bb : (low2 i (1 + j)).natAbs < 2 ^ 5 := by have : (2 : Nat) ^ 5 = 32 := by decide
                                                  omega
  have p1 := e_lpow (P := P) (n := n + 1) (h := h4) (kk := 1 + f) bt (by omega) (by omega) (by omega)
  have p2 := e_lpow (P := P) (n := n + 1) (h := h4) (kk := 1 + f) bb (by omega) (by omega) (by omega)
  have w : wideMul (1 + f) (1 + k) = true := wm (by omega) (by omega)
  have bk := ((b1.trans b2).trans b3).trans b4
  refine ⟨_, h4, ?_, bk, 1 + k, 1 + f, low1 i (1 + j), low2 i (1 + j), rfl, by omega, by omega, by omega, by omega, l1, by omega, l3, by omega, l5⟩
  generalize low1 i (1 + j) = T at *
  generalize low2 i (1 + j) = B at *
  simp [evSs, evS, evE, evEs, evO, evT, evI, itemsF, Res.bd, Res.to, Res.nox, asB, asI, okB, okD, isiF, MP.b2, Cm.ev, end_d, end_n, end_x, dats, dat, datT, pures, on1, on2, on2T, bindT, bindTs, Bi.ev, isCF, ixF, slF, bg1, bg2, bg3, bg4, bg5, bg6, bg7, bg8, O2.ev, e1, e2, e3, el, e4, p1, p2, w, end_b bk.bk]
end K02
end
section
set_option Elab.async false
set_option linter.all false
set_option maxRecDepth 100000
set_option maxHeartbeats 2000000
namespace K02
open PySem L2 MP MC
theorem e_due {n : Nat} {D t b : Int} {h : Hh} (hD : 1 ≤ D) (hD2 : D ≤ 40) (t0 : 0 ≤ t) (t1 : t < 4294967296) (b0 : 1 ≤ b) (b1 : b < 4294967296) :
    ∃ d u v, callF P (n + 4) 45 [.d (.int D), .d (.int t), .d (.int b)] h = .ok (.d (NumP d u v)) h ∧ callF P (n + 4) 33 [.d (.int D), .d (.int t), .d (.int b)] h = .ok (.d (NumP d u v)) h ∧ Num d u v ∧ d ≤ D ∧ (t = 0 → u = 0 ∧ v = 1) ∧
      (0 < t → Int.gcd t b = 1 → ∃ f : Int, 1 ≤ f ∧ 0 < u ∧ 0 < v ∧ u ^ f.toNat = t ∧ v ^ f.toNat = b ∧ ∀ g : Int, 1 ≤ g → g ≤ D → D % g = 0 → ∀ x y : Int, 0 ≤ x → 0 ≤ y → x ^ g.toNat = t → y ^ g.toNat = b → g ≤ f) := by
  have t33 : (2 : Int) ^ 33 = 8589934592 := by decide
  rcases Int.lt_or_eq_of_le t0 with c | c
  · obtain ⟨p, e1, r1⟩ := e_lroot (P := P) (n := n + 1) (D := D) (t := t) (b := b) (m := 33) (h := h) hD (by omega) c (by omega) (by omega) (by omega) (by omega) (by omega)
    obtain ⟨q, e2, r2⟩ := e_rootof (P := P) (n := n + 1) (D := D) (t := t) (b := b) (m := 33) (h := h) hD (by omega) c (by omega) (by omega) (by omega) (by omega) (by omega)
    rw [← r1.uni r2] at e2
    obtain ⟨l1, l2, l3, l4⟩ := low_pos c (show 0 < b by omega)
    obtain ⟨d, u, v, f, rfl, hn, f1, fd, u0, eu, ev, mx⟩ := r1.num hD hD2 l1 (by omega) l2 (by omega) (low_co (by omega))
    have df : d ≤ D := by
      have := Int.mul_le_mul_of_nonneg_left f1 (show 0 ≤ d by have := hn.d0; omega)
      omega
    refine ⟨d, u, v, e1, e2, hn, df, fun z => by omega, fun _ co => ?_⟩
    obtain ⟨s1, s2⟩ := low_self co
    rw [s1] at eu mx
    rw [s2] at ev mx
    exact ⟨f, f1, u0, by have := hn.b0; omega, eu, ev, mx⟩
  · subst c
    exact ⟨1, 0, 1, e_lroot0 (n := n + 3), e_rootof0 (n := n + 3), num0, hD, fun _ => ⟨rfl, rfl⟩, fun z => absurd z (by omega)⟩
def Ini (D t b : Int) : Prop := (1 ≤ D ∧ D ≤ 20) ∧ (0 ≤ t ∧ t < 4294967296) ∧ (1 ≤ b ∧ b < 4294967296) ∧ Int.gcd t b = 1 ∧ ∀ u v f : Int, 0 < u → 0 < v → 1 ≤ f → u ^ f.toNat = t → v ^ f.toNat = b → (∀ g : Int, 1 ≤ g → g ≤ D → D % g = 0 → ∀ x y : Int, 0 ≤ x → 0 ≤ y → x ^ g.toNat = t → y ^ g.toNat = b → g ≤ f) → u ≤ 27720 ∧ v ≤ 27720
theorem ini_frac {D t b : Int} (hD : 1 ≤ D) (hD2 : D ≤ 20) (t0 : 0 ≤ t) (t1 : t ≤ 27719) (b0 : 1 ≤ b) (b1 : b ≤ 27720) (co : Int.gcd t b = 1) : Ini D t b := by
  refine ⟨⟨hD, hD2⟩, ⟨t0, by omega⟩, ⟨b0, by omega⟩, co, fun u v f u0 v0 f1 eu ev _ => ?_⟩
  have h1 := ipow_self (a := u) (by omega) (d := f.toNat) (by omega)
  have h2 := ipow_self (a := v) (by omega) (d := f.toNat) (by omega)
  omega
theorem ipow_up {a : Int} (h : 1 ≤ a) {m n : Nat} (hm : m ≤ n) : a ^ m ≤ a ^ n := by
  obtain ⟨k, rfl⟩ := Nat.exists_eq_add_of_le hm
  rw [Int.pow_add]
  have h1 : 0 < a ^ m := Int.pow_pos (by omega)
  have h2 : 0 < a ^ k := Int.pow_pos (by omega)
  have := Int.mul_le_mul_of_nonneg_left (show 1 ≤ a ^ k by omega) (show 0 ≤ a ^ m by omega)
  omega
theorem ipow_le_iff {a b : Int} {d : Nat} (h0 : 0 ≤ a) (h1 : 0 ≤ b) (hd : 1 ≤ d) (h : a ^ d ≤ b ^ d) : a ≤ b := by
  rcases Int.lt_or_le b a with z | z
  · have := ipow_lt h1 z hd
    omega
  · exact z
theorem gcd_pow {t b : Int} {k : Nat} (h : Int.gcd t b = 1) : Int.gcd (t ^ k) (b ^ k) = 1 := by
  show Nat.gcd (t ^ k).natAbs (b ^ k).natAbs = 1
  rw [Int.natAbs_pow, Int.natAbs_pow]
  exact Nat.Coprime.pow _ _ h
theorem ini_pow {k f t b : Int} (f0 : 1 ≤ f) (f1 : f ≤ 5) (k0 : 1 ≤ k) (k1 : k ≤ 4) (t0 : 0 ≤ t) (t1 : t ≤ 29) (b0 : 1 ≤ b) (b1 : b ≤ 29) (co : Int.gcd t b = 1) : Ini (f * k) (t ^ f.toNat) (b ^ f.toNat) := by
  have fk : f * k ≤ 5 * 4 := Int.mul_le_mul f1 k1 (by omega) (by omega)
  have fk1 : 1 * 1 ≤ f * k := Int.mul_le_mul f0 k0 (by omega) (by omega)
  have ff : f ≤ f * k := by
    have := Int.mul_le_mul_of_nonneg_left k0 (show 0 ≤ f by omega)
    omega
  have up : ∀ {x : Int}, 0 ≤ x → x ≤ 29 → x ^ f.toNat < 4294967296 := fun {x} x0 x1 => by
    have h1 := ipow_le x0 x1 f.toNat
    have h2 := ipow_up (a := 29) (by omega) (show f.toNat ≤ 5 by omega)
    have : (29 : Int) ^ 5 = 20511149 := by decide
    omega
  have tp : 0 ≤ t ^ f.toNat := Int.pow_nonneg t0
  have bp : 0 < b ^ f.toNat := Int.pow_pos (by omega)
  refine ⟨⟨by omega, by omega⟩, ⟨tp, up t0 t1⟩, ⟨by omega, up (by omega) b1⟩, gcd_pow co, fun u v g u0 v0 g1 eu ev mx => ?_⟩
  have fg := mx f f0 ff (Int.mul_emod_right ..) t b t0 (by omega) rfl rfl
  have one : ∀ {x y : Int}, 0 < x → 0 ≤ y → y ≤ 29 → x ^ g.toNat = y ^ f.toNat → x ≤ 29 := fun {x y} x0 y0 y1 e => by
    refine ipow_le_iff (d := g.toNat) (by omega) (by omega) (by omega) ?_
    rw [e]
    have h1 := ipow_le y0 y1 f.toNat
    have h2 := ipow_up (a := 29) (by omega) (show f.toNat ≤ g.toNat by omega)
    omega
  have r1 := one u0 t0 t1 eu
  have r2 := one v0 (by omega) b1 ev
  omega
theorem e_near {n r : Nat} {d t b : Int} {h : Hh} (hb : BagS h r) (H : Num d t b) (hd : d ≤ 20) (ht : t ≤ 27720) (hb2 : b ≤ 27720) : TkS r h (fun p => ∃ d t b, p = NumP d t b ∧ Num d t b) (callF P (n + 5) 50 [.ref r, .d (NumP d t b)] h) := by
  rw [call_eq f__law_near [some (.ref r), some (.d (NumP d t b)), none, none, none, none] rfl rfl rfl]
  show TkS r h _ (endF false h (evSs (cfF P (n + 4)) b__law_near _ h))
  unfold b__law_near
  have d0 := H.d0
  have t0 := H.t0
  have b0 := H.b0
  have a1 : evS (cfF P (n + 4)) (.asg (.t (.cons (.n 2) (.cons (.n 3) (.cons (.n 4) .nil)))) (.var 1)) [some (.ref r), some (.d (NumP d t b)), none, none, none, none] h = .nx [some (.ref r), some (.d (NumP d t b)), some (.d (.int d)), some (.d (.int t)), some (.d (.int b)), none] h := by
    unfold NumP
    simp [evSs, evS, evE, evEs, evO, evT, evI, itemsF, Res.bd, Res.to, Res.nox, asB, asI, okB, okD, isiF, MP.b2, Cm.ev, end_d, end_n, end_x, dats, dat, datT, pures, on1, on2, on2T, bindT, bindTs, Bi.ev, isCF, ixF, slF, bg1, bg2, bg3, bg4, bg5, bg6, bg7, bg8]
  rw [seq_nx a1]
  obtain ⟨_, h1, e1, b1, i, rfl, i0, i1, _⟩ := e_takeS (n := n + 3) (m := 2) hb (by omega)
  have s8 : ∀ i, SeqAt.shaped (.int i) = true := fun _ => rfl
  have q5 : (10 : Int) ^ (5 : Int).toNat = 100000 := by decide
  have c1 : d < 40 := by omega
  have c2 : (if b > t then b else t) < 100000 := by split <;> omega
  have cond : evE (cfF P (n + 4)) (.and (.cmp .lt (.var 2) (.int 40)) (.and (.cmp .lt (.bi .max (.cons (.var 3) (.cons (.var 4) .nil))) (.op .pow (.int 10) (.int 5))) (.cmp .eq (.call 14 (.cons (.var 0) (.cons (.int 2) .nil))) (.int 0)))) [some (.ref r), some (.d (NumP d t b)), some (.d (.int d)), some (.d (.int t)), some (.d (.int b)), none] h = .ok (.d (.bool (decide (i = 0)))) h1 := by
    generalize hz : (if b > t then b else t) = z at c2
    have hz' : (if t < b then b else t) = z := hz
    simp [evSs, evS, evE, evEs, evO, evT, evI, itemsF, Res.bd, Res.to, Res.nox, asB, asI, okB, okD, isiF, MP.b2, Cm.ev, end_d, end_n, end_x, dats, dat, datT, pures, on1, on2, on2T, bindT, bindTs, Bi.ev, isCF, ixF, slF, bg1, bg2, bg3, bg4, bg5, bg6, bg7, bg8, O2.ev, q5, c1, hz', c2, e1, s8, PyData.eqv]
    by_cases cc : i = 0
    · simp [cc]
    · simp [cc]
  by_cases c : i = 0
  · rw [decide_eq_true c] at cond
    obtain ⟨_, h2, e2, b2, j, rfl, j0, j1, _⟩ := e_takeS (n := n + 3) (m := 2) (b1.bag hb) (by omega)
    have tt : t * t ≤ 27720 * 27720 := Int.mul_le_mul ht ht t0 (by omega)
    have tt0 : 0 ≤ t * t := Int.mul_nonneg t0 t0
    have bb : b * b ≤ 27720 * 27720 := Int.mul_le_mul hb2 hb2 (by omega) (by omega)
    have bb0 : 0 < b * b := Int.mul_pos (by omega) (by omega)
    obtain ⟨d', u, v, e3, _, hn, _⟩ := e_due (n := n) (D := 2 * d) (t := t * t + j) (b := b * b) (h := h2) (by omega) (by omega) (by omega) (by omega) (by omega) (by omega)
    refine ⟨_, h2, ?_, b1.trans b2, d', u, v, rfl, hn⟩
    have w1 : wideMul 2 d = true := wm (by decide) (by omega)
    have w2 : wideMul t t = true := wm (by omega) (by omega)
    have w3 : wideMul b b = true := wm (by omega) (by omega)
    have a2 : evS (cfF P (n + 4)) (.ifs (.and (.cmp .lt (.var 2) (.int 40)) (.and (.cmp .lt (.bi .max (.cons (.var 3) (.cons (.var 4) .nil))) (.op .pow (.int 10) (.int 5))) (.cmp .eq (.call 14 (.cons (.var 0) (.cons (.int 2) .nil))) (.int 0)))) (.cons (.ret (.call 45 (.cons (.op .mul (.int 2) (.var 2)) (.cons (.op .add (.op .mul (.var 3) (.var 3)) (.call 14 (.cons (.var 0) (.cons (.int 2) .nil)))) (.cons (.op .mul (.var 4) (.var 4)) .nil))))) .nil) .nil) [some (.ref r), some (.d (NumP d t b)), some (.d (.int d)), some (.d (.int t)), some (.d (.int b)), none] h = .rt (.d (NumP d' u v)) h2 := by
      simp only [evS, cond, asB, Res.bd, Res.to, if_true]
      simp [evSs, evS, evE, evEs, evO, evT, evI, itemsF, Res.bd, Res.to, Res.nox, asB, asI, okB, okD, isiF, MP.b2, Cm.ev, end_d, end_n, end_x, dats, dat, datT, pures, on1, on2, on2T, bindT, bindTs, Bi.ev, isCF, ixF, slF, bg1, bg2, bg3, bg4, bg5, bg6, bg7, bg8, O2.ev, w1, w2, w3, e2, e3]
    rw [seq_rt a2]
    exact end_b (b1.trans b2).bk
  · rw [decide_eq_false c] at cond
    have a2 : evS (cfF P (n + 4)) (.ifs (.and (.cmp .lt (.var 2) (.int 40)) (.and (.cmp .lt (.bi .max (.cons (.var 3) (.cons (.var 4) .nil))) (.op .pow (.int 10) (.int 5))) (.cmp .eq (.call 14 (.cons (.var 0) (.cons (.int 2) .nil))) (.int 0)))) (.cons (.ret (.call 45 (.cons (.op .mul (.int 2) (.var 2)) (.cons (.op .add (.op .mul (.var 3) (.var 3)) (.call 14 (.cons (.var 0) (.cons (.int 2) .nil)))) (.cons (.op .mul (.var 4) (.var 4)) .nil))))) .nil) .nil) [some (.ref r), some (.d (NumP d t b)), some (.d (.int d)), some (.d (.int t)), some (.d (.int b)), none] h = .nx [some (.ref r), some (.d (NumP d t b)), some (.d (.int d)), some (.d (.int t)), some (.d (.int b)), none] h1 := by
      simp only [evS, cond, asB, Res.bd, Res.to, Bool.false_eq_true, if_false, evSs]
    rw [seq_nx a2]
    obtain ⟨p, h2, e2, b2, m2⟩ := e_choiceS (n := n + 2) (ps := [.int 1, .int 7, .int 1000, .int 100000]) (b1.bag hb) (by simp)
    obtain ⟨s, rfl, s0, s1⟩ : ∃ s : Int, p = .int s ∧ 1 ≤ s ∧ s ≤ 100000 := by
      simp only [List.mem_cons, List.not_mem_nil, or_false] at m2
      rcases m2 with rfl | rfl | rfl | rfl <;> exact ⟨_, rfl, by omega, by omega⟩
    have a3 : evS (cfF P (n + 4)) (.set 5 (.call 15 (.cons (.var 0) (.cons (.lst (.cons (.int 1) (.cons (.int 7) (.cons (.int 1000) (.cons (.op .pow (.int 10) (.int 5)) .nil))))) .nil)))) [some (.ref r), some (.d (NumP d t b)), some (.d (.int d)), some (.d (.int t)), some (.d (.int b)), none] h1 = .nx [some (.ref r), some (.d (NumP d t b)), some (.d (.int d)), some (.d (.int t)), some (.d (.int b)), some (.d (.int s))] h2 := by
      simp [evSs, evS, evE, evEs, evO, evT, evI, itemsF, Res.bd, Res.to, Res.nox, asB, asI, okB, okD, isiF, MP.b2, Cm.ev, end_d, end_n, end_x, dats, dat, datT, pures, on1, on2, on2T, bindT, bindTs, Bi.ev, isCF, ixF, slF, bg1, bg2, bg3, bg4, bg5, bg6, bg7, bg8, O2.ev, q5, e2]
    rw [seq_nx a3]
    have dn : 1 ≤ d.toNat := by omega
    have dn2 : d.toNat ≤ 20 := by omega
    have s17 : s < 2 ^ 17 := by have : (2 : Int) ^ 17 = 131072 := by decide
                                omega
    have e3 := e_lpow (P := P) (n := n + 3) (h := h2) (b := s) (kk := d) (m := 17) (bits_of (by omega) s17) (by omega) (by omega) (by omega)
    have sp : 0 < s ^ d.toNat := Int.pow_pos (by omega)
    have w1 : wideMul t (s ^ d.toNat) = true := wm_bits H.pw.1 (pow_bits (bits_of (by omega) s17) _) (by omega)
    have wb : wideDiv b = true := wd (by omega) (by omega)
    have N0 : 0 ≤ t * s ^ d.toNat / b := Int.ediv_nonneg (Int.mul_nonneg t0 (by omega)) (by omega)
    have N1 : t * s ^ d.toNat / b ≤ t * s ^ d.toNat := Int.ediv_le_self _ (Int.mul_nonneg t0 (by omega))
    have N2 : t * s ^ d.toNat ≤ (27720 * s) ^ d.toNat := by
      rw [Int.mul_pow]
      refine Int.mul_le_mul_of_nonneg_right ?_ (by omega)
      have := ipow_self (a := 27720) (by omega) dn
      omega
    have t33 : (2 : Int) ^ 33 = 8589934592 := by decide
    have N3 : (27720 * s) ^ d.toNat < (2 ^ 33) ^ d.toNat := ipow_lt (by omega) (by omega) dn
    obtain ⟨p, e4, fl⟩ := e_floor (P := P) (n := n + 2) (h := h2) (N := t * s ^ d.toNat / b) (d := d) (m := 33) N0 (by omega) (by omega) (by omega) (by omega)
    have p1 : p ≤ 27720 * s := ipow_le_iff fl.1 (by omega) dn (by have := fl.2.1; omega)
    have p0 := fl.1
    obtain ⟨_, h3, e5, b3, j, rfl, j0, j1, _⟩ := e_takeS (n := n + 3) (m := 2) (b2.bag (b1.bag hb)) (by omega)
    have el := e_llow (P := P) (n := n + 3) (h := h3) (t := p + j) (b := s) (by omega) (by omega) (small_sm (by omega))
    obtain ⟨l1, l2, l3, l4, l5⟩ := low_bd (t := p + j) (b := s) (by omega) (by omega)
    refine ⟨NumP 1 (low1 (p + j) s) (low2 (p + j) s), h3, ?_, (b1.trans b2).trans b3, 1, _, _, rfl, num_one l1 (by omega) l3 (by omega) l5⟩
    have c3 : (3 : Nat) ≤ big := by decide
    unfold NumP
    simp [evSs, evS, evE, evEs, evO, evT, evI, itemsF, Res.bd, Res.to, Res.nox, asB, asI, okB, okD, isiF, MP.b2, Cm.ev, end_d, end_n, end_x, dats, dat, datT, pures, on1, on2, on2T, bindT, bindTs, Bi.ev, isCF, ixF, slF, bg1, bg2, bg3, bg4, bg5, bg6, bg7, bg8, O2.ev, e3, w1, wb, e4, e5, el, c3, end_b ((b1.trans b2).trans b3).bk]
end K02
end
section
set_option Elab.async false
set_option linter.all false
set_option maxRecDepth 100000
set_option maxHeartbeats 2000000
namespace K02
open PySem L2 MP MC
theorem root_at {D t b : Int} {q : PyData} (hD : 1 ≤ D) (hD2 : D ≤ 40) (t0 : 0 < t) (t1 : t < 4294967296) (b0 : 1 ≤ b) (b1 : b < 4294967296) (co : Int.gcd t b = 1) (r : RootV D t b q) (n : Nat) (h : Hh) : callF P (n + 3) 33 [.d (.int D), .d (.int t), .d (.int b)] h = .ok (.d q) h := by
  have t33 : (2 : Int) ^ 33 = 8589934592 := by decide
  obtain ⟨p2, e2, r2⟩ := e_rootof (P := P) (n := n) (D := D) (t := t) (b := b) (m := 33) (h := h) hD (by omega) t0 (by omega) (by omega) (by omega) (by omega) (by omega)
  obtain ⟨l1, l2⟩ := low_self co
  rw [l1, l2] at r2
  rw [r.uni r2]
  exact e2
theorem pow_no {x c : Int} {g m : Nat} (hx : 0 ≤ x) (hc : 2 ≤ c) (hm : c < 2 ^ m) (hg : m ≤ g) : x ^ g ≠ c := by
  intro e
  rcases Int.lt_or_le x 2 with z | z
  · have := ipow_le hx (show x ≤ 1 by omega) g
    rw [Int.one_pow] at this
    omega
  · have h1 := ipow_le (show (0 : Int) ≤ 2 by omega) z g
    have h2 := p2_le hg
    omega
theorem ra1 {n : Nat} {h : Hh} : callF P (n + 3) 33 [.d (.int 2), .d (.int 1), .d (.int 4)] h = .ok (.d (NumP 1 1 2)) h := root_at (by omega) (by omega) (by omega) (by omega) (by omega) (by omega) (by decide) ⟨2, 1, 2, by omega, by omega, by omega, by omega, by omega, by decide, by decide, rfl, fun g _ _ _ => by omega⟩ n h
theorem ra2 {n : Nat} {h : Hh} : callF P (n + 3) 33 [.d (.int 6), .d (.int 4), .d (.int 9)] h = .ok (.d (NumP 3 2 3)) h := root_at (by omega) (by omega) (by omega) (by omega) (by omega) (by omega) (by decide) ⟨2, 2, 3, by omega, by omega, by omega, by omega, by omega, by decide, by decide, rfl, fun g g1 _ _ x y hx hy ex _ => pow_no (m := 3) hx (by omega) (by decide) (by omega) ex⟩ n h
theorem ra3 {n : Nat} {h : Hh} : callF P (n + 3) 33 [.d (.int 3), .d (.int 3), .d (.int 8)] h = .ok (.d (NumP 3 3 8)) h := root_at (by omega) (by omega) (by omega) (by omega) (by omega) (by omega) (by decide) ⟨1, 3, 8, by omega, by omega, by omega, by omega, by omega, by decide, by decide, rfl, fun g g1 _ _ x y hx hy ex _ => pow_no (m := 2) hx (by omega) (by decide) (by omega) ex⟩ n h
theorem ra4 {n : Nat} {h : Hh} : callF P (n + 3) 33 [.d (.int 12), .d (.int 64), .d (.int 729)] h = .ok (.d (NumP 2 2 3)) h := root_at (by omega) (by omega) (by omega) (by omega) (by omega) (by omega) (by decide) ⟨6, 2, 3, by omega, by omega, by omega, by omega, by omega, by decide, by decide, rfl, fun g g1 _ _ x y hx hy ex _ => pow_no (m := 7) hx (by omega) (by decide) (by omega) ex⟩ n h
def odds1 : List PyData := [.none, .int 3, .tuple [.int 1, .int 2], .tuple [.int 0, .int 1, .int 2], .tuple [.int 100, .int 1, .int 2], .tuple [.int 2, .int 1, .int 4], .tuple [.int 6, .int 4, .int 9], .tuple [.int 2, .int 0, .int 1], .tuple [.int 1, .int 2, .int 4], .tuple [.int 1, .int 1, .int 0], .list [.int 2, .int 1, .int 2],
  .tuple [.bool true, .int 1, .int 2], .tuple [.int 2, .bool true, .int 2], .tuple [.int 1, .int (-1), .int 2], .tuple [.int 1, .int 1000000000001, .int 1]]
def odds2 : List PyData := [.none, .int 3, .tuple [.int 1, .int 0], .tuple [.int 2, .int 4], .tuple [.int (-1), .int 2], .tuple [.bool true, .int 2], .list [.int 1, .int 2], .tuple [.int 1000000000001, .int 1]]
theorem e_fracb {n : Nat} {k : Bool} {b : Int} {h : Hh} : callF P (n + 2) 37 [.d (.tuple [.bool k, .int b])] h = .ok (.d (.bool false)) h := by
  rw [call_eq f_is_fraction [some (.d (.tuple [.bool k, .int b]))] rfl rfl rfl]
  show endF false h (evSs (cfF P (n + 1)) b_is_fraction _ h) = _
  unfold b_is_fraction
  have pb : ∀ {k : Bool} {lo hi : Int}, (cfF P (n + 1)).call 36 [.d (.bool k), .d (.int lo), .d (.int hi)] h = .ok (.d (.bool false)) h := fun {k lo hi} => e_plain rfl
  have s8 : ∀ i, SeqAt.shaped (.int i) = true := fun _ => rfl
  have j0 : ixN 2 0 = some 0 := rfl
  simp [evSs, evS, evE, evEs, evO, evT, evI, itemsF, Res.bd, Res.to, Res.nox, asB, asI, okB, okD, isiF, MP.b2, Cm.ev, end_d, end_n, end_x, dats, dat, datT, pures, on1, on2, on2T, bindT, bindTs, Bi.ev, isCF, ixF, slF, bg1, bg2, bg3, bg4, bg5, bg6, bg7, bg8, atI, j0, pb, glo3, s8, PyData.eqv]
theorem frac_no {x : PyData} (hx : x ∈ odds2) (n : Nat) (h : Hh) : callF P (n + 2) 37 [.d x] h = .ok (.d (.bool false)) h := by
  have s8 : ∀ i, SeqAt.shaped (.int i) = true := fun _ => rfl
  have no : ∀ {t b : Int}, decide ((0 ≤ t ∧ t ≤ 1000000000000) ∧ (1 ≤ b ∧ b ≤ 1000000000000) ∧ Int.gcd t b = 1) = false → callF P (n + 2) 37 [.d (.tuple [.int t, .int b])] h = .ok (.d (.bool false)) h := fun {t b} q => by
    rw [e_fracI, q]
  have nt : ∀ {p : PyData}, isiF .tuple p = some false → callF P (n + 2) 37 [.d p] h = .ok (.d (.bool false)) h := fun {p} q => by
    rw [call_eq f_is_fraction [some (.d p)] rfl rfl rfl]
    show endF false h (evSs (cfF P (n + 1)) b_is_fraction _ h) = _
    unfold b_is_fraction
    have a : evE (cfF P (n + 1)) (.isi .tuple (.var 0)) [some (.d p)] h = .ok (.d (.bool false)) h := by
      simp [evE, on1, dat, Res.bd, q, okD, MP.okB]
    simp only [evSs, evS, evE] at a ⊢
    rw [a]
    simp [evSs, evS, evE, evEs, evO, evT, evI, itemsF, Res.bd, Res.to, Res.nox, asB, asI, okB, okD, isiF, MP.b2, Cm.ev, end_d, end_n, end_x, dats, dat, datT, pures, on1, on2, on2T, bindT, bindTs, Bi.ev, isCF, ixF, slF, bg1, bg2, bg3, bg4, bg5, bg6, bg7, bg8]
  simp only [odds2, List.mem_cons, List.not_mem_nil, or_false] at hx
  rcases hx with rfl | rfl | rfl | rfl | rfl | rfl | rfl | rfl
  · exact nt rfl
  · exact nt rfl
  · exact no (by decide)
  · exact no (by decide)
  · exact no (by decide)
  · exact e_fracb
  · exact nt rfl
  · exact no (by decide)
theorem isn_no {x : PyData} (hx : x ∈ odds1) (n : Nat) (h : Hh) : callF P (n + 5) 38 [.d x] h = .ok (.d (.bool false)) h := by
  have s8 : ∀ i, SeqAt.shaped (.int i) = true := fun _ => rfl
  have nt : ∀ {p : PyData}, isiF .tuple p = some false → callF P (n + 5) 38 [.d p] h = .ok (.d (.bool false)) h := fun {p} q => by
    rw [call_eq f_is_number [some (.d p)] rfl rfl rfl]
    show endF false h (evSs (cfF P (n + 4)) b_is_number _ h) = _
    unfold b_is_number
    have a : evE (cfF P (n + 4)) (.isi .tuple (.var 0)) [some (.d p)] h = .ok (.d (.bool false)) h := by
      simp [evE, on1, dat, Res.bd, q, okD, MP.okB]
    simp only [evSs, evS, evE] at a ⊢
    rw [a]
    simp [evSs, evS, evE, evEs, evO, evT, evI, itemsF, Res.bd, Res.to, Res.nox, asB, asI, okB, okD, isiF, MP.b2, Cm.ev, end_d, end_n, end_x, dats, dat, datT, pures, on1, on2, on2T, bindT, bindTs, Bi.ev, isCF, ixF, slF, bg1, bg2, bg3, bg4, bg5, bg6, bg7, bg8]
  have pl : ∀ {i lo hi : Int}, (cfF P (n + 4)).call 36 [.d (.int i), .d (.int lo), .d (.int hi)] h = .ok (.d (.bool (decide (lo ≤ i) && decide (i ≤ hi)))) h := fun {i lo hi} => e_plain rfl
  have j0 : ixN 3 0 = some 0 := rfl
  have pb : ∀ {k : Bool} {lo hi : Int}, (cfF P (n + 4)).call 36 [.d (.bool k), .d (.int lo), .d (.int hi)] h = .ok (.d (.bool false)) h := fun {k lo hi} => e_plain rfl
  have one : ∀ {p a b : PyData}, (cfF P (n + 4)).call 36 [.d p, .d (.int 1), .d (.int 99)] h = .ok (.d (.bool false)) h → callF P (n + 5) 38 [.d (.tuple [p, a, b])] h = .ok (.d (.bool false)) h := fun {p a b} q => by
    rw [call_eq f_is_number [some (.d (.tuple [p, a, b]))] rfl rfl rfl]
    show endF false h (evSs (cfF P (n + 4)) b_is_number _ h) = _
    unfold b_is_number
    simp [evSs, evS, evE, evEs, evO, evT, evI, itemsF, Res.bd, Res.to, Res.nox, asB, asI, okB, okD, isiF, MP.b2, Cm.ev, end_d, end_n, end_x, dats, dat, datT, pures, on1, on2, on2T, bindT, bindTs, Bi.ev, isCF, ixF, slF, bg1, bg2, bg3, bg4, bg5, bg6, bg7, bg8, atI, j0, q, s8, PyData.eqv]
  have two : ∀ {i : Int} {a b : PyData}, (decide (1 ≤ i) && decide (i ≤ 99)) = true → (cfF P (n + 4)).call 37 [.d (.tuple [a, b])] h = .ok (.d (.bool false)) h → callF P (n + 5) 38 [.d (.tuple [.int i, a, b])] h = .ok (.d (.bool false)) h := fun {i a b} z q => by
    rw [call_eq f_is_number [some (.d (.tuple [.int i, a, b]))] rfl rfl rfl]
    show endF false h (evSs (cfF P (n + 4)) b_is_number _ h) = _
    unfold b_is_number
    simp only [Bool.and_eq_true, decide_eq_true_eq] at z
    simp [evSs, evS, evE, evEs, evO, evT, evI, itemsF, Res.bd, Res.to, Res.nox, asB, asI, okB, okD, isiF, MP.b2, Cm.ev, end_d, end_n, end_x, dats, dat, datT, pures, on1, on2, on2T, bindT, bindTs, Bi.ev, isCF, ixF, slF, bg1, bg2, bg3, bg4, bg5, bg6, bg7, bg8, atI, j0, pl, z, sl3, q, s8, PyData.eqv]
  have no : ∀ {t b : Int}, decide ((0 ≤ t ∧ t ≤ 1000000000000) ∧ (1 ≤ b ∧ b ≤ 1000000000000) ∧ Int.gcd t b = 1) = false → (cfF P (n + 4)).call 37 [.d (.tuple [.int t, .int b])] h = .ok (.d (.bool false)) h := fun {t b} q => by
    show callF P (n + 4) 37 _ h = _
    rw [e_fracI, q]
  simp only [odds1, List.mem_cons, List.not_mem_nil, or_false] at hx
  rcases hx with rfl | rfl | rfl | rfl | rfl | rfl | rfl | rfl | rfl | rfl | rfl | rfl | rfl | rfl | rfl
  · exact nt rfl
  · exact nt rfl
  · rw [call_eq f_is_number [some (.d (.tuple [.int 1, .int 2]))] rfl rfl rfl]
    show endF false h (evSs (cfF P (n + 4)) b_is_number _ h) = _
    unfold b_is_number
    simp [evSs, evS, evE, evEs, evO, evT, evI, itemsF, Res.bd, Res.to, Res.nox, asB, asI, okB, okD, isiF, MP.b2, Cm.ev, end_d, end_n, end_x, dats, dat, datT, pures, on1, on2, on2T, bindT, bindTs, Bi.ev, isCF, ixF, slF, bg1, bg2, bg3, bg4, bg5, bg6, bg7, bg8, s8, PyData.eqv]
  · exact one (by rw [pl]; rfl)
  · exact one (by rw [pl]; rfl)
  · exact e_isn (n := n + 2) (by omega) (by omega) (by decide) (ra1 (n := n + 1)) nump_sh (by rw [num_eqv]; decide)
  · exact e_isn (n := n + 2) (by omega) (by omega) (by decide) (ra2 (n := n + 1)) nump_sh (by rw [num_eqv]; decide)
  · exact e_isn (n := n + 2) (by omega) (by omega) (by decide) (q := NumP 1 0 1) (e_rootof0 (n := n + 3)) nump_sh (by rw [num_eqv]; decide)
  · exact two (by decide) (no (by decide))
  · exact two (by decide) (no (by decide))
  · exact nt rfl
  · exact one pb
  · exact two (by decide) e_fracb
  · exact two (by decide) (no (by decide))
  · exact two (by decide) (no (by decide))
theorem e_root_no1 {n : Nat} {p q : PyData} {h : Hh} (hp : noDict p = true) (hq : plainB p 1 99 = false) : callF P (n + 2) 40 [.d p, .d q] h = .exc 6 h := by
  rw [call_eq f_root [some (.d p), some (.d q)] rfl rfl rfl]
  show endF false h (evSs (cfF P (n + 1)) b_root _ h) = _
  unfold b_root
  have e := e_plain (n := n) (lo := 1) (hi := 99) (h := h) hp
  rw [hq] at e
  simp [evSs, evS, evE, evEs, evO, evT, evI, itemsF, Res.bd, Res.to, Res.nox, asB, asI, okB, okD, isiF, MP.b2, Cm.ev, end_d, end_n, end_x, dats, dat, datT, pures, on1, on2, on2T, bindT, bindTs, Bi.ev, isCF, ixF, slF, bg1, bg2, bg3, bg4, bg5, bg6, bg7, bg8, e]
theorem e_root_no2 {n : Nat} {q : PyData} {h : Hh} (e2 : callF P (n + 2) 37 [.d q] h = .ok (.d (.bool false)) h) : callF P (n + 3) 40 [.d (.int 3), .d q] h = .exc 6 h := by
  rw [call_eq f_root [some (.d (.int 3)), some (.d q)] rfl rfl rfl]
  show endF false h (evSs (cfF P (n + 2)) b_root _ h) = _
  unfold b_root
  have e : (cfF P (n + 2)).call 36 [.d (.int 3), .d (.int 1), .d (.int 99)] h = .ok (.d (.bool true)) h := e_plain (n := n + 1) (p := .int 3) rfl
  simp [evSs, evS, evE, evEs, evO, evT, evI, itemsF, Res.bd, Res.to, Res.nox, asB, asI, okB, okD, isiF, MP.b2, Cm.ev, end_d, end_n, end_x, dats, dat, datT, pures, on1, on2, on2T, bindT, bindTs, Bi.ev, isCF, ixF, slF, bg1, bg2, bg3, bg4, bg5, bg6, bg7, bg8, e, e2]
end K02
end
section
set_option Elab.async false
set_option linter.all false
set_option maxRecDepth 100000
set_option maxHeartbeats 2000000
namespace K02
open PySem L2 MP MC
theorem clo_exc {n k i : Nat} {b : E} {ρ : En} {x : PyData} {h : Hh} (e : evE (cfF P n) b (ρ.set i (some (.d x))) h = .exc k h) : (cfF P (n + 1)).clo [i] b ρ [.d x] h = .exc k h := by
  show cloG (cfF P n) [i] b ρ [.d x] h = _
  unfold cloG
  rw [if_pos ⟨rfl, rfl⟩]
  have e2 : setAll ρ [i] [.d x] = ρ.set i (some (.d x)) := rfl
  rw [e2, e]
  simp only [List.take_length]
theorem e_refused {n k i d m : Nat} {b : E} {ρ : En} {xs : List PyData} {nm : Str} {h : Hh} (hk : ewd k = some nm) (hn : PyData.strOk nm = true) (hc : ∀ x ∈ xs, (cfF P n).clo [i] b ρ [.d x] h = .exc k h) (ho : okd d m (.list xs) = true) (hd : d ≤ 60) :
    callF P (n + 1) 47 [.clo [i] b ρ, .d (.list xs), .d (.str nm)] h = .ok (.d (.bool true)) h := by
  rw [call_eq f__law_all_refused [some (.clo [i] b ρ), some (.d (.list xs)), some (.d (.str nm)), none] rfl rfl rfl]
  show endF false h (evSs (cfF P n) b__law_all_refused _ h) = _
  unfold b__law_all_refused
  have hs := sh_str hn
  have wd : (cfF P n).wd k = some nm := by
    rw [cfF_wd]
    exact hk
  have key : compF (lcG [("odd", 3)] (.n 3) (evE (cfF P n) (.cmp .ne (.tryl 0 (.callv 0 (.cons (.var 3) .nil))) (.var 2))) (evE (cfF P n) (.var 3)) [some (.clo [i] b ρ), some (.d (.list xs)), some (.d (.str nm)), none]) xs h = .ok (xs.filter fun _ => false) h := by
    refine compF_filter fun x hx => ?_
    have e := hc x hx
    simp [lcG, wipeE, evSs, evS, evE, evEs, evO, evT, evI, itemsF, Res.bd, Res.to, Res.nox, asB, asI, okB, okD, isiF, MP.b2, Cm.ev, end_d, end_n, end_x, dats, dat, datT, pures, on1, on2, on2T, bindT, bindTs, Bi.ev, isCF, ixF, slF, bg1, bg2, bg3, bg4, bg5, bg6, bg7, bg8, e, tryF, wd, exT, List.take_length, hs, PyData.eqv]
  have nil : (xs.filter fun _ => false) = [] := by simp
  rw [nil] at key
  simp [evSs, evS, evE, evEs, evO, evT, evI, itemsF, Res.bd, Res.to, Res.nox, asB, asI, okB, okD, isiF, MP.b2, Cm.ev, end_d, end_n, end_x, dats, dat, datT, pures, on1, on2, on2T, bindT, bindTs, Bi.ev, isCF, ixF, slF, bg1, bg2, bg3, bg4, bg5, bg6, bg7, bg8] at key ⊢
  rw [key]
  simp [evSs, evS, evE, evEs, evO, evT, evI, itemsF, Res.bd, Res.to, Res.nox, asB, asI, okB, okD, isiF, MP.b2, Cm.ev, end_d, end_n, end_x, dats, dat, datT, pures, on1, on2, on2T, bindT, bindTs, Bi.ev, isCF, ixF, slF, bg1, bg2, bg3, bg4, bg5, bg6, bg7, bg8, sh_nil, PyData.eqv, PyData.eqvAll]
def odds3 : List PyData := [.none, .int 0, .int 100, .bool true]
/-- a statement: if not, return False -/
theorem ifs_not {c : Cf} {x : E} {b : Ss} {ρ : En} {h : Hh} (e : evE c x ρ h = .ok (.d (.bool true)) h) : evS c (.ifs (.not x) b .nil) ρ h = .nx ρ h := by
  refine ifs_no ?_
  simp [evE, e, asB, Res.bd]
theorem calll_eq {n f : Nat} {ps : List Nat} {b e1 e2 : E} {ρ : En} {h : Hh} {p q r : PyData} (a1 : evE (cfF P n) e1 ρ h = .ok (.d p) h) (a2 : evE (cfF P n) e2 ρ h = .ok (.d q) h) (e : callF P n f [.clo ps b ρ, .d p, .d q] h = .ok (.d r) h) : evE (cfF P n) (.calll f ps b (.cons e1 (.cons e2 .nil))) ρ h = .ok (.d r) h := by
  simp only [evE, evEs, a1, a2, Res.bd]
  have e : (cfF P n).call f [.clo ps b ρ, .d p, .d q] h = .ok (.d r) h := e
  rw [e]
  rfl
theorem e_lawref {n : Nat} {h : Hh} : callF P (n + 13) 51 [] h = .ok (.d (.bool true)) h := by
  rw [call_eq f__law_refused [none, none] rfl rfl rfl]
  show endF false h (evSs (cfF P (n + 12)) b__law_refused _ h) = _
  unfold b__law_refused
  have sk : PyData.strOk (Str.ofString "number") = true := by decide +kernel
  have q12 : (10 : Int) ^ (12 : Int).toNat = 1000000000000 := by decide
  have n1 : Num 1 1 2 := num_one (by omega) (by omega) (by omega) (by omega) (by decide)
  have o1 : okd 4 20 (.list odds1) = true := by decide +kernel
  have o2 : okd 4 20 (.list odds2) = true := by decide +kernel
  have o3 : okd 4 20 (.list odds3) = true := by decide +kernel
  have A : List PyData := odds1.take 11
  have a1 : evS (cfF P (n + 12)) (.set 0 (.lst (.cons .non (.cons (.int 3) (.cons (.tup (.cons (.int 1) (.cons (.int 2) .nil))) (.cons (.tup (.cons (.int 0) (.cons (.int 1) (.cons (.int 2) .nil)))) (.cons (.tup (.cons (.int 100) (.cons (.int 1) (.cons (.int 2) .nil)))) (.cons (.tup (.cons (.int 2) (.cons (.int 1) (.cons (.int 4) .nil)))) (.cons (.tup (.cons (.int 6) (.cons (.int 4) (.cons (.int 9) .nil)))) (.cons (.tup (.cons (.int 2) (.cons (.int 0) (.cons (.int 1) .nil)))) (.cons (.tup (.cons (.int 1) (.cons (.int 2) (.cons (.int 4) .nil)))) (.cons (.tup (.cons (.int 1) (.cons (.int 1) (.cons (.int 0) .nil)))) (.cons (.lst (.cons (.int 2) (.cons (.int 1) (.cons (.int 2) .nil)))) .nil))))))))))))) [none, none] h = .nx [some (.d (.list (odds1.take 11))), none] h := by
    have b3 : (3 : Nat) ≤ big := by decide
    have b2 : (2 : Nat) ≤ big := by decide
    have b11 : (11 : Nat) ≤ big := by decide
    simp [evSs, evS, evE, evEs, evO, evT, evI, itemsF, Res.bd, Res.to, Res.nox, asB, asI, okB, okD, isiF, MP.b2, Cm.ev, end_d, end_n, end_x, dats, dat, datT, pures, on1, on2, on2T, bindT, bindTs, Bi.ev, isCF, ixF, slF, bg1, bg2, bg3, bg4, bg5, bg6, bg7, bg8, b2, b3, b11, odds1]
  have a2 : evS (cfF P (n + 12)) (.set 0 (.op .add (.var 0) (.lst (.cons (.tup (.cons (.bl true) (.cons (.int 1) (.cons (.int 2) .nil)))) (.cons (.tup (.cons (.int 2) (.cons (.bl true) (.cons (.int 2) .nil)))) (.cons (.tup (.cons (.int 1) (.cons (.neg (.int 1)) (.cons (.int 2) .nil)))) (.cons (.tup (.cons (.int 1) (.cons (.op .add (.op .pow (.int 10) (.int 12)) (.int 1)) (.cons (.int 1) .nil)))) .nil))))))) [some (.d (.list (odds1.take 11))), none] h = .nx [some (.d (.list odds1)), none] h := by
    have b3 : (3 : Nat) ≤ big := by decide
    have b15 : (15 : Nat) ≤ big := by decide
    simp [evSs, evS, evE, evEs, evO, evT, evI, itemsF, Res.bd, Res.to, Res.nox, asB, asI, okB, okD, isiF, MP.b2, Cm.ev, end_d, end_n, end_x, dats, dat, datT, pures, on1, on2, on2T, bindT, bindTs, Bi.ev, isCF, ixF, slF, bg1, bg2, bg3, bg4, bg5, bg6, bg7, bg8, O2.ev, b3, b15, q12, odds1]
  rw [seq_nx a1, seq_nx a2]
  have a3 : evS (cfF P (n + 12)) (.ifs (.cmp .ne (.lc [("odd", 1)] (.n 1) (.e (.var 0)) (.yes (.isC true (some false) (.call 38 (.cons (.var 1) .nil)))) (.var 1)) (.lst .nil)) (.cons (.ret (.bl false)) .nil) .nil) [some (.d (.list odds1)), none] h = .nx [some (.d (.list odds1)), none] h := by
    have key : compF (lcG [("odd", 1)] (.n 1) (evE (cfF P (n + 12)) (.isC true (some false) (.call 38 (.cons (.var 1) .nil)))) (evE (cfF P (n + 12)) (.var 1)) [some (.d (.list odds1)), none]) odds1 h = .ok (odds1.filter fun _ => false) h := by
      refine compF_filter fun x hx => ?_
      have e : (cfF P (n + 12)).call 38 [.d x] h = .ok (.d (.bool false)) h := isn_no hx (n + 7) h
      simp [lcG, wipeE, evSs, evS, evE, evEs, evO, evT, evI, itemsF, Res.bd, Res.to, Res.nox, asB, asI, okB, okD, isiF, MP.b2, Cm.ev, end_d, end_n, end_x, dats, dat, datT, pures, on1, on2, on2T, bindT, bindTs, Bi.ev, isCF, ixF, slF, bg1, bg2, bg3, bg4, bg5, bg6, bg7, bg8, e]
    have nil : (odds1.filter fun _ => false) = [] := by simp
    rw [nil] at key
    refine ifs_no ?_
    generalize odds1 = os at *
    simp [evSs, evS, evE, evEs, evO, evT, evI, itemsF, Res.bd, Res.to, Res.nox, asB, asI, okB, okD, isiF, MP.b2, Cm.ev, end_d, end_n, end_x, dats, dat, datT, pures, on1, on2, on2T, bindT, bindTs, Bi.ev, isCF, ixF, slF, bg1, bg2, bg3, bg4, bg5, bg6, bg7, bg8] at key ⊢
    rw [key]
    simp [evSs, evS, evE, evEs, evO, evT, evI, itemsF, Res.bd, Res.to, Res.nox, asB, asI, okB, okD, isiF, MP.b2, Cm.ev, end_d, end_n, end_x, dats, dat, datT, pures, on1, on2, on2T, bindT, bindTs, Bi.ev, isCF, ixF, slF, bg1, bg2, bg3, bg4, bg5, bg6, bg7, bg8, sh_nil, PyData.eqv, PyData.eqvAll]
  rw [seq_nx a3]
  have lo : evE (cfF P (n + 12)) (.var 0) [some (.d (.list odds1)), none] h = .ok (.d (.list odds1)) h := by simp [evE]
  have ls : ∀ {ρ : En}, evE (cfF P (n + 12)) (.str "number") ρ h = .ok (.d (.str "number")) h := fun {ρ} => by simp only [evE]
  have a4 := ifs_not (b := .cons (.ret (.bl false)) .nil) (calll_eq (n := n + 12) lo ls (e_refused (n := n + 11) (k := 6) (i := 1) (b := .call 41 (.cons (.var 1) (.cons .non .nil))) rfl sk (fun x hx => clo_exc (n := n + 10) (by
    have e : (cfF P (n + 10)).call 41 [.d x, .d .none] h = .exc 6 h := e_compare_no1 (n := n + 8) (isn_no hx (n + 3) h)
    simp [evSs, evS, evE, evEs, evO, evT, evI, itemsF, Res.bd, Res.to, Res.nox, asB, asI, okB, okD, isiF, MP.b2, Cm.ev, end_d, end_n, end_x, dats, dat, datT, pures, on1, on2, on2T, bindT, bindTs, Bi.ev, isCF, ixF, slF, bg1, bg2, bg3, bg4, bg5, bg6, bg7, bg8, e])) o1 (by omega)))
  rw [seq_nx a4]
  have b3 : (3 : Nat) ≤ big := by decide
  have a5 := ifs_not (b := .cons (.ret (.bl false)) .nil) (calll_eq (n := n + 12) lo ls (e_refused (n := n + 11) (k := 6) (i := 1) (b := .call 41 (.cons (.tup (.cons (.int 1) (.cons (.int 1) (.cons (.int 2) .nil)))) (.cons (.var 1) .nil))) rfl sk (fun x hx => clo_exc (n := n + 10) (by
    have e : (cfF P (n + 10)).call 41 [.d (.tuple [.int 1, .int 1, .int 2]), .d x] h = .exc 6 h := e_compare_no2 (n := n + 3) n1 (isn_no hx (n + 3) h)
    simp [evSs, evS, evE, evEs, evO, evT, evI, itemsF, Res.bd, Res.to, Res.nox, asB, asI, okB, okD, isiF, MP.b2, Cm.ev, end_d, end_n, end_x, dats, dat, datT, pures, on1, on2, on2T, bindT, bindTs, Bi.ev, isCF, ixF, slF, bg1, bg2, bg3, bg4, bg5, bg6, bg7, bg8, b3, e])) o1 (by omega)))
  rw [seq_nx a5]
  have lo3 : evE (cfF P (n + 12)) (.lst (.cons .non (.cons (.int 0) (.cons (.int 100) (.cons (.bl true) .nil))))) [some (.d (.list odds1)), none] h = .ok (.d (.list odds3)) h := by
    simp [evSs, evS, evE, evEs, evO, evT, evI, itemsF, Res.bd, Res.to, Res.nox, asB, asI, okB, okD, isiF, MP.b2, Cm.ev, end_d, end_n, end_x, dats, dat, datT, pures, on1, on2, on2T, bindT, bindTs, Bi.ev, isCF, ixF, slF, bg1, bg2, bg3, bg4, bg5, bg6, bg7, bg8, odds3]
  have a6 := ifs_not (b := .cons (.ret (.bl false)) .nil) (calll_eq (n := n + 12) lo3 ls (e_refused (n := n + 11) (k := 6) (i := 1) (b := .call 40 (.cons (.var 1) (.cons .non .nil))) rfl sk (fun x hx => clo_exc (n := n + 10) (by
    have e : (cfF P (n + 10)).call 40 [.d x, .d .none] h = .exc 6 h := by
      simp only [odds3, List.mem_cons, List.not_mem_nil, or_false] at hx
      rcases hx with rfl | rfl | rfl | rfl <;> exact e_root_no1 (n := n + 8) rfl rfl
    simp [evSs, evS, evE, evEs, evO, evT, evI, itemsF, Res.bd, Res.to, Res.nox, asB, asI, okB, okD, isiF, MP.b2, Cm.ev, end_d, end_n, end_x, dats, dat, datT, pures, on1, on2, on2T, bindT, bindTs, Bi.ev, isCF, ixF, slF, bg1, bg2, bg3, bg4, bg5, bg6, bg7, bg8, e])) o3 (by omega)))
  rw [seq_nx a6]
  have a7 : evS (cfF P (n + 12)) (.set 0 (.lst (.cons .non (.cons (.int 3) (.cons (.tup (.cons (.int 1) (.cons (.int 0) .nil))) (.cons (.tup (.cons (.int 2) (.cons (.int 4) .nil))) (.cons (.tup (.cons (.neg (.int 1)) (.cons (.int 2) .nil))) (.cons (.tup (.cons (.bl true) (.cons (.int 2) .nil))) (.cons (.lst (.cons (.int 1) (.cons (.int 2) .nil))) (.cons (.tup (.cons (.op .add (.op .pow (.int 10) (.int 12)) (.int 1)) (.cons (.int 1) .nil))) .nil)))))))))) [some (.d (.list odds1)), none] h = .nx [some (.d (.list odds2)), none] h := by
    have b2 : (2 : Nat) ≤ big := by decide
    simp [evSs, evS, evE, evEs, evO, evT, evI, itemsF, Res.bd, Res.to, Res.nox, asB, asI, okB, okD, isiF, MP.b2, Cm.ev, end_d, end_n, end_x, dats, dat, datT, pures, on1, on2, on2T, bindT, bindTs, Bi.ev, isCF, ixF, slF, bg1, bg2, bg3, bg4, bg5, bg6, bg7, bg8, O2.ev, b2, q12, odds2]
  rw [seq_nx a7]
  have lo2 : evE (cfF P (n + 12)) (.var 0) [some (.d (.list odds2)), none] h = .ok (.d (.list odds2)) h := by simp [evE]
  have a8 := calll_eq (n := n + 12) lo2 ls (e_refused (n := n + 11) (k := 6) (i := 1) (b := .call 40 (.cons (.int 3) (.cons (.var 1) .nil))) rfl sk (fun x hx => clo_exc (n := n + 10) (by
    have e : (cfF P (n + 10)).call 40 [.d (.int 3), .d x] h = .exc 6 h := e_root_no2 (n := n + 7) (frac_no hx (n + 7) h)
    simp [evSs, evS, evE, evEs, evO, evT, evI, itemsF, Res.bd, Res.to, Res.nox, asB, asI, okB, okD, isiF, MP.b2, Cm.ev, end_d, end_n, end_x, dats, dat, datT, pures, on1, on2, on2T, bindT, bindTs, Bi.ev, isCF, ixF, slF, bg1, bg2, bg3, bg4, bg5, bg6, bg7, bg8, e])) o2 (by omega))
  have a9 := seq_rt (ss := .nil) (st := .ret (.calll 47 [1] (.call 40 (.cons (.int 3) (.cons (.var 1) .nil))) (.cons (.var 0) (.cons (.str "number") .nil)))) (c := cfF P (n + 12)) (ρ := [some (.d (.list odds2)), none]) (h := h) (v := .d (.bool true)) (h1 := h) (by simp only [evS, a8, Res.to])
  rw [a9]
  exact end_d
/-! ### the pairs -/
theorem e_pair {n : Nat} {d t b e u v : Int} {l : List Int} {x1 x2 x3 x4 x5 x6 x7 x10 : Option Val} {h : Hh} (H : Num d t b) (K : Num e u v) :
    ∃ y7, evSs (cfF P (n + 7)) l_law_2_1 [some (.scr l), x1, x2, x3, x4, x5, x6, x7, some (.d (NumP d t b)), some (.d (NumP e u v)), x10] h = .nx [some (.scr l), x1, x2, x3, x4, x5, x6, y7, some (.d (NumP d t b)), some (.d (NumP e u v)), x10] h := by
  unfold l_law_2_1
  have s8 : ∀ i, SeqAt.shaped (.int i) = true := fun _ => rfl
  have ec : (cfF P (n + 7)).call 41 [.d (NumP d t b), .d (NumP e u v)] h = .ok (.d (.int (sgn (cA d t b e u v - cA e u v d t b)))) h := e_compare H K
  have fin : ∀ {z : Int}, sgn (cA d t b e u v - cA e u v d t b) = z → evS (cfF P (n + 7)) (.set 7 (.ifx (.cmp .eq (.var 8) (.var 9)) (.int 0) (.ifx (.call 46 (.cons (.var 8) (.cons (.var 9) .nil))) (.neg (.int 1)) (.int 1)))) [some (.scr l), x1, x2, x3, x4, x5, x6, x7, some (.d (NumP d t b)), some (.d (NumP e u v)), x10] h = .nx [some (.scr l), x1, x2, x3, x4, x5, x6, some (.d (.int z)), some (.d (NumP d t b)), some (.d (NumP e u v)), x10] h →
      ∃ y7, evSs (cfF P (n + 7)) (.cons (.set 7 (.ifx (.cmp .eq (.var 8) (.var 9)) (.int 0) (.ifx (.call 46 (.cons (.var 8) (.cons (.var 9) .nil))) (.neg (.int 1)) (.int 1)))) (.cons (.ifs (.cmp .ne (.call 41 (.cons (.var 8) (.cons (.var 9) .nil))) (.var 7)) (.cons (.ret (.bl false)) .nil) .nil) .nil)) [some (.scr l), x1, x2, x3, x4, x5, x6, x7, some (.d (NumP d t b)), some (.d (NumP e u v)), x10] h = .nx [some (.scr l), x1, x2, x3, x4, x5, x6, y7, some (.d (NumP d t b)), some (.d (NumP e u v)), x10] h := fun {z} hz a1 => by
    refine ⟨some (.d (.int z)), ?_⟩
    rw [seq_nx a1]
    refine seq1 ?_
    rw [hz] at ec
    refine ifs_no ?_
    simp [evSs, evS, evE, evEs, evO, evT, evI, itemsF, Res.bd, Res.to, Res.nox, asB, asI, okB, okD, isiF, MP.b2, Cm.ev, end_d, end_n, end_x, dats, dat, datT, pures, on1, on2, on2T, bindT, bindTs, Bi.ev, isCF, ixF, slF, bg1, bg2, bg3, bg4, bg5, bg6, bg7, bg8, ec, s8, PyData.eqv]
  by_cases c : d = e ∧ t = u ∧ b = v
  · obtain ⟨rfl, rfl, rfl⟩ := c
    refine fin (z := 0) (by unfold sgn; rw [if_neg (by omega), if_neg (by omega)]) ?_
    have q : decide (d = d ∧ t = t ∧ b = b) = true := by simp
    have qe := num_eqv (d := d) (t := t) (b := b) (e := d) (u := t) (v := b)
    rw [q] at qe
    simp [evSs, evS, evE, evEs, evO, evT, evI, itemsF, Res.bd, Res.to, Res.nox, asB, asI, okB, okD, isiF, MP.b2, Cm.ev, end_d, end_n, end_x, dats, dat, datT, pures, on1, on2, on2T, bindT, bindTs, Bi.ev, isCF, ixF, slF, bg1, bg2, bg3, bg4, bg5, bg6, bg7, bg8, nump_sh, qe]
  · have ne : cA d t b e u v ≠ cA e u v d t b := fun z => c (H.uni K z)
    have q : PyData.eqv (NumP d t b) (NumP e u v) = false := by rw [num_eqv]; exact decide_eq_false c
    have eb : (cfF P (n + 7)).call 46 [.d (NumP d t b), .d (NumP e u v)] h = .ok (.d (.bool (decide (cA d t b e u v < cA e u v d t b)))) h := e_before (n := n + 3) H K ne
    by_cases c2 : cA d t b e u v < cA e u v d t b
    · rw [decide_eq_true c2] at eb
      refine fin (z := -1) (by unfold sgn; rw [if_neg (by omega), if_pos (by omega)]) ?_
      simp [evSs, evS, evE, evEs, evO, evT, evI, itemsF, Res.bd, Res.to, Res.nox, asB, asI, okB, okD, isiF, MP.b2, Cm.ev, end_d, end_n, end_x, dats, dat, datT, pures, on1, on2, on2T, bindT, bindTs, Bi.ev, isCF, ixF, slF, bg1, bg2, bg3, bg4, bg5, bg6, bg7, bg8, nump_sh, q, eb]
    · rw [decide_eq_false c2] at eb
      refine fin (z := 1) (by unfold sgn; rw [if_pos (by omega)]) ?_
      simp [evSs, evS, evE, evEs, evO, evT, evI, itemsF, Res.bd, Res.to, Res.nox, asB, asI, okB, okD, isiF, MP.b2, Cm.ev, end_d, end_n, end_x, dats, dat, datT, pures, on1, on2, on2T, bindT, bindTs, Bi.ev, isCF, ixF, slF, bg1, bg2, bg3, bg4, bg5, bg6, bg7, bg8, nump_sh, q, eb]
end K02
end
section
set_option Elab.async false
set_option linter.all false
set_option maxRecDepth 100000
set_option maxHeartbeats 2000000
namespace K02
open PySem L2 MP MC
def AllN (ps : List PyData) : Prop := ∀ p ∈ ps, ∃ d t b, p = NumP d t b ∧ Num d t b
def nρ (l : List Int) (k : Option Val) (r : Nat) (ps : List PyData) (x4 x5 x6 x7 x8 x9 x10 : Option Val) : En := [some (.scr l), k, some (.ref r), some (.d (.list ps)), x4, x5, x6, x7, x8, x9, x10]
theorem e_turn {l : List Int} {k x5 x6 x7 x8 x9 x10 : Option Val} {r : Nat} {ps : List PyData} {j : Int} {h : Hh} (hb : BagS h r) (hp : AllN ps) (hl : ps.length ≤ 100) :
    ∃ ps' y5 y6 y7 h', evSs (cfF P 39) l_law_2_0 (nρ l k r ps (some (.d (.int j))) x5 x6 x7 x8 x9 x10) h = .nx (nρ l k r ps' (some (.d (.int j))) y5 y6 y7 x8 x9 x10) h' ∧ BkS r h h' ∧ AllN ps' ∧ ps'.length = ps.length + 2 := by
  unfold l_law_2_0
  obtain ⟨_, h1, e1, b1, i, rfl, i0, i1, _⟩ := e_takeS (n := 38) (m := 12) hb (by omega)
  obtain ⟨_, h2, e2, b2, t, b, rfl, t0, t1, b0, b1', co⟩ := e_fraction (n := 36) (b1.bag hb)
  have st1 : evS (cfF P 39) (.par (.cons (.n 5) (.cons (.n 6) .nil)) (.cons (.op .add (.int 1) (.call 14 (.cons (.var 2) (.cons (.int 12) .nil)))) (.cons (.call 48 (.cons (.var 2) .nil)) .nil))) (nρ l k r ps (some (.d (.int j))) x5 x6 x7 x8 x9 x10) h = .nx (nρ l k r ps (some (.d (.int j))) (some (.d (.int (1 + i)))) (some (.d (.tuple [.int t, .int b]))) x7 x8 x9 x10) h2 := by
    unfold nρ
    simp [evSs, evS, evE, evEs, evO, evT, evI, itemsF, Res.bd, Res.to, Res.nox, asB, asI, okB, okD, isiF, MP.b2, Cm.ev, end_d, end_n, end_x, dats, dat, datT, pures, on1, on2, on2T, bindT, bindTs, Bi.ev, isCF, ixF, slF, bg1, bg2, bg3, bg4, bg5, bg6, bg7, bg8, O2.ev, e1, e2]
  have bg2 := b2.bag (b1.bag hb)
  have st2 : ∃ D T B h3, Ini D T B ∧ BkS r h h3 ∧ evS (cfF P 39) (.ifs (.cmp .gt (.var 4) (.int 1)) (.cons (.asg (.t (.cons (.n 5) (.cons (.n 6) .nil))) (.call 49 (.cons (.var 2) .nil))) .nil) .nil) (nρ l k r ps (some (.d (.int j))) (some (.d (.int (1 + i)))) (some (.d (.tuple [.int t, .int b]))) x7 x8 x9 x10) h2 = .nx (nρ l k r ps (some (.d (.int j))) (some (.d (.int D))) (some (.d (.tuple [.int T, .int B]))) x7 x8 x9 x10) h3 := by
    by_cases c : 1 < j
    · obtain ⟨_, h3, e3, b3, kk, f, T, B, rfl, f0, f1, k0, k1, T0, T1, B0, B1, co'⟩ := e_powered (n := 36) bg2
      refine ⟨_, _, _, h3, ini_pow f0 f1 k0 k1 T0 T1 B0 B1 co', (b1.trans b2).trans b3, ?_⟩
      generalize T ^ f.toNat = TT at *
      generalize B ^ f.toNat = BB at *
      generalize f * kk = DD at *
      unfold nρ
      simp [evSs, evS, evE, evEs, evO, evT, evI, itemsF, Res.bd, Res.to, Res.nox, asB, asI, okB, okD, isiF, MP.b2, Cm.ev, end_d, end_n, end_x, dats, dat, datT, pures, on1, on2, on2T, bindT, bindTs, Bi.ev, isCF, ixF, slF, bg1, bg2, bg3, bg4, bg5, bg6, bg7, bg8, c, e3]
    · refine ⟨_, _, _, h2, ini_frac (show 1 ≤ 1 + i by omega) (by omega) t0 t1 b0 b1' co, b1.trans b2, ?_⟩
      unfold nρ
      simp [evSs, evS, evE, evEs, evO, evT, evI, itemsF, Res.bd, Res.to, Res.nox, asB, asI, okB, okD, isiF, MP.b2, Cm.ev, end_d, end_n, end_x, dats, dat, datT, pures, on1, on2, on2T, bindT, bindTs, Bi.ev, isCF, ixF, slF, bg1, bg2, bg3, bg4, bg5, bg6, bg7, bg8, c]
  obtain ⟨D, T, B, h3, ini, b3, st2⟩ := st2
  obtain ⟨⟨D0, D1⟩, ⟨T0, T1⟩, ⟨B0, B1⟩, co2, bd⟩ := ini
  have bg3 := b3.bag hb
  obtain ⟨d, u, v, e45, e33, hn, dD, z0, zp⟩ := e_due (n := 35) (h := h3) D0 (by omega) T0 T1 B0 B1
  obtain ⟨_, _, _, e33', _, _⟩ : ∃ a b c : Nat, callF P (36 + 2) 33 [.d (.int D), .d (.int T), .d (.int B)] h3 = .ok (.d (NumP d u v)) h3 ∧ True ∧ True := by
    obtain ⟨d', u', v', e45', e33', _⟩ := e_due (n := 34) (h := h3) D0 (by omega) T0 T1 B0 B1
    rcases Int.lt_or_eq_of_le T0 with c | c
    · have t33 : (2 : Int) ^ 33 = 8589934592 := by decide
      obtain ⟨p1, f1, r1⟩ := e_rootof (P := P) (n := 36) (D := D) (t := T) (b := B) (m := 33) (h := h3) D0 (by omega) c (by omega) (by omega) (by omega) (by omega) (by omega)
      obtain ⟨p2, f2, r2⟩ := e_rootof (P := P) (n := 35) (D := D) (t := T) (b := B) (m := 33) (h := h3) D0 (by omega) c (by omega) (by omega) (by omega) (by omega) (by omega)
      have f1 : callF P (35 + 4) 33 [.d (.int D), .d (.int T), .d (.int B)] h3 = .ok (.d p1) h3 := f1
      rw [f1] at e33
      cases e33
      rw [r2.uni r1] at f2
      exact ⟨0, 0, 0, f2, trivial, trivial⟩
    · subst c
      have f1 := e_rootof0 (P := P) (n := 38) (D := D) (b := B) (h := h3)
      have f1 : callF P (35 + 4) 33 [.d (.int D), .d (.int 0), .d (.int B)] h3 = .ok (.d (NumP 1 0 1)) h3 := f1
      rw [f1] at e33
      have eq : NumP 1 0 1 = NumP d u v := by cases e33; rfl
      rw [← eq]
      exact ⟨0, 0, 0, e_rootof0 (P := P) (n := 37), trivial, trivial⟩
  have e40 := e_root (n := 36) D0 (by omega) (fr_yes T0 T1 B0 B1 co2) e33'
  have uv : u ≤ 27720 ∧ v ≤ 27720 := by
    rcases Int.lt_or_eq_of_le T0 with c | c
    · obtain ⟨f, f1, u0, v0, eu, ev, mx⟩ := zp c co2
      exact bd u v f u0 v0 f1 eu ev mx
    · obtain ⟨z1, z2⟩ := z0 c.symm
      omega
  obtain ⟨q, h4, e50, b4, d', u', v', rfl, hn'⟩ := e_near (n := 34) bg3 hn (by omega) uv.1 uv.2
  have j0 : ixN 2 0 = some 0 := rfl
  have j1 : ixN 2 1 = some 1 := rfl
  have st3 : evS (cfF P 39) (.set 7 (.call 45 (.cons (.var 5) (.cons (.ix (.var 6) (.int 0)) (.cons (.ix (.var 6) (.int 1)) .nil))))) (nρ l k r ps (some (.d (.int j))) (some (.d (.int D))) (some (.d (.tuple [.int T, .int B]))) x7 x8 x9 x10) h3 = .nx (nρ l k r ps (some (.d (.int j))) (some (.d (.int D))) (some (.d (.tuple [.int T, .int B]))) (some (.d (NumP d u v))) x8 x9 x10) h3 := by
    unfold nρ
    simp [evSs, evS, evE, evEs, evO, evT, evI, itemsF, Res.bd, Res.to, Res.nox, asB, asI, okB, okD, isiF, MP.b2, Cm.ev, end_d, end_n, end_x, dats, dat, datT, pures, on1, on2, on2T, bindT, bindTs, Bi.ev, isCF, ixF, slF, bg1, bg2, bg3, bg4, bg5, bg6, bg7, bg8, atI, j0, j1, e45]
  have st4 : evS (cfF P 39) (.ifs (.cmp .ne (.call 40 (.cons (.var 5) (.cons (.var 6) .nil))) (.var 7)) (.cons (.ret (.bl false)) .nil) .nil) (nρ l k r ps (some (.d (.int j))) (some (.d (.int D))) (some (.d (.tuple [.int T, .int B]))) (some (.d (NumP d u v))) x8 x9 x10) h3 = .nx (nρ l k r ps (some (.d (.int j))) (some (.d (.int D))) (some (.d (.tuple [.int T, .int B]))) (some (.d (NumP d u v))) x8 x9 x10) h3 := by
    refine ifs_no ?_
    have qe : PyData.eqv (NumP d u v) (NumP d u v) = true := by rw [num_eqv]; exact decide_eq_true ⟨rfl, rfl, rfl⟩
    unfold nρ
    simp [evSs, evS, evE, evEs, evO, evT, evI, itemsF, Res.bd, Res.to, Res.nox, asB, asI, okB, okD, isiF, MP.b2, Cm.ev, end_d, end_n, end_x, dats, dat, datT, pures, on1, on2, on2T, bindT, bindTs, Bi.ev, isCF, ixF, slF, bg1, bg2, bg3, bg4, bg5, bg6, bg7, bg8, e40, nump_sh, qe]
  have b2' : (2 : Nat) ≤ big := by decide
  have bl : ps.length + 2 ≤ big := by have : (1000 : Nat) ≤ big := by decide
                                      omega
  have st5 : evS (cfF P 39) (.set 3 (.op .add (.var 3) (.lst (.cons (.var 7) (.cons (.call 50 (.cons (.var 2) (.cons (.var 7) .nil))) .nil))))) (nρ l k r ps (some (.d (.int j))) (some (.d (.int D))) (some (.d (.tuple [.int T, .int B]))) (some (.d (NumP d u v))) x8 x9 x10) h3 = .nx (nρ l k r (ps ++ [NumP d u v, NumP d' u' v']) (some (.d (.int j))) (some (.d (.int D))) (some (.d (.tuple [.int T, .int B]))) (some (.d (NumP d u v))) x8 x9 x10) h4 := by
    unfold nρ
    simp [evSs, evS, evE, evEs, evO, evT, evI, itemsF, Res.bd, Res.to, Res.nox, asB, asI, okB, okD, isiF, MP.b2, Cm.ev, end_d, end_n, end_x, dats, dat, datT, pures, on1, on2, on2T, bindT, bindTs, Bi.ev, isCF, ixF, slF, bg1, bg2, bg3, bg4, bg5, bg6, bg7, bg8, O2.ev, e50, b2', bl]
  refine ⟨ps ++ [NumP d u v, NumP d' u' v'], some (.d (.int D)), some (.d (.tuple [.int T, .int B])), some (.d (NumP d u v)), h4, ?_, b3.trans b4, ?_, by simp⟩
  · rw [seq_nx st1, seq_nx st2, seq_nx st3, seq_nx st4]
    exact seq1 st5
  · intro p hp'
    rcases List.mem_append.mp hp' with hp' | hp'
    · exact hp p hp'
    · simp only [List.mem_cons, List.not_mem_nil, or_false] at hp'
      rcases hp' with rfl | rfl
      · exact ⟨d, u, v, rfl, hn⟩
      · exact ⟨d', u', v', rfl, hn'⟩
theorem e_row {l : List Int} {k x4 x5 x6 x7 x9 x10 : Option Val} {r : Nat} {ps : List PyData} {d t b : Int} {h : Hh} (hp : AllN ps) (H : Num d t b) :
    ∃ y7 y9, evSs (cfF P 39) l_law_2_2 (nρ l k r ps x4 x5 x6 x7 (some (.d (NumP d t b))) x9 x10) h = .nx (nρ l k r ps x4 x5 x6 y7 (some (.d (NumP d t b))) y9 x10) h := by
  unfold l_law_2_2
  have e38 := e_isnum (n := 34) (h := h) H
  have st1 : evS (cfF P 39) (.ifs (.isC true (some true) (.call 38 (.cons (.var 8) .nil))) (.cons (.ret (.bl false)) .nil) .nil) (nρ l k r ps x4 x5 x6 x7 (some (.d (NumP d t b))) x9 x10) h = .nx (nρ l k r ps x4 x5 x6 x7 (some (.d (NumP d t b))) x9 x10) h := by
    refine ifs_no ?_
    unfold nρ
    simp [evSs, evS, evE, evEs, evO, evT, evI, itemsF, Res.bd, Res.to, Res.nox, asB, asI, okB, okD, isiF, MP.b2, Cm.ev, end_d, end_n, end_x, dats, dat, datT, pures, on1, on2, on2T, bindT, bindTs, Bi.ev, isCF, ixF, slF, bg1, bg2, bg3, bg4, bg5, bg6, bg7, bg8, e38]
  rw [seq_nx st1]
  obtain ⟨ρ', h', e, y7, y9, rfl, eh, _⟩ := forF_inv (g := fun x ρ1 h2 => match bindT (.n 9) (.d x) ρ1 with
    | some ρ2 => evSs (cfF P 39) l_law_2_1 ρ2 h2
    | none => .bad) (I := fun xs ρ h' => ∃ y7 y9, ρ = nρ l k r ps x4 x5 x6 y7 (some (.d (NumP d t b))) y9 x10 ∧ h' = h ∧ AllN xs)
    (fun x xs ρ h2 hi => by
      obtain ⟨y7, y9, rfl, rfl, hx⟩ := hi
      obtain ⟨e, u, v, rfl, K⟩ := hx x List.mem_cons_self
      obtain ⟨z7, ez⟩ := e_pair (n := 32) (l := l) (x1 := k) (x2 := some (.ref r)) (x3 := some (.d (.list ps))) (x4 := x4) (x5 := x5) (x6 := x6) (x7 := y7) (x10 := x10) (h := h2) H K
      exact ⟨_, h2, .inl ez, z7, some (.d (NumP e u v)), rfl, rfl, fun p hp => hx p (List.mem_cons_of_mem _ hp)⟩)
    (xs := ps) (ρ := nρ l k r ps x4 x5 x6 x7 (some (.d (NumP d t b))) x9 x10) (h := h) ⟨x7, x9, rfl, rfl, hp⟩
  rw [eh] at e
  refine ⟨y7, y9, seq1 ?_⟩
  have it : evI (cfF P 39) (.e (.var 3)) (nρ l k r ps x4 x5 x6 x7 (some (.d (NumP d t b))) x9 x10) h = .ok ps h := by
    unfold nρ
    simp [evSs, evS, evE, evEs, evO, evT, evI, itemsF, Res.bd, Res.to, Res.nox, asB, asI, okB, okD, isiF, MP.b2, Cm.ev, end_d, end_n, end_x, dats, dat, datT, pures, on1, on2, on2T, bindT, bindTs, Bi.ev, isCF, ixF, slF, bg1, bg2, bg3, bg4, bg5, bg6, bg7, bg8]
  simp only [evS, it, Res.to]
  exact e
theorem e_k {h : Hh} {l : List Int} {k : Int} {x2 x3 x4 x5 x6 x7 x8 x9 x10 : Option Val} (h0 : 0 ≤ k) (h7 : k ≤ 10) :
    ∃ y2 y3 y4 y5 y6 y7 y8 y9 y10 h', evSs (cfF P 39) l_law_2_3 [some (.scr l), some (.d (.int k)), x2, x3, x4, x5, x6, x7, x8, x9, x10] h = .nx [some (.scr l), some (.d (.int k)), y2, y3, y4, y5, y6, y7, y8, y9, y10] h' := by
  unfold l_law_2_3
  obtain ⟨ns, e1, hns⟩ := e_bagB (P := P) (n := 36) (l := l) (h := h) h0 (show k ≤ 1000 by omega)
  have hb1 : BagS (h ++ [.lst (ns.map PyData.int)]) h.length := ⟨ns, by simp, hns⟩
  have b3 : (3 : Nat) ≤ big := by decide
  have st1 : evS (cfF P 39) (.set 2 (.call 13 (.cons (.var 0) (.cons (.var 1) .nil)))) [some (.scr l), some (.d (.int k)), x2, x3, x4, x5, x6, x7, x8, x9, x10] h = .nx [some (.scr l), some (.d (.int k)), some (.ref h.length), x3, x4, x5, x6, x7, x8, x9, x10] (h ++ [.lst (ns.map PyData.int)]) := by
    simp [evSs, evS, evE, evEs, evO, evT, evI, itemsF, Res.bd, Res.to, Res.nox, asB, asI, okB, okD, isiF, MP.b2, Cm.ev, end_d, end_n, end_x, dats, dat, datT, pures, on1, on2, on2T, bindT, bindTs, Bi.ev, isCF, ixF, slF, bg1, bg2, bg3, bg4, bg5, bg6, bg7, bg8, e1]
  have st2 : evS (cfF P 39) (.set 3 (.lst (.cons (.tup (.cons (.int 1) (.cons (.int 0) (.cons (.int 1) .nil)))) (.cons (.tup (.cons (.int 1) (.cons (.int 1) (.cons (.int 1) .nil)))) .nil)))) [some (.scr l), some (.d (.int k)), some (.ref h.length), x3, x4, x5, x6, x7, x8, x9, x10] (h ++ [.lst (ns.map PyData.int)]) = .nx (nρ l (some (.d (.int k))) h.length [NumP 1 0 1, NumP 1 1 1] x4 x5 x6 x7 x8 x9 x10) (h ++ [.lst (ns.map PyData.int)]) := by
    have b2 : (2 : Nat) ≤ big := by decide
    unfold nρ NumP
    simp [evSs, evS, evE, evEs, evO, evT, evI, itemsF, Res.bd, Res.to, Res.nox, asB, asI, okB, okD, isiF, MP.b2, Cm.ev, end_d, end_n, end_x, dats, dat, datT, pures, on1, on2, on2T, bindT, bindTs, Bi.ev, isCF, ixF, slF, bg1, bg2, bg3, bg4, bg5, bg6, bg7, bg8, b2, b3]
  obtain ⟨ρ', h3, e3, ps, z4, z5, z6, z7, rfl, hb3, hp, _, _⟩ := forF_inv (g := fun x ρ1 h2 => match bindT (.n 4) (.d x) ρ1 with
    | some ρ2 => evSs (cfF P 39) l_law_2_0 ρ2 h2
    | none => .bad) (I := fun xs ρ h' => ∃ ps x4 x5 x6 x7, ρ = nρ l (some (.d (.int k))) h.length ps x4 x5 x6 x7 x8 x9 x10 ∧ BagS h' h.length ∧ AllN ps ∧ ps.length + 2 * xs.length ≤ 50 ∧ ∀ x ∈ xs, ∃ j : Int, x = .int j)
    (fun x xs ρ h2 hi => by
      obtain ⟨ps, x4, x5, x6, x7, rfl, hb, hp, hl, hx⟩ := hi
      obtain ⟨j, rfl⟩ := hx x List.mem_cons_self
      simp only [List.length_cons] at hl
      obtain ⟨ps', y5, y6, y7, h', e, bk, hp', hl'⟩ := e_turn (l := l) (k := some (.d (.int k))) (x5 := x5) (x6 := x6) (x7 := x7) (x8 := x8) (x9 := x9) (x10 := x10) (j := j) hb hp (by omega)
      exact ⟨_, h', .inl e, ps', some (.d (.int j)), y5, y6, y7, rfl, bk.bag hb, hp', by omega, fun x hx' => hx x (List.mem_cons_of_mem _ hx')⟩)
    (xs := rngF 0 (Int.toNat 4)) (ρ := nρ l (some (.d (.int k))) h.length [NumP 1 0 1, NumP 1 1 1] x4 x5 x6 x7 x8 x9 x10) (h := h ++ [.lst (ns.map PyData.int)]) ⟨_, _, _, _, _, rfl, hb1, by
      intro p hp
      simp only [List.mem_cons, List.not_mem_nil, or_false] at hp
      rcases hp with rfl | rfl
      · exact ⟨1, 0, 1, rfl, num0⟩
      · exact ⟨1, 1, 1, rfl, num_one (by omega) (by omega) (by omega) (by omega) (by decide)⟩, by simp [rng_len], fun x hx => by
        obtain ⟨i, rfl, _⟩ := rngF_mem hx
        exact ⟨i, rfl⟩⟩
  have st3 : evS (cfF P 39) (.fors (.n 4) (.r1 (.int 4)) l_law_2_0) (nρ l (some (.d (.int k))) h.length [NumP 1 0 1, NumP 1 1 1] x4 x5 x6 x7 x8 x9 x10) (h ++ [.lst (ns.map PyData.int)]) = .nx (nρ l (some (.d (.int k))) h.length ps z4 z5 z6 z7 x8 x9 x10) h3 := by
    have it : evI (cfF P 39) (.r1 (.int 4)) (nρ l (some (.d (.int k))) h.length [NumP 1 0 1, NumP 1 1 1] x4 x5 x6 x7 x8 x9 x10) (h ++ [.lst (ns.map PyData.int)]) = .ok (rngF 0 (Int.toNat 4)) (h ++ [.lst (ns.map PyData.int)]) := it_r1 rfl (by omega) (by omega)
    simp only [evS, it, Res.to]
    exact e3
  obtain ⟨ρ', h4, e4, w7, w8, w9, rfl, eh, _⟩ := forF_inv (g := fun x ρ1 h2 => match bindT (.n 8) (.d x) ρ1 with
    | some ρ2 => evSs (cfF P 39) l_law_2_2 ρ2 h2
    | none => .bad) (I := fun xs ρ h' => ∃ y7 y8 y9, ρ = nρ l (some (.d (.int k))) h.length ps z4 z5 z6 y7 y8 y9 x10 ∧ h' = h3 ∧ AllN xs)
    (fun x xs ρ h2 hi => by
      obtain ⟨y7, y8, y9, rfl, rfl, hx⟩ := hi
      obtain ⟨d, t, b, rfl, H⟩ := hx x List.mem_cons_self
      obtain ⟨z7', z9', ez⟩ := e_row (l := l) (k := some (.d (.int k))) (r := h.length) (x4 := z4) (x5 := z5) (x6 := z6) (x7 := y7) (x9 := y9) (x10 := x10) (h := h2) hp H
      exact ⟨_, h2, .inl ez, z7', some (.d (NumP d t b)), z9', rfl, rfl, fun p hp' => hx p (List.mem_cons_of_mem _ hp')⟩)
    (xs := ps) (ρ := nρ l (some (.d (.int k))) h.length ps z4 z5 z6 z7 x8 x9 x10) (h := h3) ⟨_, _, _, rfl, rfl, hp⟩
  rw [eh] at e4
  have st4 : evS (cfF P 39) (.fors (.n 8) (.e (.var 3)) l_law_2_2) (nρ l (some (.d (.int k))) h.length ps z4 z5 z6 z7 x8 x9 x10) h3 = .nx (nρ l (some (.d (.int k))) h.length ps z4 z5 z6 w7 w8 w9 x10) h3 := by
    have it : evI (cfF P 39) (.e (.var 3)) (nρ l (some (.d (.int k))) h.length ps z4 z5 z6 z7 x8 x9 x10) h3 = .ok ps h3 := by
      unfold nρ
      simp [evSs, evS, evE, evEs, evO, evT, evI, itemsF, Res.bd, Res.to, Res.nox, asB, asI, okB, okD, isiF, MP.b2, Cm.ev, end_d, end_n, end_x, dats, dat, datT, pures, on1, on2, on2T, bindT, bindTs, Bi.ev, isCF, ixF, slF, bg1, bg2, bg3, bg4, bg5, bg6, bg7, bg8]
    simp only [evS, it, Res.to]
    exact e4
  refine ⟨some (.ref h.length), some (.d (.list ps)), z4, z5, z6, w7, w8, w9, x10, h3, ?_⟩
  rw [seq_nx st1, seq_nx st2, seq_nx st3]
  exact seq1 st4
theorem prim_of {d t b : Int} (d1 : d ≤ 40) (h : ∀ g : Nat, 2 ≤ g → (∀ x : Int, 0 ≤ x → x ^ g ≠ t) ∨ (∀ y : Int, 0 ≤ y → y ^ g ≠ b)) : 0 < t → ∀ g : Int, 1 < g → g ≤ d → d % g = 0 → ∀ x y : Int, 0 ≤ x → 0 ≤ y → x ^ g.toNat = t → y ^ g.toNat ≠ b := fun _ g g1 _ _ x y hx hy ex ey => by
  rcases h g.toNat (by omega) with q | q
  · exact q x hx ex
  · exact q y hy ey
theorem law_true (l : List Int) : callF P 40 idLaw [.scr l] [] = .ok (.d (.bool true)) [] := by
  show callF P 40 52 [.scr l] [] = _
  rw [call_eq f_law_2 [some (.scr l), none, none, none, none, none, none, none, none, none, none] rfl rfl rfl]
  show endF false [] (evSs (cfF P 39) b_law_2 _ []) = _
  unfold b_law_2
  have key := forF_inv (g := fun x ρ1 h2 => match bindT (.n 1) (.d x) ρ1 with
    | some ρ2 => evSs (cfF P 39) l_law_2_3 ρ2 h2
    | none => .bad) (I := fun xs ρ h' => ∃ x1 x2 x3 x4 x5 x6 x7 x8 x9 x10, ρ = [some (.scr l), x1, x2, x3, x4, x5, x6, x7, x8, x9, x10] ∧ ∀ x ∈ xs, ∃ j : Int, x = .int j ∧ 0 ≤ j ∧ j ≤ 10)
    (fun x xs ρ h2 hi => by
      obtain ⟨x1, x2, x3, x4, x5, x6, x7, x8, x9, x10, rfl, hx⟩ := hi
      obtain ⟨j, rfl, j0, j1⟩ := hx _ List.mem_cons_self
      obtain ⟨y2, y3, y4, y5, y6, y7, y8, y9, y10, h', e⟩ := e_k (h := h2) (l := l) (x2 := x2) (x3 := x3) (x4 := x4) (x5 := x5) (x6 := x6) (x7 := x7) (x8 := x8) (x9 := x9) (x10 := x10) j0 j1
      exact ⟨_, h', .inl e, some (.d (.int j)), y2, y3, y4, y5, y6, y7, y8, y9, y10, rfl, fun x hx' => hx x (List.mem_cons_of_mem _ hx')⟩)
    (xs := rngF 0 (Int.toNat 9)) (ρ := [some (.scr l), none, none, none, none, none, none, none, none, none, none]) (h := []) ⟨_, _, _, _, _, _, _, _, _, _, rfl, fun x hx => by obtain ⟨i, rfl, i0, i1⟩ := rngF_mem hx; exact ⟨i, rfl, i0, by simp at i1; omega⟩⟩
  obtain ⟨ρ1, h1, e1, x1, x2, x3, x4, x5, x6, x7, x8, x9, x10, rfl, _⟩ := key
  have st1 : evS (cfF P 39) (.fors (.n 1) (.r1 (.int 9)) l_law_2_3) [some (.scr l), none, none, none, none, none, none, none, none, none, none] [] = .nx [some (.scr l), x1, x2, x3, x4, x5, x6, x7, x8, x9, x10] h1 := by
    have it : evI (cfF P 39) (.r1 (.int 9)) [some (.scr l), none, none, none, none, none, none, none, none, none, none] [] = .ok (rngF 0 (Int.toNat 9)) [] := it_r1 rfl (by omega) (by omega)
    simp only [evS, it, Res.to]
    exact e1
  rw [seq_nx st1]
  have er := e_lawref (n := 26) (h := h1)
  have st2 : evS (cfF P 39) (.ifs (.not (.call 51 .nil)) (.cons (.ret (.bl false)) .nil) .nil) [some (.scr l), x1, x2, x3, x4, x5, x6, x7, x8, x9, x10] h1 = .nx [some (.scr l), x1, x2, x3, x4, x5, x6, x7, x8, x9, x10] h1 := by
    refine ifs_not ?_
    simp [evSs, evS, evE, evEs, evO, evT, evI, itemsF, Res.bd, Res.to, Res.nox, asB, asI, okB, okD, isiF, MP.b2, Cm.ev, end_d, end_n, end_x, dats, dat, datT, pures, on1, on2, on2T, bindT, bindTs, Bi.ev, isCF, ixF, slF, bg1, bg2, bg3, bg4, bg5, bg6, bg7, bg8, er]
  rw [seq_nx st2]
  have r1 : (cfF P 39).call 40 [.d (.int 6), .d (.tuple [.int 4, .int 9])] h1 = _ := e_root (n := 36) (by omega) (by omega) (by decide) (ra2 (n := 35))
  have r2 : (cfF P 39).call 40 [.d (.int 2), .d (.tuple [.int 1, .int 4])] h1 = _ := e_root (n := 36) (by omega) (by omega) (by decide) (ra1 (n := 35))
  have r3 : (cfF P 39).call 40 [.d (.int 3), .d (.tuple [.int 3, .int 8])] h1 = _ := e_root (n := 36) (by omega) (by omega) (by decide) (ra3 (n := 35))
  have r4 : (cfF P 39).call 40 [.d (.int 4), .d (.tuple [.int 0, .int 1])] h1 = .ok (.d (NumP 1 0 1)) h1 := e_root (n := 36) (by omega) (by omega) (by decide) (e_rootof0 (n := 37))
  have r5 : (cfF P 39).call 40 [.d (.int 12), .d (.tuple [.int 64, .int 729])] h1 = _ := e_root (n := 36) (by omega) (by omega) (by decide) (ra4 (n := 35))
  have n1 : Num 2 3 8 := ⟨by omega, by omega, by omega, by omega, by omega, by omega, by decide, fun z => absurd z (by omega), prim_of (by omega) fun g hg => .inl fun x hx => pow_no (m := 2) hx (by omega) (by decide) hg⟩
  have n2 : Num 3 3 8 := ⟨by omega, by omega, by omega, by omega, by omega, by omega, by decide, fun z => absurd z (by omega), prim_of (by omega) fun g hg => .inl fun x hx => pow_no (m := 2) hx (by omega) (by decide) hg⟩
  have n3 : Num 2 1 2 := ⟨by omega, by omega, by omega, by omega, by omega, by omega, by decide, fun z => absurd z (by omega), prim_of (by omega) fun g hg => .inr fun x hx => pow_no (m := 2) hx (by omega) (by decide) hg⟩
  have n4 : Num 3 1 3 := ⟨by omega, by omega, by omega, by omega, by omega, by omega, by decide, fun z => absurd z (by omega), prim_of (by omega) fun g hg => .inr fun x hx => pow_no (m := 2) hx (by omega) (by decide) hg⟩
  have c1 : (cfF P 39).call 41 [.d (NumP 2 3 8), .d (NumP 3 3 8)] h1 = .ok (.d (.int (-1))) h1 := e_compare (n := 32) n1 n2
  have c2 : (cfF P 39).call 41 [.d (NumP 2 1 2), .d (NumP 3 1 3)] h1 = .ok (.d (.int 1)) h1 := e_compare (n := 32) n3 n4
  have b2 : (2 : Nat) ≤ big := by decide
  have b3 : (3 : Nat) ≤ big := by decide
  have s8 : ∀ i, SeqAt.shaped (.int i) = true := fun _ => rfl
  have sf : SeqAt.shaped (.list [.tuple [.int 3, .int 2, .int 3], .tuple [.int 1, .int 1, .int 2], .tuple [.int 3, .int 3, .int 8], .tuple [.int 1, .int 0, .int 1], .tuple [.int 2, .int 2, .int 3]]) = true := okd_sh (d := 2) (m := 5) rfl (by omega)
  unfold NumP at r1 r2 r3 r4 r5 c1 c2
  simp [evSs, evS, evE, evEs, evO, evT, evI, itemsF, Res.bd, Res.to, Res.nox, asB, asI, okB, okD, isiF, MP.b2, Cm.ev, end_d, end_n, end_x, dats, dat, datT, pures, on1, on2, on2T, bindT, bindTs, Bi.ev, isCF, ixF, slF, bg1, bg2, bg3, bg4, bg5, bg6, bg7, bg8, b2, b3, r1, r2, r3, r4, r5, c1, c2, s8, sf, PyData.eqv, PyData.eqvAll, endF, fin]
end K02
end
section
set_option Elab.async false
set_option linter.all false
set_option maxRecDepth 100000
set_option maxHeartbeats 0
namespace K02
open PySem L2 MP MC
def top (i : Nat) : Stmt := PySem.Challenge.pw_anybounce_k02_whole_roots_compared.main.body.getD i (.Pass ⟨0, 0, 0, 0⟩)
def mkD (x : Str) (i : Nat) : He.DefD := ⟨(x, none), x, x, defArgs (top i), defBody (top i), defScope (top i), [], []⟩
def lm : List (List Str) := [f__law_all_refused.names, f__law_refused.names]
def sp : List (Str × Nat) := [("_law_named_error", 39), ("_law_error", 40)]
def xs : List Str := ["ValueError"]
def pk : Pack := mkPack mkD fl gl lm [0] ["_law_all_refused", "_law_refused"]
abbrev G : Pg := pk.G
theorem pk_ok : pk.Ok := mkPack_ok (by decide +kernel)
def fn : List He.DefD := mkFn mkD fl sp
def fa : List He.Fa := mkFa fl sp xs
theorem pk_fa : pk.Fa fa fn := mkPack_fa
def neP : NePos := ⟨fun i => ([⟨159, 4, 159, 8⟩, ⟨159, 12, 159, 22⟩, ⟨159, 23, 159, 24⟩, ⟨159, 26, 159, 37⟩, ⟨159, 12, 159, 38⟩, ⟨159, 40, 159, 50⟩, ⟨159, 51, 159, 52⟩, ⟨159, 54, 159, 65⟩, ⟨159, 40, 159, 66⟩, ⟨159, 68, 159, 78⟩, ⟨159, 79, 159, 80⟩, ⟨159, 82, 159, 94⟩, ⟨159, 68, 159, 95⟩, ⟨159, 11, 159, 96⟩, ⟨159, 4, 159, 96⟩, ⟨160, 4, 160, 8⟩, ⟨160, 11, 160, 15⟩, ⟨160, 19, 160, 29⟩, ⟨160, 30, 160, 31⟩, ⟨160, 33, 160, 46⟩, ⟨160, 19, 160, 47⟩, ⟨160, 49, 160, 59⟩, ⟨160, 60, 160, 61⟩, ⟨160, 63, 160, 74⟩, ⟨160, 49, 160, 75⟩, ⟨160, 77, 160, 87⟩, ⟨160, 88, 160, 89⟩, ⟨160, 91, 160, 104⟩, ⟨160, 77, 160, 105⟩, ⟨160, 18, 160, 106⟩, ⟨160, 11, 160, 106⟩, ⟨160, 4, 160, 106⟩, ⟨161, 4, 161, 8⟩, ⟨161, 11, 161, 15⟩, ⟨161, 19, 161, 29⟩, ⟨161, 30, 161, 31⟩, ⟨161, 33, 161, 45⟩, ⟨161, 19, 161, 46⟩, ⟨161, 48, 161, 58⟩, ⟨161, 59, 161, 60⟩, ⟨161, 62, 161, 73⟩, ⟨161, 48, 161, 74⟩, ⟨161, 76, 161, 86⟩, ⟨161, 87, 161, 88⟩, ⟨161, 90, 161, 103⟩, ⟨161, 76, 161, 104⟩, ⟨161, 18, 161, 105⟩, ⟨161, 11, 161, 105⟩, ⟨161, 4, 161, 105⟩, ⟨162, 4, 162, 9⟩, ⟨162, 12, 162, 64⟩, ⟨162, 4, 162, 64⟩, ⟨163, 11, 163, 14⟩, ⟨163, 11, 163, 19⟩, ⟨163, 21, 163, 25⟩, ⟨163, 30, 163, 34⟩, ⟨163, 36, 163, 40⟩, ⟨163, 30, 163, 40⟩, ⟨163, 44, 163, 47⟩, ⟨163, 48, 163, 53⟩, ⟨163, 48, 163, 59⟩, ⟨163, 60, 163, 63⟩, ⟨163, 48, 163, 64⟩, ⟨163, 66, 163, 70⟩, ⟨163, 44, 163, 71⟩, ⟨163, 75, 163, 79⟩, ⟨163, 20, 163, 80⟩, ⟨163, 11, 163, 81⟩, ⟨163, 4, 163, 81⟩] : List Pos).getD i ⟨0, 0, 0, 0⟩⟩
def iN : Nat := 39
def scC : Scope := match (defBody (top iN)).getD 4 (.Pass ⟨0, 0, 0, 0⟩) with
  | .Return (some (.Call _ [.ListComp _ _ s _] _ _)) _ => s
  | _ => defScope (top iN)
def tT : TryT mkD sp := { iN := iN, hN := by decide +kernel, P := neP, prN := defArgs (top iN), scN := defScope (top iN), scC := scC, dN := by kernel_rfl, ppN := by decide +kernel, ns := neSB_ok (by decide +kernel) }
def q0 : Nat → Pos := fun i => ([⟨166, 8, 166, 12⟩, ⟨166, 8, 166, 14⟩, ⟨166, 8, 166, 14⟩, ⟨167, 11, 167, 22⟩, ⟨168, 38, 168, 48⟩, ⟨168, 49, 168, 50⟩, ⟨168, 52, 168, 62⟩, ⟨168, 38, 168, 63⟩, ⟨168, 15, 168, 31⟩, ⟨168, 32, 168, 33⟩, ⟨168, 15, 168, 34⟩, ⟨168, 69, 168, 74⟩, ⟨168, 15, 168, 74⟩, ⟨168, 8, 168, 74⟩, ⟨167, 4, 168, 74⟩, ⟨165, 4, 168, 74⟩, ⟨169, 11, 169, 13⟩, ⟨169, 4, 169, 13⟩] : List Pos).getD i ⟨0, 0, 0, 0⟩
def t0 : Try0 mkD sp xs := { toTryT := tT, i0 := 40, h0 := by decide +kernel, q0 := q0, pr0 := defArgs (top 40), sc0 := defScope (top 40), d0 := by kernel_rfl, pp0 := by decide +kernel, ts0 := trSB_ok (by decide +kernel), vx := by decide +kernel }
abbrev R : PySem.W.OpenRow := PySem.W.OpenLaw.row PySem.Challenge.rw_anybounce_k02_whole_roots_compared
abbrev hk : PySem.W.Hook := He.hookX 3 fa fn [] pk.tf pk.ex
def ob (s : PySem.W.SharedT) : He.AlX := He.obsX 3 fa fn [] pk.tf pk.ex (HandSHeadRun.getT s)
theorem ob_eq (s : PySem.W.SharedT) : ob s = hk.obs s.abs := He.obsX_eq (HandSHeadRun.getT_eq s)
def loose : List Str := (["__name__", "BounceError", "InvalidLane", "InvalidBall", "InvalidShare", "InvalidScript", "InvalidCell", "InvalidNumber", "InvalidFacts", "InvalidText", "NothingToUndo", "NONE", "divisor_of", "lowest", "power", "whole_root", "root_of", "sign_of", "compared", "GREATEST", "is_plain", "is_fraction", "is_number", "need_number", "root", "compare", "_law_cell", "_law_draws", "_law_bag", "_law_take"] : List Str) ++ (["_law_choice", "_law_lowest", "_law_power", "_law_floor", "_law_root", "_law_before", "_law_named_error", "_law_error", "_law_all_refused", "_law_fraction", "_law_powered", "_law_near", "_law_refused"] : List Str)
theorem run (w : World) : HandSHeadRun.RunEq R (PySem.W.view R.prog [46]) hk ob 6000 loose w := by
  intro os
  kernel_rfl
end K02
end
section
set_option Elab.async false
set_option linter.all false
set_option maxRecDepth 100000
set_option maxHeartbeats 0
open PySem PySem.W PySem.Calls PyProof.Rows
theorem MP.cxF {P : Program} {w : World} {H : L2.Hp} {s : Shared} {e : Value} {s1 : Shared} (q : L2N.CX P w [] H s (fun _ _ _ => False) e s1) : False := by
  obtain ⟨_, _, _, _, _, _, _, _, _, _, _, _, q⟩ := q
  exact q
theorem K02.join (n : Nat) (hn : L2.Room (3 * n) callerA) (ev : ∀ xs : List Int, xs.length ≤ 63 → (∀ z ∈ xs, Builtin.Int.intBits z ≤ 1048576) → MP.callF K02.P n K02.idLaw [.scr xs] [] = .ok (.d (.bool true)) []) : PySem.Challenge.rw_anybounce_k02_whole_roots_compared.Holds := by
  w_on; o_law
  refine HandSHeadRun.head_any (r := OpenLaw.row PySem.Challenge.rw_anybounce_k02_whole_roots_compared) (q := view (OpenLaw.row PySem.Challenge.rw_anybounce_k02_whole_roots_compared).prog [46]) (H := K02.hk) (ob := K02.ob) (M := 6000) (loose := K02.loose) (d := HandSHeadRun.topDef (OpenLaw.row PySem.Challenge.rw_anybounce_k02_whole_roots_compared).prog 46) (kwd := []) K02.ob_eq
    (by kernel_rfl) (fun s => by kernel_rfl) K02.run (by kernel_rfl) (by kernel_rfl) (by kernel_rfl) (by rfl) (by first | assumption | decide +kernel) (by decide +kernel) ⟨rfl, rfl, rfl, rfl, rfl, by decide +kernel⟩ ?hw ?hc
  case hw => w_witness2
  case hc =>
    refine LamX.walk_ofTsE (l := PySem.Challenge.rw_anybounce_k02_whole_roots_compared) (n := 63) (k := 3 * n) (x := "script") (CX := fun w => L2N.CX PySem.Challenge.rw_anybounce_k02_whole_roots_compared.prog w) rfl (by decide) (by kernel_rfl) hn ?F ?hCX
    case F =>
      intro w mg fa h Y G hmg0
      obtain ⟨K, KX, c⟩ := Y
      have hmg : mg ("law" : PySem.Str) = some (.ref fa) := by
        have e : (HandSHeadRun.topDef (OpenLaw.row PySem.Challenge.rw_anybounce_k02_whole_roots_compared).prog 46).name = ("law" : PySem.Str) := by kernel_rfl
        rw [← e]
        exact hmg0
      refine ⟨K, KX, MP.law_at (p := K02.pk) (id := K02.idLaw) (fd := K02.f_law_2) K02.pk_ok K02.pk_fa c KX G rfl rfl rfl hmg (fun base hb hbn hT t k ht hk => ?_) ev⟩
      have e0 : t = 0 := by
        have q : decide (t ∈ [0]) = true := ht
        simpa using q
      subst e0
      exact MP.tr0_of K02.t0 K02.pk_fa c KX G hk
    case hCX => intro w H s e s1 q; exact MP.cxF q
theorem PySem.Challenge.cw_anybounce_k02_whole_roots_compared_holds : PySem.Challenge.rw_anybounce_k02_whole_roots_compared.Holds := by
  exact K02.join 40 ⟨rfl, by decide +kernel, by decide +kernel⟩ fun xs _ _ => K02.law_true xs
end
