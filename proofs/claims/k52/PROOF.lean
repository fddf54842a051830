import PyProof.Rows.All
import Wide.All
import OpenK.AllK
import Wide.FinOn
import HandS.ForMost
import HandS.Exc
import HandS.ExcSuper
import HandS.Wide
import HandS.Deep
import HandS.Flow
import HandS.IsInst
import HandS.Defaults
import HandS.HeadEnd
import HandS.HeadHook1
import HandS.HeadHook2
import PyProof.ReprNest
import HandS.RaiseMore
import HandS.Conv
import KE.DataMinMax
import HandS.WordsExc
import HandS.Style
import PyProof.ReprLen
import PyProof.P3Eq
import PySem.Challenge.RW_backwardrow_k52_ticks_of_sped_rows
set_option Elab.async false
set_option linter.all false
set_option maxRecDepth 100000
/-! PdA: a small language of pure steps, beside the model: its data, its syntax, its meaning. -/
namespace PD
open PySem

/-- data: what a value is, all the way in -/
inductive D where
  | non | bl (b : Bool) | int (i : Int) | str (s : Str) | lst (l : List D) | tup (l : List D)
/-- a value of a step: data, or the place of a list that may be changed -/
inductive PV where
  | d (x : D) | obj (k : Nat) | scr (ns : List Int)
/-- a list that may be changed; dead: nobody changes it any more -/
inductive Cell where
  | lst (l : List D) | dead
abbrev CS := List Cell
/-- what a step comes to -/
inductive R (α : Type) where
  | ok (a : α) (s : CS) | bad
@[simp] def R.bind {α β : Type} : R α → (α → CS → R β) → R β
  | .ok a s, f => f a s
  | .bad, _ => .bad
abbrev Env := List (Option PV)

mutual
def D.toP : D → PyData
  | .non => .none
  | .bl b => .bool b
  | .int i => .int i
  | .str s => .str s
  | .lst l => .list (D.toPs l)
  | .tup l => .tuple (D.toPs l)
def D.toPs : List D → List PyData
  | [] => []
  | x :: r => D.toP x :: D.toPs r
end

/-- the data of a value as it stands -/
def PV.rd : PV → CS → Option D
  | .d x, _ => some x
  | .obj k, s => match s[k]? with
    | some (.lst l) => some (.lst l)
    | _ => none
  | .scr _, _ => none

/-- whether it is None -/
def isNone : PV → CS → Option Bool
  | .d .non, _ => some true
  | .d _, _ => some false
  | .obj k, s => match s[k]? with
    | some (.lst _) => some false
    | _ => none
  | .scr _, _ => some false

/-! ### operators, by data -/
inductive BO where | add | sub | mul | fdiv | mod | pow
inductive CO where | eq | ne | lt | le | gt | ge | mem | nmem

def binop : BO → D → D → Option D
  | .add, .int a, .int b => some (.int (a + b))
  | .add, .str a, .str b => if a.length + b.length ≤ sizeLine then some (.str (a ++ b)) else none
  | .add, .lst a, .lst b => if a.length + b.length ≤ sizeLine then some (.lst (a ++ b)) else none
  | .sub, .int a, .int b => some (.int (a - b))
  | .mul, .int a, .int b => if a.natAbs < 2 ^ 64 ∨ b.natAbs < 2 ^ 64 ∨ a.natAbs.log2 + b.natAbs.log2 < 1000000 then some (.int (a * b)) else none
  | .fdiv, .int a, .int b => if 0 < b ∧ b.natAbs.log2 < 9000 then some (.int (a / b)) else none
  | .mod, .int a, .int b => if 0 < b then some (.int (a % b)) else none
  | .pow, .int a, .int b => if 0 ≤ b ∧ b ≤ 1000000 ∧ a.natAbs < 2 ^ 64 then some (.int (a ^ b.toNat)) else none
  | _, _, _ => none
def strEq : D → D → Option Bool
  | .str x, .str y => some (x == y)
  | _, _ => none
def eqS (a b : D) : Option Bool := if SeqAt.shaped a.toP && SeqAt.shaped b.toP then some (PyData.eqv a.toP b.toP) else none
def eqD (a b : D) : Option Bool := (strEq a b).or (eqS a b)
def memD (a : D) : D → Option Bool
  | .lst l => if SeqAt.shaped a.toP && SeqAt.shaped (D.lst l).toP then some (l.any fun z => PyData.eqv z.toP a.toP) else none
  | _ => none
def cmpop : CO → D → D → Option D
  | .eq, a, b => (eqD a b).map .bl
  | .ne, a, b => (eqD a b).map fun c => .bl !c
  | .lt, .int a, .int b => some (.bl (decide (a < b)))
  | .le, .int a, .int b => some (.bl (decide (a ≤ b)))
  | .gt, .int a, .int b => some (.bl (decide (b < a)))
  | .ge, .int a, .int b => some (.bl (decide (b ≤ a)))
  | .mem, a, b => (memD a b).map .bl
  | .nmem, a, b => (memD a b).map fun c => .bl !c
  | _, _, _ => none
def truth : D → Option Bool
  | .non => some false
  | .bl b => some b
  | .int i => some (i != 0)
  | .str s => if s.length ≤ sizeLine then some (s.length != 0) else none
  | .lst l => some (!l.isEmpty)
  | .tup l => some (!l.isEmpty)
def ixD : D → D → Option D
  | .lst l, .int i => L2.atI l i
  | .tup l, .int i => L2.atI l i
  | _, _ => none
def cutL {α : Type} (l : List α) (lo hi : Option Int) : List α := (l.drop (HT.sIx l.length 0 lo)).take (HT.sIx l.length l.length hi - HT.sIx l.length 0 lo)
def sliD : D → Option Int → Option Int → Option D
  | .lst l, lo, hi => some (.lst (cutL l lo hi))
  | _, _, _ => none

/-! ### built-ins, by data -/
inductive BI where | len | int | abs | repr | min | max | list | tuple

/-- the text of data -/
def reprD (x : D) : Option Str :=
  if x.toP.showable && decide (x.toP.shown.length ≤ sizeLine) && decide (x.toP.depth ≤ 60) then some x.toP.shown else none
def intsOf : List D → Option (List Int)
  | [] => some []
  | .int i :: r => (intsOf r).map (i :: ·)
  | _ :: _ => none
def bestI (f : Int → Int → Int) (l : List D) : Option D := match intsOf l with
  | some (x :: r) => some (.int (r.foldl f x))
  | _ => none
def bi : BI → List D → Option D
  | .len, [.lst l] => some (.int l.length)
  | .len, [.tup l] => some (.int l.length)
  | .len, [.str z] => if z.length ≤ sizeLine then some (.int z.length) else none
  | .int, [.int i] => some (.int i)
  | .int, [.bl b] => some (.int (if b then 1 else 0))
  | .abs, [.int i] => some (.int (if i < 0 then -i else i))
  | .repr, [x] => (reprD x).map .str
  | .min, [.tup l] => bestI min l
  | .min, [.lst l] => bestI min l
  | .max, [.tup l] => bestI max l
  | .max, [.lst l] => bestI max l
  | .min, [.int a, .int b] => some (.int (if b < a then b else a))
  | .max, [.int a, .int b] => some (.int (if b > a then b else a))
  | .list, [.lst l] => some (.lst l)
  | .list, [.tup l] => some (.lst l)
  | .tuple, [.lst l] => some (.tup l)
  | .tuple, [.tup l] => some (.tup l)
  | _, _ => none
/-- built-in kinds, for isinstance -/
inductive TK where | int | bool | str | list | tuple | dict
def isK : TK → D → Bool
  | .int, .int _ => true
  | .int, .bl _ => true
  | .bool, .bl _ => true
  | .str, .str _ => true
  | .list, .lst _ => true
  | .tuple, .tup _ => true
  | _, _ => false

/-! ### the syntax -/
mutual
inductive E where
  | lit (c : D) | var (i : Nat)
  | bin (o : BO) (a b : E) | neg (a : E) | cmp (o : CO) (a b : E) | isn (n : Bool) (a : E)
  | and (es : Es) | or (es : Es) | not (a : E) | ite (c a b : E)
  | tup (es : Es) | lst (es : Es) | new (e : E)
  | idx (a i : E) | sli (a : E) (lo hi : Eo)
  | call (f : Nat) (es : Es) | callk (f : Nat) (perm : List Nat) (es ks : Es) | bi (b : BI) (es : Es) | isi (a : E) (k : TK)
  | lrg (e : E)
  | comp (e : E) (tg : List Nat) (many : Bool) (it : It) (ifs : Es) (own : List Nat)
inductive Es where
  | nil | cons (e : E) (es : Es)
inductive Eo where
  | none | some (e : E)
inductive It where
  | seq (e : E) | rng1 (e : E) | rng2 (a b : E) | enum (e : E)
end
mutual
inductive S where
  | asg (i : Nat) (e : E) | asgT (is : List Nat) (e : E) | asg2 (is : List Nat) (es : Es) | setI (o i v : E) | expr (e : E) | app (o v : E) | ext (o v : E) | frz (i : Nat)
  | ret (e : E) | retN | ifs (c : E) (a b : Ss) | for (tg : List Nat) (many : Bool) (it : It) (b : Ss) | pass | stop
inductive Ss where
  | nil | cons (s : S) (ss : Ss)
end

/-! ### the meaning -/
structure Cl where
  call : Nat → List PV → CS → R PV

def lift {α : Type} (o : Option α) (s : CS) : R α := match o with
  | some x => .ok x s
  | none => .bad
def ownAll : List PV → Option (List D)
  | [] => some []
  | .d x :: r => (ownAll r).map (x :: ·)
  | _ :: _ => none
def rdAll (s : CS) : List PV → Option (List D)
  | [] => some []
  | x :: r => (x.rd s).bind fun d => (rdAll s r).map (d :: ·)
def pickAll {α : Type} (xs : List α) : List Nat → Option (List α)
  | [] => some []
  | i :: r => xs[i]?.bind fun x => (pickAll xs r).map (x :: ·)
def setAll : Env → List Nat → List D → Option Env
  | ρ, [], [] => some ρ
  | ρ, i :: is, x :: xs => setAll (ρ.set i (some (.d x))) is xs
  | _, _, _ => none
def setAllP : Env → List Nat → List PV → Option Env
  | ρ, [], [] => some ρ
  | ρ, i :: is, x :: xs => setAllP (ρ.set i (some x)) is xs
  | _, _, _ => none
def bindT (many : Bool) (tg : List Nat) (x : D) (ρ : Env) : Option Env := match many, tg, x with
  | false, [i], x => some (ρ.set i (some (.d x)))
  | true, is, .tup l => setAll ρ is l
  | _, _, _ => none
def wipeE (ρ : Env) : List Nat → Env
  | [] => ρ
  | v :: vs => (wipeE ρ vs).set v none
/-- a list made item by item -/
def compGo (f : Env → CS → R PV) (t : Env → CS → R Bool) (many : Bool) (tg : List Nat) (ρ : Env) : List D → List D → CS → R (List D)
  | [], acc, s => .ok acc s
  | x :: xs, acc, s => match bindT many tg x ρ with
    | none => .bad
    | some ρ' => (t ρ' s).bind fun b s1 => if b then
        (f ρ' s1).bind fun v s2 => match v with
          | .d y => if acc.length < sizeLine then compGo f t many tg ρ xs (acc ++ [y]) s2 else .bad
          | _ => .bad
      else compGo f t many tg ρ xs acc s1
/-- what follows a statement -/
inductive Fl where
  | nx (ρ : Env) | rt (v : PV)
def forGo (f : Env → CS → R Fl) (many : Bool) (tg : List Nat) : List D → Env → CS → R Fl
  | [], ρ, s => .ok (.nx ρ) s
  | x :: xs, ρ, s => match bindT many tg x ρ with
    | none => .bad
    | some ρ' => (f ρ' s).bind fun fl s1 => match fl with
      | .nx ρ2 => forGo f many tg xs ρ2 s1
      | .rt v => .ok (.rt v) s1
def rngItems (lo : Int) (n : Nat) : List D := (List.range n).map fun (i : Nat) => D.int (lo + (i : Int))
def smallI (i : Int) : Bool := decide (-(2 ^ 62) ≤ i ∧ i < 2 ^ 62)
def enumItems (l : List D) : List D := l.zipIdx.map fun p => D.tup [.int (p.2 : Int), p.1]

mutual
def evE (C : Cl) : E → Env → CS → R PV
  | .lit c, _, s => .ok (.d c) s
  | .var i, ρ, s => match ρ[i]? with
    | some (some v) => .ok v s
    | _ => .bad
  | .bin o a b, ρ, s => (evE C a ρ s).bind fun x s1 => (evE C b ρ s1).bind fun y s2 => lift (match x.rd s2, y.rd s2 with
    | some x, some y => (binop o x y).map PV.d
    | _, _ => none) s2
  | .neg a, ρ, s => (evE C a ρ s).bind fun x s1 => match x with
    | .d (.int i) => .ok (.d (.int (-i))) s1
    | _ => .bad
  | .cmp o a b, ρ, s => (evE C a ρ s).bind fun x s1 => (evE C b ρ s1).bind fun y s2 => lift (match x.rd s2, y.rd s2 with
    | some x, some y => (cmpop o x y).map PV.d
    | _, _ => none) s2
  | .isn n a, ρ, s => (evE C a ρ s).bind fun x s1 => lift ((isNone x s1).map fun b => PV.d (.bl (b != n))) s1
  | .and es, ρ, s => evAnd C es ρ s
  | .or es, ρ, s => evOr C es ρ s
  | .not a, ρ, s => (evE C a ρ s).bind fun x s1 => lift ((x.rd s1).bind fun x => (truth x).map fun b => PV.d (.bl !b)) s1
  | .ite c a b, ρ, s => (evE C c ρ s).bind fun x s1 => match (x.rd s1).bind truth with
    | some true => evE C a ρ s1
    | some false => evE C b ρ s1
    | none => .bad
  | .tup es, ρ, s => (evEs C es ρ s).bind fun xs s1 => lift (if xs.length ≤ sizeLine then (ownAll xs).map fun l => PV.d (.tup l) else none) s1
  | .lst es, ρ, s => (evEs C es ρ s).bind fun xs s1 => lift (if xs.length ≤ sizeLine then (ownAll xs).map fun l => PV.d (.lst l) else none) s1
  | .new e, ρ, s => (evE C e ρ s).bind fun x s1 => match x with
    | .d (.lst l) => .ok (.obj s1.length) (s1 ++ [.lst l])
    | _ => .bad
  | .idx a i, ρ, s => (evE C a ρ s).bind fun x s1 => (evE C i ρ s1).bind fun y s2 => lift (match x.rd s2, y with
    | some x, .d y => (ixD x y).map PV.d
    | _, _ => none) s2
  | .sli a lo hi, ρ, s => (evE C a ρ s).bind fun x s1 => (evEo C lo ρ s1).bind fun l s2 => (evEo C hi ρ s2).bind fun h s3 => lift (match x with
    | .scr ns => some (PV.d (.lst ((cutL ns l h).map D.int)))
    | x => (x.rd s3).bind fun x => (sliD x l h).map PV.d) s3
  | .call f es, ρ, s => (evEs C es ρ s).bind fun xs s1 => C.call f xs s1
  | .callk f perm es ks, ρ, s => (evEs C es ρ s).bind fun xs s1 => (evEs C ks ρ s1).bind fun zs s2 => match pickAll (xs ++ zs) perm with
    | some ys => C.call f ys s2
    | none => .bad
  | .bi b es, ρ, s => (evEs C es ρ s).bind fun xs s1 => lift ((rdAll s1 xs).bind fun l => (PD.bi b l).map PV.d) s1
  | .isi a k, ρ, s => (evE C a ρ s).bind fun x s1 => lift ((x.rd s1).map fun x => PV.d (.bl (isK k x))) s1
  | .lrg e, ρ, s => (evE C e ρ s).bind fun x s1 => match x with
    | .d (.int j) => if 0 ≤ j ∧ j ≤ 16777216 then .ok (.d (.lst (rngItems 0 j.toNat))) s1 else .bad
    | _ => .bad
  | .comp e tg many it ifs own, ρ, s => (evIt C it ρ s).bind fun xs s1 =>
      (compGo (fun ρ s => evE C e ρ s) (fun ρ s => evIfs C ifs ρ s) many tg (wipeE ρ own) xs [] s1).bind fun l s2 => .ok (.d (.lst l)) s2
def evEs (C : Cl) : Es → Env → CS → R (List PV)
  | .nil, _, s => .ok [] s
  | .cons e es, ρ, s => (evE C e ρ s).bind fun x s1 => (evEs C es ρ s1).bind fun xs s2 => .ok (x :: xs) s2
def evEo (C : Cl) : Eo → Env → CS → R (Option Int)
  | .none, _, s => .ok none s
  | .some e, ρ, s => (evE C e ρ s).bind fun x s1 => match x with
    | .d (.int i) => .ok (some i) s1
    | _ => .bad
def evIt (C : Cl) : It → Env → CS → R (List D)
  | .seq e, ρ, s => (evE C e ρ s).bind fun x s1 => match x with
    | .d (.lst l) => .ok l s1
    | .d (.tup l) => .ok l s1
    | _ => .bad
  | .rng1 e, ρ, s => (evE C e ρ s).bind fun x s1 => match x with
    | .d (.int j) => if smallI j then .ok (rngItems 0 j.toNat) s1 else .bad
    | _ => .bad
  | .rng2 a b, ρ, s => (evE C a ρ s).bind fun x s1 => (evE C b ρ s1).bind fun y s2 => match x, y with
    | .d (.int i), .d (.int j) => if smallI i && smallI j then .ok (rngItems i (j - i).toNat) s2 else .bad
    | _, _ => .bad
  | .enum e, ρ, s => (evE C e ρ s).bind fun x s1 => match x with
    | .d (.lst l) => .ok (enumItems l) s1
    | _ => .bad
/-- and: the first that is false, or the last -/
def evAnd (C : Cl) : Es → Env → CS → R PV
  | .nil, _, _ => .bad
  | .cons e .nil, ρ, s => evE C e ρ s
  | .cons e (.cons e2 es), ρ, s => (evE C e ρ s).bind fun x s1 => match (x.rd s1).bind truth with
    | some true => evAnd C (.cons e2 es) ρ s1
    | some false => .ok x s1
    | none => .bad
def evOr (C : Cl) : Es → Env → CS → R PV
  | .nil, _, _ => .bad
  | .cons e .nil, ρ, s => evE C e ρ s
  | .cons e (.cons e2 es), ρ, s => (evE C e ρ s).bind fun x s1 => match (x.rd s1).bind truth with
    | some false => evOr C (.cons e2 es) ρ s1
    | some true => .ok x s1
    | none => .bad
/-- the tests of a clause -/
def evIfs (C : Cl) : Es → Env → CS → R Bool
  | .nil, _, s => .ok true s
  | .cons e es, ρ, s => (evE C e ρ s).bind fun x s1 => match (x.rd s1).bind truth with
    | some true => evIfs C es ρ s1
    | some false => .ok false s1
    | none => .bad
end
mutual
def exS (C : Cl) : S → Env → CS → R Fl
  | .asg i e, ρ, s => (evE C e ρ s).bind fun x s1 => .ok (.nx (ρ.set i (some x))) s1
  | .asgT is e, ρ, s => (evE C e ρ s).bind fun x s1 => match x with
    | .d (.tup l) => lift ((setAll ρ is l).map Fl.nx) s1
    | _ => .bad
  | .asg2 is es, ρ, s => (evEs C es ρ s).bind fun xs s1 => lift ((setAllP ρ is xs).map Fl.nx) s1
  | .setI o i v, ρ, s => (evE C v ρ s).bind fun y s1 => (evE C o ρ s1).bind fun x s2 => (evE C i ρ s2).bind fun j s3 => match x, j, y with
    | .obj k, .d (.int j), .d y => match s3[k]? with
      | some (.lst l) => match L2.ixN l.length j with
        | some n => .ok (.nx ρ) (s3.set k (.lst (l.set n y)))
        | none => .bad
      | _ => .bad
    | _, _, _ => .bad
  | .expr e, ρ, s => (evE C e ρ s).bind fun _ s1 => .ok (.nx ρ) s1
  | .app o v, ρ, s => (evE C o ρ s).bind fun x s1 => match x with
    | .obj k => match s1[k]? with
      | some (.lst _) => (evE C v ρ s1).bind fun y s2 => match y with
        | .d y => match s2[k]? with
          | some (.lst l) => if l.length < sizeLine then .ok (.nx ρ) (s2.set k (.lst (l ++ [y]))) else .bad
          | _ => .bad
        | _ => .bad
      | _ => .bad
    | _ => .bad
  | .ext o v, ρ, s => (evE C o ρ s).bind fun x s1 => match x with
    | .obj k => match s1[k]? with
      | some (.lst _) => (evE C v ρ s1).bind fun y s2 => match y with
        | .d (.lst ys) => match s2[k]? with
          | some (.lst l) => if l.length + ys.length ≤ sizeLine then .ok (.nx ρ) (s2.set k (.lst (l ++ ys))) else .bad
          | _ => .bad
        | _ => .bad
      | _ => .bad
    | _ => .bad
  | .frz i, ρ, s => match ρ[i]? with
    | some (some (.obj k)) => match s[k]? with
      | some (.lst l) => .ok (.nx (ρ.set i (some (.d (.lst l))))) (s.set k .dead)
      | _ => .bad
    | _ => .bad
  | .ret e, ρ, s => (evE C e ρ s).bind fun x s1 => .ok (.rt x) s1
  | .retN, _, s => .ok (.rt (.d .non)) s
  | .ifs c a b, ρ, s => (evE C c ρ s).bind fun x s1 => match (x.rd s1).bind truth with
    | some true => exSs C a ρ s1
    | some false => exSs C b ρ s1
    | none => .bad
  | .for tg many it b, ρ, s => (evIt C it ρ s).bind fun xs s1 => forGo (fun ρ s => exSs C b ρ s) many tg xs ρ s1
  | .pass, ρ, s => .ok (.nx ρ) s
  | .stop, _, _ => .bad
def exSs (C : Cl) : Ss → Env → CS → R Fl
  | .nil, ρ, s => .ok (.nx ρ) s
  | .cons x xs, ρ, s => (exS C x ρ s).bind fun fl s1 => match fl with
    | .nx ρ2 => exSs C xs ρ2 s1
    | .rt v => .ok (.rt v) s1
end
/-- a def: how many parameters, how many names, its body -/
structure Fd where
  np : Nat
  nn : Nat
  body : Ss
/-- behind a call its own lists are gone, but one that it hands back -/
def leave (n : Nat) : PV → CS → R PV
  | .scr _, _ => .bad
  | .d x, s => .ok (.d x) (s.take n)
  | .obj k, s => if k < n then .ok (.obj k) (s.take n) else if k = n then .ok (.obj k) (s.take (n + 1)) else .bad
def runF (C : Cl) (f : Fd) (args : List PV) (s : CS) : R PV :=
  if args.length = f.np then
    (exSs C f.body (args.map some ++ List.replicate (f.nn - args.length) none) s).bind fun fl s1 => match fl with
      | .nx _ => leave s.length (.d .non) s1
      | .rt v => leave s.length v s1
  else .bad
def callN (F : Nat → Option Fd) : Nat → Nat → List PV → CS → R PV
  | 0, _, _, _ => .bad
  | n + 1, f, args, s => match F f with
    | some fd => runF ⟨callN F n⟩ fd args s
    | none => .bad
end PD

set_option Elab.async false
set_option linter.all false
set_option autoImplicit false
set_option maxRecDepth 100000
/-! PdB: how the small language's data lie in the model's heap; what a step's rule asks. -/
namespace PD
open PySem PySem.Spec L2

/-- where the changeable lists lie (none: it is changed no more), and lists that are just being made -/
structure Plc where
  c : List (Option Addr)
  h : List Addr
def Plc.has (L : Plc) (a : Addr) : Prop := some a ∈ L.c ∨ a ∈ L.h
mutual
/-- a value stands for data; lists that may be changed (at L) are no part of it -/
inductive Rep (K : PySem.W.Frag) (L : Plc) (H : Hp) : D → V → Prop
  | non : Rep K L H .non .non
  | bl (b : Bool) : Rep K L H (.bl b) (.bl b)
  | int (i : Int) : Rep K L H (.int i) (.int i)
  | str (x : Str) : Rep K L H (.str x) (.str x)
  | lst {a : Addr} {l : List D} {vs : List V} : H a = some (.lst vs) → ¬ L.has a → Reps K L H l vs → Rep K L H (.lst l) (.ref a)
  | tup {a : Addr} {l : List D} {vs : List V} : H a = some (.tup vs) → ¬ L.has a → Reps K L H l vs → Rep K L H (.tup l) (.ref a)
  | tupK {a : Addr} {l : List D} {vs : List V} : SqT K (fun _ => none) a vs → Reps K L H l vs → Rep K L H (.tup l) (.ref a)
inductive Reps (K : PySem.W.Frag) (L : Plc) (H : Hp) : List D → List V → Prop
  | nil : Reps K L H [] []
  | cons {d : D} {v : V} {ds : List D} {vs : List V} : Rep K L H d v → Reps K L H ds vs → Reps K L H (d :: ds) (v :: vs)
end

/-- what a step leaves as it was -/
structure Ev (L : Plc) (H : Hp) (L' : Plc) (H' : Hp) : Prop where
  len : L.c.length ≤ L'.c.length
  get : ∀ (k : Nat) (x : Option Addr), L.c[k]? = some x → L'.c[k]? = some x ∨ L'.c[k]? = some none
  keep : ∀ a o, H a = some o → some a ∉ L.c → H' a = some o
  new : ∀ a, some a ∈ L'.c → some a ∈ L.c ∨ H a = none
  hid : L'.h = L.h
theorem Ev.refl (L : Plc) (H : Hp) : Ev L H L H := ⟨Nat.le_refl _, fun _ _ h => .inl h, fun _ _ h _ => h, fun _ h => .inl h, rfl⟩
theorem Ev.trans {L L1 L2 : Plc} {H H1 H2 : Hp} (a : Ev L H L1 H1) (b : Ev L1 H1 L2 H2) : Ev L H L2 H2 where
  len := Nat.le_trans a.len b.len
  get := fun k x h => by
    rcases a.get k x h with e | e
    · exact b.get k x e
    · rcases b.get k none e with e | e <;> exact .inr e
  keep := fun c o h n => b.keep c o (a.keep c o h n) fun m => by
    rcases a.new c m with z | z
    · exact n z
    · rw [h] at z; cases z
  new := fun c m => by
    rcases b.new c m with z | z
    · exact a.new c z
    · by_cases hc : some c ∈ L.c
      · exact .inl hc
      · cases e : H c with
        | none => exact .inr rfl
        | some o => rw [a.keep c o e hc] at z; cases z
  hid := b.hid.trans a.hid
theorem Ev.same {L : Plc} {H H' : Hp} (s : Same H H') : Ev L H L H' := ⟨Nat.le_refl _, fun _ _ h => .inl h, fun a o h _ => s a o h, fun _ h => .inl h, rfl⟩
theorem same_upd {H : Hp} {p : Addr} {o : HO} (h : H p = none) : Same H (upd H p o) := fun a u e => by
  rw [upd_ne (ne_of_none e h)]; exact e

section
variable {K : PySem.W.Frag} {L L' : Plc} {H H' : Hp}
mutual
theorem Rep.map (hk : ∀ a o, H a = some o → ¬ L.has a → H' a = some o ∧ ¬ L'.has a) : ∀ {d : D} {v : V}, Rep K L H d v → Rep K L' H' d v
  | _, _, .non => .non
  | _, _, .bl b => .bl b
  | _, _, .int i => .int i
  | _, _, .str x => .str x
  | _, _, .lst e n r => .lst (hk _ _ e n).1 (hk _ _ e n).2 (Reps.map hk r)
  | _, _, .tup e n r => .tup (hk _ _ e n).1 (hk _ _ e n).2 (Reps.map hk r)
  | _, _, .tupK e r => .tupK e (Reps.map hk r)
theorem Reps.map (hk : ∀ a o, H a = some o → ¬ L.has a → H' a = some o ∧ ¬ L'.has a) : ∀ {l : List D} {vs : List V}, Reps K L H l vs → Reps K L' H' l vs
  | _, _, .nil => .nil
  | _, _, .cons r t => .cons (Rep.map hk r) (Reps.map hk t)
end
theorem Ev.stay (e : Ev L H L' H') : ∀ a o, H a = some o → ¬ L.has a → H' a = some o ∧ ¬ L'.has a := fun a o h n =>
  ⟨e.keep a o h fun m => n (.inl m), fun m => by
    rcases m with m | m
    · rcases e.new a m with z | z
      · exact n (.inl z)
      · rw [h] at z; cases z
    · exact n (.inr (e.hid ▸ m))⟩
theorem Rep.ev {d : D} {v : V} (r : Rep K L H d v) (e : Ev L H L' H') : Rep K L' H' d v := r.map e.stay
theorem Reps.ev {l : List D} {vs : List V} (r : Reps K L H l vs) (e : Ev L H L' H') : Reps K L' H' l vs := r.map e.stay
/-- fewer changeable lists -/
theorem Rep.sub {d : D} {v : V} (r : Rep K L H d v) (h : ∀ a, L'.has a → L.has a) : Rep K L' H d v := r.map fun a o e n => ⟨e, fun m => n (h a m)⟩
theorem Reps.sub {l : List D} {vs : List V} (r : Reps K L H l vs) (h : ∀ a, L'.has a → L.has a) : Reps K L' H l vs := r.map fun a o e n => ⟨e, fun m => n (h a m)⟩

theorem Reps.length : ∀ {l : List D} {vs : List V}, Reps K L H l vs → l.length = vs.length
  | _, _, .nil => rfl
  | _, _, .cons _ t => congrArg Nat.succ (Reps.length t)
theorem Reps.append : ∀ {l m : List D} {vs ws : List V}, Reps K L H l vs → Reps K L H m ws → Reps K L H (l ++ m) (vs ++ ws)
  | _, _, _, _, .nil, s => s
  | _, _, _, _, .cons r t, s => .cons r (Reps.append t s)
theorem Reps.take : ∀ {l : List D} {vs : List V} (n : Nat), Reps K L H l vs → Reps K L H (l.take n) (vs.take n)
  | _, _, 0, _ => .nil
  | _, _, _ + 1, .nil => .nil
  | _, _, n + 1, .cons r t => .cons r (Reps.take n t)
theorem Reps.drop : ∀ {l : List D} {vs : List V} (n : Nat), Reps K L H l vs → Reps K L H (l.drop n) (vs.drop n)
  | _, _, 0, r => r
  | _, _, _ + 1, .nil => .nil
  | _, _, n + 1, .cons _ t => Reps.drop n t
theorem Reps.set {d : D} {v : V} (r : Rep K L H d v) : ∀ {l : List D} {vs : List V} (n : Nat), Reps K L H l vs → Reps K L H (l.set n d) (vs.set n v)
  | _, _, _, .nil => .nil
  | _, _, 0, .cons _ t => .cons r t
  | _, _, n + 1, .cons q t => .cons q (Reps.set r n t)
theorem Reps.get : ∀ {l : List D} {vs : List V} {i : Nat} {d : D}, Reps K L H l vs → l[i]? = some d → ∃ v, vs[i]? = some v ∧ Rep K L H d v
  | _, _, _, _, .nil, e => by simp at e
  | _, _, 0, _, .cons r _, e => by simp at e; subst e; exact ⟨_, rfl, r⟩
  | _, _, i + 1, d, .cons _ t, e => by
    obtain ⟨v, h1, h2⟩ := Reps.get (i := i) (d := d) t (by simpa using e)
    exact ⟨v, by simpa using h1, h2⟩
theorem Reps.getV : ∀ {l : List D} {vs : List V} {i : Nat} {v : V}, Reps K L H l vs → vs[i]? = some v → ∃ d, l[i]? = some d ∧ Rep K L H d v
  | _, _, _, _, .nil, e => by simp at e
  | _, _, 0, _, .cons r _, e => by simp at e; subst e; exact ⟨_, rfl, r⟩
  | _, _, i + 1, d, .cons _ t, e => by
    obtain ⟨v, h1, h2⟩ := Reps.getV (i := i) (v := d) t (by simpa using e)
    exact ⟨v, by simpa using h1, h2⟩
theorem Reps.ints : ∀ ns : List Int, Reps K L H (ns.map D.int) (ns.map V.int)
  | [] => .nil
  | n :: r => .cons (.int n) (Reps.ints r)
theorem Reps.of_ints : ∀ {ns : List Int} {vs : List V}, Reps K L H (ns.map D.int) vs → vs = ns.map V.int
  | [], _, .nil => rfl
  | n :: r, _, .cons (.int _) t => by rw [Reps.of_ints t]; rfl
end

/-- a value of a step -/
def RepP (K : PySem.W.Frag) (L : Plc) (H : Hp) : PV → V → Prop
  | .d x, v => Rep K L H x v
  | .obj k, v => k < L.c.length ∧ ∀ a, L.c[k]? = some (some a) → v = .ref a
  | .scr ns, v => ∃ a, v = .ref a ∧ ((¬ L.has a ∧ Rd H a (.lst (ns.map V.int))) ∨ SqL K (fun _ => none) a (ns.map V.int))
def CellRel (K : PySem.W.Frag) (L : Plc) (H : Hp) : Cell → Option Addr → Prop
  | .lst l, some a => ∃ vs, H a = some (.lst vs) ∧ Reps K L H l vs
  | .dead, none => True
  | _, _ => False
/-- the store of changeable lists -/
structure SRel (K : PySem.W.Frag) (L : Plc) (H : Hp) (st : CS) : Prop where
  len : st.length = L.c.length
  cell : ∀ (k : Nat) (c : Cell) (x : Option Addr), st[k]? = some c → L.c[k]? = some x → CellRel K L H c x
  inj : ∀ (i j : Nat) (a : Addr), L.c[i]? = some (some a) → L.c[j]? = some (some a) → i = j
  hid : ∀ a ∈ L.h, H a ≠ none ∧ some a ∉ L.c
/-- the names -/
structure ERel (K : PySem.W.Frag) (L : Plc) (H : Hp) (ρ : Env) (σ : St) : Prop where
  len : ρ.length = σ.length
  at_ : ∀ (i : Nat) (p : PV), ρ[i]? = some (some p) → ∃ v, σ[i]? = some (some v) ∧ RepP K L H p v
section
variable {K : PySem.W.Frag} {L L' : Plc} {H H' : Hp} {st : CS} {ρ : Env} {σ : St}
/-- values stay -/
structure Mv (L : Plc) (H : Hp) (L' : Plc) (H' : Hp) : Prop where
  len : L.c.length ≤ L'.c.length
  get : ∀ (k : Nat) (x : Option Addr), L.c[k]? = some x → L'.c[k]? = some x ∨ L'.c[k]? = some none
  stay : ∀ a o, H a = some o → ¬ L.has a → H' a = some o ∧ ¬ L'.has a
theorem Ev.mv (e : Ev L H L' H') : Mv L H L' H' := ⟨e.len, e.get, e.stay⟩
theorem RepP.mv {p : PV} {v : V} (r : RepP K L H p v) (e : Mv L H L' H') : RepP K L' H' p v := by
  cases p with
  | d x => exact Rep.map e.stay r
  | obj k =>
    obtain ⟨hk, h⟩ := r
    refine ⟨Nat.lt_of_lt_of_le hk e.len, fun a ha => ?_⟩
    rcases e.get k _ (List.getElem?_eq_getElem hk) with z | z
    · rw [ha] at z
      exact h a (by rw [List.getElem?_eq_getElem hk, ← z])
    · rw [ha] at z; cases z
  | scr ns =>
    obtain ⟨a, rfl, h⟩ := r
    refine ⟨a, rfl, ?_⟩
    rcases h with ⟨n, h⟩ | h
    · rcases h with h | ⟨o, h⟩
      · exact .inl ⟨(e.stay _ _ h n).2, .inl (e.stay _ _ h n).1⟩
      · exact .inl ⟨(e.stay _ _ h n).2, .inr ⟨o, (e.stay _ _ h n).1⟩⟩
    · exact .inr h
theorem RepP.ev {p : PV} {v : V} (r : RepP K L H p v) (e : Ev L H L' H') : RepP K L' H' p v := r.mv e.mv
theorem ERel.mv (r : ERel K L H ρ σ) (e : Mv L H L' H') : ERel K L' H' ρ σ := ⟨r.len, fun i p h => by
  obtain ⟨v, h1, h2⟩ := r.at_ i p h
  exact ⟨v, h1, h2.mv e⟩⟩
theorem ERel.ev (r : ERel K L H ρ σ) (e : Ev L H L' H') : ERel K L' H' ρ σ := r.mv e.mv
theorem SRel.at_ (r : SRel K L H st) {k : Nat} {l : List D} (h : st[k]? = some (.lst l)) : ∃ a vs, L.c[k]? = some (some a) ∧ H a = some (.lst vs) ∧ Reps K L H l vs := by
  have hk : k < L.c.length := by rw [← r.len]; exact (List.getElem?_eq_some_iff.mp h).1
  have c := r.cell k _ _ h (List.getElem?_eq_getElem hk)
  cases e : L.c[k] with
  | none => rw [e] at c; exact c.elim
  | some a =>
    rw [e] at c
    obtain ⟨vs, h1, h2⟩ := c
    exact ⟨a, vs, by rw [List.getElem?_eq_getElem hk, e], h1, h2⟩
/-- a changeable list's place is tracked -/
theorem SRel.mem (r : SRel K L H st) {a : Addr} (h : L.has a) : H a ≠ none := by
  rcases h with h | h
  · obtain ⟨k, hk, e⟩ := List.mem_iff_getElem.mp h
    have hk' : k < st.length := by rw [r.len]; exact hk
    have c := r.cell k _ _ (List.getElem?_eq_getElem hk') (List.getElem?_eq_getElem hk)
    rw [e] at c
    cases e2 : st[k] with
    | lst l => rw [e2] at c; obtain ⟨vs, h, _⟩ := c; rw [h]; exact fun z => by cases z
    | dead => rw [e2] at c; exact c.elim
  · exact (r.hid a h).1
theorem SRel.free (r : SRel K L H st) {p : Addr} (h : H p = none) : ¬ L.has p := fun m => r.mem m h
theorem SRel.same (r : SRel K L H st) (s : Same H H') : SRel K L H' st := ⟨r.len, fun k c x h1 h2 => by
  have z := r.cell k c x h1 h2
  cases c with
  | lst l => cases x with
    | none => exact z
    | some a => obtain ⟨vs, e, q⟩ := z; exact ⟨vs, s _ _ e, q.ev (.same s)⟩
  | dead => cases x <;> exact z, r.inj, fun a ha => ⟨fun z => (by
    cases e : H a with
    | none => exact (r.hid a ha).1 e
    | some o =>
      rw [s a o e] at z
      cases z), (r.hid a ha).2⟩⟩
end

/-! ### what a step's rule asks -/
def Out (K : PySem.W.Frag) (L : Plc) (H : Hp) (Q : VK) : R PV → Prop
  | .ok p st' => ∀ L' H' v, Ev L H L' H' → SRel K L' H' st' → RepP K L' H' p v → Q v H'
  | .bad => False
theorem Out.ev {K : PySem.W.Frag} {L L' : Plc} {H H' : Hp} {Q : VK} {r : R PV} (o : Out K L H Q r) (e : Ev L H L' H') : Out K L' H' Q r := by
  cases r with
  | ok p s => exact fun L2 H2 v e2 => o L2 H2 v (e.trans e2)
  | bad => exact o
def tM (K : PySem.W.Frag) (m : Env → CS → R PV) : TE := fun σ H Q => ∃ L ρ st, SRel K L H st ∧ ERel K L H ρ σ ∧ Out K L H Q (m ρ st)
/-- one step, then others -/
def Then (K : PySem.W.Frag) (σ : St) (Q : VK) (k : Env → PV → CS → R PV) : VK := fun v H => ∃ L ρ st p, SRel K L H st ∧ ERel K L H ρ σ ∧ RepP K L H p v ∧ Out K L H Q (k ρ p st)
section
variable {K : PySem.W.Frag} {L L' : Plc} {H H' : Hp} {st : CS} {ρ : Env} {σ : St} {Q : VK} {m : Env → CS → R PV}
theorem tM_seq {k : Env → PV → CS → R PV} (s : SRel K L H st) (e : ERel K L H ρ σ) (h : Out K L H Q ((m ρ st).bind fun p s1 => k ρ p s1)) : tM K m σ H (Then K σ Q k) := by
  refine ⟨L, ρ, st, s, e, ?_⟩
  cases r : m ρ st with
  | bad => rw [r] at h; exact h
  | ok p s1 =>
    rw [r] at h
    exact fun L1 H1 v v1 s2 rp => ⟨L1, ρ, s1, p, s2, e.ev v1, rp, h.ev v1⟩
theorem Out.val {d : D} {v : V} (s : SRel K L H st) (o : Out K L H Q (.ok (.d d) st)) (r : Rep K L H d v) : Q v H := o L H v (.refl _ _) s r
/-- a new list -/
theorem Out.lst {l : List D} {vs : List V} (s : SRel K L H st) (o : Out K L H Q (.ok (.d (.lst l)) st)) (r : Reps K L H l vs) : ∀ p, H p = none → Q (.ref p) (upd H p (.lst vs)) := fun p hp =>
  o L _ _ (.same (same_upd hp)) (s.same (same_upd hp)) (Rep.lst upd_same (s.free hp) (r.ev (.same (same_upd hp))))
theorem Out.tup {l : List D} {vs : List V} (s : SRel K L H st) (o : Out K L H Q (.ok (.d (.tup l)) st)) (r : Reps K L H l vs) : ∀ p, H p = none → Q (.ref p) (upd H p (.tup vs)) := fun p hp =>
  o L _ _ (.same (same_upd hp)) (s.same (same_upd hp)) (Rep.tup upd_same (s.free hp) (r.ev (.same (same_upd hp))))
end
end PD

set_option Elab.async false
set_option linter.all false
set_option autoImplicit false
set_option maxRecDepth 100000
/-! PdC: the rules of expressions, led to the small language. -/
namespace PD
open PySem PySem.Spec L2

theorem pe_imp {X : L2.Cx} {e : Expr} {t u : TE} (h : PE X e t) (i : ∀ (σ : St) (H : Hp) (Q : VK), u σ H Q → t σ H Q) : PE X e u :=
  ⟨fun pins s σ H Q I q => h.run pins s σ H Q I (i σ H Q q)⟩

/-- a value's data, lists as they stand now -/
def RepW (K : PySem.W.Frag) (L : Plc) (H : Hp) : D → V → Prop
  | .lst l, v => ∃ a vs, v = .ref a ∧ H a = some (.lst vs) ∧ Reps K L H l vs
  | d, v => Rep K L H d v
theorem Rep.w {K : PySem.W.Frag} {L : Plc} {H : Hp} {d : D} {v : V} (r : Rep K L H d v) : RepW K L H d v := by
  cases r with
  | lst e n r => exact ⟨_, _, rfl, e, r⟩
  | non => exact .non
  | bl b => exact .bl b
  | int i => exact .int i
  | str x => exact .str x
  | tup e n r => exact .tup e n r
  | tupK e r => exact .tupK e r
theorem rd_w {K : PySem.W.Frag} {L : Plc} {H : Hp} {st : CS} {p : PV} {v : V} {d : D} (s : SRel K L H st) (r : RepP K L H p v) (e : p.rd st = some d) : RepW K L H d v := by
  cases p with
  | d x =>
    have e' : x = d := Option.some.inj e
    subst e'
    exact Rep.w r
  | obj k =>
    unfold PV.rd at e
    simp only at e
    split at e
    · rename_i l h
      have e' := Option.some.inj e
      subst e'
      obtain ⟨a, vs, h1, h2, h3⟩ := s.at_ h
      exact ⟨a, vs, r.2 a h1, h2, h3⟩
    · cases e
  | scr ns => cases e
theorem RepW.sqT {K : PySem.W.Frag} {L : Plc} {H : Hp} {l : List D} {v : V} (r : RepW K L H (.tup l) v) : ∃ a vs, v = .ref a ∧ SqT K H a vs ∧ Reps K L H l vs := by
  have r' : Rep K L H (.tup l) v := r
  cases r' with
  | tup e n q => exact ⟨_, _, rfl, .of e, q⟩
  | tupK e q =>
    refine ⟨_, _, rfl, ?_, q⟩
    rcases e with (e | ⟨o, e⟩) | e
    · cases e
    · cases e
    · exact .inr e

/-! ### data as PyData -/
mutual
theorem Rep.dp {K : PySem.W.Frag} {L : Plc} {H : Hp} : ∀ {d : D} {v : V}, Rep K L H d v → Dp K H v d.toP
  | _, _, .non => .non
  | _, _, .bl b => .bl b
  | _, _, .int i => .int i
  | _, _, .str x => .str x
  | _, _, .lst e n r => by rw [D.toP]; exact .lst (.of e) (Reps.dp r)
  | _, _, .tup e n r => by rw [D.toP]; exact .tup (.of e) (Reps.dp r)
  | _, _, .tupK e r => by
    rw [D.toP]
    refine .tup ?_ (Reps.dp r)
    rcases e with (e | ⟨o, e⟩) | e
    · cases e
    · cases e
    · exact .inr e
theorem Reps.dp {K : PySem.W.Frag} {L : Plc} {H : Hp} : ∀ {l : List D} {vs : List V}, Reps K L H l vs → DpAll K H vs (D.toPs l)
  | _, _, .nil => by rw [D.toPs]; exact .nil
  | _, _, .cons r t => by rw [D.toPs]; exact .cons (Rep.dp r) (Reps.dp t)
end
theorem RepW.dp {K : PySem.W.Frag} {L : Plc} {H : Hp} {d : D} {v : V} (r : RepW K L H d v) : Dp K H v d.toP := by
  cases d with
  | lst l =>
    obtain ⟨a, vs, rfl, e, q⟩ := r
    rw [D.toP]
    exact .lst (.of e) q.dp
  | non => exact Rep.dp r
  | bl b => exact Rep.dp r
  | int i => exact Rep.dp r
  | str x => exact Rep.dp r
  | tup l => exact Rep.dp r

/-! ### operators -/
def boOp : BO → Operator
  | .add => .Add | .sub => .Sub | .mul => .Mult | .fdiv => .FloorDiv | .mod => .Mod | .pow => .Pow
def coOp : CO → CmpOp
  | .eq => .Eq | .ne => .NotEq | .lt => .Lt | .le => .LtE | .gt => .Gt | .ge => .GtE | .mem => .In | .nmem => .NotIn
def rB (K : PySem.W.Frag) (f : D → D → Option D) : R2 := fun x y H Q => ∃ L st dx dy, SRel K L H st ∧ RepW K L H dx x ∧ RepW K L H dy y ∧ Out K L H Q (lift ((f dx dy).map PV.d) st)
section
variable {X : L2.Cx}
theorem op_bin (o : BO) : OpR X (binaryOp (boOp o)) (rB X.K (binop o)) := by
  intro pins s σ H x y v u Q I rx ry h
  obtain ⟨L, st, dx, dy, hs, wx, wy, h⟩ := h
  cases dx with
  | int a =>
    cases dy with
    | int b =>
      have wx' : Rep X.K L H (.int a) x := wx
      have wy' : Rep X.K L H (.int b) y := wy
      cases wx'
      cases wy'
      cases o with
      | add => exact op_add pins s σ H _ _ v u Q I rx ry ⟨a, b, rfl, rfl, h.val hs (.int _)⟩
      | sub => exact op_sub pins s σ H _ _ v u Q I rx ry ⟨a, b, rfl, rfl, h.val hs (.int _)⟩
      | mul =>
        by_cases c : a.natAbs < 2 ^ 64 ∨ b.natAbs < 2 ^ 64 ∨ a.natAbs.log2 + b.natAbs.log2 < 1000000
        · simp only [binop, if_pos c, Option.map, lift] at h
          rcases c with c | c | c
          · exact op_mul pins s σ H _ _ v u Q I rx ry ⟨a, b, rfl, rfl, .inl ⟨by omega, by omega⟩, h.val hs (.int _)⟩
          · exact op_mul pins s σ H _ _ v u Q I rx ry ⟨a, b, rfl, rfl, .inr ⟨by omega, by omega⟩, h.val hs (.int _)⟩
          · exact op_mulW pins s σ H _ _ v u Q I rx ry ⟨a, b, rfl, rfl, c, h.val hs (.int _)⟩
        · simp only [binop, if_neg c, Option.map, lift, Out] at h
      | fdiv =>
        by_cases c : 0 < b ∧ b.natAbs.log2 < 9000
        · simp only [binop, if_pos c, Option.map, lift] at h
          exact op_fdivW pins s σ H _ _ v u Q I rx ry ⟨a, b, rfl, rfl, c, h.val hs (.int _)⟩
        · simp only [binop, if_neg c, Option.map, lift, Out] at h
      | mod =>
        by_cases c : 0 < b
        · simp only [binop, if_pos c, Option.map, lift] at h
          exact op_mod pins s σ H _ _ v u Q I rx ry ⟨a, b, rfl, rfl, c, h.val hs (.int _)⟩
        · simp only [binop, if_neg c, Option.map, lift, Out] at h
      | pow =>
        by_cases c : 0 ≤ b ∧ b ≤ 1000000 ∧ a.natAbs < 2 ^ 64
        · simp only [binop, if_pos c, Option.map, lift] at h
          exact op_pow pins s σ H _ _ v u Q I rx ry ⟨a, b, rfl, rfl, c, h.val hs (.int _)⟩
        · simp only [binop, if_neg c, Option.map, lift, Out] at h
    | _ => cases o <;> exact h.elim
  | str a =>
    cases dy with
    | str b =>
      have wx' : Rep X.K L H (.str a) x := wx
      have wy' : Rep X.K L H (.str b) y := wy
      cases wx'
      cases wy'
      cases o with
      | add =>
        by_cases c : a.length + b.length ≤ sizeLine
        · simp only [binop, if_pos c, Option.map, lift] at h
          exact op_add_str pins s σ H _ _ v u Q I rx ry ⟨a, b, rfl, rfl, c, h.val hs (.str _)⟩
        · simp only [binop, if_neg c, Option.map, lift, Out] at h
      | _ => exact h.elim
    | _ => cases o <;> exact h.elim
  | lst a =>
    cases dy with
    | lst b =>
      obtain ⟨p, xs, rfl, hp, qx⟩ := wx
      obtain ⟨p2, ys, rfl, hp2, qy⟩ := wy
      cases o with
      | add =>
        by_cases c : a.length + b.length ≤ sizeLine
        · simp only [binop, if_pos c, Option.map, lift] at h
          exact op_cat pins s σ H _ _ v u Q I rx ry ⟨p, p2, xs, ys, rfl, rfl, hp, hp2, by rw [← qx.length, ← qy.length]; exact c, h.lst hs (qx.append qy)⟩
        · simp only [binop, if_neg c, Option.map, lift, Out] at h
      | _ => exact h.elim
    | _ => cases o <;> exact h.elim
  | _ => cases o <;> exact h.elim

theorem memOut {a : D} {l : List D} (c : (SeqAt.shaped a.toP && SeqAt.shaped (D.lst l).toP) = true) : memD a (.lst l) = some (l.any fun z => PyData.eqv z.toP a.toP) := by
  simp only [memD, if_pos c]
theorem toPs_any (f : PyData → Bool) : ∀ l : List D, (D.toPs l).any f = l.any fun z => f z.toP
  | [] => by simp [D.toPs]
  | x :: r => by simp [D.toPs, toPs_any f r]
theorem op_cmp (o : CO) (hu : X.A.units + 65 < cLine) : OpR X (compareOp (coOp o)) (rB X.K (cmpop o)) := by
  intro pins s σ H x y v u Q I rx ry h
  obtain ⟨L, st, dx, dy, hs, wx, wy, h⟩ := h
  have hu4 : X.A.units + 64 < cLine := by omega
  have viaI : ∀ (r : R2) (g : Int → Int → Bool) (a b : Int), dx = .int a → dy = .int b → (cmpop o (.int a) (.int b) = some (.bl (g a b))) → (OpR X (compareOp (coOp o)) (rI0 fun i j => .bl (g i j))) →
      wpAny (model X.prog X.w) X.A (compareOp (coOp o) v u) (EP X pins σ Q) X.xe s := by
    intro r g a b e1 e2 e3 ho
    subst e1 e2
    rw [e3] at h
    have wx' : Rep X.K L H (.int a) x := wx
    have wy' : Rep X.K L H (.int b) y := wy
    cases wx'
    cases wy'
    exact ho pins s σ H _ _ v u Q I rx ry ⟨a, b, rfl, rfl, h.val hs (.bl _)⟩
  have strsOk : ∀ {c : Bool}, strEq dx dy = some c → ∃ a b, dx = .str a ∧ dy = .str b ∧ c = (a == b) := fun {c} e => by
    cases dx <;> cases dy <;> first | (cases e; exact ⟨_, _, rfl, rfl, rfl⟩) | cases e
  cases o with
  | eq =>
    cases e : strEq dx dy with
    | some c =>
      obtain ⟨a, b, rfl, rfl, rfl⟩ := strsOk e
      have wx' : Rep X.K L H (.str a) x := wx
      have wy' : Rep X.K L H (.str b) y := wy
      cases wx'
      cases wy'
      refine op_eq pins s σ H _ _ v u Q I rx ry ⟨rfl, ?_⟩
      have := h.val hs (.bl _)
      have e2 : decide (V.str a = V.str b) = (a == b) := by
        rw [Bool.eq_iff_iff]
        simp
      rw [e2]
      exact this
    | none =>
      simp only [cmpop, eqD, e, Option.none_or] at h
      by_cases c : (SeqAt.shaped dx.toP && SeqAt.shaped dy.toP) = true
      · simp only [eqS, if_pos c, Option.map, lift] at h
        have c' := Bool.and_eq_true_iff.mp c
        exact op_eqD hu4 pins s σ H x y v u Q I rx ry ⟨_, _, wx.dp, wy.dp, c'.1, c'.2, h.val hs (.bl _)⟩
      · simp only [eqS, if_neg c, Option.map, lift, Out] at h
  | ne =>
    cases e : strEq dx dy with
    | some c =>
      obtain ⟨a, b, rfl, rfl, rfl⟩ := strsOk e
      have wx' : Rep X.K L H (.str a) x := wx
      have wy' : Rep X.K L H (.str b) y := wy
      cases wx'
      cases wy'
      refine op_ne pins s σ H _ _ v u Q I rx ry ⟨rfl, ?_⟩
      have := h.val hs (.bl _)
      have e2 : decide (V.str a = V.str b) = (a == b) := by
        rw [Bool.eq_iff_iff]
        simp
      rw [e2]
      exact this
    | none =>
      simp only [cmpop, eqD, e, Option.none_or] at h
      by_cases c : (SeqAt.shaped dx.toP && SeqAt.shaped dy.toP) = true
      · simp only [eqS, if_pos c, Option.map, lift] at h
        have c' := Bool.and_eq_true_iff.mp c
        exact op_neD hu4 pins s σ H x y v u Q I rx ry ⟨_, _, wx.dp, wy.dp, c'.1, c'.2, h.val hs (.bl _)⟩
      · simp only [eqS, if_neg c, Option.map, lift, Out] at h
  | lt =>
    cases dx with
    | int a => cases dy with
      | int b => exact viaI (fun _ _ _ _ => True) (fun i j => decide (i < j)) a b rfl rfl rfl op_lt
      | _ => exact h.elim
    | _ => exact h.elim
  | le =>
    cases dx with
    | int a => cases dy with
      | int b => exact viaI (fun _ _ _ _ => True) (fun i j => decide (i ≤ j)) a b rfl rfl rfl op_le
      | _ => exact h.elim
    | _ => exact h.elim
  | gt =>
    cases dx with
    | int a => cases dy with
      | int b => exact viaI (fun _ _ _ _ => True) (fun i j => decide (j < i)) a b rfl rfl rfl op_gt
      | _ => exact h.elim
    | _ => exact h.elim
  | ge =>
    cases dx with
    | int a => cases dy with
      | int b => exact viaI (fun _ _ _ _ => True) (fun i j => decide (j ≤ i)) a b rfl rfl rfl op_ge
      | _ => exact h.elim
    | _ => exact h.elim
  | mem =>
    cases dy with
    | lst l =>
      by_cases c : (SeqAt.shaped dx.toP && SeqAt.shaped (D.lst l).toP) = true
      · simp only [cmpop, memOut c, Option.map, lift] at h
        have c' := Bool.and_eq_true_iff.mp c
        have wd := RepW.dp (d := .lst l) wy
        rw [D.toP] at wd
        have c2 := c'.2
        rw [D.toP] at c2
        exact op_inD hu pins s σ H x y v u Q I rx ry ⟨_, _, wx.dp, wd, c'.1, c2, by rw [toPs_any]; exact h.val hs (.bl _)⟩
      · simp only [cmpop, memD, if_neg c, Option.map, lift, Out] at h
    | _ => exact h.elim
  | nmem =>
    cases dy with
    | lst l =>
      by_cases c : (SeqAt.shaped dx.toP && SeqAt.shaped (D.lst l).toP) = true
      · simp only [cmpop, memOut c, Option.map, lift] at h
        have c' := Bool.and_eq_true_iff.mp c
        have wd := RepW.dp (d := .lst l) wy
        rw [D.toP] at wd
        have c2 := c'.2
        rw [D.toP] at c2
        exact op_notInD hu pins s σ H x y v u Q I rx ry ⟨_, _, wx.dp, wd, c'.1, c2, by rw [toPs_any]; exact h.val hs (.bl _)⟩
      · simp only [cmpop, memD, if_neg c, Option.map, lift, Out] at h
    | _ => exact h.elim
end
end PD

set_option Elab.async false
set_option linter.all false
set_option autoImplicit false
set_option maxRecDepth 100000
/-! PdD: expressions and tests. -/
namespace PD
open PySem PySem.Spec L2

/-- what a step comes to, asked of a place and a heap -/
structure Fam {β : Type} (O : Plc → Hp → R β → Prop) : Prop where
  ev : ∀ {L L' : Plc} {H H' : Hp} {r : R β}, Ev L H L' H' → O L H r → O L' H' r
  bad : ∀ {L : Plc} {H : Hp}, ¬ O L H .bad
def OutG {β : Type} (K : PySem.W.Frag) (P : Plc → Hp → β → Prop) (L : Plc) (H : Hp) : R β → Prop
  | .ok b st' => ∀ L' H', Ev L H L' H' → SRel K L' H' st' → P L' H' b
  | .bad => False
theorem OutG.fam {β : Type} {K : PySem.W.Frag} {P : Plc → Hp → β → Prop} : Fam (OutG K P) where
  ev := fun {L L' H H' r} e o => by
    cases r with
    | ok b st => exact fun L2 H2 e2 => o L2 H2 (e.trans e2)
    | bad => exact o
  bad := fun o => o
theorem Out.fam {K : PySem.W.Frag} {Q : VK} : Fam (fun L H r => Out K L H Q r) := ⟨fun e o => o.ev e, fun o => o⟩
/-- arguments -/
def RepPs (K : PySem.W.Frag) (L : Plc) (H : Hp) : List PV → List V → Prop := Paired (RepP K L H)
def OutA (K : PySem.W.Frag) (Q : List V → Hp → Prop) (L : Plc) (H : Hp) (r : R (List PV)) : Prop := OutG K (fun L' H' ps => ∀ vs, RepPs K L' H' ps vs → Q vs H') L H r
/-- a test's end: the value's truth -/
def OutT (K : PySem.W.Frag) (Q : Bool → Hp → Prop) (L : Plc) (H : Hp) : R PV → Prop
  | .ok p st' => match (p.rd st').bind truth with
    | some b => ∀ L' H', Ev L H L' H' → SRel K L' H' st' → Q b H'
    | none => False
  | .bad => False
theorem OutT.fam {K : PySem.W.Frag} {Q : Bool → Hp → Prop} : Fam (OutT K Q) where
  ev := fun {L L' H H' r} e o => by
    cases r with
    | ok p st =>
      unfold OutT at o ⊢
      cases h : (p.rd st).bind truth with
      | none => simp only [h] at o
      | some b => simp only [h] at o ⊢; exact fun L2 H2 e2 => o L2 H2 (e.trans e2)
    | bad => exact o
  bad := fun o => o
def OutB (K : PySem.W.Frag) (Q : Bool → Hp → Prop) (L : Plc) (H : Hp) (r : R Bool) : Prop := OutG K (fun _ H' b => Q b H') L H r

def tA (K : PySem.W.Frag) (m : Env → CS → R (List PV)) : TA := fun σ H Q => ∃ L ρ st, SRel K L H st ∧ ERel K L H ρ σ ∧ OutA K Q L H (m ρ st)
def tT (K : PySem.W.Frag) (m : Env → CS → R PV) : TT := fun σ H Q => ∃ L ρ st, SRel K L H st ∧ ERel K L H ρ σ ∧ OutT K Q L H (m ρ st)
section
variable {K : PySem.W.Frag} {L : Plc} {H : Hp} {st : CS} {ρ : Env} {σ : St} {m : Env → CS → R PV}
/-- one step, then the rest -/
theorem tM_bind {β : Type} {O : Plc → Hp → R β → Prop} {k : PV → CS → R β} {Q1 : VK} (F : Fam O) (s : SRel K L H st) (e : ERel K L H ρ σ) (h : O L H ((m ρ st).bind k))
    (c : ∀ (v : V) (H1 : Hp) (L1 : Plc) (s1 : CS) (p : PV), Ev L H L1 H1 → SRel K L1 H1 s1 → ERel K L1 H1 ρ σ → RepP K L1 H1 p v → O L1 H1 (k p s1) → Q1 v H1) : tM K m σ H Q1 := by
  refine ⟨L, ρ, st, s, e, ?_⟩
  cases r : m ρ st with
  | bad => rw [r] at h; exact (F.bad h).elim
  | ok p s1 =>
    rw [r] at h
    exact fun L1 H1 v v1 s2 rp => c v H1 L1 s1 p v1 s2 (e.ev v1) rp (F.ev v1 h)
theorem tA_bind {β : Type} {O : Plc → Hp → R β → Prop} {m : Env → CS → R (List PV)} {k : List PV → CS → R β} {Q1 : List V → Hp → Prop} (F : Fam O) (s : SRel K L H st) (e : ERel K L H ρ σ) (h : O L H ((m ρ st).bind k))
    (c : ∀ (vs : List V) (H1 : Hp) (L1 : Plc) (s1 : CS) (ps : List PV), Ev L H L1 H1 → SRel K L1 H1 s1 → ERel K L1 H1 ρ σ → RepPs K L1 H1 ps vs → O L1 H1 (k ps s1) → Q1 vs H1) : tA K m σ H Q1 := by
  refine ⟨L, ρ, st, s, e, ?_⟩
  cases r : m ρ st with
  | bad => rw [r] at h; exact (F.bad h).elim
  | ok p s1 =>
    rw [r] at h
    exact fun L1 H1 v1 s2 vs rp => c vs H1 L1 s1 p v1 s2 (e.ev v1) rp (F.ev v1 h)
end
theorem paired_ev {K : PySem.W.Frag} {L L' : Plc} {H H' : Hp} {ps : List PV} {vs : List V} (r : RepPs K L H ps vs) (e : Ev L H L' H') : RepPs K L' H' ps vs := Paired.mapP r fun _ _ z => z.ev e

abbrev SE (X : L2.Cx) (C : Cl) (x : Expr) (e : E) : Prop := PE X x (tM X.K (evE C e))
abbrev SA (X : L2.Cx) (C : Cl) (xs : List Expr) (es : Es) : Prop := PA X xs (tA X.K (evEs C es))
abbrev ST (X : L2.Cx) (C : Cl) (x : Expr) (e : E) : Prop := PT X x (tT X.K (evE C e))

section
variable {X : L2.Cx} {C : Cl} {a b c x : Expr} {xs : List Expr} {ea eb ec : E} {es : Es} {pos : Pos}

/-! ### constants, names -/
theorem sE_non {j : Nat} : SE X C (.Constant .none j pos) (.lit .non) := pe_imp pe_non fun σ H Q ⟨L, ρ, st, s, e, o⟩ => o.val s .non
theorem sE_bl {v : Bool} {j : Nat} : SE X C (.Constant (.bool v) j pos) (.lit (.bl v)) := pe_imp pe_bl fun σ H Q ⟨L, ρ, st, s, e, o⟩ => o.val s (.bl v)
theorem sE_int {i : Int} {j : Nat} : SE X C (.Constant (.int i) j pos) (.lit (.int i)) := pe_imp pe_int fun σ H Q ⟨L, ρ, st, s, e, o⟩ => o.val s (.int i)
theorem sE_str {z : Str} {j : Nat} : SE X C (.Constant (.str z) j pos) (.lit (.str z)) := pe_imp pe_str fun σ H Q ⟨L, ρ, st, s, e, o⟩ => o.val s (.str z)
theorem sE_var {i : Nat} {n : Str} (hN : X.N[i]? = some n) (hv : Vis X.env.scope n) (hd : (n == ("__debug__" : Str)) = false) (hcd : (n == ("__classdict__" : Str)) = false) : SE X C (.Name n pos) (.var i) :=
  pe_imp (pe_var hN hv hd hcd) fun σ H Q ⟨L, ρ, st, s, e, o⟩ => by
    simp only [evE] at o
    cases q : ρ[i]? with
    | none => rw [q] at o; exact o.elim
    | some z =>
      rw [q] at o
      cases z with
      | none => exact o.elim
      | some p =>
        obtain ⟨v, h1, h2⟩ := e.at_ i p q
        exact ⟨v, h1, o L H v (.refl _ _) s h2⟩

/-! ### operators -/
theorem sE_op {f : D → D → Option D} {g : Value → Value → Sem Value} {y : Expr} (ho : OpR X g (rB X.K f)) (hp : ∀ {ta tb : TE} {r : R2}, OpR X g r → PE X a ta → PE X b tb → PE X y (tOp r ta tb))
    (ha : SE X C a ea) (hb : SE X C b eb) : PE X y (tM X.K fun ρ s => (evE C ea ρ s).bind fun x s1 => (evE C eb ρ s1).bind fun y s2 => lift (match x.rd s2, y.rd s2 with
      | some x, some y => (f x y).map PV.d
      | _, _ => none) s2) :=
  pe_imp (hp ho ha hb) fun σ H Q ⟨L, ρ, st, s, e, o⟩ => tM_bind (O := fun L H r => Out X.K L H Q r) Out.fam s e o fun v H1 L1 s1 p v1 q1 e1 r1 o1 =>
    tM_bind (O := fun L H r => Out X.K L H Q r) Out.fam q1 e1 o1 fun w H2 L2 s2 p2 v2 q2 e2 r2 o2 => by
      have r1' := r1.ev v2
      cases h1 : p.rd s2 with
      | none => rw [h1] at o2; exact o2.elim
      | some x =>
        cases h2 : p2.rd s2 with
        | none => rw [h1, h2] at o2; exact o2.elim
        | some y =>
          rw [h1, h2] at o2
          exact ⟨L2, s2, x, y, q2, rd_w q2 r1' h1, rd_w q2 r2 h2, o2⟩
theorem sE_bin (o : BO) (ha : SE X C a ea) (hb : SE X C b eb) : SE X C (.BinOp a (boOp o) b pos) (.bin o ea eb) := by
  have h := sE_op (y := .BinOp a (boOp o) b pos) (op_bin o) (fun r p q => pe_op r p q) ha hb
  exact pe_imp h fun σ H Q ⟨L, ρ, st, s, e, o⟩ => ⟨L, ρ, st, s, e, by simp only [evE] at o; exact o⟩
theorem mark_in {o : CO} (h : ∀ es k p, b ≠ .Set es k p) (h2 : ∀ es p, b ≠ .List es p) : behindInMarks (coOp o) b = false := by
  cases o <;> cases b <;> first | rfl | exact absurd rfl (h _ _ _) | exact absurd rfl (h2 _ _)
theorem sE_cmp (o : CO) (hu : X.A.units + 65 < cLine) (hm : behindInMarks (coOp o) b = false) (ha : SE X C a ea) (hb : SE X C b eb) : SE X C (.Compare a [coOp o] [b] pos) (.cmp o ea eb) := by
  have h := sE_op (y := .Compare a [coOp o] [b] pos) (op_cmp o hu) (fun r p q => pe_cmpR r p q hm) ha hb
  exact pe_imp h fun σ H Q ⟨L, ρ, st, s, e, o⟩ => ⟨L, ρ, st, s, e, by simp only [evE] at o; exact o⟩
theorem sE_neg (ha : SE X C a ea) : SE X C (.UnaryOp .USub a pos) (.neg ea) :=
  pe_imp (pe_un un_neg ha) fun σ H Q ⟨L, ρ, st, s, e, o⟩ => by
    simp only [evE] at o
    refine tM_bind (O := fun L H r => Out X.K L H Q r) Out.fam s e o fun v H1 L1 s1 p v1 q1 e1 r1 o1 => ?_
    cases p with
    | d x => cases x with
      | int i =>
        have r1' : Rep X.K L1 H1 (.int i) v := r1
        cases r1'
        exact ⟨i, rfl, o1.val q1 (.int _)⟩
      | _ => exact o1.elim
    | _ => exact o1.elim
theorem RepP.isn {K : PySem.W.Frag} {L : Plc} {H : Hp} {p : PV} {v : V} {st : CS} {b : Bool} (s : SRel K L H st) (r : RepP K L H p v) (h : isNone p st = some b) : decide (v = .non) = b := by
  cases p with
  | d x =>
    have r' : Rep K L H x v := r
    cases r' <;> (cases h; simp)
  | obj k =>
    simp only [isNone] at h
    split at h
    · rename_i l hl
      cases h
      obtain ⟨a, vs, h1, _, _⟩ := s.at_ hl
      have := r.2 a h1
      subst this
      simp
    · cases h
  | scr ns =>
    obtain ⟨a, rfl, _⟩ := r
    cases h
    simp
theorem sE_isn (ha : SE X C a ea) {j : Nat} {p' : Pos} : SE X C (.Compare a [.Is] [.Constant .none j p'] pos) (.isn false ea) :=
  pe_imp (pe_cmp (pc_isN ha) rfl) fun σ H Q ⟨L, ρ, st, s, e, o⟩ => by
    simp only [evE] at o
    refine tM_bind (O := fun L H r => Out X.K L H Q r) Out.fam s e o fun v H1 L1 s1 p v1 q1 e1 r1 o1 => ?_
    cases h : isNone p s1 with
    | none => rw [h] at o1; exact o1.elim
    | some b =>
      rw [h] at o1
      rw [r1.isn q1 h]
      simp only [Option.map, lift, Bool.bne_false] at o1
      exact o1.val q1 (.bl b)
theorem sE_notn (ha : SE X C a ea) {j : Nat} {p' : Pos} : SE X C (.Compare a [.IsNot] [.Constant .none j p'] pos) (.isn true ea) :=
  pe_imp (pe_cmp (pc_notN ha) rfl) fun σ H Q ⟨L, ρ, st, s, e, o⟩ => by
    simp only [evE] at o
    refine tM_bind (O := fun L H r => Out X.K L H Q r) Out.fam s e o fun v H1 L1 s1 p v1 q1 e1 r1 o1 => ?_
    cases h : isNone p s1 with
    | none => rw [h] at o1; exact o1.elim
    | some b =>
      rw [h] at o1
      rw [r1.isn q1 h]
      simp only [Option.map, lift, Bool.bne_true] at o1
      exact o1.val q1 (.bl (!b))

/-! ### truth -/
theorem tru_w {K : PySem.W.Frag} {L : Plc} {H : Hp} {d : D} {v : V} {b : Bool} (r : RepW K L H d v) (h : truth d = some b) : TruV K v H b := by
  cases d with
  | lst l =>
    obtain ⟨a, vs, rfl, e, q⟩ := r
    cases h
    refine .inl ⟨vs, .of e, ?_⟩
    cases q <;> rfl
  | non =>
    have r' : Rep K L H .non v := r
    cases r'; cases h; rfl
  | bl c =>
    have r' : Rep K L H (.bl c) v := r
    cases r'; cases h; rfl
  | int i =>
    have r' : Rep K L H (.int i) v := r
    cases r'; cases h; rfl
  | str z =>
    have r' : Rep K L H (.str z) v := r
    cases r'
    by_cases c : z.length ≤ sizeLine
    · simp only [truth, if_pos c, Option.some.injEq] at h
      subst h
      refine ⟨c, ?_⟩
      cases e : (z.length != 0) <;> simp_all
    · simp only [truth, if_neg c] at h
      cases h
  | tup l =>
    obtain ⟨a, vs, rfl, e, q⟩ := r.sqT
    cases h
    refine .inr (.inl ⟨vs, e, ?_⟩)
    cases q <;> rfl
theorem tru_p {K : PySem.W.Frag} {L : Plc} {H : Hp} {st : CS} {p : PV} {v : V} {b : Bool} (s : SRel K L H st) (r : RepP K L H p v) (h : (p.rd st).bind truth = some b) : TruV K v H b := by
  cases e : p.rd st with
  | none => rw [e] at h; cases h
  | some d =>
    rw [e] at h
    exact tru_w (rd_w s r e) h
/-- a plain test -/
theorem sT_plain (ha : SE X C a ea) (he : ∀ whole, isTrue a X.env whole = (do let v ← whole; standAt a.pos; holding [v] (truthy v))) : ST X C a ea :=
  ⟨fun pins s σ H Q I h => (pt_truth ha he).run pins s σ H Q I (by
    obtain ⟨L, ρ, st, q, e, o⟩ := h
    have o' : OutT X.K Q L H ((evE C ea ρ st).bind fun p s1 => .ok p s1) := by
      cases r : evE C ea ρ st with
      | bad => rw [r] at o; exact o
      | ok p s1 => rw [r] at o; exact o
    refine tM_bind OutT.fam q e o' fun v H1 L1 s1 p v1 q1 e1 r1 o1 => ?_
    unfold OutT at o1
    cases h : (p.rd s1).bind truth with
    | none => simp only [h] at o1
    | some b =>
      simp only [h] at o1
      exact ⟨b, tru_p q1 r1 h, o1 L1 H1 (.refl _ _) q1⟩)⟩
theorem pt_imp {e : Expr} {t u : TT} (h : PT X e t) (i : ∀ (σ : St) (H : Hp) (Q : Bool → Hp → Prop), u σ H Q → t σ H Q) : PT X e u :=
  ⟨fun pins s σ H Q I q => h.run pins s σ H Q I (i σ H Q q)⟩
theorem tT_bind {K : PySem.W.Frag} {L : Plc} {H : Hp} {st : CS} {ρ : Env} {σ : St} {m : Env → CS → R PV} {β : Type} {O : Plc → Hp → R β → Prop} {k : Bool → CS → R β} {Q1 : Bool → Hp → Prop} (F : Fam O) (s : SRel K L H st) (e : ERel K L H ρ σ)
    (h : O L H ((m ρ st).bind fun x s1 => match (x.rd s1).bind truth with
      | some b => k b s1
      | none => .bad))
    (c : ∀ (b : Bool) (H1 : Hp) (L1 : Plc) (s1 : CS), Ev L H L1 H1 → SRel K L1 H1 s1 → ERel K L1 H1 ρ σ → O L1 H1 (k b s1) → Q1 b H1) : tT K m σ H Q1 := by
  refine ⟨L, ρ, st, s, e, ?_⟩
  cases r : m ρ st with
  | bad => rw [r] at h; exact (F.bad h).elim
  | ok p s1 =>
    rw [r] at h
    simp only [R.bind] at h
    cases hb : (p.rd s1).bind truth with
    | none => rw [hb] at h; exact (F.bad h).elim
    | some b =>
      rw [hb] at h
      simp only [OutT, hb]
      exact fun L1 H1 v1 s2 => c b H1 L1 s1 v1 s2 (e.ev v1) (F.ev v1 h)
/-! not, and, or, if else -/
theorem sE_not (ha : SE X C a ea) : SE X C (.UnaryOp .Not a pos) (.not ea) :=
  pe_imp (pe_notT ha) fun σ H Q ⟨L, ρ, st, s, e, o⟩ => by
    simp only [evE] at o
    refine tM_bind (O := fun L H r => Out X.K L H Q r) Out.fam s e o fun v H1 L1 s1 p v1 q1 e1 r1 o1 => ?_
    cases h : (p.rd s1).bind truth with
    | none =>
      cases h2 : p.rd s1 with
      | none => rw [h2] at o1; exact o1.elim
      | some d =>
        rw [h2] at h o1
        have h' : truth d = none := h
        simp only [Option.bind, h', Option.map, lift, Out] at o1
    | some b =>
      refine ⟨b, tru_p q1 r1 h, ?_⟩
      cases h2 : p.rd s1 with
      | none => rw [h2] at h; cases h
      | some d =>
        rw [h2] at h o1
        have h' : truth d = some b := h
        simp only [Option.bind, h', Option.map, lift] at o1
        exact o1.val q1 (.bl _)
theorem sT_not (ha : ST X C a ea) : ST X C (.UnaryOp .Not a pos) (.not ea) :=
  pt_imp (pt_not ha) fun σ H Q ⟨L, ρ, st, s, e, o⟩ => by
    simp only [evE] at o
    refine tT_bind (O := OutT X.K Q) (k := fun b s1 => .ok (.d (.bl !b)) s1) OutT.fam s e ?_ fun b H1 L1 s1 v1 q1 e1 o1 => ?_
    · cases r : evE C ea ρ st with
      | bad => rw [r] at o; exact o
      | ok p s1 =>
        rw [r] at o
        simp only [R.bind] at o ⊢
        cases h2 : p.rd s1 with
        | none => rw [h2] at o; exact o
        | some d =>
          rw [h2] at o
          cases h3 : truth d with
          | none => simp only [Option.bind, h3, Option.map, lift] at o ⊢; exact o
          | some b => simp only [Option.bind, h3, Option.map, lift] at o ⊢; exact o
    · simp only [OutT, PV.rd, Option.bind, truth] at o1
      exact o1 L1 H1 (.refl _ _) q1
theorem sE_ite (hc : ST X C c ec) (ha : SE X C a ea) (hb : SE X C b eb) : SE X C (.IfExp c a b pos) (.ite ec ea eb) :=
  pe_imp (pe_ifExp hc ha hb) fun σ H Q ⟨L, ρ, st, s, e, o⟩ => by
    simp only [evE] at o
    refine tT_bind (O := fun L H r => Out X.K L H Q r) (k := fun b s1 => if b = true then evE C ea ρ s1 else evE C eb ρ s1) Out.fam s e ?_ fun d H1 L1 s1 v1 q1 e1 o1 => ?_
    · cases r : evE C ec ρ st with
      | bad => rw [r] at o; exact o
      | ok p s1 =>
        rw [r] at o
        simp only [R.bind] at o ⊢
        cases h : (p.rd s1).bind truth with
        | none => rw [h] at o; exact o
        | some b => rw [h] at o; cases b <;> exact o
    · cases d with
      | true => exact ⟨L1, ρ, s1, q1, e1, o1⟩
      | false => exact ⟨L1, ρ, s1, q1, e1, o1⟩
theorem pt_ite {tc t u : TT} (hc : PT X c tc) (ha : PT X a t) (hb : PT X b u) : PT X (.IfExp c a b pos) (fun σ H Q => tc σ H fun d H1 => if d = true then t σ H1 Q else u σ H1 Q) := by
  refine ⟨fun pins s σ H Q I h => ?_⟩
  refine PyProof.Rows.isTrue_IfExp (thn (hc.run pins s σ H _ I h) fun d s1 ⟨H1, I1, q1⟩ => ?_)
  cases d with
  | true => exact ha.run pins s1 σ H1 Q I1 q1
  | false => exact hb.run pins s1 σ H1 Q I1 q1
theorem sT_ite (hc : ST X C c ec) (ha : ST X C a ea) (hb : ST X C b eb) : ST X C (.IfExp c a b pos) (.ite ec ea eb) :=
  pt_imp (pt_ite hc ha hb) fun σ H Q ⟨L, ρ, st, s, e, o⟩ => by
    simp only [evE] at o
    refine tT_bind (O := OutT X.K Q) (k := fun b s1 => if b = true then evE C ea ρ s1 else evE C eb ρ s1) OutT.fam s e ?_ fun d H1 L1 s1 v1 q1 e1 o1 => ?_
    · cases r : evE C ec ρ st with
      | bad => rw [r] at o; exact o
      | ok p s1 =>
        rw [r] at o
        simp only [R.bind] at o ⊢
        cases h : (p.rd s1).bind truth with
        | none => rw [h] at o; exact o
        | some b => rw [h] at o; cases b <;> exact o
    · cases d with
      | true => exact ⟨L1, ρ, s1, q1, e1, o1⟩
      | false => exact ⟨L1, ρ, s1, q1, e1, o1⟩
/-! and, or as values -/
abbrev SAnd (X : L2.Cx) (C : Cl) (xs : List Expr) (es : Es) : Prop := ∀ pos, PE X (.BoolOp .And xs pos) (tM X.K (evAnd C es))
abbrev SOr (X : L2.Cx) (C : Cl) (xs : List Expr) (es : Es) : Prop := ∀ pos, PE X (.BoolOp .Or xs pos) (tM X.K (evOr C es))
theorem sAnd_one (ha : SE X C a ea) : SAnd X C [a] (.cons ea .nil) := fun pos => pe_imp (pe_one ha) fun σ H Q h => by simpa only [tM, evAnd] using h
theorem sOr_one (ha : SE X C a ea) : SOr X C [a] (.cons ea .nil) := fun pos => pe_imp (pe_one ha) fun σ H Q h => by simpa only [tM, evOr] using h
theorem sAnd_cons (ha : SE X C a ea) {e2 : E} (hr : SAnd X C (b :: xs) (.cons e2 es)) : SAnd X C (a :: b :: xs) (.cons ea (.cons e2 es)) := fun pos =>
  pe_imp (pe_andT ha (hr pos)) fun σ H Q ⟨L, ρ, st, s, e, o⟩ => by
    rw [evAnd] at o
    refine tM_bind (O := fun L H r => Out X.K L H Q r) Out.fam s e o fun v H1 L1 s1 p v1 q1 e1 r1 o1 => ?_
    cases h : (p.rd s1).bind truth with
    | none => rw [h] at o1; exact o1.elim
    | some d =>
      rw [h] at o1
      refine ⟨d, tru_p q1 r1 h, ?_⟩
      cases d with
      | true => exact ⟨L1, ρ, s1, q1, e1, o1⟩
      | false => exact o1 L1 H1 v (.refl _ _) q1 r1
theorem sOr_cons (ha : SE X C a ea) {e2 : E} (hr : SOr X C (b :: xs) (.cons e2 es)) : SOr X C (a :: b :: xs) (.cons ea (.cons e2 es)) := fun pos =>
  pe_imp (pe_orT ha (hr pos)) fun σ H Q ⟨L, ρ, st, s, e, o⟩ => by
    rw [evOr] at o
    refine tM_bind (O := fun L H r => Out X.K L H Q r) Out.fam s e o fun v H1 L1 s1 p v1 q1 e1 r1 o1 => ?_
    cases h : (p.rd s1).bind truth with
    | none => rw [h] at o1; exact o1.elim
    | some d =>
      rw [h] at o1
      refine ⟨d, tru_p q1 r1 h, ?_⟩
      cases d with
      | false => exact ⟨L1, ρ, s1, q1, e1, o1⟩
      | true => exact o1 L1 H1 v (.refl _ _) q1 r1
/-! .. as tests -/
abbrev WAnd (X : L2.Cx) (C : Cl) (xs : List Expr) (es : Es) : Prop := ∀ pos, PW X (.BoolOp .And xs pos) (tT X.K (evAnd C es))
abbrev WOr (X : L2.Cx) (C : Cl) (xs : List Expr) (es : Es) : Prop := ∀ pos, PW X (.BoolOp .Or xs pos) (tT X.K (evOr C es))
theorem pw_imp {e : Expr} {t u : TT} (h : PW X e t) (i : ∀ (σ : St) (H : Hp) (Q : Bool → Hp → Prop), u σ H Q → t σ H Q) : PW X e u :=
  ⟨fun w pins s σ H Q I q => h.run w pins s σ H Q I (i σ H Q q)⟩
theorem wAnd_one (ha : ST X C a ea) : WAnd X C [a] (.cons ea .nil) := fun pos => pw_imp (pw_and1 ha) fun σ H Q h => by simpa only [tT, evAnd] using h
theorem wOr_one (ha : ST X C a ea) : WOr X C [a] (.cons ea .nil) := fun pos => pw_imp (pw_or1 ha) fun σ H Q h => by simpa only [tT, evOr] using h
theorem outT_same {K : PySem.W.Frag} {Q : Bool → Hp → Prop} {L : Plc} {H : Hp} {p : PV} {s1 : CS} {b : Bool} (h : (p.rd s1).bind truth = some b) (o : OutT K Q L H (.ok p s1)) : OutT K Q L H (.ok (.d (.bl b)) s1) := by
  simp only [OutT, h] at o
  simpa only [OutT, PV.rd, Option.bind, truth] using o
theorem wAnd_cons (ha : ST X C a ea) {e2 : E} (hr : WAnd X C (b :: xs) (.cons e2 es)) : WAnd X C (a :: b :: xs) (.cons ea (.cons e2 es)) := fun pos =>
  pw_imp (pw_and ha (hr pos)) fun σ H Q ⟨L, ρ, st, s, e, o⟩ => by
    rw [evAnd] at o
    refine tT_bind (O := OutT X.K Q) (k := fun d s1 => if d = true then evAnd C (.cons e2 es) ρ s1 else .ok (.d (.bl false)) s1) OutT.fam s e ?_ fun d H1 L1 s1 v1 q1 e1 o1 => ?_
    · cases r : evE C ea ρ st with
      | bad => rw [r] at o; exact o
      | ok p s1 =>
        rw [r] at o
        simp only [R.bind] at o ⊢
        cases h : (p.rd s1).bind truth with
        | none => rw [h] at o; exact o
        | some d =>
          rw [h] at o
          cases d with
          | true => exact o
          | false => exact outT_same h o
    · cases d with
      | true => exact ⟨L1, ρ, s1, q1, e1, o1⟩
      | false =>
        simp only [OutT, PV.rd, Option.bind, truth, Bool.false_eq_true, if_false] at o1
        exact o1 L1 H1 (.refl _ _) q1
theorem wOr_cons (ha : ST X C a ea) {e2 : E} (hr : WOr X C (b :: xs) (.cons e2 es)) : WOr X C (a :: b :: xs) (.cons ea (.cons e2 es)) := fun pos =>
  pw_imp (pw_or ha (hr pos)) fun σ H Q ⟨L, ρ, st, s, e, o⟩ => by
    rw [evOr] at o
    refine tT_bind (O := OutT X.K Q) (k := fun d s1 => if d = true then .ok (.d (.bl true)) s1 else evOr C (.cons e2 es) ρ s1) OutT.fam s e ?_ fun d H1 L1 s1 v1 q1 e1 o1 => ?_
    · cases r : evE C ea ρ st with
      | bad => rw [r] at o; exact o
      | ok p s1 =>
        rw [r] at o
        simp only [R.bind] at o ⊢
        cases h : (p.rd s1).bind truth with
        | none => rw [h] at o; exact o
        | some d =>
          rw [h] at o
          cases d with
          | false => exact o
          | true => exact outT_same h o
    · cases d with
      | false => exact ⟨L1, ρ, s1, q1, e1, o1⟩
      | true =>
        simp only [OutT, PV.rd, Option.bind, truth, if_true] at o1
        exact o1 L1 H1 (.refl _ _) q1
end
end PD

set_option Elab.async false
set_option linter.all false
set_option autoImplicit false
set_option maxRecDepth 100000
/-! PdE: arguments, displays, items, slices, built-ins. -/
namespace PD
open PySem PySem.Spec L2

theorem pa_imp {X : L2.Cx} {es : List Expr} {t u : TA} (h : PA X es t) (i : ∀ (σ : St) (H : Hp) (Q : List V → Hp → Prop), u σ H Q → t σ H Q) : PA X es u :=
  ⟨fun pos pins s σ H Q I q => h.run pos pins s σ H Q I (i σ H Q q)⟩
/-- an expression that is neither starred nor a slice -/
def plainX : Expr → Bool
  | .Starred _ _ => false
  | .Slice _ _ _ _ => false
  | .Set _ _ _ => false
  | .NamedExpr _ _ _ => false
  | _ => true
theorem star_plain {e : Expr} (h : plainX e = true) (es : List Expr) (env : PySem.Env) : starEach (e :: es) env = (false, eval e env) :: starEach es env := by
  cases e <;> first | rfl | cases h
theorem ix_plain {e : Expr} (h : plainX e = true) : PlainIx e := fun o i => by
  cases e <;> first | rfl | cases h
theorem folded_plain {e : Expr} (h : plainX e = true) (env : PySem.Env) (x : Value) : foldedSetIterable e env x = pure x := by
  cases e <;> first | rfl | cases h
/-- one whose test is its value's truth -/
def plainT : Expr → Bool
  | .UnaryOp .Not _ _ => false
  | .BoolOp _ _ _ => false
  | .IfExp _ _ _ _ => false
  | .Compare _ _ _ _ => false
  | _ => true
theorem test_plain {e : Expr} (h : plainT e = true) (env : PySem.Env) (whole : Sem Value) : isTrue e env whole = (do let v ← whole; standAt e.pos; holding [v] (truthy v)) := by
  cases e with
  | UnaryOp op a p => cases op <;> first | rfl | cases h
  | _ => first | rfl | cases h

section
variable {X : L2.Cx} {C : Cl} {a b c x : Expr} {xs : List Expr} {ea eb ec : E} {es : Es} {pos : Pos}
theorem sA_nil : SA X C [] .nil := pa_imp pa_nil fun σ H Q ⟨L, ρ, st, s, e, o⟩ => by
  simp only [evEs] at o
  exact o L H (.refl _ _) s [] .nil
theorem sA_cons (ha : SE X C a ea) (hr : SA X C xs es) (hp : plainX a = true) : SA X C (a :: xs) (.cons ea es) :=
  pa_imp (pa_cons ha hr (star_plain hp xs X.env)) fun σ H Q ⟨L, ρ, st, s, e, o⟩ => by
    simp only [evEs] at o
    refine tM_bind (O := OutA X.K Q) OutG.fam s e o fun v H1 L1 s1 p v1 q1 e1 r1 o1 => ?_
    refine tA_bind (O := OutA X.K Q) OutG.fam q1 e1 o1 fun vs H2 L2 s2 ps v2 q2 e2 r2 o2 => ?_
    exact o2 L2 H2 (.refl _ _) q2 (v :: vs) (.cons (r1.ev v2) r2)

/-! ### displays -/
theorem ownAll_reps {K : PySem.W.Frag} {L : Plc} {H : Hp} : ∀ {ps : List PV} {vs : List V} {l : List D}, RepPs K L H ps vs → ownAll ps = some l → Reps K L H l vs
  | _, _, _, .nil, h => by cases h; exact .nil
  | p :: ps, _, l, .cons r t, h => by
    cases p with
    | d x =>
      simp only [ownAll] at h
      cases e : ownAll ps with
      | none => rw [e] at h; cases h
      | some m =>
        rw [e] at h
        cases h
        exact .cons r (ownAll_reps t e)
    | obj k => cases h
    | scr ns => cases h
theorem RepPs.len {K : PySem.W.Frag} {L : Plc} {H : Hp} {ps : List PV} {vs : List V} (r : RepPs K L H ps vs) : ps.length = vs.length := Paired.length r
theorem sE_tup (ha : SA X C xs es) {k : Nat} : SE X C (.Tuple xs k pos) (.tup es) :=
  pe_imp (pe_tup ha) fun σ H Q ⟨L, ρ, st, s, e, o⟩ => by
    simp only [evE] at o
    refine tA_bind (O := fun L H r => Out X.K L H Q r) Out.fam s e o fun vs H1 L1 s1 ps v1 q1 e1 r1 o1 => ?_
    by_cases c : ps.length ≤ sizeLine
    · rw [if_pos c] at o1
      cases h : ownAll ps with
      | none => rw [h] at o1; exact o1.elim
      | some l =>
        rw [h] at o1
        exact ⟨by rw [← r1.len]; exact c, o1.tup q1 (ownAll_reps r1 h)⟩
    · rw [if_neg c] at o1; exact o1.elim
/-- what asks for a new list -/
def OutN (K : PySem.W.Frag) (Q : VK) (L : Plc) (H : Hp) : R PV → Prop
  | .ok (.d (.lst l)) st' => ∀ L' H' vs, Ev L H L' H' → SRel K L' H' st' → Reps K L' H' l vs → ∀ p, H' p = none → Q (.ref p) (upd H' p (.lst vs))
  | _ => False
theorem OutN.fam {K : PySem.W.Frag} {Q : VK} : Fam (OutN K Q) where
  ev := fun {L L' H H' r} e o => by
    cases r with
    | ok p st => cases p with
      | d x => cases x with
        | lst l => exact fun L2 H2 vs e2 => o L2 H2 vs (e.trans e2)
        | _ => exact o
      | _ => exact o
    | bad => exact o
  bad := fun o => o
def tN (K : PySem.W.Frag) (m : Env → CS → R PV) : TE := fun σ H Q => ∃ L ρ st, SRel K L H st ∧ ERel K L H ρ σ ∧ OutN K Q L H (m ρ st)
abbrev SN (X : L2.Cx) (C : Cl) (x : Expr) (e : E) : Prop := PE X x (tN X.K (evE C e))
/-- its value is always a list -/
def IsL (r : R PV) : Prop := match r with
  | .ok (.d (.lst _)) _ => True
  | .bad => True
  | _ => False
theorem Out.toN {K : PySem.W.Frag} {L : Plc} {H : Hp} {Q : VK} {r : R PV} (o : Out K L H Q r) (h : IsL r) : OutN K Q L H r := by
  cases r with
  | ok p st => cases p with
    | d x => cases x with
      | lst l => exact fun L' H' vs e s rs => Out.lst s (fun L2 H2 v e2 s2 r2 => o L2 H2 v (e.trans e2) s2 r2) rs
      | _ => exact h
    | _ => exact h
  | bad => exact o
theorem sE_of_new (hN : SN X C x ea) (h : ∀ ρ s, IsL (evE C ea ρ s)) : SE X C x ea :=
  pe_imp hN fun σ H Q ⟨L, ρ, st, s, e, o⟩ => ⟨L, ρ, st, s, e, o.toN (h ρ st)⟩
/-- a list that may be changed -/
theorem new_reads {σ : St} {H : Hp} {Q : VK} (h : tM X.K (evE C (.new ea)) σ H Q) : tN X.K (evE C ea) σ H Q := by
    obtain ⟨L, ρ, st, s, e, o⟩ := h
    refine ⟨L, ρ, st, s, e, ?_⟩
    simp only [evE] at o
    cases r : evE C ea ρ st with
    | bad => rw [r] at o; exact o
    | ok p s1 =>
      rw [r] at o
      cases p with
      | d x => cases x with
        | lst l =>
          intro L' H' vs v1 q1 rs p hp
          have hp' : ¬ L'.has p := q1.free hp
          have v2 : Ev L' H' ⟨L'.c ++ [some p], L'.h⟩ (upd H' p (.lst vs)) := by
            refine ⟨by simp, fun k y hk => .inl ?_, fun a u ha _ => same_upd hp a u ha, fun a ha => ?_, rfl⟩
            · show (L'.c ++ [some p])[k]? = some y
              rw [List.getElem?_append_left (List.getElem?_eq_some_iff.mp hk).1]; exact hk
            · rcases List.mem_append.mp ha with z | z
              · exact .inl z
              · have z' : a = p := by simpa using z
                subst z'
                exact .inr hp
          have sz : L'.c.length = s1.length := q1.len.symm
          have o' := o ⟨L'.c ++ [some p], L'.h⟩ (upd H' p (.lst vs)) (.ref p) (v1.trans v2) ⟨by simp [q1.len], fun k c y h1 h2 => ?_, fun i j a hi hj => ?_, fun a ha => ⟨?_, fun m => ?_⟩⟩ ⟨by simp [sz], fun a ha => ?_⟩
          · exact o'
          · have h2 : (L'.c ++ [some p])[k]? = some y := h2
            by_cases hk : k < s1.length
            · rw [List.getElem?_append_left hk] at h1
              rw [List.getElem?_append_left (by omega)] at h2
              have z := q1.cell k c y h1 h2
              cases c with
              | lst m => cases y with
                | none => exact z
                | some b =>
                  obtain ⟨ws, e1, e2⟩ := z
                  exact ⟨ws, same_upd hp _ _ e1, e2.ev v2⟩
              | dead => cases y <;> exact z
            · have hk' : k = s1.length := by
                have := (List.getElem?_eq_some_iff.mp h1).1
                simp at this
                omega
              subst hk'
              simp at h1
              subst h1
              rw [← sz] at h2
              simp at h2
              subst h2
              exact ⟨vs, upd_same, rs.ev v2⟩
          · have hi : (L'.c ++ [some p])[i]? = some (some a) := hi
            have hj : (L'.c ++ [some p])[j]? = some (some a) := hj
            by_cases h1 : i < L'.c.length
            · rw [List.getElem?_append_left h1] at hi
              by_cases h2 : j < L'.c.length
              · rw [List.getElem?_append_left h2] at hj
                exact q1.inj i j a hi hj
              · have hj' : j = L'.c.length := by
                  have := (List.getElem?_eq_some_iff.mp hj).1
                  simp at this
                  omega
                subst hj'
                simp at hj
                subst hj
                exact absurd (.inl (List.mem_of_getElem? hi)) hp'
            · have hi' : i = L'.c.length := by
                have := (List.getElem?_eq_some_iff.mp hi).1
                simp at this
                omega
              subst hi'
              simp at hi
              subst hi
              by_cases h2 : j < L'.c.length
              · rw [List.getElem?_append_left h2] at hj
                exact absurd (.inl (List.mem_of_getElem? hj)) hp'
              · have := (List.getElem?_eq_some_iff.mp hj).1
                simp at this
                omega
          · intro z
            have := (q1.hid a ha).1
            by_cases e : a = p
            · subst e; exact hp' (.inr ha)
            · rw [upd_ne e] at z; exact this z
          · rcases List.mem_append.mp m with z | z
            · exact (q1.hid a ha).2 z
            · have z' : a = p := by simpa using z
              subst z'
              exact hp' (.inr ha)
          · have ha : (L'.c ++ [some p])[s1.length]? = some (some a) := ha
            rw [← sz] at ha
            simp at ha
            rw [ha]
        | _ => exact o
      | _ => exact o
theorem sE_new (hN : SN X C x ea) : SE X C x (.new ea) := pe_imp hN fun σ H Q h => new_reads h
theorem list_reads (h : ∀ ρ s, IsL (evE C ea ρ s)) {σ : St} {H : Hp} {Q : VK} (q : tM X.K (evE C ea) σ H Q) : tN X.K (evE C ea) σ H Q := by
  obtain ⟨L, ρ, st, s, e, o⟩ := q
  exact ⟨L, ρ, st, s, e, o.toN (h ρ st)⟩
theorem sN_lst (ha : SA X C xs es) : SN X C (.List xs pos) (.lst es) :=
  pe_imp (pe_lst ha) fun σ H Q ⟨L, ρ, st, s, e, o⟩ => by
    simp only [evE] at o
    refine tA_bind (O := OutN X.K Q) OutN.fam s e o fun vs H1 L1 s1 ps v1 q1 e1 r1 o1 => ?_
    by_cases c : ps.length ≤ sizeLine
    · rw [if_pos c] at o1
      cases h : ownAll ps with
      | none => rw [h] at o1; exact o1.elim
      | some l =>
        rw [h] at o1
        exact ⟨by rw [← r1.len]; exact c, o1 L1 H1 vs (.refl _ _) q1 (ownAll_reps r1 h)⟩
    · rw [if_neg c] at o1; exact o1.elim
theorem isL_lst (ρ : Env) (s : CS) : IsL (evE C (.lst es) ρ s) := by
  simp only [evE]
  cases evEs C es ρ s with
  | bad => exact trivial
  | ok ps s1 =>
    simp only [R.bind]
    split
    · cases ownAll ps <;> exact trivial
    · exact trivial
theorem sE_lst (ha : SA X C xs es) : SE X C (.List xs pos) (.lst es) := sE_of_new (sN_lst ha) isL_lst

/-! ### items, slices -/
theorem atI_reps {K : PySem.W.Frag} {L : Plc} {H : Hp} {l : List D} {vs : List V} {i : Int} {d : D} (r : Reps K L H l vs) (h : atI l i = some d) : ∃ v, atI vs i = some v ∧ Rep K L H d v := by
  unfold atI at h ⊢
  rw [← r.length]
  cases e : ixN l.length i with
  | none => rw [e] at h; cases h
  | some j =>
    rw [e] at h
    exact r.get h
theorem sE_idx (ha : SE X C a ea) (hb : SE X C b eb) (hp : plainX b = true) : SE X C (.Subscript a b pos) (.idx ea eb) :=
  pe_imp (pe_ix ix_seq ha hb (ix_plain hp)) fun σ H Q ⟨L, ρ, st, s, e, o⟩ => by
    simp only [evE] at o
    refine tM_bind (O := fun L H r => Out X.K L H Q r) Out.fam s e o fun v H1 L1 s1 p v1 q1 e1 r1 o1 => ?_
    refine tM_bind (O := fun L H r => Out X.K L H Q r) Out.fam q1 e1 o1 fun w H2 L2 s2 p2 v2 q2 e2 r2 o2 => ?_
    have r1' := r1.ev v2
    cases h1 : p.rd s2 with
    | none => rw [h1] at o2; exact o2.elim
    | some x =>
      rw [h1] at o2
      cases p2 with
      | d y =>
        cases x with
        | lst l => cases y with
          | int i =>
            have r2' : Rep X.K L2 H2 (.int i) w := r2
            cases r2'
            obtain ⟨a', vs, rfl, e', q⟩ := rd_w q2 r1' h1
            cases h : atI l i with
            | none => simp only [ixD, h, Option.map, lift, Out] at o2
            | some d =>
              simp only [ixD, h, Option.map, lift] at o2
              obtain ⟨z, hz, rz⟩ := atI_reps q h
              exact .inl ⟨a', vs, i, z, rfl, rfl, .of e', hz, o2.val q2 rz⟩
          | _ => exact o2.elim
        | tup l => cases y with
          | int i =>
            have r2' : Rep X.K L2 H2 (.int i) w := r2
            cases r2'
            obtain ⟨a', vs, rfl, e', q⟩ := (rd_w q2 r1' h1).sqT
            cases h : atI l i with
            | none => simp only [ixD, h, Option.map, lift, Out] at o2
            | some d =>
              simp only [ixD, h, Option.map, lift] at o2
              obtain ⟨z, hz, rz⟩ := atI_reps q h
              exact .inr (.inl ⟨a', vs, i, z, rfl, rfl, e', hz, o2.val q2 rz⟩)
          | _ => exact o2.elim
        | _ => cases y <;> exact o2.elim
      | _ => exact o2.elim
def OutO (K : PySem.W.Frag) (Q : Option Int → Hp → Prop) (L : Plc) (H : Hp) (r : R (Option Int)) : Prop := OutG K (fun _ H' b => Q b H') L H r
def tO (K : PySem.W.Frag) (m : Env → CS → R (Option Int)) : TO := fun σ H Q => ∃ L ρ st, SRel K L H st ∧ ERel K L H ρ σ ∧ OutO K Q L H (m ρ st)
abbrev SO (X : L2.Cx) (C : Cl) (x : Option Expr) (e : Eo) : Prop := PO X x (tO X.K (evEo C e))
theorem po_imp {e : Option Expr} {t u : TO} (h : PO X e t) (i : ∀ (σ : St) (H : Hp) (Q : Option Int → Hp → Prop), u σ H Q → t σ H Q) : PO X e u :=
  ⟨fun pins s σ H Q I q => h.run pins s σ H Q I (i σ H Q q)⟩
theorem sO_none : SO X C none .none := po_imp po_none fun σ H Q ⟨L, ρ, st, s, e, o⟩ => by
  simp only [evEo] at o
  exact o L H (.refl _ _) s
theorem sO_some (ha : SE X C a ea) : SO X C (some a) (.some ea) := po_imp (po_some ha) fun σ H Q ⟨L, ρ, st, s, e, o⟩ => by
  simp only [evEo] at o
  refine tM_bind (O := OutO X.K Q) OutG.fam s e o fun v H1 L1 s1 p v1 q1 e1 r1 o1 => ?_
  cases p with
  | d x => cases x with
    | int i =>
      have r1' : Rep X.K L1 H1 (.int i) v := r1
      cases r1'
      exact ⟨i, rfl, o1 L1 H1 (.refl _ _) q1⟩
    | _ => exact o1.elim
  | _ => exact o1.elim
theorem tO_bind {K : PySem.W.Frag} {L : Plc} {H : Hp} {st : CS} {ρ : Env} {σ : St} {β : Type} {O : Plc → Hp → R β → Prop} {m : Env → CS → R (Option Int)} {k : Option Int → CS → R β} {Q1 : Option Int → Hp → Prop} (F : Fam O) (s : SRel K L H st) (e : ERel K L H ρ σ) (h : O L H ((m ρ st).bind k))
    (c : ∀ (i : Option Int) (H1 : Hp) (L1 : Plc) (s1 : CS), Ev L H L1 H1 → SRel K L1 H1 s1 → ERel K L1 H1 ρ σ → O L1 H1 (k i s1) → Q1 i H1) : tO K m σ H Q1 := by
  refine ⟨L, ρ, st, s, e, ?_⟩
  cases r : m ρ st with
  | bad => rw [r] at h; exact (F.bad h).elim
  | ok p s1 =>
    rw [r] at h
    exact fun L1 H1 v1 s2 => c p H1 L1 s1 v1 s2 (e.ev v1) (F.ev v1 h)
theorem cut_reps {K : PySem.W.Frag} {L : Plc} {H : Hp} {l : List D} {vs : List V} (lo hi : Option Int) (r : Reps K L H l vs) : Reps K L H (cutL l lo hi) (cutV vs lo hi) := by
  unfold cutL cutV
  rw [r.length]
  exact (r.drop _).take _
theorem cut_ints (ns : List Int) (lo hi : Option Int) : cutV (ns.map V.int) lo hi = (cutL ns lo hi).map V.int := by
  unfold cutV cutL
  rw [List.length_map, List.map_take, List.map_drop]
theorem sN_sli {lo hi : Option Expr} {el eh : Eo} (ha : SE X C a ea) (hl : SO X C lo el) (hh : SO X C hi eh) {p2 : Pos} : SN X C (.Subscript a (.Slice lo hi none p2) pos) (.sli ea el eh) :=
  pe_imp (pe_slice sl_list ha hl hh) fun σ H Q ⟨L, ρ, st, s, e, o⟩ => by
    simp only [evE] at o
    refine tM_bind (O := OutN X.K Q) OutN.fam s e o fun v H1 L1 s1 p v1 q1 e1 r1 o1 => ?_
    refine tO_bind (O := OutN X.K Q) OutN.fam q1 e1 o1 fun i1 H2 L2 s2 v2 q2 e2 o2 => ?_
    refine tO_bind (O := OutN X.K Q) OutN.fam q2 e2 o2 fun i2 H3 L3 s3 v3 q3 e3 o3 => ?_
    have r3 := (r1.ev v2).ev v3
    cases p with
    | scr ns =>
      obtain ⟨a', rfl, h⟩ := r3
      have o3' : OutN X.K Q L3 H3 (.ok (.d (.lst ((cutL ns i1 i2).map D.int))) s3) := o3
      refine ⟨a', ns.map V.int, rfl, ?_, fun p hp => ?_⟩
      · rcases h with ⟨_, h⟩ | h
        · exact .inl h
        · rcases h with (h | ⟨o, h⟩) | h
          · cases h
          · cases h
          · exact .inr h
      · rw [cut_ints]
        exact o3' L3 H3 _ (.refl _ _) q3 (Reps.ints _) p hp
    | d x =>
      cases x with
      | lst l =>
        have r3' : Rep X.K L3 H3 (.lst l) v := r3
        cases r3' with
        | lst e' n' q =>
          exact ⟨_, _, rfl, .of e', fun p hp => o3 L3 H3 _ (.refl _ _) q3 (cut_reps i1 i2 q) p hp⟩
      | _ => exact o3.elim
    | obj k =>
      have o3' : OutN X.K Q L3 H3 (lift (((PV.obj k).rd s3).bind fun x => (sliD x i1 i2).map PV.d) s3) := o3
      cases h1 : (PV.obj k).rd s3 with
      | none => rw [h1] at o3'; exact o3'.elim
      | some y =>
        rw [h1] at o3'
        cases y with
        | lst l =>
          obtain ⟨a', vs, rfl, e', q⟩ := rd_w q3 r3 h1
          exact ⟨_, _, rfl, .of e', fun p hp => o3' L3 H3 _ (.refl _ _) q3 (cut_reps i1 i2 q) p hp⟩
        | _ => exact o3'.elim
end
end PD

set_option Elab.async false
set_option linter.all false
set_option autoImplicit false
set_option maxRecDepth 100000
/-! PdF: built-ins. -/
namespace PD
open PySem PySem.Spec L2

def fnV : BI → Value
  | .len => .builtin "len" | .int => .type "int" | .abs => .builtin "abs" | .repr => .builtin "repr" | .min => .builtin "min" | .max => .builtin "max" | .list => .type "list" | .tuple => .type "tuple"
def rBi (K : PySem.W.Frag) (b : BI) : List V → Hp → VK → Prop := fun vs H Q => ∃ L st ps l, SRel K L H st ∧ RepPs K L H ps vs ∧ rdAll st ps = some l ∧ Out K L H Q (lift ((bi b l).map PV.d) st)
/-- data of arguments, lists as they stand now -/
inductive RepWs (K : PySem.W.Frag) (L : Plc) (H : Hp) : List D → List V → Prop
  | nil : RepWs K L H [] []
  | cons {d : D} {v : V} {l : List D} {vs : List V} : RepW K L H d v → RepWs K L H l vs → RepWs K L H (d :: l) (v :: vs)
theorem rdAll_w {K : PySem.W.Frag} {L : Plc} {H : Hp} {st : CS} (s : SRel K L H st) : ∀ {ps : List PV} {vs : List V} {l : List D}, RepPs K L H ps vs → rdAll st ps = some l → RepWs K L H l vs
  | _, _, _, .nil, h => by cases h; exact .nil
  | p :: ps, _, l, .cons r t, h => by
    simp only [rdAll] at h
    cases e : p.rd st with
    | none => rw [e] at h; cases h
    | some d =>
      rw [e] at h
      cases e2 : rdAll st ps with
      | none => rw [e2] at h; cases h
      | some m =>
        rw [e2] at h
        cases h
        exact .cons (rd_w s r e) (rdAll_w s t e2)
/-- a list or tuple, as it is read -/
inductive IsSq : D → List D → Prop
  | lst (l : List D) : IsSq (.lst l) l
  | tup (l : List D) : IsSq (.tup l) l
theorem RepW.sq {K : PySem.W.Frag} {L : Plc} {H : Hp} {d : D} {l : List D} {v : V} (q : IsSq d l) (r : RepW K L H d v) : ∃ a vs, v = .ref a ∧ (SqL K H a vs ∨ SqT K H a vs) ∧ Reps K L H l vs := by
  cases q with
  | lst =>
    obtain ⟨a, vs, rfl, e, q⟩ := r
    exact ⟨a, vs, rfl, .inl (.of e), q⟩
  | tup =>
    obtain ⟨a, vs, rfl, e, q⟩ := r.sqT
    exact ⟨a, vs, rfl, .inr e, q⟩
theorem intsOf_eq : ∀ {l : List D} {ns : List Int}, intsOf l = some ns → l = ns.map D.int
  | [], _, h => by cases h; rfl
  | .int i :: r, ns, h => by
    simp only [intsOf] at h
    cases e : intsOf r with
    | none => rw [e] at h; cases h
    | some m => rw [e] at h; cases h; rw [intsOf_eq e]; rfl
  | .non :: _, _, h => by cases h
  | .bl _ :: _, _, h => by cases h
  | .str _ :: _, _, h => by cases h
  | .lst _ :: _, _, h => by cases h
  | .tup _ :: _, _, h => by cases h
theorem toPs_ints : ∀ ns : List Int, D.toPs (ns.map D.int) = ns.map PyData.int
  | [] => rfl
  | n :: r => by
    have h := toPs_ints r
    simp only [List.map_cons, D.toPs, D.toP, h]
theorem depth_ints : ∀ ns : List Int, PyData.depthAll (ns.map PyData.int) ≤ 1
  | [] => by simp [PyData.depthAll]
  | n :: r => by
    have h := depth_ints r
    simp only [List.map_cons, PyData.depthAll, PyData.depth]
    omega
theorem alike_ints (ns : List Int) : PySem.W.AlikeAll (ns.map PyData.int) := by
  refine ⟨fun x hx y hy => ?_, fun x hx => ?_⟩
  · obtain ⟨i, _, rfl⟩ := List.mem_map.mp hx
    obtain ⟨j, _, rfl⟩ := List.mem_map.mp hy
    rfl
  · obtain ⟨i, _, rfl⟩ := List.mem_map.mp hx
    exact fun h => nomatch h
section
variable {X : L2.Cx}
theorem vals_reads {pins : List (Addr × Obj)} {s : Shared} {σ : St} {H : Hp} (I : Inv X pins σ H s) {L : Plc} {l : List D} {vs : List V} {us : List Value} (r : Reps X.K L H l vs) (rv : Vals vs us) : ∃ as, ReadsAll s.heap us (D.toPs l) as := Dp.readsAll I _ _ _ r.dp rv
theorem seq_reads {pins : List (Addr × Obj)} {s : Shared} {σ : St} {H : Hp} (I : Inv X pins σ H s) {L : Plc} {d : D} {v : V} {u : Value} (r : RepW X.K L H d v) (rv : RelV v u) : ∃ as, Reads s.heap u d.toP as := Dp.reads I _ _ _ r.dp rv
theorem cr_bi (b : BI) (hc : X.calm = true) (hu : X.A.units + 200 < cLine) (hg : X.A.guards = some []) : CallR X (fnV b) (rBi X.K b) := by
  intro pins s σ H vs us Q I r h
  obtain ⟨L, st, ps, l, hs, rp, hl, h⟩ := h
  have w := rdAll_w hs rp hl
  have noh : X.A.handled = none := I.ok.hd hc
  cases b with
  | len =>
    cases w with
    | nil => exact h.elim
    | @cons d v m ws w1 w2 =>
      cases w2 with
      | cons _ _ => cases d <;> exact h.elim
      | nil =>
        have sq : ∀ m : List D, IsSq d m → Out X.K L H Q (.ok (.d (.int m.length)) st) → wpAny (model X.prog X.w) X.A (call (fnV .len) us) (EP X pins σ Q) X.xe s := fun m q o => by
          obtain ⟨a, xs, rfl, e, rs⟩ := w1.sq q
          exact call_len_seq pins s σ H _ us Q I r ⟨a, xs, rfl, e, by rw [← rs.length]; exact o.val hs (.int _)⟩
        cases d with
        | lst m => exact sq m (.lst m) h
        | tup m => exact sq m (.tup m) h
        | str z =>
          have w1' : Rep X.K L H (.str z) v := w1
          cases w1'
          by_cases c : z.length ≤ sizeLine
          · simp only [bi, if_pos c, Option.map, lift] at h
            exact call_len_str pins s σ H _ us Q I r ⟨z, rfl, c, h.val hs (.int _)⟩
          · simp only [bi, if_neg c, Option.map, lift, Out] at h
        | _ => exact h.elim
  | int =>
    cases w with
    | nil => exact h.elim
    | @cons d v m ws w1 w2 =>
      cases w2 with
      | cons _ _ => cases d <;> exact h.elim
      | nil =>
        cases d with
        | int i =>
          have w1' : Rep X.K L H (.int i) v := w1
          cases w1'
          exact call_int1 pins s σ H _ us Q I r (.inl ⟨i, rfl, h.val hs (.int _)⟩)
        | bl k =>
          have w1' : Rep X.K L H (.bl k) v := w1
          cases w1'
          exact call_int1 pins s σ H _ us Q I r (.inr ⟨k, rfl, h.val hs (.int _)⟩)
        | _ => exact h.elim
  | abs =>
    cases w with
    | nil => exact h.elim
    | @cons d v m ws w1 w2 =>
      cases w2 with
      | cons _ _ => cases d <;> exact h.elim
      | nil =>
        cases d with
        | int i =>
          have w1' : Rep X.K L H (.int i) v := w1
          cases w1'
          exact call_abs pins s σ H _ us Q I r ⟨i, rfl, h.val hs (.int _)⟩
        | _ => exact h.elim
  | repr =>
    cases w with
    | nil => exact h.elim
    | @cons d v m ws w1 w2 =>
      cases w2 with
      | cons _ _ => exact h.elim
      | nil =>
        by_cases c : (d.toP.showable && decide (d.toP.shown.length ≤ sizeLine) && decide (d.toP.depth ≤ 60)) = true
        · simp only [bi, reprD, if_pos c, Option.map, lift] at h
          simp only [Bool.and_eq_true, decide_eq_true_eq] at c
          obtain ⟨⟨c1, c2⟩, c3⟩ := c
          have fin : ∀ t' tk, EP X pins σ Q (.str d.toP.shown t') { s with toks := tk } := fun t' tk => ⟨.str _, H, I.tok _, ⟨_, rfl⟩, h.val hs (.str _)⟩
          obtain ⟨u, rfl, ru⟩ := vals1 r
          obtain ⟨as, rd⟩ := seq_reads I w1 ru
          have big : ∀ a', u = .ref a' → wpAny (model X.prog X.w) X.A (call (.builtin "repr") [u]) (EP X pins σ Q) X.xe s := fun a' e => by
            subst e
            have nd : d.toP.hasDict = false := by
              have : ∀ d : D, d.toP.hasDict = false := fun d => by
                exact (D.rec (motive_1 := fun d => d.toP.hasDict = false) (motive_2 := fun l => PyData.hasDictAll (D.toPs l) = false) (by simp [D.toP, PyData.hasDict]) (fun b => by simp [D.toP, PyData.hasDict]) (fun i => by simp [D.toP, PyData.hasDict]) (fun z => by simp [D.toP, PyData.hasDict])
                  (fun l ih => by simp [D.toP, PyData.hasDict, ih]) (fun l ih => by simp [D.toP, PyData.hasDict, ih]) (by simp [D.toPs, PyData.hasDictAll]) (fun x l h1 h2 => by simp [D.toPs, PyData.hasDictAll, h1, h2]) d)
              exact this d
            refine repr_of_reads' rd c1 (fun z => by rw [nd] at z; cases z) hg (by omega) (fun _ _ z => z) (fun h' t' tk hk => ?_) c2
            exact ⟨.str _, H, I.kept hk, ⟨_, rfl⟩, h.val hs (.str _)⟩
          cases d with
          | non =>
            have w1' : Rep X.K L H .non v := w1
            cases w1'
            cases ru
            refine PySem.P.repr_of_none ?_
            have := fin s.toks (s.toks + 1)
            rw [D.toP, PyData.shown_none] at this
            exact this
          | bl k =>
            have w1' : Rep X.K L H (.bl k) v := w1
            cases w1'
            cases ru
            refine PySem.P.repr_of_bool ?_
            have := fin s.toks (s.toks + 1)
            rw [D.toP, PyData.shown_bool] at this
            cases k <;> exact this
          | int i =>
            have w1' : Rep X.K L H (.int i) v := w1
            cases w1'
            obtain ⟨t, rfl⟩ := ru
            refine PySem.P.repr_of_int (by simpa [D.toP, PyData.showable] using c1) ?_
            have := fin s.toks (s.toks + 1)
            rw [D.toP, PyData.shown_int] at this
            exact this
          | str z =>
            have w1' : Rep X.K L H (.str z) v := w1
            cases w1'
            obtain ⟨t, rfl⟩ := ru
            have c2' := c2
            rw [D.toP, PyData.shown_str] at c2'
            refine PySem.P.repr_of_str ?_ c2'
            have := fin s.toks (s.toks + 1)
            rw [D.toP, PyData.shown_str] at this
            exact this
          | lst m =>
            obtain ⟨a', _, rfl, _, _⟩ := w1.sq (.lst m)
            exact big a' ru
          | tup m =>
            obtain ⟨a', _, rfl, _, _⟩ := w1.sq (.tup m)
            exact big a' ru
        · simp only [bi, reprD, if_neg c, Option.map, lift, Out] at h
  | list =>
    cases w with
    | nil => exact h.elim
    | @cons d v m ws w1 w2 =>
      cases w2 with
      | cons _ _ => cases d <;> exact h.elim
      | nil =>
        have sq : ∀ m : List D, IsSq d m → Out X.K L H Q (.ok (.d (.lst m)) st) → wpAny (model X.prog X.w) X.A (call (fnV .list) us) (EP X pins σ Q) X.xe s := fun m q o => by
          obtain ⟨a, xs, rfl, e, rs⟩ := w1.sq q
          exact call_list_of pins s σ H _ us Q I r ⟨a, xs, rfl, e, o.lst hs rs⟩
        cases d with
        | lst m => exact sq m (.lst m) h
        | tup m => exact sq m (.tup m) h
        | _ => exact h.elim
  | tuple =>
    cases w with
    | nil => exact h.elim
    | @cons d v m ws w1 w2 =>
      cases w2 with
      | cons _ _ => cases d <;> exact h.elim
      | nil =>
        cases d with
        | lst m =>
          obtain ⟨a, xs, rfl, e, rs⟩ := w1
          exact call_tuple_of pins s σ H _ us Q I r ⟨a, xs, rfl, .inl ⟨.of e, Out.tup hs h rs⟩⟩
        | tup m =>
          have w1' : Rep X.K L H (.tup m) v := w1
          obtain ⟨a, xs, rfl, e, rs⟩ := w1.sqT
          exact call_tuple_of pins s σ H _ us Q I r ⟨a, xs, rfl, .inr ⟨e, h.val hs w1'⟩⟩
        | _ => exact h.elim
  | min =>
    cases w with
    | nil => exact h.elim
    | @cons d v m ws w1 w2 =>
      cases w2 with
      | @cons d2 v2 m2 ws2 w3 w4 =>
        cases w4 with
        | cons _ _ => cases d <;> cases d2 <;> exact h.elim
        | nil =>
          cases d with
          | int i => cases d2 with
            | int j =>
              have w1' : Rep X.K L H (.int i) v := w1
              have w3' : Rep X.K L H (.int j) v2 := w3
              cases w1'; cases w3'
              exact call_min2 hc pins s σ H _ us Q I r ⟨i, j, rfl, h.val hs (.int _)⟩
            | _ => exact h.elim
          | _ => cases d2 <;> exact h.elim
      | nil =>
        have fin : ∀ (xs : List D) (a : Addr) (its : List Value) (x : Int) (rest : List Int), intsOf xs = some (x :: rest) → bi .min [d] = bestI min xs → ∀ (i : Nat) (u : Value) (h' : Heap) (tk : Nat) (bs : List Addr), its.toArray[i]? = some u → Reads h' u (PySem.W.minD (.int x) (rest.map .int)) bs → (∀ b o, s.heap.get? b = some o → h'.get? b = some o) → EP X pins σ Q u { s with heap := h', toks := tk } :=
          fun xs a its x rest e1 e2 i u h' tk bs hi hr hk => by
            rw [PySem.W.minD_ints] at hr
            cases hr
            rw [e2] at h
            simp only [bestI, e1, Option.map, lift] at h
            exact ⟨.int _, H, I.kept hk, ⟨_, rfl⟩, h.val hs (.int _)⟩
        cases d with
        | lst xs =>
          cases e : intsOf xs with
          | none => simp only [bi, bestI, e, Option.map, lift, Out] at h
          | some ns =>
            cases ns with
            | nil => simp only [bi, bestI, e, Option.map, lift, Out] at h
            | cons x rest =>
              obtain ⟨a, zs, rfl, eh, rs⟩ := w1
              obtain ⟨its, rv, pl, _⟩ := I.list (SqL.of eh)
              obtain ⟨as, ra⟩ := vals_reads I rs rv
              rw [intsOf_eq e, toPs_ints] at ra
              rw [Vals.ref1 r]
              exact PySem.W.min_list_data noh pl.isList (by simpa using ra) (alike_ints (x :: rest)) (by have := depth_ints (x :: rest); simp only [List.map_cons] at this; omega) (fin xs a its x rest e rfl)
        | tup xs =>
          cases e : intsOf xs with
          | none => simp only [bi, bestI, e, Option.map, lift, Out] at h
          | some ns =>
            cases ns with
            | nil => simp only [bi, bestI, e, Option.map, lift, Out] at h
            | cons x rest =>
              obtain ⟨a, zs, rfl, eh, rs⟩ := w1.sqT
              obtain ⟨its, rv, pl, _⟩ := I.tuple eh
              obtain ⟨as, ra⟩ := vals_reads I rs rv
              rw [intsOf_eq e, toPs_ints] at ra
              rw [Vals.ref1 r]
              exact PySem.W.min_tuple_data noh (show s.heap.IsTuple a its.toArray from pl) (by simpa using ra) (alike_ints (x :: rest)) (by have := depth_ints (x :: rest); simp only [List.map_cons] at this; omega) (fin xs a its x rest e rfl)
        | _ => exact h.elim
  | max =>
    cases w with
    | nil => exact h.elim
    | @cons d v m ws w1 w2 =>
      cases w2 with
      | @cons d2 v2 m2 ws2 w3 w4 =>
        cases w4 with
        | cons _ _ => cases d <;> cases d2 <;> exact h.elim
        | nil =>
          cases d with
          | int i => cases d2 with
            | int j =>
              have w1' : Rep X.K L H (.int i) v := w1
              have w3' : Rep X.K L H (.int j) v2 := w3
              cases w1'; cases w3'
              exact call_max2 hc pins s σ H _ us Q I r ⟨i, j, rfl, h.val hs (.int _)⟩
            | _ => exact h.elim
          | _ => cases d2 <;> exact h.elim
      | nil =>
        have fin : ∀ (xs : List D) (a : Addr) (its : List Value) (x : Int) (rest : List Int), intsOf xs = some (x :: rest) → bi .max [d] = bestI max xs → ∀ (i : Nat) (u : Value) (h' : Heap) (tk : Nat) (bs : List Addr), its.toArray[i]? = some u → Reads h' u (PySem.W.maxD (.int x) (rest.map .int)) bs → (∀ b o, s.heap.get? b = some o → h'.get? b = some o) → EP X pins σ Q u { s with heap := h', toks := tk } :=
          fun xs a its x rest e1 e2 i u h' tk bs hi hr hk => by
            rw [PySem.W.maxD_ints] at hr
            cases hr
            rw [e2] at h
            simp only [bestI, e1, Option.map, lift] at h
            exact ⟨.int _, H, I.kept hk, ⟨_, rfl⟩, h.val hs (.int _)⟩
        cases d with
        | lst xs =>
          cases e : intsOf xs with
          | none => simp only [bi, bestI, e, Option.map, lift, Out] at h
          | some ns =>
            cases ns with
            | nil => simp only [bi, bestI, e, Option.map, lift, Out] at h
            | cons x rest =>
              obtain ⟨a, zs, rfl, eh, rs⟩ := w1
              obtain ⟨its, rv, pl, _⟩ := I.list (SqL.of eh)
              obtain ⟨as, ra⟩ := vals_reads I rs rv
              rw [intsOf_eq e, toPs_ints] at ra
              rw [Vals.ref1 r]
              exact PySem.W.max_list_data noh pl.isList (by simpa using ra) (alike_ints (x :: rest)) (by have := depth_ints (x :: rest); simp only [List.map_cons] at this; omega) (fin xs a its x rest e rfl)
        | tup xs =>
          cases e : intsOf xs with
          | none => simp only [bi, bestI, e, Option.map, lift, Out] at h
          | some ns =>
            cases ns with
            | nil => simp only [bi, bestI, e, Option.map, lift, Out] at h
            | cons x rest =>
              obtain ⟨a, zs, rfl, eh, rs⟩ := w1.sqT
              obtain ⟨its, rv, pl, _⟩ := I.tuple eh
              obtain ⟨as, ra⟩ := vals_reads I rs rv
              rw [intsOf_eq e, toPs_ints] at ra
              rw [Vals.ref1 r]
              exact PySem.W.max_tuple_data noh (show s.heap.IsTuple a its.toArray from pl) (by simpa using ra) (alike_ints (x :: rest)) (by have := depth_ints (x :: rest); simp only [List.map_cons] at this; omega) (fin xs a its x rest e rfl)
        | _ => exact h.elim
end
end PD

set_option Elab.async false
set_option linter.all false
set_option autoImplicit false
set_option maxRecDepth 100000
/-! PdG: calls of built-ins, what is walked, lists made item by item. -/
namespace PD
open PySem PySem.Spec L2

theorem any_plain {es : List Expr} (h : es.all plainX = true) (pos : Pos) (env : PySem.Env) : (backTo pos (starEach es env)).any (·.1) = false := by
  induction es with
  | nil => rfl
  | cons e r ih =>
    simp only [List.all_cons, Bool.and_eq_true] at h
    rw [star_plain h.1]
    show (false || (backTo pos (starEach r env)).any (·.1)) = false
    rw [ih h.2]; rfl
def biName : BI → Str
  | .len => "len" | .int => "int" | .abs => "abs" | .repr => "repr" | .min => "min" | .max => "max" | .list => "list" | .tuple => "tuple"
theorem bi_boot (b : BI) : bootBuiltins (biName b) = some (fnV b) := by
  cases b
  · exact boot_len
  · exact PyProof.Rows.boot_int
  · decide +kernel
  · decide +kernel
  · decide +kernel
  · decide +kernel
  · exact PyProof.Rows.boot_list
  · decide +kernel
theorem bi_dd (b : BI) : biName b ≠ "__name__" ∧ (biName b == ("__debug__" : Str)) = false := by
  cases b <;> exact ⟨by decide, by decide⟩
section
variable {X : L2.Cx} {C : Cl} {a b c x : Expr} {xs : List Expr} {ea eb ec : E} {es : Es} {pos p : Pos}
theorem sE_bi (b : BI) (hc : X.calm = true) (hu : X.A.units + 200 < cLine) (hg : X.A.guards = some []) (gl : Gl X (biName b)) (hm : X.mg (biName b) = none) (hp : (a :: xs).all plainX = true) (ha : SA X C (a :: xs) es) : SE X C (.Call (.Name (biName b) p) (a :: xs) [] pos) (.bi b es) := by
  have hp' := hp
  simp only [List.all_cons, Bool.and_eq_true] at hp'
  have h : PE X (.Call (.Name (biName b) p) (a :: xs) [] pos) (tCB (rBi X.K b) (tA X.K (evEs C es))) := by
    have c := cr_bi (X := X) b hc hu hg
    have d := bi_dd b
    have bt := bi_boot b
    cases e : fnV b with
    | builtin id => rw [e] at c bt; exact pe_callB c gl hm bt ha d.1 d.2 (star_plain hp'.1 _ _) (any_plain hp'.2 _ _)
    | type T => rw [e] at c bt; exact pe_callTy c gl hm bt ha d.1 d.2 (star_plain hp'.1 _ _) (any_plain hp'.2 _ _)
    | _ => cases b <;> cases e
  exact pe_imp h fun σ H Q ⟨L, ρ, st, s, e, o⟩ => by
    simp only [evE] at o
    refine tA_bind (O := fun L H r => Out X.K L H Q r) Out.fam s e o fun vs H1 L1 s1 ps v1 q1 e1 r1 o1 => ?_
    cases h : rdAll s1 ps with
    | none => rw [h] at o1; exact o1.elim
    | some l =>
      rw [h] at o1
      exact ⟨L1, s1, ps, l, q1, r1, h, o1⟩
/-! isinstance -/
def tkName : TK → String
  | .int => "int" | .bool => "bool" | .str => "str" | .list => "list" | .tuple => "tuple" | .dict => "dict"
theorem tk_boot (k : TK) : bootBuiltins (Str.ofString (tkName k)) = some (.type (tkName k)) := by
  cases k <;> decide +kernel
theorem tk_dd (k : TK) : Str.ofString (tkName k) ≠ "__name__" ∧ (Str.ofString (tkName k) == ("__debug__" : Str)) = false := by
  cases k <;> exact ⟨by decide, by decide⟩
theorem kit_one {K : PySem.W.Frag} {L : Plc} {H : Hp} {d : D} {v : V} (k : TK) (r : RepW K L H d v) : ∃ t, TyX K H v t ∧ PySem.W.kitOne K t (.type (tkName k)) = some (isK k d) := by
  cases d with
  | lst l =>
    obtain ⟨a, vs, rfl, e, q⟩ := r
    exact ⟨.type "list", .base (.lst e), kit_ty (by cases k <;> (simp only [isK]; decide +kernel))⟩
  | non =>
    have r' : Rep K L H .non v := r
    cases r'
    exact ⟨_, .base .non, kit_ty (by cases k <;> decide +kernel)⟩
  | bl c =>
    have r' : Rep K L H (.bl c) v := r
    cases r'
    exact ⟨_, .base (.bl c), kit_ty (by cases k <;> (simp only [isK]; decide +kernel))⟩
  | int i =>
    have r' : Rep K L H (.int i) v := r
    cases r'
    exact ⟨_, .base (.int i), kit_ty (by cases k <;> (simp only [isK]; decide +kernel))⟩
  | str z =>
    have r' : Rep K L H (.str z) v := r
    cases r'
    exact ⟨_, .base (.str z), kit_ty (by cases k <;> (simp only [isK]; decide +kernel))⟩
  | tup l =>
    have r' : Rep K L H (.tup l) v := r
    cases r' with
    | tup e n q => exact ⟨.type "tuple", .base (.tup e), kit_ty (by cases k <;> (simp only [isK]; decide +kernel))⟩
    | tupK e q =>
      rcases e with (e | ⟨o, e⟩) | ⟨o, its, n, e, c, _⟩
      · cases e
      · cases e
      · exact ⟨.type "tuple", .kTuple e c, kit_ty (by cases k <;> (simp only [isK]; decide +kernel))⟩
theorem sE_isi (k : TK) (gl : Gl X "isinstance") (hm : X.mg "isinstance" = none) (gk : Gl X (Str.ofString (tkName k))) (mk : X.mg (Str.ofString (tkName k)) = none) (hp : plainX a = true) (ha : SE X C a ea) {p2 : Pos} :
    SE X C (.Call (.Name "isinstance" p) [a, .Name (Str.ofString (tkName k)) p2] [] pos) (.isi ea k) := by
  have d := tk_dd k
  have hb : PE X (.Name (Str.ofString (tkName k)) p2) (tC (.ty (tkName k))) := pe_bltn gk mk (tk_boot k) rfl d.1 d.2
  have h := pe_callB (pos := pos) (p := p) call_isi gl hm (by decide +kernel) (pa_cons ha (pa_cons hb pa_nil) (star_plain hp _ _)) (by decide) (by decide) (star_plain hp _ _) rfl
  exact pe_imp h fun σ H Q ⟨L, ρ, st, s, e, o⟩ => by
    simp only [evE] at o
    refine tM_bind (O := fun L H r => Out X.K L H Q r) Out.fam s e o fun v H1 L1 s1 p v1 q1 e1 r1 o1 => ?_
    cases h : p.rd s1 with
    | none => rw [h] at o1; exact o1.elim
    | some d =>
      rw [h] at o1
      obtain ⟨t, ty, kk⟩ := kit_one k (rd_w q1 r1 h)
      exact ⟨v, .ty (tkName k), t, .type (tkName k), isK k d, rfl, .ty _, ty, kk, o1.val q1 (.bl _)⟩
/-! list(range(..)) -/
theorem reps_rng {K : PySem.W.Frag} {L : Plc} {H : Hp} (n : Int) (h : 0 ≤ n) : Reps K L H (rngItems 0 n.toNat) (rgV 0 n) := by
  have e : rgV 0 n = ((List.range n.toNat).map fun (i : Nat) => (0 + (i : Int))).map V.int := by
    unfold rgV
    rw [List.map_map, Int.sub_zero]; rfl
  have e2 : rngItems 0 n.toNat = ((List.range n.toNat).map fun (i : Nat) => (0 + (i : Int))).map D.int := by
    unfold rngItems
    rw [List.map_map]; rfl
  rw [e, e2]
  exact Reps.ints _
theorem isL_lrg (ρ : Env) (s : CS) : IsL (evE C (.lrg ea) ρ s) := by
  simp only [evE]
  cases evE C ea ρ s with
  | bad => exact trivial
  | ok p s1 =>
    simp only [R.bind]
    cases p with
    | d x => cases x with
      | int j =>
        show IsL (if 0 ≤ j ∧ j ≤ 16777216 then _ else _)
        split <;> exact trivial
      | _ => exact trivial
    | _ => exact trivial
theorem sN_lrg (hc : X.calm = true) (gl : Gl X "list") (hm : X.mg "list" = none) (gr : Gl X "range") (mr : X.mg "range" = none) (hp : plainX a = true) (ha : SE X C a ea) {p2 p3 : Pos} :
    SN X C (.Call (.Name "list" p) [.Call (.Name "range" p2) [a] [] p3] [] pos) (.lrg ea) :=
  pe_imp (pe_listRg hc gl hm (prg_1 gr mr ha (star_plain hp _ _)) rfl) fun σ H Q ⟨L, ρ, st, s, e, o⟩ => by
    simp only [evE] at o
    refine tM_bind (O := OutN X.K Q) OutN.fam s e o fun v H1 L1 s1 p v1 q1 e1 r1 o1 => ?_
    cases p with
    | d x => cases x with
      | int j =>
        have r1' : Rep X.K L1 H1 (.int j) v := r1
        cases r1'
        by_cases c : 0 ≤ j ∧ j ≤ 16777216
        · simp only [if_pos c] at o1
          exact ⟨j, rfl, .of_le (by omega) (by omega) (by omega) (by omega), fun q hq => o1 L1 H1 _ (.refl _ _) q1 (reps_rng j c.1) q hq⟩
        · simp only [if_neg c] at o1; exact o1.elim
      | _ => exact o1.elim
    | _ => exact o1.elim
end

/-! ### what is walked -/
structure Walk (K : PySem.W.Frag) (J : L2.It) (L : Plc) (H : Hp) (ds : List D) : Prop where
  go : ∀ (L1 : Plc) (H1 : Hp) (s1 : CS) (i : Nat) (d : D), Mv L H L1 H1 → SRel K L1 H1 s1 → ds[i]? = some d → J.go i H1 ∧ ∀ x H2, J.yld i H1 x H2 → Same H1 H2 ∧ Rep K L1 H2 d x
  stop : ∀ (L1 : Plc) (H1 : Hp) (i : Nat), Mv L H L1 H1 → ds.length ≤ i → J.stop i H1
def OutI (K : PySem.W.Frag) (Rr : L2.It → Hp → Prop) (L : Plc) (H : Hp) (r : R (List D)) : Prop := OutG K (fun L' H' ds => ∀ J, Walk K J L' H' ds → Rr J H') L H r
def tI (K : PySem.W.Frag) (m : Env → CS → R (List D)) : TI := fun σ H Rr => ∃ L ρ st, SRel K L H st ∧ ERel K L H ρ σ ∧ OutI K Rr L H (m ρ st)
abbrev SI (X : L2.Cx) (C : Cl) (tg x : Expr) (e : It) : Prop := PI X tg x (tI X.K (evIt C e))
theorem pi_imp {X : L2.Cx} {tg x : Expr} {t u : TI} (h : PI X tg x t) (i : ∀ (σ : St) (H : Hp) (Q : L2.It → Hp → Prop), u σ H Q → t σ H Q) : PI X tg x u :=
  ⟨fun pins s σ H Q I q => h.run pins s σ H Q I (i σ H Q q)⟩
theorem Mv.trans {L L1 L2 : Plc} {H H1 H2 : Hp} (a : Mv L H L1 H1) (b : Mv L1 H1 L2 H2) : Mv L H L2 H2 where
  len := Nat.le_trans a.len b.len
  get := fun k x h => by
    rcases a.get k x h with e | e
    · exact b.get k x e
    · rcases b.get k none e with e | e <;> exact .inr e
  stay := fun c o h n => b.stay c o (a.stay c o h n).1 (a.stay c o h n).2
theorem Walk.lst {K : PySem.W.Frag} {L : Plc} {H : Hp} {a : Addr} {l : List D} (r : Rep K L H (.lst l) (.ref a)) : Walk K (Itl K a) L H l := by
  cases r with
  | lst e n q =>
    refine ⟨fun L1 H1 s1 i d m s h => ?_, fun L1 H1 i m h => ?_⟩
    · have e1 := (m.stay _ _ e n).1
      obtain ⟨v, hv, rv⟩ := q.get h
      refine ⟨⟨_, v, .of e1, hv⟩, fun x H2 y => ?_⟩
      obtain ⟨rfl, y⟩ := y
      have := y _ (.of e1)
      rw [hv] at this
      cases this
      exact ⟨Same.refl _, rv.map m.stay⟩
    · exact ⟨_, .of (m.stay _ _ e n).1, by rw [← q.length]; exact h⟩
theorem Walk.tup {K : PySem.W.Frag} {L : Plc} {H : Hp} {a : Addr} {l : List D} (r : Rep K L H (.tup l) (.ref a)) : Walk K (Itt K a) L H l := by
  have key : ∀ (vs : List V), (∀ L1 H1, Mv L H L1 H1 → SqT K H1 a vs) → Reps K L H l vs → Walk K (Itt K a) L H l := fun vs hq q => by
    refine ⟨fun L1 H1 s1 i d m s h => ?_, fun L1 H1 i m h => ?_⟩
    · obtain ⟨v, hv, rv⟩ := q.get h
      refine ⟨⟨_, v, hq L1 H1 m, hv⟩, fun x H2 y => ?_⟩
      obtain ⟨rfl, y⟩ := y
      have := y _ (hq L1 _ m)
      rw [hv] at this
      cases this
      exact ⟨Same.refl _, rv.map m.stay⟩
    · exact ⟨_, hq L1 H1 m, by rw [← q.length]; exact h⟩
  cases r with
  | tup e n q => exact key _ (fun L1 H1 m => .of (m.stay _ _ e n).1) q
  | tupK e q =>
    refine key _ (fun L1 H1 m => ?_) q
    rcases e with (e | ⟨o, e⟩) | e
    · cases e
    · cases e
    · exact .inr e
theorem Walk.rng {K : PySem.W.Frag} {L : Plc} {H : Hp} (lo : Int) (n : Nat) : Walk K (Itr lo n) L H (rngItems lo n) := by
  refine ⟨fun L1 H1 s1 i d m s h => ?_, fun L1 H1 i m h => ?_⟩
  · unfold rngItems at h
    rw [List.getElem?_map] at h
    by_cases hi : i < n
    · rw [List.getElem?_range hi] at h
      cases h
      refine ⟨hi, fun x H2 y => ?_⟩
      obtain ⟨rfl, rfl⟩ := y
      exact ⟨Same.refl _, .int _⟩
    · rw [List.getElem?_eq_none (by simpa using hi)] at h
      cases h
  · unfold rngItems at h
    have h' : n ≤ i := by simpa using h
    exact h'
theorem Walk.enum {K : PySem.W.Frag} {L : Plc} {H : Hp} {a : Addr} {l : List D} (r : Rep K L H (.lst l) (.ref a)) : Walk K (Ite K a) L H (enumItems l) := by
  cases r with
  | lst e n q =>
    refine ⟨fun L1 H1 s1 i d m s h => ?_, fun L1 H1 i m h => ?_⟩
    · have e1 := (m.stay _ _ e n).1
      unfold enumItems at h
      rw [List.getElem?_map, List.getElem?_zipIdx] at h
      cases hd : l[i]? with
      | none => rw [hd] at h; cases h
      | some z =>
        rw [hd] at h
        cases h
        obtain ⟨v, hv, rv⟩ := q.get hd
        refine ⟨⟨_, v, .of e1, hv⟩, fun x H2 y => ?_⟩
        obtain ⟨T, z', rfl, hT, rfl, hz⟩ := y
        have := hz _ (SqL.of e1)
        rw [hv] at this
        cases this
        refine ⟨same_upd hT, ?_⟩
        refine .tup upd_same (s.free hT) (.cons ?_ (.cons ?_ .nil))
        · rw [Nat.zero_add]; exact .int _
        · exact (rv.map m.stay).ev (.same (same_upd hT))
    · unfold enumItems at h
      rw [List.length_map, List.length_zipIdx] at h
      exact ⟨_, .of (m.stay _ _ e n).1, by rw [← q.length]; exact h⟩
section
variable {X : L2.Cx} {C : Cl} {a b tg : Expr} {ea eb : E} {pos p : Pos}
theorem sI_seq (ha : SE X C a ea) : SI X C tg a (.seq ea) :=
  ⟨fun pins s σ H Rr I h => by
    obtain ⟨L, ρ, st, q, e, o⟩ := h
    simp only [evIt] at o
    cases r : evE C ea ρ st with
    | bad => rw [r] at o; exact o.elim
    | ok pv s1 =>
      rw [r] at o
      cases pv with
      | d x => cases x with
        | lst l =>
          refine (pi_list ha).run pins s σ H Rr I ⟨L, ρ, st, q, e, ?_⟩
          rw [r]
          intro L' H' v v1 q1 r1
          have r1' : Rep X.K L' H' (.lst l) v := r1
          cases r1' with
          | lst e1 n1 z => exact ⟨_, rfl, ⟨_, .of e1⟩, o L' H' v1 q1 _ (Walk.lst (.lst e1 n1 z))⟩
        | tup l =>
          refine (pi_tup ha).run pins s σ H Rr I ⟨L, ρ, st, q, e, ?_⟩
          rw [r]
          intro L' H' v v1 q1 r1
          obtain ⟨a', vs, rfl, e1, z⟩ := (Rep.w r1).sqT
          exact ⟨_, rfl, ⟨_, e1⟩, o L' H' v1 q1 _ (Walk.tup r1)⟩
        | _ => exact o.elim
      | _ => exact o.elim⟩
theorem smallI_ok {j : Int} (h : smallI j = true) : -(2 ^ 62) ≤ j ∧ j < 2 ^ 62 := of_decide_eq_true h
theorem sI_rng1 (gr : Gl X "range") (mr : X.mg "range" = none) (hp : plainX a = true) (ha : SE X C a ea) : SI X C tg (.Call (.Name "range" p) [a] [] pos) (.rng1 ea) :=
  pi_imp (pi_range1 gr mr (sA_cons ha sA_nil hp) (star_plain hp _ _)) fun σ H Q ⟨L, ρ, st, s, e, o⟩ => by
    simp only [evIt] at o
    have o' : OutI X.K Q L H ((evEs C (.cons ea .nil) ρ st).bind fun ps s1 => match ps with
      | [.d (.int j)] => if smallI j then .ok (rngItems 0 j.toNat) s1 else .bad
      | _ => .bad) := by
      simp only [evEs]
      cases r : evE C ea ρ st with
      | bad => rw [r] at o; exact o
      | ok pv s1 =>
        rw [r] at o
        simp only [R.bind] at o ⊢
        cases pv with
        | d x => cases x <;> exact o
        | _ => exact o
    refine tA_bind (O := OutI X.K Q) OutG.fam s e o' fun vs H1 L1 s1 ps v1 q1 e1 r1 o1 => ?_
    cases r1 with
    | nil => exact o1.elim
    | @cons pv v ps' vs' z1 z2 =>
      cases z2 with
      | cons _ _ => cases pv with
        | d x => cases x <;> exact o1.elim
        | _ => exact o1.elim
      | nil =>
        cases pv with
        | d x => cases x with
          | int j =>
            have z1' : Rep X.K L1 H1 (.int j) v := z1
            cases z1'
            by_cases c : smallI j = true
            · simp only [if_pos c] at o1
              exact ⟨j, rfl, (smallI_ok c).1, (smallI_ok c).2, o1 L1 H1 (.refl _ _) q1 _ (Walk.rng 0 _)⟩
            · simp only [if_neg c] at o1; exact o1.elim
          | _ => exact o1.elim
        | _ => exact o1.elim
theorem sI_rng2 (gr : Gl X "range") (mr : X.mg "range" = none) (hp : plainX a = true) (hp2 : plainX b = true) (ha : SE X C a ea) (hb : SE X C b eb) : SI X C tg (.Call (.Name "range" p) [a, b] [] pos) (.rng2 ea eb) :=
  pi_imp (pi_range2 gr mr (sA_cons ha (sA_cons hb sA_nil hp2) hp) (by rw [star_plain hp, star_plain hp2]; rfl) (star_plain hp2 _ _)) fun σ H Q ⟨L, ρ, st, s, e, o⟩ => by
    simp only [evIt] at o
    have o' : OutI X.K Q L H ((evEs C (.cons ea (.cons eb .nil)) ρ st).bind fun ps s1 => match ps with
      | [.d (.int i), .d (.int j)] => if smallI i && smallI j then .ok (rngItems i (j - i).toNat) s1 else .bad
      | _ => .bad) := by
      simp only [evEs]
      cases r : evE C ea ρ st with
      | bad => rw [r] at o; exact o
      | ok pv s1 =>
        rw [r] at o
        simp only [R.bind] at o ⊢
        cases r2 : evE C eb ρ s1 with
        | bad => rw [r2] at o; exact o
        | ok pv2 s2 =>
          rw [r2] at o
          simp only [R.bind] at o ⊢
          cases pv with
          | d x =>
            cases pv2 with
            | d y => cases x <;> cases y <;> exact o
            | _ => cases x <;> exact o
          | _ => exact o
    refine tA_bind (O := OutI X.K Q) OutG.fam s e o' fun vs H1 L1 s1 ps v1 q1 e1 r1 o1 => ?_
    have bad : ∀ {l : List PV}, ps = l → (∀ i j : Int, l ≠ [.d (.int i), .d (.int j)]) → False := fun {l} e n => by
      subst e
      revert o1
      split
      · rename_i i j; exact fun _ => n i j rfl
      · exact fun o => o
    cases r1 with
    | nil => exact (bad rfl fun i j z => by cases z).elim
    | @cons pv v ps' vs' z1 z2 =>
      cases z2 with
      | nil => exact (bad rfl fun i j z => by cases z).elim
      | @cons pv2 w ps2 vs2 z3 z4 =>
        cases z4 with
        | cons _ _ => exact (bad rfl fun i j z => by cases z).elim
        | nil =>
          cases pv with
          | d x => cases x with
            | int i => cases pv2 with
              | d y => cases y with
                | int j =>
                  have z1' : Rep X.K L1 H1 (.int i) v := z1
                  have z3' : Rep X.K L1 H1 (.int j) w := z3
                  cases z1'
                  cases z3'
                  by_cases c : (smallI i && smallI j) = true
                  · simp only [if_pos c] at o1
                    have c' := Bool.and_eq_true_iff.mp c
                    exact ⟨i, j, rfl, ⟨(smallI_ok c'.1).1, (smallI_ok c'.1).2, (smallI_ok c'.2).1, (smallI_ok c'.2).2⟩, o1 L1 H1 (.refl _ _) q1 _ (Walk.rng i _)⟩
                  · simp only [if_neg c] at o1; exact o1.elim
                | _ => exact (bad rfl fun i j z => by cases z).elim
              | _ => exact (bad rfl fun i j z => by cases z).elim
            | _ => exact (bad rfl fun i j z => by cases z).elim
          | _ => exact (bad rfl fun i j z => by cases z).elim
theorem sI_enum (gr : Gl X "enumerate") (mr : X.mg "enumerate" = none) (hp : plainX a = true) (ha : SE X C a ea) {elts : List Expr} {kk : Nat} {tpos : Pos} : SI X C (.Tuple elts kk tpos) (.Call (.Name "enumerate" p) [a] [] pos) (.enum ea) :=
  pi_imp (pi_enum gr mr (sA_cons ha sA_nil hp) (star_plain hp _ _)) fun σ H Q ⟨L, ρ, st, s, e, o⟩ => by
    simp only [evIt] at o
    have o' : OutI X.K Q L H ((evEs C (.cons ea .nil) ρ st).bind fun ps s1 => match ps with
      | [.d (.lst l)] => .ok (enumItems l) s1
      | _ => .bad) := by
      simp only [evEs]
      cases r : evE C ea ρ st with
      | bad => rw [r] at o; exact o
      | ok pv s1 =>
        rw [r] at o
        simp only [R.bind] at o ⊢
        cases pv with
        | d x => cases x <;> exact o
        | _ => exact o
    refine tA_bind (O := OutI X.K Q) OutG.fam s e o' fun vs H1 L1 s1 ps v1 q1 e1 r1 o1 => ?_
    cases r1 with
    | nil => exact o1.elim
    | @cons pv v ps' vs' z1 z2 =>
      cases z2 with
      | cons _ _ => cases pv with
        | d x => cases x <;> exact o1.elim
        | _ => exact o1.elim
      | nil =>
        cases pv with
        | d x => cases x with
          | lst l =>
            have z1' : Rep X.K L1 H1 (.lst l) v := z1
            cases z1' with
            | lst e' n' z => exact ⟨_, _, rfl, .of e', o1 L1 H1 (.refl _ _) q1 _ (Walk.enum (.lst e' n' z))⟩
          | _ => exact o1.elim
        | _ => exact o1.elim
end
end PD

set_option Elab.async false
set_option linter.all false
set_option autoImplicit false
set_option maxRecDepth 100000
/-! PdH: targets, comprehensions. -/
namespace PD
open PySem PySem.Spec L2

/-! ### targets -/
def gNames : List Nat → TGs
  | [] => gNil
  | i :: is => gCons (gName i) (gNames is)
def tgOf (K : PySem.W.Frag) (many : Bool) (tg : List Nat) : TG := match many, tg with
  | false, [i] => gName i
  | true, is => gTup K is.length (gNames is)
  | _, _ => fun _ _ _ _ => False
theorem wipe_at (σ : St) (j : Nat) : ∀ own : List Nat, (wipe σ own)[j]? = if j ∈ own ∧ j < σ.length then some none else σ[j]?
  | [] => by simp [wipe]
  | v :: vs => by
    unfold wipe
    by_cases h : v = j
    · subst h
      by_cases hl : v < σ.length
      · rw [List.getElem?_set_self (by rw [wipe_length]; exact hl)]
        simp [hl]
      · rw [List.getElem?_eq_none (by rw [List.length_set, wipe_length]; omega)]
        simp [hl]
    · rw [List.getElem?_set_ne h, wipe_at σ j vs]
      by_cases hl : j < σ.length
      · simp [hl, Ne.symm h]
      · simp [hl]
theorem wipe_set {σ : St} {i : Nat} {v : Option V} {own : List Nat} (h : i ∈ own) : wipe (σ.set i v) own = wipe σ own := by
  refine List.ext_getElem? fun j => ?_
  rw [wipe_at, wipe_at, List.length_set]
  by_cases hj : j ∈ own ∧ j < σ.length
  · rw [if_pos hj, if_pos hj]
  · rw [if_neg hj, if_neg hj]
    by_cases e : i = j
    · subst e
      have : ¬ i < σ.length := fun z => hj ⟨h, z⟩
      rw [List.getElem?_eq_none (by rw [List.length_set]; omega), List.getElem?_eq_none (by omega)]
    · rw [List.getElem?_set_ne e]
section
variable {K : PySem.W.Frag} {L : Plc} {H : Hp} {ρ ρ' : Env} {σ : St}
theorem ERel.set {p : PV} {v : V} (e : ERel K L H ρ σ) (i : Nat) (r : RepP K L H p v) : ERel K L H (ρ.set i (some p)) (σ.set i (some v)) := by
  refine ⟨by simp [e.len], fun j q hq => ?_⟩
  by_cases h : i = j
  · subst h
    by_cases hl : i < ρ.length
    · rw [List.getElem?_set_self hl] at hq
      cases hq
      exact ⟨v, by rw [List.getElem?_set_self (by rw [← e.len]; exact hl)], r⟩
    · rw [List.getElem?_eq_none (by rw [List.length_set]; omega)] at hq
      cases hq
  · rw [List.getElem?_set_ne h] at hq
    obtain ⟨w, h1, h2⟩ := e.at_ j q hq
    exact ⟨w, by rw [List.getElem?_set_ne h]; exact h1, h2⟩
theorem wipeE_at (j : Nat) (p : PV) : ∀ (own : List Nat), (wipeE ρ own)[j]? = some (some p) → ρ[j]? = some (some p) ∧ j ∉ own
  | [], h => ⟨h, by simp⟩
  | v :: vs, h => by
    unfold wipeE at h
    by_cases e : v = j
    · subst e
      by_cases hl : v < (wipeE ρ vs).length
      · rw [List.getElem?_set_self hl] at h; cases h
      · rw [List.getElem?_eq_none (by rw [List.length_set]; omega)] at h; cases h
    · rw [List.getElem?_set_ne e] at h
      obtain ⟨h1, h2⟩ := wipeE_at j p vs h
      exact ⟨h1, by simp only [List.mem_cons, not_or]; exact ⟨fun z => e z.symm, h2⟩⟩
theorem wipeE_len : ∀ own : List Nat, (wipeE ρ own).length = ρ.length
  | [] => rfl
  | v :: vs => by unfold wipeE; rw [List.length_set, wipeE_len vs]
theorem ERel.wipe (e : ERel K L H ρ σ) (own : List Nat) : ERel K L H (wipeE ρ own) (wipe σ own) := by
  refine ⟨by rw [wipeE_len, wipe_length, e.len], fun j p h => ?_⟩
  obtain ⟨h1, h2⟩ := wipeE_at j p own h
  obtain ⟨v, h3, h4⟩ := e.at_ j p h1
  exact ⟨v, by rw [wipe_at, if_neg fun z => h2 z.1]; exact h3, h4⟩
theorem names_ok : ∀ {is : List Nat} {l : List D} {vs : List V} {ρ : Env} {σ : St} {Q : St → Hp → Prop}, setAll ρ is l = some ρ' → Reps K L H l vs → ERel K L H ρ σ →
    (∀ σ', ERel K L H ρ' σ' → (∀ own : List Nat, (∀ i ∈ is, i ∈ own) → L2.wipe σ' own = L2.wipe σ own) → Q σ' H) → gNames is vs σ H Q
  | [], [], _, ρ, σ, Q, h, .nil, e, c => by
    cases h
    exact ⟨rfl, c σ e fun _ _ => rfl⟩
  | [], _ :: _, _, _, _, _, h, _, _, _ => by cases h
  | i :: is, [], _, _, _, _, h, _, _, _ => by cases h
  | i :: is, x :: xs, _, ρ, σ, Q, h, .cons r t, e, c => by
    refine ⟨_, _, rfl, ?_⟩
    exact names_ok (is := is) h t (e.set i r) fun σ' e' w => c σ' e' fun own ho => by
      rw [w own fun j hj => ho j (List.mem_cons_of_mem _ hj)]
      exact wipe_set (ho i List.mem_cons_self)
theorem tg_ok {many : Bool} {tg : List Nat} {x : D} {v : V} {Q : St → Hp → Prop} (h : bindT many tg x ρ = some ρ') (r : Rep K L H x v) (e : ERel K L H ρ σ)
    (c : ∀ σ', ERel K L H ρ' σ' → (∀ own : List Nat, (∀ i ∈ tg, i ∈ own) → L2.wipe σ' own = L2.wipe σ own) → Q σ' H) : tgOf K many tg v σ H Q := by
  cases many with
  | false =>
    cases tg with
    | nil => cases h
    | cons i is =>
      cases is with
      | cons _ _ => cases h
      | nil =>
        have h' : some (ρ.set i (some (.d x))) = some ρ' := h
        cases h'
        exact c _ (e.set i (p := .d x) r) fun own ho => wipe_set (ho i List.mem_cons_self)
  | true =>
    cases x with
    | tup l =>
      have h' : setAll ρ tg l = some ρ' := h
      obtain ⟨a, vs, rfl, q, z⟩ := (Rep.w r).sqT
      have len : ∀ {is : List Nat} {l : List D} {ρ : Env}, setAll ρ is l = some ρ' → is.length = l.length := fun {is} => by
        induction is with
        | nil => intro l ρ h; cases l <;> first | rfl | cases h
        | cons i is ih => intro l ρ h; cases l with
          | nil => cases h
          | cons x xs => exact congrArg Nat.succ (ih h)
      exact ⟨a, vs, rfl, q, by rw [← z.length]; exact (len h').symm, names_ok h' z e c⟩
    | _ => cases h
end

/-! ### a list made item by item -/
/-- the list D is just being made: it is known by its place -/
structure EvD (D : Addr) (L : Plc) (H : Hp) (L' : Plc) (H' : Hp) : Prop where
  len : L.c.length ≤ L'.c.length
  get : ∀ (k : Nat) (x : Option Addr), L.c[k]? = some x → L'.c[k]? = some x ∨ L'.c[k]? = some none
  keep : ∀ a o, H a = some o → some a ∉ L.c → H' a = some o
  new : ∀ a, some a ∈ L'.c → some a ∈ L.c ∨ H a = none
  hid : L'.h = D :: L.h
def rm (H : Hp) (D : Addr) : Hp := fun a => if a = D then none else H a
theorem rm_ne {H : Hp} {D a : Addr} (h : a ≠ D) : rm H D a = H a := by unfold rm; rw [if_neg h]
theorem rm_same {H : Hp} {D : Addr} : rm H D D = none := by unfold rm; rw [if_pos rfl]
theorem upd_rm {H : Hp} {D : Addr} {o : HO} (h : H D = some o) : upd (rm H D) D o = H := by
  funext a
  by_cases e : a = D
  · subst e; rw [upd_same, h]
  · rw [upd_ne e, rm_ne e]
section
variable {K : PySem.W.Frag} {L L1 L2 : Plc} {H H1 H2 : Hp} {D : Addr} {s1 s2 : CS}
theorem EvD.start (h : H D = none) (o : HO) : EvD D L H ⟨L.c, D :: L.h⟩ (upd H D o) :=
  ⟨Nat.le_refl _, fun _ _ z => .inl z, fun a u e _ => same_upd h a u e, fun _ z => .inl z, rfl⟩
theorem EvD.ev (a : EvD D L H L1 H1) (b : Ev L1 H1 L2 H2) : EvD D L H L2 H2 where
  len := Nat.le_trans a.len b.len
  get := fun k x h => by
    rcases a.get k x h with e | e
    · exact b.get k x e
    · rcases b.get k none e with e | e <;> exact .inr e
  keep := fun c o h n => b.keep c o (a.keep c o h n) fun m => by
    rcases a.new c m with z | z
    · exact n z
    · rw [h] at z; cases z
  new := fun c m => by
    rcases b.new c m with z | z
    · exact a.new c z
    · by_cases hc : some c ∈ L.c
      · exact .inl hc
      · cases e : H c with
        | none => exact .inr rfl
        | some o => rw [a.keep c o e hc] at z; cases z
  hid := b.hid.trans a.hid
theorem EvD.grow (a : EvD D L H L1 H1) (hD : H D = none) (o : HO) : EvD D L H L1 (upd H1 D o) :=
  ⟨a.len, a.get, fun c u h n => by rw [upd_ne (ne_of_none h hD)]; exact a.keep c u h n, a.new, a.hid⟩
theorem EvD.mv (a : EvD D L H L1 H1) (hD : H D = none) : Mv L H L1 H1 := ⟨a.len, a.get, fun c o h n => ⟨a.keep c o h fun z => n (.inl z), fun m => by
  rcases m with m | m
  · rcases a.new c m with z | z
    · exact n (.inl z)
    · rw [h] at z; cases z
  · rw [a.hid] at m
    rcases List.mem_cons.mp m with z | z
    · subst z; rw [hD] at h; cases h
    · exact n (.inr z)⟩⟩
theorem EvD.out (a : EvD D L H L1 H1) (hD : H D = none) : Ev L H ⟨L1.c, L.h⟩ (rm H1 D) :=
  ⟨a.len, a.get, fun c o h n => by rw [rm_ne (ne_of_none h hD)]; exact a.keep c o h n, a.new, rfl⟩
theorem rm_stay (a : EvD D L H L1 H1) : ∀ b o, H1 b = some o → ¬ L1.has b → rm H1 D b = some o ∧ ¬ Plc.has ⟨L1.c, L.h⟩ b := fun b o e n => by
  have hb : b ≠ D := fun z => n (.inr (by rw [a.hid, z]; exact List.mem_cons_self))
  refine ⟨by rw [rm_ne hb]; exact e, fun m => n ?_⟩
  rcases m with m | m
  · exact .inl m
  · exact .inr (by rw [a.hid]; exact List.mem_cons_of_mem _ m)
theorem EvD.srel (a : EvD D L H L1 H1) (hD : H D = none) (s : SRel K L H s1) (q : SRel K L1 H1 s2) : SRel K ⟨L1.c, L.h⟩ (rm H1 D) s2 := by
  refine ⟨q.len, fun k c x h1 h2 => ?_, q.inj, fun b hb => ⟨?_, ?_⟩⟩
  · have z := q.cell k c x h1 h2
    cases c with
    | lst l => cases x with
      | none => exact z
      | some p =>
        obtain ⟨vs, e, r⟩ := z
        have hp : p ≠ D := fun w => by
          have m := (q.hid D (by rw [a.hid]; exact List.mem_cons_self)).2
          have h2' : L1.c[k]? = some (some p) := h2
          rw [w] at h2'
          exact m (List.mem_of_getElem? h2')
        exact ⟨vs, by rw [rm_ne hp]; exact e, r.map (rm_stay a)⟩
    | dead => cases x <;> exact z
  · have n := (s.hid b hb).1
    have hbD : b ≠ D := fun z => n (by rw [z]; exact hD)
    rw [rm_ne hbD]
    exact (q.hid b (by rw [a.hid]; exact List.mem_cons_of_mem _ hb)).1
  · exact (q.hid b (by rw [a.hid]; exact List.mem_cons_of_mem _ hb)).2
/-- the list grows -/
theorem EvD.srel_grow (a : EvD D L H L1 H1) (q : SRel K L1 H1 s2) (o : HO) : SRel K L1 (upd H1 D o) s2 := by
  have mD : D ∈ L1.h := by rw [a.hid]; exact List.mem_cons_self
  refine ⟨q.len, fun k c x h1 h2 => ?_, q.inj, fun b hb => ⟨?_, (q.hid b hb).2⟩⟩
  · have z := q.cell k c x h1 h2
    cases c with
    | lst l => cases x with
      | none => exact z
      | some p =>
        obtain ⟨vs, e, r⟩ := z
        have hp : p ≠ D := fun w => by
          have h2' : L1.c[k]? = some (some p) := h2
          rw [w] at h2'
          exact (q.hid D mD).2 (List.mem_of_getElem? h2')
        exact ⟨vs, by rw [upd_ne hp]; exact e, r.map fun b u e n => ⟨by rw [upd_ne fun w => n (.inr (by rw [w]; exact mD))]; exact e, n⟩⟩
    | dead => cases x <;> exact z
  · by_cases e : b = D
    · rw [e, upd_same]; exact fun z => nomatch z
    · rw [upd_ne e]; exact (q.hid b hb).1
theorem grow_stay (mD : D ∈ L1.h) (o : HO) : ∀ b u, H1 b = some u → ¬ L1.has b → upd H1 D o b = some u ∧ ¬ L1.has b := fun b u e n =>
  ⟨by rw [upd_ne fun w => n (.inr (by rw [w]; exact mD))]; exact e, n⟩
end
theorem tI_bind {K : PySem.W.Frag} {L : Plc} {H : Hp} {st : CS} {ρ : Env} {σ : St} {β : Type} {O : Plc → Hp → R β → Prop} {m : Env → CS → R (List D)} {k : List D → CS → R β} {Q1 : L2.It → Hp → Prop} (F : Fam O) (s : SRel K L H st) (e : ERel K L H ρ σ) (h : O L H ((m ρ st).bind k))
    (c : ∀ (J : L2.It) (H1 : Hp) (L1 : Plc) (s1 : CS) (ds : List D), Ev L H L1 H1 → SRel K L1 H1 s1 → ERel K L1 H1 ρ σ → Walk K J L1 H1 ds → O L1 H1 (k ds s1) → Q1 J H1) : tI K m σ H Q1 := by
  refine ⟨L, ρ, st, s, e, ?_⟩
  cases r : m ρ st with
  | bad => rw [r] at h; exact (F.bad h).elim
  | ok p s1 =>
    rw [r] at h
    exact fun L1 H1 v1 s2 J w => c J H1 L1 s1 p v1 s2 (e.ev v1) w (F.ev v1 h)
/-- tests of a clause -/
def tIfs (K : PySem.W.Frag) (m : Env → CS → R Bool) : TT := fun σ H Q => ∃ L ρ st, SRel K L H st ∧ ERel K L H ρ σ ∧ OutB K Q L H (m ρ st)
theorem tB_bind {K : PySem.W.Frag} {L : Plc} {H : Hp} {st : CS} {ρ : Env} {σ : St} {β : Type} {O : Plc → Hp → R β → Prop} {m : Env → CS → R Bool} {k : Bool → CS → R β} {Q1 : Bool → Hp → Prop} (F : Fam O) (s : SRel K L H st) (e : ERel K L H ρ σ) (h : O L H ((m ρ st).bind k))
    (c : ∀ (b : Bool) (H1 : Hp) (L1 : Plc) (s1 : CS), Ev L H L1 H1 → SRel K L1 H1 s1 → ERel K L1 H1 ρ σ → O L1 H1 (k b s1) → Q1 b H1) : tIfs K m σ H Q1 := by
  refine ⟨L, ρ, st, s, e, ?_⟩
  cases r : m ρ st with
  | bad => rw [r] at h; exact (F.bad h).elim
  | ok p s1 =>
    rw [r] at h
    exact fun L1 H1 v1 s2 => c p H1 L1 s1 v1 s2 (e.ev v1) (F.ev v1 h)
abbrev SIfs (X : L2.Cx) (C : Cl) (xs : List Expr) (es : Es) : Prop := PTs X xs (tIfs X.K (evIfs C es))
section
variable {X : L2.Cx} {C : Cl} {c : Expr} {ec : E}
theorem sIfs_nil : SIfs X C [] .nil := ⟨fun pins s σ H Q I h => pts_nil.run pins s σ H Q I (by
  obtain ⟨L, ρ, st, q, e, o⟩ := h
  simp only [evIfs] at o
  exact o L H (.refl _ _) q)⟩
theorem sIfs_one (hc : ST X C c ec) : SIfs X C [c] (.cons ec .nil) := ⟨fun pins s σ H Q I h => (pts_one hc).run pins s σ H Q I (by
  obtain ⟨L, ρ, st, q, e, o⟩ := h
  simp only [evIfs] at o
  refine tT_bind (O := OutB X.K Q) (k := fun b s1 => .ok b s1) OutG.fam q e ?_ fun b H1 L1 s1 v1 q1 e1 o1 => o1 L1 H1 (.refl _ _) q1
  cases r : evE C ec ρ st with
  | bad => rw [r] at o; exact o
  | ok p s1 =>
    rw [r] at o
    simp only [R.bind] at o ⊢
    cases h : (p.rd s1).bind truth with
    | none => rw [h] at o; exact o
    | some b => rw [h] at o; cases b <;> exact o)⟩
end
/-- the end of a list being made at D, from the place L and the heap H -/
def OutC (K : PySem.W.Frag) (D : Addr) (Q : VK) (L : Plc) (H : Hp) : R (List PD.D) → Prop
  | .ok l s' => ∀ L' H' vs, EvD D L H L' H' → SRel K L' H' s' → H' D = some (.lst vs) → Reps K L' H' l vs → Q (.ref D) H'
  | .bad => False
theorem OutC.fam {K : PySem.W.Frag} {D : Addr} {Q : VK} {L : Plc} {H : Hp} : Fam (fun (_ : Plc) (_ : Hp) (r : R (List PD.D)) => OutC K D Q L H r) := ⟨fun _ o => o, fun o => o⟩
theorem OutC.of_new {K : PySem.W.Frag} {D : Addr} {Q : VK} {L : Plc} {H : Hp} {st : CS} {r : R (List PD.D)} (hD : H D = none) (s : SRel K L H st) (o : OutN K Q L H (r.bind fun l s2 => .ok (.d (.lst l)) s2)) : OutC K D Q L H r := by
  cases r with
  | bad => exact o
  | ok l s' =>
    intro L' H' vs e q h rs
    have o' := o ⟨L'.c, L.h⟩ (rm H' D) vs (e.out hD) (e.srel hD s q) (rs.map (rm_stay e)) D rm_same
    rw [upd_rm h] at o'
    exact o'
theorem isL_comp {C : Cl} {ee : E} {it : It} {many : Bool} {tgs : List Nat} {ies : Es} {own : List Nat} (ρ : Env) (s : CS) : IsL (evE C (.comp ee tgs many it ies own) ρ s) := by
  simp only [evE]
  cases evIt C it ρ s with
  | bad => exact trivial
  | ok ds s1 =>
    simp only [R.bind]
    cases compGo (fun ρ s => evE C ee ρ s) (fun ρ s => evIfs C ies ρ s) many tgs (wipeE ρ own) ds [] s1 <;> exact trivial
theorem comp_reads {X : L2.Cx} {C : Cl} {own : List (Str × Nat)} {ee : E} {it : It} {many : Bool} {tgs : List Nat} {ies : Es} (hsub : ∀ i ∈ tgs, i ∈ own.map (·.2)) {σ : St} {H : Hp} {Q : VK}
    (h : tN X.K (evE C (.comp ee tgs many it ies (own.map (·.2)))) σ H Q) : tLc (tI X.K (evIt C it)) (tgOf X.K many tgs) (tIfs X.K (evIfs C ies)) (tM X.K (evE C ee)) (own.map (·.2)) σ H Q := by
    obtain ⟨L, ρ, st, s, e, o⟩ := h
    simp only [evE] at o
    refine tI_bind (O := OutN X.K Q) OutN.fam s e o fun J H1 L1 s1 ds v1 q1 e1 w1 o1 => ?_
    intro D hD
    have o2 := OutC.of_new hD q1 o1
    refine ⟨fun i m H2 => m = ds.length - i ∧ i ≤ ds.length ∧ ∃ L2 s2 acc vs, EvD D L1 H1 L2 H2 ∧ SRel X.K L2 H2 s2 ∧ H2 D = some (.lst vs) ∧ Reps X.K L2 H2 acc vs ∧
      OutC X.K D Q L1 H1 (compGo (fun ρ s => evE C ee ρ s) (fun ρ s => evIfs C ies ρ s) many tgs (wipeE ρ (own.map (·.2))) (ds.drop i) acc s2), ⟨ds.length, by simp, Nat.zero_le _, ⟨L1.c, D :: L1.h⟩, s1, [], [], EvD.start hD _, ?_, upd_same, .nil, o2⟩, ?_⟩
    · refine ⟨q1.len, fun k c x h1 h2 => ?_, q1.inj, fun b hb => ⟨?_, ?_⟩⟩
      · have z := q1.cell k c x h1 h2
        cases c with
        | lst l => cases x with
          | none => exact z
          | some p =>
            obtain ⟨vs, e, r⟩ := z
            refine ⟨vs, same_upd hD _ _ e, r.map fun b u eb nb => ⟨same_upd hD _ _ eb, fun m => ?_⟩⟩
            rcases m with m | m
            · exact nb (.inl m)
            · rcases List.mem_cons.mp m with z | z
              · rw [z, hD] at eb; cases eb
              · exact nb (.inr z)
        | dead => cases x <;> exact z
      · rcases List.mem_cons.mp hb with z | z
        · rw [z, upd_same]; exact fun z => nomatch z
        · have n := (q1.hid b z).1
          rw [upd_ne fun w => n (by rw [w]; exact hD)]
          exact n
      · rcases List.mem_cons.mp hb with z | z
        · rw [z]
          exact fun m => q1.free hD (.inl m)
        · exact (q1.hid b z).2
    · rintro i m H2 ⟨rfl, hi2, L2, s2, acc, vs, ev, q2, hDl, ra, o3⟩
      by_cases hlt : i < ds.length
      · right
        have hd : ds[i]? = some ds[i] := by simp [hlt]
        obtain ⟨go, yl⟩ := w1.go L2 H2 s2 i _ (ev.mv hD) q2 hd
        refine ⟨go, fun H3 => i < ds.length ∧ ∃ L3 s3 acc vs, EvD D L1 H1 L3 H3 ∧ SRel X.K L3 H3 s3 ∧ H3 D = some (.lst vs) ∧ Reps X.K L3 H3 acc vs ∧
          OutC X.K D Q L1 H1 (compGo (fun ρ s => evE C ee ρ s) (fun ρ s => evIfs C ies ρ s) many tgs (wipeE ρ (own.map (·.2))) (ds.drop (i + 1)) acc s3), fun H3 h3 => ⟨ds.length - (i + 1), by omega, rfl, hlt, h3.2⟩, fun x H3 hy => ?_⟩
        obtain ⟨sm, rx⟩ := yl x H3 hy
        have q3 := q2.same sm
        have ev3 := ev.ev (Ev.same (L := L2) sm)
        have hD3 := sm _ _ hDl
        have ra3 := ra.ev (Ev.same (L := L2) sm)
        rw [List.drop_eq_getElem_cons hlt] at o3
        simp only [compGo] at o3
        cases hb : bindT many tgs ds[i] (wipeE ρ (own.map (·.2))) with
        | none => rw [hb] at o3; exact o3.elim
        | some ρ' =>
          rw [hb] at o3
          have e3 : ERel X.K L2 H3 (wipeE ρ (own.map (·.2))) (wipe σ (own.map (·.2))) := (e1.mv ((ev3.mv hD))).wipe _
          refine tg_ok hb rx e3 fun σ' e' w' => ?_
          refine ⟨?_, ?_⟩
          · rw [w' (own.map (·.2)) hsub]
            refine List.ext_getElem? fun j => ?_
            rw [wipe_at, wipe_at, wipe_length]
            by_cases hj : j ∈ own.map (·.2) ∧ j < σ.length
            · rw [if_pos hj, if_pos hj]
            · rw [if_neg hj]
          · refine tB_bind (O := fun _ _ r => OutC X.K D Q L1 H1 r) OutC.fam q3 e' o3 fun b H4 L4 s4 v4 q4 e4 o4 => ?_
            cases b with
            | false =>
              simp only [Bool.false_eq_true, if_false] at o4 ⊢
              exact ⟨hlt, L4, s4, acc, vs, ev3.ev v4, q4, v4.keep _ _ hD3 (fun z => (q3.hid D (by rw [ev3.hid]; exact List.mem_cons_self)).2 z), ra3.ev v4, o4⟩
            | true =>
              simp only [if_true] at o4 ⊢
              refine tM_bind (O := fun _ _ r => OutC X.K D Q L1 H1 r) OutC.fam q4 e4 o4 fun y H5 L5 s5 p v5 q5 e5 r5 o5 => ?_
              have ev5 := (ev3.ev v4).ev v5
              have mD5 : D ∈ L5.h := by rw [ev5.hid]; exact List.mem_cons_self
              have mD4 : D ∈ L4.h := by rw [(ev3.ev v4).hid]; exact List.mem_cons_self
              have mD3 : D ∈ L2.h := by rw [ev3.hid]; exact List.mem_cons_self
              have hD4 := v4.keep _ _ hD3 (fun z => (q3.hid D mD3).2 z)
              have hD5 := v5.keep _ _ hD4 (fun z => (q4.hid D mD4).2 z)
              have ra5 := (ra3.ev v4).ev v5
              cases p with
              | d z =>
                by_cases hz : acc.length < sizeLine
                · simp only [if_pos hz] at o5
                  refine ⟨vs, hD5, by rw [← ra5.length]; exact hz, hlt, L5, s5, acc ++ [z], vs ++ [y], ev5.grow hD _, ev5.srel_grow q5 _, upd_same, ?_, o5⟩
                  exact (ra5.append (.cons r5 .nil)).map (grow_stay mD5 _)
                · simp only [if_neg hz] at o5; exact o5.elim
              | _ => exact o5.elim
      · left
        have hi' : i = ds.length := by omega
        refine ⟨w1.stop L2 H2 i (ev.mv hD) (by omega), ?_⟩
        subst hi'
        rw [List.drop_length] at o3
        exact o3 L2 H2 vs ev q2 hDl ra
section
variable {X : L2.Cx} {C : Cl} {elt tg iter : Expr} {ifs : List Expr} {scope : Scope} {own : List (Str × Nat)} {pos : Pos} {ee : E} {it : It} {many : Bool} {tgs : List Nat} {ies : Es}
theorem sN_comp (hc : X.calm = true) (hN : X.N.Nodup) (hi : SI X C tg iter it) (ok : BlkOk X.N X.env.scope scope own) (hsub : ∀ i ∈ tgs, i ∈ own.map (·.2))
    (hg : ∀ (s : Shared) (H : Hp) (Ca : Addr) (cl : List (Str × Addr)) (fp : List Addr), PG (X.blk s H scope (compEnvC scope cl Ca X.env) fp) tg (tgOf X.K many tgs))
    (ht : ∀ (s : Shared) (H : Hp) (Ca : Addr) (cl : List (Str × Addr)) (fp : List Addr), SIfs (X.blk s H scope (compEnvC scope cl Ca X.env) fp) C ifs ies)
    (he : ∀ (s : Shared) (H : Hp) (Ca : Addr) (cl : List (Str × Addr)) (fp : List Addr), SE (X.blk s H scope (compEnvC scope cl Ca X.env) fp) C elt ee)
    (hs : plainX iter = true) : SN X C (.ListComp elt [⟨tg, iter, ifs, 0⟩] scope pos) (.comp ee tgs many it ies (own.map (·.2))) :=
  pe_imp (pe_lc hc hN hi ok hg ht he (folded_plain hs X.env)) fun σ H Q h => comp_reads hsub h
/-- name = [..] on one line -/
theorem ps_comp {i : Nat} {y : Str} {py spos : Pos} (hc : X.calm = true) (hN : X.N.Nodup) (hy : X.N[i]? = some y) (hyl : X.env.scope.names.lookup y = some .local)
    (hsw : swapsWith (.ListComp elt [⟨tg, iter, ifs, 0⟩] scope pos) (some (.Name y py)) spos.line X.env = pure true) (hi : SI X C tg iter it) (ok : BlkOk X.N X.env.scope scope own) (hsub : ∀ i ∈ tgs, i ∈ own.map (·.2))
    (hg : ∀ (s : Shared) (H : Hp) (Ca : Addr) (cl : List (Str × Addr)) (fp : List Addr), PG (X.blk s H scope (compEnvC scope cl Ca X.env) fp) tg (tgOf X.K many tgs))
    (ht : ∀ (s : Shared) (H : Hp) (Ca : Addr) (cl : List (Str × Addr)) (fp : List Addr), SIfs (X.blk s H scope (compEnvC scope cl Ca X.env) fp) C ifs ies)
    (he : ∀ (s : Shared) (H : Hp) (Ca : Addr) (cl : List (Str × Addr)) (fp : List Addr), SE (X.blk s H scope (compEnvC scope cl Ca X.env) fp) C elt ee)
    (hs : plainX iter = true) : PS X (.Assign [.Name y py] (.ListComp elt [⟨tg, iter, ifs, 0⟩] scope pos) spos) (tAsg (tN X.K (evE C (.comp ee tgs many it ies (own.map (·.2))))) (gName i)) :=
  ⟨fun pins s σ H D I h => (ps_setLc hc hN hy hyl hsw hi ok hg ht he (folded_plain hs X.env)).run pins s σ H D I (comp_reads (X := X) hsub h)⟩
end
end PD

set_option Elab.async false
set_option linter.all false
set_option autoImplicit false
set_option maxRecDepth 100000
/-! PdI: statements. -/
namespace PD
open PySem PySem.Spec L2

def OutS (K : PySem.W.Frag) (D : Ends) (L : Plc) (H : Hp) : R Fl → Prop
  | .ok (.nx ρ) st' => ∀ L' H' σ', Ev L H L' H' → SRel K L' H' st' → ERel K L' H' ρ σ' → D.nx σ' H'
  | .ok (.rt p) st' => ∀ L' H' v, Ev L H L' H' → SRel K L' H' st' → RepP K L' H' p v → D.rt v H'
  | .bad => False
theorem OutS.fam {K : PySem.W.Frag} {D : Ends} : Fam (OutS K D) where
  ev := fun {L L' H H' r} e o => by
    cases r with
    | ok f st => cases f with
      | nx ρ => exact fun L2 H2 σ' e2 => o L2 H2 σ' (e.trans e2)
      | rt p => exact fun L2 H2 v e2 => o L2 H2 v (e.trans e2)
    | bad => exact o
  bad := fun o => o
def tS (K : PySem.W.Frag) (m : Env → CS → R Fl) : TS := fun D σ H => ∃ L ρ st, SRel K L H st ∧ ERel K L H ρ σ ∧ OutS K D L H (m ρ st)
abbrev SS (X : L2.Cx) (C : Cl) (x : Stmt) (s : S) : Prop := PS X x (tS X.K (exS C s))
abbrev SSs (X : L2.Cx) (C : Cl) (x : List Stmt) (s : Ss) : Prop := PSs X x (tS X.K (exSs C s))
theorem ps_imp {X : L2.Cx} {x : Stmt} {t u : TS} (h : PS X x t) (i : ∀ (D : Ends) (σ : St) (H : Hp), u D σ H → t D σ H) : PS X x u :=
  ⟨fun pins s σ H D I q => h.run pins s σ H D I (i D σ H q)⟩
theorem pss_imp {X : L2.Cx} {x : List Stmt} {t u : TS} (h : PSs X x t) (i : ∀ (D : Ends) (σ : St) (H : Hp), u D σ H → t D σ H) : PSs X x u :=
  ⟨fun pins s σ H D I q => h.run pins s σ H D I (i D σ H q)⟩

/-- a changeable list is changed -/
theorem SRel.put {K : PySem.W.Frag} {L : Plc} {H : Hp} {st : CS} {k : Nat} {l l' : List D} {p : Addr} {vs ws : List V} (s : SRel K L H st) (hk : st[k]? = some (.lst l)) (hp : L.c[k]? = some (some p)) (hv : H p = some (.lst vs)) (r : Reps K L H l' ws) :
    Ev L H L (upd H p (.lst ws)) ∧ SRel K L (upd H p (.lst ws)) (st.set k (.lst l')) := by
  have mp : some p ∈ L.c := List.mem_of_getElem? hp
  have stay : ∀ b u, H b = some u → ¬ L.has b → upd H p (.lst ws) b = some u ∧ ¬ L.has b := fun b u e n => ⟨by rw [upd_ne fun z => n (.inl (by rw [z]; exact mp))]; exact e, n⟩
  refine ⟨⟨Nat.le_refl _, fun _ _ z => .inl z, fun a u e n => by rw [upd_ne fun z => n (by rw [z]; exact mp)]; exact e, fun _ z => .inl z, rfl⟩, by rw [List.length_set]; exact s.len, fun j c x h1 h2 => ?_, s.inj, fun a ha => ⟨?_, (s.hid a ha).2⟩⟩
  · by_cases e : k = j
    · subst e
      rw [hp] at h2
      cases h2
      rw [List.getElem?_set_self (List.getElem?_eq_some_iff.mp hk).1] at h1
      cases h1
      exact ⟨ws, upd_same, r.map stay⟩
    · rw [List.getElem?_set_ne e] at h1
      have z := s.cell j c x h1 h2
      cases c with
      | lst m => cases x with
        | none => exact z
        | some q =>
          obtain ⟨us, e1, e2⟩ := z
          have hq : q ≠ p := fun w => by
            subst w
            exact e (s.inj _ _ _ hp h2)
          exact ⟨us, by rw [upd_ne hq]; exact e1, e2.map stay⟩
      | dead => cases x <;> exact z
  · by_cases e : a = p
    · rw [e, upd_same]; exact fun z => nomatch z
    · rw [upd_ne e]; exact (s.hid a ha).1

def notComp : Expr → Bool
  | .ListComp _ _ _ _ => false
  | .SetComp _ _ _ _ => false
  | .DictComp _ _ _ _ _ => false
  | _ => true
theorem swaps_plain {e : Expr} (h : notComp e = true) (t : Option Expr) (l : Nat) (env : PySem.Env) : swapsWith e t l env = pure false := by
  cases e <;> first | rfl | cases h
section
variable {X : L2.Cx} {C : Cl} {a b c x : Expr} {ea eb ec : E} {pos p : Pos} {n : Str} {i : Nat}

theorem asg_reads {t : TE} (imp : ∀ (σ : St) (H : Hp) (Q : VK), tM X.K (evE C ea) σ H Q → t σ H Q) {D : Ends} {σ : St} {H : Hp} (h : tS X.K (exS C (.asg i ea)) D σ H) : tAsg t (gName i) D σ H := by
  obtain ⟨L, ρ, st, s, e, o⟩ := h
  simp only [exS] at o
  exact imp _ _ _ (tM_bind (O := OutS X.K D) OutS.fam s e o fun v H1 L1 s1 p v1 q1 e1 r1 o1 => o1 L1 H1 _ (.refl _ _) q1 (e1.set i r1))
theorem sS_asg (hN : X.N.Nodup) (hi : X.N[i]? = some n) (hx : Loc X.env.scope n) (hf : X.fn n = true ∨ X.env.scope.names.lookup n = some .local) (hc : notComp a = true) (ha : SE X C a ea) : SS X C (.Assign [.Name n p] a pos) (.asg i ea) :=
  ps_imp (ps_set hN hi hx ha (swaps_plain hc _ _ _) hf) fun D σ H h => asg_reads (fun _ _ _ h => h) h
/-- a comprehension that is stored by the way -/
theorem sS_asgC {t : TE} (h : PS X (.Assign [.Name n p] a pos) (tAsg t (gName i))) (imp : ∀ (σ : St) (H : Hp) (Q : VK), tM X.K (evE C ea) σ H Q → t σ H Q) : SS X C (.Assign [.Name n p] a pos) (.asg i ea) :=
  ps_imp h fun D σ H h => asg_reads imp h

/-! ### several names -/
theorem names_okP {K : PySem.W.Frag} {L : Plc} {H : Hp} {ρ' : Env} : ∀ {is : List Nat} {ps : List PV} {vs : List V} {ρ : Env} {σ : St} {Q : St → Hp → Prop}, setAllP ρ is ps = some ρ' → RepPs K L H ps vs → ERel K L H ρ σ →
    (∀ σ', ERel K L H ρ' σ' → Q σ' H) → gNames is vs σ H Q
  | [], [], _, ρ, σ, Q, h, .nil, e, c => by
    cases h
    exact ⟨rfl, c σ e⟩
  | [], _ :: _, _, _, _, _, h, _, _, _ => by cases h
  | i :: is, [], _, _, _, _, h, _, _, _ => by cases h
  | i :: is, x :: xs, _, ρ, σ, Q, h, .cons r t, e, c => ⟨_, _, rfl, names_okP (is := is) h t (e.set i r) c⟩
theorem setAllP_len : ∀ {is : List Nat} {ps : List PV} {ρ ρ' : Env}, setAllP ρ is ps = some ρ' → is.length = ps.length
  | [], [], _, _, _ => rfl
  | [], _ :: _, _, _, h => by cases h
  | _ :: _, [], _, _, h => by cases h
  | _ :: is, _ :: xs, _, _, h => congrArg Nat.succ (setAllP_len (is := is) (ps := xs) h)
theorem setAll_P : ∀ {is : List Nat} {l : List D} {ρ : Env}, setAll ρ is l = setAllP ρ is (l.map PV.d)
  | [], [], _ => rfl
  | [], _ :: _, _ => rfl
  | _ :: _, [], _ => rfl
  | i :: is, x :: xs, ρ => setAll_P (is := is) (l := xs)
/-- a target of names, a value of any kind that is a tuple of data -/
theorem sS_asgT {tg : Expr} {is : List Nat} (hg : PG X tg (gTup X.K is.length (gNames is))) (hc : notComp a = true) (hw : swappedStores [tg] a X.env = pure none) (h1 : (assignEach [tg] X.env).map (·.2) = [assign tg X.env]) (ha : SE X C a ea) : SS X C (.Assign [tg] a pos) (.asgT is ea) :=
  ps_imp (ps_asg ha hg (swaps_plain hc _ _ _) hw h1) fun D σ H ⟨L, ρ, st, s, e, o⟩ => by
    simp only [exS] at o
    refine tM_bind (O := OutS X.K D) OutS.fam s e o fun v H1 L1 s1 p v1 q1 e1 r1 o1 => ?_
    cases p with
    | d x => cases x with
      | tup l =>
        simp only at o1
        cases h : setAll ρ is l with
        | none => rw [h] at o1; exact o1.elim
        | some ρ' =>
          rw [h] at o1
          obtain ⟨a', vs, rfl, e2, z⟩ := (Rep.w r1).sqT
          have h' := h
          rw [setAll_P] at h'
          refine ⟨a', vs, rfl, e2, by rw [← z.length, setAllP_len h', List.length_map], ?_⟩
          exact names_ok h z e1 fun σ' e' _ => o1 L1 H1 σ' (.refl _ _) q1 e'
      | _ => exact o1.elim
    | _ => exact o1.elim
/-- a, b = x, y: by way of a tuple -/
theorem sS_asg2 {tg : Expr} {is : List Nat} {xs : List Expr} {es : Es} {k : Nat} {p2 : Pos} (hg : PG X tg (gTup X.K is.length (gNames is))) (hz : is.length ≤ 100) (hw : swappedStores [tg] (.Tuple xs k p2) X.env = pure none) (h1 : (assignEach [tg] X.env).map (·.2) = [assign tg X.env]) (ha : SA X C xs es) :
    SS X C (.Assign [tg] (.Tuple xs k p2) pos) (.asg2 is es) :=
  ps_imp (ps_asg (pe_tup ha) hg rfl hw h1) fun D σ H ⟨L, ρ, st, s, e, o⟩ => by
    simp only [exS] at o
    refine tA_bind (O := OutS X.K D) OutS.fam s e o fun vs H1 L1 s1 ps v1 q1 e1 r1 o1 => ?_
    cases h : setAllP ρ is ps with
    | none => rw [h] at o1; exact o1.elim
    | some ρ' =>
      rw [h] at o1
      have hl := setAllP_len h
      refine ⟨by rw [← r1.len, ← hl]; exact Nat.le_trans hz (by decide), fun q hq => ⟨q, vs, rfl, .of upd_same, by rw [← r1.len, hl], ?_⟩⟩
      exact names_okP h (paired_ev r1 (.same (same_upd hq))) (e1.ev (.same (same_upd hq))) fun σ' e' => o1 L1 _ σ' (.same (same_upd hq)) (q1.same (same_upd hq)) e'
/-- a, b = x, y: plain local names -/
theorem sS_asg2P {j : Nat} {y m : Str} {px py pt pt2 : Pos} {kt k2 : Nat} {es : Es} (hc : X.calm = true) (hN : X.N.Nodup) (hi : X.N[i]? = some n) (hj : X.N[j]? = some m) (hij : i ≠ j) (hx : X.env.scope.names.lookup n = some .local) (hy : X.env.scope.names.lookup m = some .local)
    (hw : swappedStores [.Tuple [.Name n px, .Name m py] kt pt] (.Tuple [a, b] k2 pt2) X.env = pure (some [n, m])) (ha : SA X C [a, b] es) : SS X C (.Assign [.Tuple [.Name n px, .Name m py] kt pt] (.Tuple [a, b] k2 pt2) pos) (.asg2 [i, j] es) :=
  ps_imp (ps_par hc hN hi hj hij hx hy ha hw) fun D σ H ⟨L, ρ, st, s, e, o⟩ => by
    simp only [exS] at o
    refine tA_bind (O := OutS X.K D) OutS.fam s e o fun vs H1 L1 s1 ps v1 q1 e1 r1 o1 => ?_
    cases r1 with
    | nil => exact o1.elim
    | @cons p1 w1 ps1 ws1 z1 z2 =>
      cases z2 with
      | nil => exact o1.elim
      | @cons p2 w2 ps2 ws2 z3 z4 =>
        cases z4 with
        | cons _ _ => exact o1.elim
        | nil => exact ⟨w1, w2, rfl, o1 L1 H1 _ (.refl _ _) q1 ((e1.set i z1).set j z3)⟩

/-! ### lists that are changed -/
theorem assign_sub {o i : Expr} (h : plainX i = true) (p : Pos) (env : PySem.Env) (v : Value) : assign (.Subscript o i p) env v = (do
      let ov ← holding [v] (eval o env)
      let iv ← holding [v, ov] (eval i env)
      standAt p
      holding [v, ov, iv] (setItem ov iv v)
      release [v, ov, iv] []) := by
  cases i <;> first | rfl | cases h
theorem sS_setI (hc : notComp x = true) (hp : plainX b = true) (ha : SE X C a ea) (hb : SE X C b eb) (hx : SE X C x ec) {tp : Pos} : SS X C (.Assign [.Subscript a b tp] x pos) (.setI ea eb ec) :=
  ps_imp (ps_asg hx (pg_sub ha hb set_list (fun v => assign_sub hp tp X.env v)) (swaps_plain hc (some (.Subscript a b tp)) pos.line X.env) (by cases x <;> rfl) rfl) fun D σ H ⟨L, ρ, st, s, e, o⟩ => by
    simp only [exS] at o
    refine tM_bind (O := OutS X.K D) OutS.fam s e o fun y H1 L1 s1 py v1 q1 e1 r1 o1 => ?_
    refine tM_bind (O := OutS X.K D) OutS.fam q1 e1 o1 fun w H2 L2 s2 pw v2 q2 e2 r2 o2 => ?_
    refine tM_bind (O := OutS X.K D) OutS.fam q2 e2 o2 fun z H3 L3 s3 pz v3 q3 e3 r3 o3 => ?_
    have ry := (r1.ev v2).ev v3
    have rw' := r2.ev v3
    cases pw with
    | obj k =>
      cases pz with
      | d zj => cases zj with
        | int j =>
          cases py with
          | d dy =>
            have r3' : Rep X.K L3 H3 (.int j) z := r3
            cases r3'
            simp only at o3
            cases h : s3[k]? with
            | none => rw [h] at o3; exact o3.elim
            | some cl =>
              rw [h] at o3
              cases cl with
              | dead => exact o3.elim
              | lst l =>
                simp only at o3
                cases hj : ixN l.length j with
                | none => rw [hj] at o3; exact o3.elim
                | some m =>
                  rw [hj] at o3
                  obtain ⟨p, vs, h1, h2, h3⟩ := q3.at_ h
                  obtain ⟨ev, sr⟩ := q3.put h h1 h2 (Reps.set ry m h3)
                  exact ⟨p, vs, j, m, rw'.2 p h1, rfl, h2, by rw [← h3.length]; exact hj, o3 L3 _ σ ev sr (e3.ev ev)⟩
          | _ => exact o3.elim
        | _ => exact o3.elim
      | _ => exact o3.elim
    | _ => exact o3.elim
theorem base_plain {o : Expr} (h : ∀ id p p2, o ≠ .Call (.Name id p) [] [] p2) (m : Str) (env : PySem.Env) : attributeBase o m env (eval o env) = eval o env := by
  unfold attributeBase
  cases o with
  | Call f xs ks p => cases f with
    | Name id q => cases xs with
      | nil => cases ks with
        | nil => exact absurd rfl (h id q p)
        | cons _ _ => rfl
      | cons _ _ => rfl
    | _ => rfl
  | _ => rfl
theorem few_one {e : Expr} (h : plainX e = true) (cpos : Pos) (env : PySem.Env) : ((backTo cpos (starEach [e] env)).all (fun x => !x.1) && (backToKw cpos (keywordEach [] env)).all (fun x => x.1.isSome)
      && decide (([e] : List Expr).length + ([] : List Keyword).length + (if ([] : List Keyword).isEmpty then 0 else 1) < 30)) = true := by
  rw [star_plain h]; rfl
theorem pe_mt1 {T id : String} {name : Str} {r : V → List V → Hp → VK → Prop} {to te : TE} {apos cpos : Pos} (pa : PlainAttrs T) (slot : Slot T name id) (hty : typeOf (.builtin id) = pure (.type "method_descriptor")) (hm : MtR X id r) (ho : PE X a to) (hb : PE X b te)
    (hbase : ∀ id p p2, a ≠ .Call (.Name id p) [] [] p2) (hline : (apos.endLine == cpos.line) = true) (hp : plainX b = true) : PE X (.Call (.Attribute a name apos) [b] [] cpos) (tBM X.K T r to (tCons te tNil)) :=
  pe_bm pa slot hty hm ho (pa_cons hb pa_nil (star_plain hp _ _)) (base_plain hbase _ _) (few_one hp _ _) hline (star_plain hp _ _) rfl
theorem sS_app {apos cpos : Pos} (ha : SE X C a ea) (hb : SE X C b eb) (hbase : ∀ id p p2, a ≠ .Call (.Name id p) [] [] p2) (hline : (apos.endLine == cpos.line) = true) (hp : plainX b = true) : SS X C (.Expr (.Call (.Attribute a "append" apos) [b] [] cpos) pos) (.app ea eb) :=
  ps_imp (ps_expr (pe_mt1 PySem.F.plainAttrs_list PySem.F.slot_list_append PySem.F.type_list_append mt_append ha hb hbase hline hp) rfl) fun D σ H ⟨L, ρ, st, s, e, o⟩ => by
    simp only [exS] at o
    refine tM_bind (O := OutS X.K D) OutS.fam s e o fun y H1 L1 s1 py v1 q1 e1 r1 o1 => ?_
    cases py with
    | obj k =>
      simp only at o1
      cases h : s1[k]? with
      | none => rw [h] at o1; exact o1.elim
      | some cl =>
        rw [h] at o1
        cases cl with
        | dead => exact o1.elim
        | lst l0 =>
          obtain ⟨p, vs, h1, h2, h3⟩ := q1.at_ h
          refine ⟨by rw [r1.2 p h1]; exact .inl ⟨rfl, vs, .of h2⟩, ?_⟩
          refine tM_bind (O := OutS X.K D) OutS.fam q1 e1 o1 fun w H2 L2 s2 pw v2 q2 e2 r2 o2 => ?_
          have r1' := r1.ev v2
          cases pw with
          | d dw =>
            simp only at o2
            cases h' : s2[k]? with
            | none => rw [h'] at o2; exact o2.elim
            | some cl =>
              rw [h'] at o2
              cases cl with
              | dead => exact o2.elim
              | lst l =>
                simp only at o2
                obtain ⟨p2, vs2, g1, g2, g3⟩ := q2.at_ h'
                by_cases hz : l.length < sizeLine
                · simp only [if_pos hz] at o2
                  obtain ⟨ev, sr⟩ := q2.put h' g1 g2 (g3.append (.cons r2 .nil))
                  exact ⟨p2, vs2, w, r1'.2 p2 g1, rfl, g2, by rw [← g3.length]; exact hz, o2 L2 _ σ ev sr (e2.ev ev)⟩
                · simp only [if_neg hz] at o2; exact o2.elim
          | _ => exact o2.elim
    | _ => exact o1.elim
theorem sS_ext {apos cpos : Pos} (ha : SE X C a ea) (hb : SE X C b eb) (hbase : ∀ id p p2, a ≠ .Call (.Name id p) [] [] p2) (hline : (apos.endLine == cpos.line) = true) (hp : plainX b = true) : SS X C (.Expr (.Call (.Attribute a "extend" apos) [b] [] cpos) pos) (.ext ea eb) :=
  ps_imp (ps_expr (pe_mt1 PySem.F.plainAttrs_list PySem.F.slot_list_extend PySem.F.type_list_extend mt_extend ha hb hbase hline hp) rfl) fun D σ H ⟨L, ρ, st, s, e, o⟩ => by
    simp only [exS] at o
    refine tM_bind (O := OutS X.K D) OutS.fam s e o fun y H1 L1 s1 py v1 q1 e1 r1 o1 => ?_
    cases py with
    | obj k =>
      simp only at o1
      cases h : s1[k]? with
      | none => rw [h] at o1; exact o1.elim
      | some cl =>
        rw [h] at o1
        cases cl with
        | dead => exact o1.elim
        | lst l0 =>
          obtain ⟨p, vs, h1, h2, h3⟩ := q1.at_ h
          refine ⟨by rw [r1.2 p h1]; exact .inl ⟨rfl, vs, .of h2⟩, ?_⟩
          refine tM_bind (O := OutS X.K D) OutS.fam q1 e1 o1 fun w H2 L2 s2 pw v2 q2 e2 r2 o2 => ?_
          have r1' := r1.ev v2
          cases pw with
          | d dw => cases dw with
            | lst ys =>
              simp only at o2
              cases h' : s2[k]? with
              | none => rw [h'] at o2; exact o2.elim
              | some cl =>
                rw [h'] at o2
                cases cl with
                | dead => exact o2.elim
                | lst l =>
                  simp only at o2
                  obtain ⟨p2, vs2, g1, g2, g3⟩ := q2.at_ h'
                  by_cases hz : l.length + ys.length ≤ sizeLine
                  · simp only [if_pos hz] at o2
                    have r2' : Rep X.K L2 H2 (.lst ys) w := r2
                    cases r2' with
                    | lst e' n' z =>
                      obtain ⟨ev, sr⟩ := q2.put h' g1 g2 (g3.append z)
                      exact ⟨p2, _, vs2, _, r1'.2 p2 g1, rfl, g2, e', by rw [← g3.length, ← z.length]; exact hz, o2 L2 _ σ ev sr (e2.ev ev)⟩
                  · simp only [if_neg hz] at o2; exact o2.elim
            | _ => exact o2.elim
          | _ => exact o2.elim
    | _ => exact o1.elim

/-! ### the plain statements -/
theorem sS_expr (hc : notComp a = true) (ha : SE X C a ea) : SS X C (.Expr a pos) (.expr ea) :=
  ps_imp (ps_expr ha (swaps_plain hc _ _ _)) fun D σ H ⟨L, ρ, st, s, e, o⟩ => by
    simp only [exS] at o
    exact tM_bind (O := OutS X.K D) OutS.fam s e o fun y H1 L1 s1 py v1 q1 e1 r1 o1 => o1 L1 H1 σ (.refl _ _) q1 e1
theorem sS_ret (ha : SE X C a ea) : SS X C (.Return (some a) pos) (.ret ea) :=
  ps_imp (ps_ret ha) fun D σ H ⟨L, ρ, st, s, e, o⟩ => by
    simp only [exS] at o
    exact tM_bind (O := OutS X.K D) OutS.fam s e o fun y H1 L1 s1 py v1 q1 e1 r1 o1 => o1 L1 H1 y (.refl _ _) q1 r1
theorem sS_retN : SS X C (.Return none pos) .retN :=
  ps_imp ps_retN fun D σ H ⟨L, ρ, st, s, e, o⟩ => by
    simp only [exS] at o
    exact o L H .non (.refl _ _) s .non
theorem sS_pass : SS X C (.Pass pos) .pass :=
  ps_imp ps_pass fun D σ H ⟨L, ρ, st, s, e, o⟩ => by
    simp only [exS] at o
    exact o L H σ (.refl _ _) s e
theorem sS_ifs {xa xb : List Stmt} {sa sb : Ss} (hc : ST X C c ec) (ha : SSs X C xa sa) (hb : SSs X C xb sb) : SS X C (.If c xa xb pos) (.ifs ec sa sb) :=
  ps_imp (ps_if hc ha hb) fun D σ H ⟨L, ρ, st, s, e, o⟩ => by
    simp only [exS] at o
    refine tT_bind (O := OutS X.K D) (k := fun b s1 => if b = true then exSs C sa ρ s1 else exSs C sb ρ s1) OutS.fam s e ?_ fun d H1 L1 s1 v1 q1 e1 o1 => ?_
    · cases r : evE C ec ρ st with
      | bad => rw [r] at o; exact o
      | ok p s1 =>
        rw [r] at o
        simp only [R.bind] at o ⊢
        cases h : (p.rd s1).bind truth with
        | none => rw [h] at o; exact o
        | some b => rw [h] at o; cases b <;> exact o
    · cases d with
      | true => exact ⟨L1, ρ, s1, q1, e1, o1⟩
      | false => exact ⟨L1, ρ, s1, q1, e1, o1⟩
theorem sSs_nil : SSs X C [] .nil := pss_imp pss_nil fun D σ H ⟨L, ρ, st, s, e, o⟩ => by
  simp only [exSs] at o
  exact o L H σ (.refl _ _) s e
theorem seq_reads' {m : Env → CS → R Fl} {sb : Ss} {D : Ends} {σ : St} {H : Hp} {L : Plc} {ρ : Env} {st : CS} (s : SRel X.K L H st) (e : ERel X.K L H ρ σ) (o : OutS X.K D L H ((m ρ st).bind fun fl s1 => match fl with
    | .nx ρ2 => exSs C sb ρ2 s1
    | .rt v => .ok (.rt v) s1)) : tS X.K m { D with nx := tS X.K (exSs C sb) D } σ H := by
  refine ⟨L, ρ, st, s, e, ?_⟩
  cases r : m ρ st with
  | bad => rw [r] at o; exact o
  | ok fl s1 =>
    rw [r] at o
    simp only [R.bind] at o
    cases fl with
    | nx ρ2 => exact fun L1 H1 σ1 v1 q1 e1 => ⟨L1, ρ2, s1, q1, e1, OutS.fam.ev v1 o⟩
    | rt p => exact o
theorem sSs_cons {x : Stmt} {xs : List Stmt} {sa : S} {sb : Ss} (ha : SS X C x sa) (hb : SSs X C xs sb) : SSs X C (x :: xs) (.cons sa sb) :=
  pss_imp (pss_cons ha hb) fun D σ H ⟨L, ρ, st, s, e, o⟩ => by
    simp only [exSs] at o
    exact seq_reads' s e o
/-- a list that is changed no more -/
theorem sSs_frz {xs : List Stmt} {sb : Ss} (hb : SSs X C xs sb) : SSs X C xs (.cons (.frz i) sb) :=
  pss_imp hb fun D σ H ⟨L, ρ, st, s, e, o⟩ => by
    simp only [exSs, exS] at o
    cases h1 : ρ[i]? with
    | none => rw [h1] at o; exact o.elim
    | some pv =>
      rw [h1] at o
      cases pv with
      | none => exact o.elim
      | some p =>
        cases p with
        | obj k =>
          simp only at o
          cases h : st[k]? with
          | none => rw [h] at o; exact o.elim
          | some cl =>
            rw [h] at o
            cases cl with
            | dead => exact o.elim
            | lst l =>
              simp only [R.bind] at o
              obtain ⟨p, vs, g1, g2, g3⟩ := s.at_ h
              obtain ⟨v, hv, rv⟩ := e.at_ i _ h1
              have ev' : v = .ref p := rv.2 p g1
              subst ev'
              have hk : k < L.c.length := (List.getElem?_eq_some_iff.mp g1).1
              have sub : ∀ a, some a ∈ L.c.set k none → some a ∈ L.c := fun a m => by
                rcases List.mem_or_eq_of_mem_set m with z | z
                · exact z
                · cases z
              have np : some p ∉ L.c.set k none := fun m => by
                obtain ⟨j, hj, ej⟩ := List.mem_iff_getElem.mp m
                by_cases ejk : k = j
                · subst ejk
                  simp at ej
                · rw [List.getElem_set_ne ejk] at ej
                  have hj' : j < L.c.length := by simpa using hj
                  exact ejk (s.inj _ _ p g1 (by rw [List.getElem?_eq_getElem hj', ej]))
              have ev : Ev L H ⟨L.c.set k none, L.h⟩ H := by
                refine ⟨by simp, fun j y hj => ?_, fun a u ha _ => ha, fun a m => .inl (sub a m), rfl⟩
                by_cases ejk : k = j
                · subst ejk
                  exact .inr (List.getElem?_set_self hk)
                · exact .inl (by show (L.c.set k none)[j]? = some y; rw [List.getElem?_set_ne ejk]; exact hj)
              have nh : p ∉ L.h := fun m => (s.hid p m).2 (List.mem_of_getElem? g1)
              refine ⟨⟨L.c.set k none, L.h⟩, ρ.set i (some (.d (.lst l))), st.set k .dead, ⟨by simp [s.len], fun j c x h1 h2 => ?_, fun a b z h1 h2 => ?_, fun a ha => ⟨(s.hid a ha).1, fun m => (s.hid a ha).2 (sub a m)⟩⟩, ?_, OutS.fam.ev ev o⟩
              · have h2 : (L.c.set k none)[j]? = some x := h2
                by_cases ejk : k = j
                · subst ejk
                  rw [List.getElem?_set_self hk] at h2
                  rw [List.getElem?_set_self (by rw [s.len]; exact hk)] at h1
                  cases h1; cases h2
                  exact trivial
                · rw [List.getElem?_set_ne ejk] at h1 h2
                  have z := s.cell j c x h1 h2
                  cases c with
                  | lst m => cases x with
                    | none => exact z
                    | some q =>
                      obtain ⟨us, e1, e2⟩ := z
                      exact ⟨us, e1, e2.ev ev⟩
                  | dead => cases x <;> exact z
              · have h1 : (L.c.set k none)[a]? = some (some z) := h1
                have h2 : (L.c.set k none)[b]? = some (some z) := h2
                have ka : k ≠ a := fun w => by subst w; rw [List.getElem?_set_self hk] at h1; cases h1
                have kb : k ≠ b := fun w => by subst w; rw [List.getElem?_set_self hk] at h2; cases h2
                rw [List.getElem?_set_ne ka] at h1
                rw [List.getElem?_set_ne kb] at h2
                exact s.inj a b z h1 h2
              · have e' := (e.ev ev).set i (p := .d (.lst l)) (v := .ref p) (Rep.lst g2 (fun m => m.elim np nh) (g3.ev ev))
                have same : σ.set i (some (V.ref p)) = σ := by
                  refine List.ext_getElem? fun j => ?_
                  by_cases ej : i = j
                  · subst ej
                    rw [List.getElem?_set_self (List.getElem?_eq_some_iff.mp hv).1, hv]
                  · rw [List.getElem?_set_ne ej]
                rw [same] at e'
                exact e'
        | _ => exact o.elim

/-! ### loops -/
theorem sS_for {tg iter : Expr} {xb : List Stmt} {it : It} {many : Bool} {tgs : List Nat} {sb : Ss} (hp : PassesOwn (model X.prog X.w) X.A X.env X.xe) (hc : X.calm = true) (hi : SI X C tg iter it) (hg : PG X tg (tgOf X.K many tgs)) (hb : SSs X C xb sb) (hs : plainX iter = true) :
    SS X C (.For tg iter xb [] pos) (.for tgs many it sb) :=
  ps_imp (ps_for hp hc hi hg hb (folded_plain hs X.env)) fun D σ H ⟨L, ρ, st, s, e, o⟩ => by
    simp only [exS] at o
    refine tI_bind (O := OutS X.K D) OutS.fam s e o fun J H1 L1 s1 ds v1 q1 e1 w1 o1 => ?_
    refine ⟨fun i m σ2 H2 => m = ds.length - i ∧ i ≤ ds.length ∧ ∃ L2 s2 ρ2, Ev L1 H1 L2 H2 ∧ SRel X.K L2 H2 s2 ∧ ERel X.K L2 H2 ρ2 σ2 ∧ OutS X.K D L2 H2 (forGo (fun ρ s => exSs C sb ρ s) many tgs (ds.drop i) ρ2 s2), ⟨ds.length, by simp, Nat.zero_le _, L1, s1, ρ, .refl _ _, q1, e1, o1⟩, ?_⟩
    rintro i m σ2 H2 ⟨rfl, hi2, L2, s2, ρ2, ev, q2, e2, o3⟩
    by_cases hlt : i < ds.length
    · right
      have hd : ds[i]? = some ds[i] := by simp [hlt]
      obtain ⟨go, yl⟩ := w1.go L2 H2 s2 i _ ev.mv q2 hd
      refine ⟨go, fun σ3 H3 => i < ds.length ∧ ∃ L3 s3 ρ3, Ev L1 H1 L3 H3 ∧ SRel X.K L3 H3 s3 ∧ ERel X.K L3 H3 ρ3 σ3 ∧ OutS X.K D L3 H3 (forGo (fun ρ s => exSs C sb ρ s) many tgs (ds.drop (i + 1)) ρ3 s3), fun σ3 H3 h3 => ⟨ds.length - (i + 1), by omega, rfl, hlt, h3.2⟩, fun x H3 hy => ?_⟩
      obtain ⟨sm, rx⟩ := yl x H3 hy
      rw [List.drop_eq_getElem_cons hlt] at o3
      simp only [forGo] at o3
      cases hb : bindT many tgs ds[i] ρ2 with
      | none => rw [hb] at o3; exact o3.elim
      | some ρ' =>
        rw [hb] at o3
        refine tg_ok hb rx (e2.ev (.same sm)) fun σ' e' _ => ?_
        have o4 := OutS.fam.ev (Ev.same (L := L2) sm) o3
        simp only at o4
        refine ⟨L2, ρ', s2, q2.same sm, e', ?_⟩
        cases r : exSs C sb ρ' s2 with
        | bad => rw [r] at o4; exact o4
        | ok fl s3 =>
          rw [r] at o4
          simp only [R.bind] at o4
          cases fl with
          | nx ρ3 => exact fun L3 H4 σ3 v3 q3 e3 => ⟨hlt, L3, s3, ρ3, (ev.trans (.same sm)).trans v3, q3, e3, OutS.fam.ev v3 o4⟩
          | rt p => exact o4
    · left
      have hi' : i = ds.length := by omega
      subst hi'
      rw [List.drop_length] at o3
      exact ⟨w1.stop L2 H2 _ ev.mv (Nat.le_refl _), o3 L2 H2 σ2 (.refl _ _) q2 e2⟩
end
end PD

set_option Elab.async false
set_option linter.all false
set_option autoImplicit false
set_option maxRecDepth 100000
/-! PdJ: defs and calls. -/
namespace PD
open PySem PySem.Spec L2

/-! ### behind a call -/
theorem SRel.cut {K : PySem.W.Frag} {L : Plc} {H : Hp} {st : CS} (m : Nat) (s : SRel K L H st) : SRel K ⟨L.c.take m, L.h⟩ H (st.take m) := by
  have sub : ∀ a, Plc.has ⟨L.c.take m, L.h⟩ a → L.has a := fun a h => h.elim (fun z => .inl (List.mem_of_mem_take z)) .inr
  have at_ : ∀ {α : Type} {l : List α} {k : Nat} {x : α}, (l.take m)[k]? = some x → l[k]? = some x := fun {α l k x} h => by
    rw [List.getElem?_take] at h
    split at h
    · exact h
    · cases h
  refine ⟨by simp [s.len], fun k c x h1 h2 => ?_, fun i j a h1 h2 => s.inj i j a (at_ h1) (at_ h2), fun a ha => ⟨(s.hid a ha).1, fun z => (s.hid a ha).2 (List.mem_of_mem_take z)⟩⟩
  have z := s.cell k c x (at_ h1) (at_ h2)
  cases c with
  | lst l => cases x with
    | none => exact z
    | some p =>
      obtain ⟨vs, e, r⟩ := z
      exact ⟨vs, e, r.sub sub⟩
  | dead => cases x <;> exact z
theorem leave_out {K : PySem.W.Frag} {L L1 : Plc} {H H1 : Hp} {st s1 : CS} {Q : VK} {p : PV} {v : V} (s : SRel K L H st) (e : Ev L H L1 H1) (s' : SRel K L1 H1 s1) (r : RepP K L1 H1 p v) (o : Out K L H Q (leave st.length p s1)) : Q v H1 := by
  have cutEv : ∀ m, st.length ≤ m → Ev L H ⟨L1.c.take m, L1.h⟩ H1 := fun m hm => by
    refine ⟨?_, fun k x h => ?_, e.keep, fun a h => e.new a (List.mem_of_mem_take h), e.hid⟩
    · have := e.len
      rw [s.len] at hm
      show L.c.length ≤ (L1.c.take m).length
      rw [List.length_take]; omega
    · have hk := (List.getElem?_eq_some_iff.mp h).1
      have : k < m := by rw [s.len] at hm; omega
      show (L1.c.take m)[k]? = _ ∨ (L1.c.take m)[k]? = _
      rw [List.getElem?_take_of_lt this]
      exact e.get k x h
  have sub : ∀ m a, Plc.has ⟨L1.c.take m, L1.h⟩ a → L1.has a := fun m a h => h.elim (fun z => .inl (List.mem_of_mem_take z)) .inr
  cases p with
  | scr ns => exact o.elim
  | d x => exact o _ H1 v (cutEv _ (Nat.le_refl _)) (s'.cut _) (Rep.sub r (sub _))
  | obj k =>
    have o : Out K L H Q (if k < st.length then .ok (.obj k) (s1.take st.length) else if k = st.length then .ok (.obj k) (s1.take (st.length + 1)) else .bad) := o
    have rep : ∀ m, k < m → RepP K ⟨L1.c.take m, L1.h⟩ H1 (.obj k) v := fun m hm => by
      refine ⟨?_, fun a ha => r.2 a ?_⟩
      · have := r.1
        show k < (L1.c.take m).length
        rw [List.length_take]; omega
      · have ha : (L1.c.take m)[k]? = _ := ha
        rw [List.getElem?_take_of_lt hm] at ha
        exact ha
    by_cases h1 : k < st.length
    · rw [if_pos h1] at o
      exact o _ H1 v (cutEv _ (Nat.le_refl _)) (s'.cut _) (rep _ h1)
    · rw [if_neg h1] at o
      by_cases h2 : k = st.length
      · rw [if_pos h2] at o
        exact o _ H1 v (cutEv _ (Nat.le_succ _)) (s'.cut _) (rep _ (by omega))
      · rw [if_neg h2] at o
        exact o.elim

/-- a def's promise -/
structure FnG (P : Program) (w : World) (K : PySem.W.Frag) (mg : Str → Option Value) (base : Heap) (k : Nat) (f : Addr) (fd : FuncData) (ps : List Str) (sem : List PV → CS → R PV) : Prop where
  run : ∀ (A : Around) (outer : List PySem.Env) (s : Shared) (H : Hp) (args : Args) (us : List Value) (vs : List V) (Q : VK) (L : Plc) (ds : List PV) (st : CS), Room k A → A.guards = some [] → Env0 P w K mg base A outer s H →
    BindsTo s fd args (ps.zip us) → Vals vs us → SRel K L H st → RepPs K L H ds vs → ds.length = ps.length → Out K L H Q (sem ds st) → codeAny (model P w) A (.call (.ref f) args) (CR (L2.CX P w) outer P w H s Q E0) s

theorem start_rel {K : PySem.W.Frag} {L : Plc} {H : Hp} {ds : List PV} {vs : List V} (r : RepPs K L H ds vs) (N : List Str) : ERel K L H (ds.map some ++ List.replicate (N.length - ds.length) none) (L2.start N vs) := by
  refine ⟨by unfold L2.start; simp [r.len], fun i p h => ?_⟩
  have hi : i < ds.length := by
    by_cases hi : i < ds.length
    · exact hi
    · rw [List.getElem?_append_right (by simpa using hi), List.getElem?_replicate] at h
      split at h <;> cases h
  rw [List.getElem?_append_left (by simpa using hi), List.getElem?_map] at h
  obtain ⟨q, e1, e2⟩ := Option.map_eq_some_iff.mp h
  cases e2
  have key : ∀ {ds : List PV} {vs : List V} {i : Nat} {p : PV}, RepPs K L H ds vs → ds[i]? = some p → ∃ v, vs[i]? = some v ∧ RepP K L H p v := by
    intro ds vs i p r
    induction r generalizing i with
    | nil => intro h; simp at h
    | cons a b ih =>
      cases i with
      | zero => intro h; simp at h; subst h; exact ⟨_, rfl, a⟩
      | succ i => intro h; exact ih (by simpa using h)
  obtain ⟨v, hv, rv⟩ := key r e1
  refine ⟨v, ?_, rv⟩
  unfold L2.start
  have hiv : i < vs.length := (List.getElem?_eq_some_iff.mp hv).1
  rw [List.getElem?_append_left (by simpa using hiv), List.getElem?_map, hv]
  rfl

section
variable {P : Program} {w : World} {K : PySem.W.Frag} {mg : Str → Option Value} {base : Heap}
/-- a body keeps its def's promise -/
theorem fnG_of {x qual : Str} {st : Stmt} {f : Addr} {fd : FuncData} {N ps : List Str} {k : Nat} {C : Cl} {g : Fd} (F : Fun K x qual st f fd) (S : FnScope N ps (defScope st)) (hnp : g.np = ps.length) (hnn : g.nn = N.length)
    (hbody : ∀ (cdv : Value) (A : Around) (outer : List PySem.Env) (s : Shared) (H : Hp), Room k (A.deeper (PyProof.Rows.envOfC qual (defScope st) s.heap.objs.size f cdv)) → (A.deeper (PyProof.Rows.envOfC qual (defScope st) s.heap.objs.size f cdv)).guards = some [] → Mod K mg base →
      SSs (cxOf (L2.CX P w) P w K mg base N qual (defScope st) f cdv A outer s H E0) C (defBody st) g.body) : FnG P w K mg base (k + 1) f fd ps (runF C g) := by
  obtain ⟨oc, od, kV, doc, pm, an, cdv, ct, osl, rfl, lk, hcd⟩ := F.ex
  refine ⟨fun A outer s H args us vs Q L ds cs hr hg e0 hb rv q rd hl o => ?_⟩
  have KX : K.In s.heap := e0.mod.kin.keeps fun b o e => (e0.bs b o e).1
  have lim : s.heap.NoLimit := e0.mod.nolimit.keeps fun b o e => (e0.bs b o e).1
  have hlv : vs.length = ps.length := by rw [← rd.len]; exact hl
  have hkinds : ∀ y ∈ ps.zip us, (defScope st).names.lookup y.1 = some .local ∨ (defScope st).names.lookup y.1 = some .cell := fun ⟨n, v⟩ hy => S.par n (List.of_mem_zip hy).1
  refine Att.call_fn KX lim lk hcd hr.depth hb (List.all_eq_true.mpr fun y hy => ?_) (fun s1 ic => ?_) S.co S.gen S.kind
  · rcases hkinds y hy with z | z <;> rw [z] <;> rfl
  have I : Inv (cxOf (L2.CX P w) P w K mg base N qual (defScope st) f cdv A outer s H E0) [] (L2.start N vs) H s1 := inv_start S hr.hd e0 hlv rv ic
  have B := hbody cdv A outer s H (hr.deeper _) hg e0.mod
  unfold runF at o
  rw [if_pos (by rw [hnp]; exact hl)] at o
  have body : tS K (exSs C g.body) { nx := fun _ H' => Q .non H', rt := Q } (L2.start N vs) H := by
    refine ⟨L, _, cs, q, start_rel rd N, ?_⟩
    rw [← hnn]
    cases r : exSs C g.body (ds.map some ++ List.replicate (g.nn - ds.length) none) cs with
    | bad => rw [r] at o; exact o
    | ok fl s2 =>
      rw [r] at o
      cases fl with
      | nx ρ => exact fun L1 H1 σ1 e1 q1 r1 => leave_out q e1 q1 (p := .d .non) .non o
      | rt p => exact fun L1 H1 v e1 q1 r1 => leave_out q e1 q1 r1 o
  refine wpAny_mono (B.run [] s1 _ H _ I body) (fun fl s' hs => ?_) fun e s' hs => hs
  have fin : ∀ {σ' : L2.St} {H' : Hp} {v : V} {u : Value}, Inv (cxOf (L2.CX P w) P w K mg base N qual (defScope st) f cdv A outer s H E0) [] σ' H' s' → RelV v u → Q v H' → CE outer P w H s Q u s' :=
    fun {σ' H' v u} J rv q => ⟨v, H', J.os, J.bare, J.base, J.hok, rv, q⟩
  cases fl with
  | ret u =>
    obtain ⟨v, σ', H', J, rv, q⟩ := hs
    exact fin J rv q
  | next =>
    obtain ⟨σ', H', J, q⟩ := hs
    exact fin (v := V.non) (u := Value.none) J rfl q
  | brk =>
    obtain ⟨_, _, _, q⟩ := hs
    exact False.elim q
  | cont =>
    obtain ⟨_, _, _, q⟩ := hs
    exact False.elim q
theorem fnG_bad {k : Nat} {f : Addr} {fd : FuncData} {ps : List Str} {sem : List PV → CS → R PV} (h : ∀ ds st, sem ds st = .bad) : FnG P w K mg base k f fd ps sem :=
  ⟨fun A outer s H args us vs Q L ds cs hr hg e0 hb rv q rd hl o => by rw [h] at o; exact o.elim⟩
end

/-! ### calls -/
section
variable {X : L2.Cx} {C : Cl} {k f : Nat} {fa : Addr} {fd : FuncData} {ps : List Str} {a : Expr} {x : Str} {xs : List Expr} {es : Es} {p pos : Pos}
theorem runG {pins : List (Addr × Obj)} {σ : L2.St} {H : Hp} {s : Shared} {Q : VK} {us : List Value} {vs : List V} {L : Plc} {ds : List PV} {st : CS} {sem : List PV → CS → R PV} (F : FnG X.prog X.w X.K X.mg X.base k fa fd ps sem) (hr : Room k X.A) (hg : X.A.guards = some []) (hb : Binds X.K fd ps [])
    (I : Inv X pins σ H s) (r : Vals vs us) (q : SRel X.K L H st) (rd : RepPs X.K L H ds vs) (hl : ds.length = ps.length) (o : Out X.K L H Q (sem ds st)) : wpAny (model X.prog X.w) X.A (call (.ref fa) us) (EP X pins σ Q) X.xe s := by
  have hu : us.length = ps.length := by rw [← r.length, ← rd.len]; exact hl
  have hbt := hb s us I.kIn (by rw [List.append_nil]; exact hu)
  rw [List.append_nil] at hbt
  refine wpAny_call (codeAny_mono (F.run X.A X.stack s H ⟨us, []⟩ us vs Q L ds st hr hg I.env0 hbt r q rd hl o) fun r s' hq => ?_)
  cases r with
  | error e => exact passL pins σ H s e s' I hq
  | ok fl =>
    cases fl with
    | ret u => exact I.after hq
    | next => exact False.elim hq
    | brk => exact False.elim hq
    | cont => exact False.elim hq
/-- the promise says nothing of another number of arguments -/
theorem sE_call (F : FnG X.prog X.w X.K X.mg X.base k fa fd ps (C.call f)) (hbad : ∀ ds st, ds.length ≠ ps.length → C.call f ds st = .bad) (hr : Room k X.A) (hg : X.A.guards = some []) (hb : Binds X.K fd ps []) (gl : Gl X x) (hm : X.mg x = some (.ref fa)) (hk : PySem.W.keepIn X.K (.ref fa) = true)
    (hdb : (x == ("__debug__" : Str)) = false) (hp : (a :: xs).all plainX = true) (ha : SA X C (a :: xs) es) : SE X C (.Call (.Name x p) (a :: xs) [] pos) (.call f es) := by
  have hp' := hp
  simp only [List.all_cons, Bool.and_eq_true] at hp'
  refine ⟨fun pins s σ H Q I h => ?_⟩
  obtain ⟨L, ρ, st, q, e, o⟩ := h
  simp only [evE] at o
  refine wpAny_Call_Name_kw (ld_glob I gl hm ?_ hdb)
  have h := tA_bind (O := fun L H r => Out X.K L H Q r) (Q1 := fun vs H1 => ∃ L1 s1 ds, SRel X.K L1 H1 s1 ∧ RepPs X.K L1 H1 ds vs ∧ Out X.K L1 H1 Q (C.call f ds s1)) Out.fam q e o fun vs H1 L1 s1 ds v1 q1 e1 r1 o1 => ⟨L1, s1, ds, q1, r1, o1⟩
  refine PySem.W.callWith_K (h₀ := X.base) I.ok.mod.kin hk (thn (ha.run pos pins s σ H _ I h) fun us s1 ⟨vs, H1, I1, r, L1, c1, ds, q1, r1, o1⟩ => ⟨I1.kIn, ?_⟩) (star_plain hp'.1 _ _) (any_plain hp'.2 _ _)
  by_cases hl : ds.length = ps.length
  · exact runG F hr hg hb I1 r q1 r1 hl o1
  · rw [hbad ds c1 hl] at o1; exact o1.elim
theorem sE_call0 (F : FnG X.prog X.w X.K X.mg X.base k fa fd ps (C.call f)) (hbad : ∀ ds st, ds.length ≠ ps.length → C.call f ds st = .bad) (hr : Room k X.A) (hg : X.A.guards = some []) (hb : Binds X.K fd ps []) (gl : Gl X x) (hm : X.mg x = some (.ref fa)) (hk : PySem.W.keepIn X.K (.ref fa) = true)
    (hdb : (x == ("__debug__" : Str)) = false) : SE X C (.Call (.Name x p) [] [] pos) (.call f .nil) := by
  refine ⟨fun pins s σ H Q I h => ?_⟩
  obtain ⟨L, ρ, st, q, e, o⟩ := h
  simp only [evE, evEs, R.bind] at o
  refine wpAny_Call_Name_kw (ld_glob I gl hm ?_ hdb)
  refine PySem.W.callWith_K0 I.kIn hk ?_
  by_cases hl : ([] : List PV).length = ps.length
  · exact runG (us := []) F hr hg hb I .nil q .nil hl o
  · rw [hbad [] st hl] at o; exact o.elim
end
end PD

set_option Elab.async false
set_option linter.all false
set_option autoImplicit false
set_option maxRecDepth 100000
/-! PdK: more rules: keywords, compares as tests, swapped stores, constants of the text. -/
namespace PD
open PySem PySem.Spec L2

section
variable {X : L2.Cx} {C : Cl} {k f : Nat} {fa : Addr} {fd : FuncData} {ps ks : List Str} {a b c : Expr} {x : Str} {xs : List Expr} {kws : List Keyword} {es es2 : Es} {ea eb ec : E} {p pos : Pos} {perm : List Nat} {n : Nat}

/-! ### keywords -/
abbrev SK (X : L2.Cx) (C : Cl) (kws : List Keyword) (es : Es) : Prop := PK X kws (tA X.K (evEs C es))
theorem pk_imp {t u : TA} (h : PK X kws t) (i : ∀ (σ : L2.St) (H : Hp) (Q : List V → Hp → Prop), u σ H Q → t σ H Q) : PK X kws u :=
  ⟨fun pos pins s σ H Q I q => h.run pos pins s σ H Q I (i σ H Q q)⟩
theorem sK_nil : SK X C [] .nil := pk_imp pk_nil fun σ H Q ⟨L, ρ, st, s, e, o⟩ => by
  simp only [evEs] at o
  exact o L H (.refl _ _) s [] .nil
theorem sK_cons {nm : Option Str} {kpos : Pos} (ha : SE X C a ea) (hr : SK X C kws es) : SK X C (⟨nm, a, kpos⟩ :: kws) (.cons ea es) :=
  pk_imp (pk_cons ha hr) fun σ H Q ⟨L, ρ, st, s, e, o⟩ => by
    simp only [evEs] at o
    refine tM_bind (O := OutA X.K Q) OutG.fam s e o fun v H1 L1 s1 p v1 q1 e1 r1 o1 => ?_
    refine tA_bind (O := OutA X.K Q) OutG.fam q1 e1 o1 fun vs H2 L2 s2 ps v2 q2 e2 r2 o2 => ?_
    exact o2 L2 H2 (.refl _ _) q2 (v :: vs) (.cons (r1.ev v2) r2)
/-- how a call with keywords binds -/
def KB (K : PySem.W.Frag) (fd : FuncData) (ps : List Str) (n : Nat) (ks : List Str) (perm : List Nat) : Prop :=
  ∀ (s : Shared) (us ws ys : List Value), K.In s.heap → us.length = n → ws.length = ks.length → pickAll (us ++ ws) perm = some ys → BindsTo s fd ⟨us, ks.zip ws⟩ (ps.zip ys)
theorem pick_rel {R S : Type} {r : R → S → Prop} : ∀ {perm : List Nat} {xs : List R} {ys : List S} {zs : List R}, Paired r xs ys → pickAll xs perm = some zs → ∃ ws, pickAll ys perm = some ws ∧ Paired r zs ws
  | [], _, _, _, _, h => by cases h; exact ⟨[], rfl, .nil⟩
  | i :: perm, xs, ys, zs, q, h => by
    have get : ∀ {xs : List R} {ys : List S} {i : Nat} {x : R}, Paired r xs ys → xs[i]? = some x → ∃ y, ys[i]? = some y ∧ r x y := by
      intro xs ys i x q
      induction q generalizing i with
      | nil => intro h; simp at h
      | cons a b ih =>
        cases i with
        | zero => intro h; simp at h; subst h; exact ⟨_, rfl, a⟩
        | succ i => intro h; exact ih (by simpa using h)
    simp only [pickAll] at h ⊢
    cases h1 : xs[i]? with
    | none => rw [h1] at h; cases h
    | some x =>
      rw [h1] at h
      cases h2 : pickAll xs perm with
      | none => rw [h2] at h; cases h
      | some l =>
        rw [h2] at h
        cases h
        obtain ⟨y, e1, e2⟩ := get q h1
        obtain ⟨ws, e3, e4⟩ := pick_rel q h2
        exact ⟨y :: ws, by rw [e1, e3]; rfl, .cons e2 e4⟩
theorem pick_len {R : Type} : ∀ {perm : List Nat} {xs zs : List R}, pickAll xs perm = some zs → zs.length = perm.length
  | [], _, _, h => by cases h; rfl
  | i :: perm, xs, zs, h => by
    simp only [pickAll] at h
    cases h1 : xs[i]? with
    | none => rw [h1] at h; cases h
    | some x =>
      rw [h1] at h
      cases h2 : pickAll xs perm with
      | none => rw [h2] at h; cases h
      | some l => rw [h2] at h; cases h; exact congrArg Nat.succ (pick_len h2)
theorem paired_app {R S : Type} {r : R → S → Prop} {a c : List R} {b d : List S} (h : Paired r a b) (g : Paired r c d) : Paired r (a ++ c) (b ++ d) := by
  induction h with
  | nil => exact g
  | cons x _ ih => exact .cons x ih
theorem sE_callk (F : FnG X.prog X.w X.K X.mg X.base k fa fd ps (C.call f)) (hr : Room k X.A) (hg : X.A.guards = some []) (hb : KB X.K fd ps xs.length ks perm) (hpl : perm.length = ps.length) (gl : Gl X x) (hm : X.mg x = some (.ref fa)) (hk : PySem.W.keepIn X.K (.ref fa) = true)
    (hdb : (x == ("__debug__" : Str)) = false) (hp : xs.all plainX = true) (hks : kws.map (·.arg) = ks.map some) (hn : ks ≠ []) (ha : SA X C xs es) (hkw : SK X C kws es2) (hl1 : ∀ ρ st l st', evEs C es ρ st = .ok l st' → l.length = xs.length) (hl2 : ∀ ρ st l st', evEs C es2 ρ st = .ok l st' → l.length = ks.length) :
    SE X C (.Call (.Name x p) xs kws pos) (.callk f perm es es2) := by
  have key : ∀ (kws : List Keyword) (ks : List Str), kws.map (·.arg) = ks.map some → (backToKw pos (keywordEach kws X.env)).all (·.1.isSome) = true ∧ (backToKw pos (keywordEach kws X.env)).filterMap (·.1) = ks ∧ (backToKw pos (keywordEach kws X.env)).any (·.1.isNone) = false := by
    intro kws
    induction kws with
    | nil => intro ks h; cases ks with
      | nil => exact ⟨rfl, rfl, rfl⟩
      | cons _ _ => cases h
    | cons kw r ih => intro ks h; cases ks with
      | nil => cases h
      | cons kn kr =>
        obtain ⟨nm, e, kp⟩ := kw
        simp only [List.map_cons, List.cons.injEq] at h
        obtain ⟨h1, h2⟩ := h
        subst h1
        obtain ⟨g1, g2, g3⟩ := ih kr h2
        refine ⟨?_, ?_, ?_⟩
        · show (true && (backToKw pos (keywordEach r X.env)).all _) = true
          rw [g1]; rfl
        · show kn :: (backToKw pos (keywordEach r X.env)).filterMap _ = _
          rw [g2]
        · show (false || (backToKw pos (keywordEach r X.env)).any _) = false
          rw [g3]; rfl
  obtain ⟨k1, k2, k3⟩ := key kws ks hks
  refine ⟨fun pins s σ H Q I h => ?_⟩
  obtain ⟨L, ρ, st, q, e, o⟩ := h
  simp only [evE] at o
  refine wpAny_Call_Name_kw (ld_glob I gl hm ?_ hdb)
  have fin : ∀ {us ws : List Value} {vs zs : List V} {s2 : Shared} {H2 : Hp} {L2 : Plc} {c2 : CS} {ds gs : List PV}, Inv X pins σ H2 s2 → Vals vs us → Vals zs ws → SRel X.K L2 H2 c2 → RepPs X.K L2 H2 ds vs → RepPs X.K L2 H2 gs zs → ds.length = xs.length → gs.length = ks.length →
      Out X.K L2 H2 Q (match pickAll (ds ++ gs) perm with
        | some ys => C.call f ys c2
        | none => .bad) → wpAny (model X.prog X.w) X.A (call (.ref fa) us (ks.zip ws)) (EP X pins σ Q) X.xe s2 := by
    intro us ws vs zs s2 H2 L2 c2 ds gs I2 rv rz q2 rd rg hd hgs o2
    cases hpk : pickAll (ds ++ gs) perm with
    | none => rw [hpk] at o2; exact o2.elim
    | some ys =>
      rw [hpk] at o2
      obtain ⟨vy, e1, e2⟩ := pick_rel (paired_app rd rg) hpk
      obtain ⟨uy, e3, e4⟩ := pick_rel (paired_app rv rz) e1
      have hu : us.length = xs.length := by rw [← rv.length, ← rd.len]; exact hd
      have hw : ws.length = ks.length := by rw [← rz.length, ← rg.len]; exact hgs
      have hyl : ys.length = ps.length := by rw [pick_len hpk]; exact hpl
      refine wpAny_call (codeAny_mono (F.run X.A X.stack s2 H2 ⟨us, ks.zip ws⟩ uy vy Q L2 ys c2 hr hg I2.env0 (hb s2 us ws uy I2.kIn hu hw e3) e4 q2 e2 hyl o2) fun r s' hq => ?_)
      cases r with
      | error e => exact passL pins σ H2 s2 e s' I2 hq
      | ok fl =>
        cases fl with
        | ret u => exact I2.after hq
        | next => exact False.elim hq
        | brk => exact False.elim hq
        | cont => exact False.elim hq
  have tl : ∀ {L1 : Plc} {H1 : Hp} {c1 : CS} {ds : List PV} {vs : List V}, SRel X.K L1 H1 c1 → ERel X.K L1 H1 ρ σ → RepPs X.K L1 H1 ds vs → Out X.K L1 H1 Q ((evEs C es2 ρ c1).bind fun zs s2 => match pickAll (ds ++ zs) perm with
      | some ys => C.call f ys s2
      | none => .bad) →
      tA X.K (evEs C es2) σ H1 fun zs H2 => ∃ L2 c2 gs, SRel X.K L2 H2 c2 ∧ RepPs X.K L2 H2 ds vs ∧ RepPs X.K L2 H2 gs zs ∧ gs.length = ks.length ∧ Out X.K L2 H2 Q (match pickAll (ds ++ gs) perm with
        | some ys => C.call f ys c2
        | none => .bad) := by
    intro L1 H1 c1 ds vs q1 e1 rd o1
    refine ⟨L1, ρ, c1, q1, e1, ?_⟩
    cases r : evEs C es2 ρ c1 with
    | bad => rw [r] at o1; exact o1
    | ok gs c2 =>
      rw [r] at o1
      exact fun L2 H2 v2 q2 zs rz => ⟨L2, c2, gs, q2, paired_ev rd v2, rz, hl2 _ _ _ _ r, Out.fam.ev v2 o1⟩
  cases xs with
  | nil =>
    refine PySem.W.callWith_KW0 (h₀ := X.base) I.ok.mod.kin hk k1 ?_ (by rw [k3]; rfl)
    have e0 : evEs C es ρ st = .ok [] st := by
      cases es with
      | nil => simp only [evEs]
      | cons e1 r1 =>
        cases r : evEs C (.cons e1 r1) ρ st with
        | bad => rw [r] at o; exact o.elim
        | ok l st' =>
          have := hl1 _ _ _ _ r
          simp only [evEs] at r
          cases r1' : evE C e1 ρ st with
          | bad => rw [r1'] at r; cases r
          | ok y s1 =>
            rw [r1'] at r
            simp only [R.bind] at r
            cases r2 : evEs C r1 ρ s1 with
            | bad => rw [r2] at r; cases r
            | ok ys s2 => rw [r2] at r; cases r; simp at this
    rw [e0] at o
    refine thn (hkw.run pos pins s σ H _ I (tl (ds := []) (vs := []) q e .nil o)) fun ws s2 ⟨zs, H2, I2, rz, L2, c2, gs, q2, rd, rg, hgl, o2⟩ => ⟨I2.kIn, ?_⟩
    rw [k2]
    exact fin (us := []) (vs := []) I2 .nil rz q2 rd rg rfl hgl o2
  | cons x0 xr =>
    have hp' := hp
    simp only [List.all_cons, Bool.and_eq_true] at hp'
    have pl : ((backTo pos (starEach (x0 :: xr) X.env)).any (·.1) || (backToKw pos (keywordEach kws X.env)).any (·.1.isNone)) = false := by
      rw [any_plain (es := x0 :: xr) hp, k3]; rfl
    have h1 : tA X.K (evEs C es) σ H fun vs H1 => ∃ L1 c1 ds, SRel X.K L1 H1 c1 ∧ ERel X.K L1 H1 ρ σ ∧ RepPs X.K L1 H1 ds vs ∧ ds.length = (x0 :: xr).length ∧ Out X.K L1 H1 Q ((evEs C es2 ρ c1).bind fun zs s2 => match pickAll (ds ++ zs) perm with
        | some ys => C.call f ys s2
        | none => .bad) := by
      refine ⟨L, ρ, st, q, e, ?_⟩
      cases r : evEs C es ρ st with
      | bad => rw [r] at o; exact o
      | ok ds c1 =>
        rw [r] at o
        exact fun L1 H1 v1 q1 vs rd => ⟨L1, c1, ds, q1, e.ev v1, rd, hl1 _ _ _ _ r, Out.fam.ev v1 o⟩
    refine PySem.W.callWith_KW (h₀ := X.base) I.ok.mod.kin hk k1 (thn (ha.run pos pins s σ H _ I h1) fun us s1 ⟨vs, H1, I1, rv, L1, c1, ds, q1, e1, rd, hdl, o1⟩ => ?_) pl (star_plain hp'.1 _ _)
    refine thn (hkw.run pos pins s1 σ H1 _ I1 (tl q1 e1 rd o1)) fun ws s2 ⟨zs, H2, I2, rz, L2, c2, gs, q2, rd2, rg, hgl, o2⟩ => ⟨I2.kIn, ?_⟩
    rw [k2]
    exact fin I2 rv rz q2 rd2 rg hdl hgl o2

/-! ### compares as tests -/
theorem pc_op {op : CmpOp} {r : R2} {ta tb : TE} (ho : OpR X (compareOp op) r) (ha : PE X a ta) (hb : PE X b tb) : PC X op a b (tOp r ta tb) :=
  ⟨fun pins s σ H Q I h => binT ha hb I h fun v u s2 x y H2 I2 rx ry q => ho pins s2 σ H2 x y v u Q I2 rx ry q⟩
/-- a step whose value is always a truth value -/
def IsB (r : R PV) : Prop := match r with
  | .ok (.d (.bl _)) _ => True
  | .bad => True
  | _ => False
theorem tB_of {σ : L2.St} {H : Hp} {Q : Bool → Hp → Prop} (hb : ∀ ρ s, IsB (evE C ea ρ s)) (h : tT X.K (evE C ea) σ H Q) : tB (tM X.K (evE C ea)) σ H Q := by
  obtain ⟨L, ρ, st, q, e, o⟩ := h
  refine ⟨L, ρ, st, q, e, ?_⟩
  have z := hb ρ st
  cases r : evE C ea ρ st with
  | bad => rw [r] at o; exact o
  | ok p s1 =>
    rw [r] at o z
    cases p with
    | d x => cases x with
      | bl b =>
        intro L1 H1 v v1 q1 r1
        have r1' : Rep X.K L1 H1 (.bl b) v := r1
        cases r1'
        simp only [OutT, PV.rd, Option.bind, truth] at o
        exact ⟨b, rfl, o L1 H1 v1 q1⟩
      | _ => exact z.elim
    | _ => exact z.elim
theorem isB_cmp (o : CO) (ρ : Env) (s : CS) : IsB (evE C (.cmp o ea eb) ρ s) := by
  simp only [evE]
  cases evE C ea ρ s with
  | bad => exact trivial
  | ok x s1 =>
    simp only [R.bind]
    cases evE C eb ρ s1 with
    | bad => exact trivial
    | ok y s2 =>
      simp only
      cases x.rd s2 with
      | none => exact trivial
      | some dx => cases y.rd s2 with
        | none => exact trivial
        | some dy =>
          simp only
          have : ∀ d, cmpop o dx dy = some d → ∃ b, d = .bl b := by
            intro d h
            cases o with
            | eq => obtain ⟨c, _, e⟩ := Option.map_eq_some_iff.mp h; exact ⟨_, e.symm⟩
            | ne => obtain ⟨c, _, e⟩ := Option.map_eq_some_iff.mp h; exact ⟨_, e.symm⟩
            | mem => obtain ⟨c, _, e⟩ := Option.map_eq_some_iff.mp h; exact ⟨_, e.symm⟩
            | nmem => obtain ⟨c, _, e⟩ := Option.map_eq_some_iff.mp h; exact ⟨_, e.symm⟩
            | _ => cases dx <;> cases dy <;> first | (cases h; exact ⟨_, rfl⟩) | cases h
          cases h : cmpop o dx dy with
          | none => exact trivial
          | some d =>
            obtain ⟨b, rfl⟩ := this d h
            exact trivial
theorem isB_isn (n : Bool) (ρ : Env) (s : CS) : IsB (evE C (.isn n ea) ρ s) := by
  simp only [evE]
  cases evE C ea ρ s with
  | bad => exact trivial
  | ok x s1 =>
    simp only [R.bind]
    cases isNone x s1 <;> exact trivial
theorem tOp_reads {o : CO} {σ : L2.St} {H : Hp} {Q : VK} (h : tM X.K (evE C (.cmp o ea eb)) σ H Q) : tOp (rB X.K (cmpop o)) (tM X.K (evE C ea)) (tM X.K (evE C eb)) σ H Q := by
  obtain ⟨L, ρ, st, s, e, o1⟩ := h
  simp only [evE] at o1
  refine tM_bind (O := fun L H r => Out X.K L H Q r) Out.fam s e o1 fun v H1 L1 s1 p v1 q1 e1 r1 o1 => ?_
  refine tM_bind (O := fun L H r => Out X.K L H Q r) Out.fam q1 e1 o1 fun u H2 L2 s2 p2 v2 q2 e2 r2 o2 => ?_
  have r1' := r1.ev v2
  cases h1 : p.rd s2 with
  | none => rw [h1] at o2; exact o2.elim
  | some x =>
    cases h2 : p2.rd s2 with
    | none => rw [h1, h2] at o2; exact o2.elim
    | some y =>
      rw [h1, h2] at o2
      exact ⟨L2, s2, x, y, q2, rd_w q2 r1' h1, rd_w q2 r2 h2, o2⟩
theorem sT_cmp (o : CO) (hu : X.A.units + 65 < cLine) (hm : behindInMarks (coOp o) b = false) (ha : SE X C a ea) (hb : SE X C b eb) : ST X C (.Compare a [coOp o] [b] pos) (.cmp o ea eb) :=
  pt_imp (pt_cmp (pc_op (op_cmp o hu) ha hb) hm) fun σ H Q h => tOp_reads (tB_of (isB_cmp o) h)
theorem isn_reads (n : Bool) {σ : L2.St} {H : Hp} {Q : VK} (h : tM X.K (evE C (.isn n ea)) σ H Q) : tM X.K (evE C ea) σ H fun v H1 => Q (.bl (decide (v = .non) != n)) H1 := by
  obtain ⟨L, ρ, st, s, e, o⟩ := h
  simp only [evE] at o
  refine tM_bind (O := fun L H r => Out X.K L H Q r) Out.fam s e o fun v H1 L1 s1 p v1 q1 e1 r1 o1 => ?_
  cases h : isNone p s1 with
  | none => rw [h] at o1; exact o1.elim
  | some b =>
    rw [h] at o1
    rw [r1.isn q1 h]
    exact o1.val q1 (.bl _)
theorem sT_isn (ha : SE X C a ea) {j : Nat} {p' : Pos} : ST X C (.Compare a [.Is] [.Constant .none j p'] pos) (.isn false ea) :=
  pt_imp (pt_cmp (pc_isN ha) rfl) fun σ H Q h => by
    have z := isn_reads false (tB_of (isB_isn false) h)
    simp only [Bool.bne_false] at z
    exact z
theorem sT_notn (ha : SE X C a ea) {j : Nat} {p' : Pos} : ST X C (.Compare a [.IsNot] [.Constant .none j p'] pos) (.isn true ea) :=
  pt_imp (pt_cmp (pc_notN ha) rfl) fun σ H Q h => by
    have z := isn_reads true (tB_of (isB_isn true) h)
    simp only [Bool.bne_true] at z
    exact z

/-! ### constants of the text -/
theorem sE_glob {d : D} {v : V} {u : Value} (gl : Gl X x) (hm : X.mg x = some u) (rv : RelV v u) (rd : ∀ L H, Rep X.K L H d v) (hdb : (x == ("__debug__" : Str)) = false) : SE X C (.Name x pos) (.lit d) :=
  pe_imp (pe_glob gl hm rv hdb) fun σ H Q ⟨L, ρ, st, s, e, o⟩ => o.val s (rd L H)

/-! ### statements -/
theorem sS_stop {x : Stmt} : SS X C x .stop := ⟨fun pins s σ H D I h => by
  obtain ⟨L, ρ, st, q, e, o⟩ := h
  simp only [exS] at o
  exact o.elim⟩
theorem sS_asgW {n : Str} {i : Nat} (hN : X.N.Nodup) (hi : X.N[i]? = some n) (hx : Loc X.env.scope n) (hf : X.fn n = true ∨ X.env.scope.names.lookup n = some .local) (hw : swapsWith a (some (.Name n p)) pos.line X.env = pure false) (ha : SE X C a ea) : SS X C (.Assign [.Name n p] a pos) (.asg i ea) :=
  ps_imp (ps_set hN hi hx ha hw hf) fun D σ H h => asg_reads (fun _ _ _ h => h) h
theorem sS_asg3P {i j l : Nat} {y m z : Str} {px py pz pt pt2 : Pos} {kt k2 : Nat} {es : Es} (hc : X.calm = true) (hN : X.N.Nodup) (hi : X.N[i]? = some y) (hj : X.N[j]? = some m) (hl : X.N[l]? = some z) (hij : i ≠ j) (hil : i ≠ l) (hjl : j ≠ l) (hx : X.env.scope.names.lookup y = some .local) (hy : X.env.scope.names.lookup m = some .local) (hz : X.env.scope.names.lookup z = some .local)
    (hw : swappedStores [.Tuple [.Name y px, .Name m py, .Name z pz] kt pt] (.Tuple [a, b, c] k2 pt2) X.env = pure (some [y, m, z])) (ha : SA X C [a, b, c] es) : SS X C (.Assign [.Tuple [.Name y px, .Name m py, .Name z pz] kt pt] (.Tuple [a, b, c] k2 pt2) pos) (.asg2 [i, j, l] es) :=
  ps_imp (ps_par3 hc hN hi hj hl hij hil hjl hx hy hz ha hw) fun D σ H ⟨L, ρ, st, s, e, o⟩ => by
    simp only [exS] at o
    refine tA_bind (O := OutS X.K D) OutS.fam s e o fun vs H1 L1 s1 ps v1 q1 e1 r1 o1 => ?_
    cases r1 with
    | nil => exact o1.elim
    | cons z1 z2 => cases z2 with
      | nil => exact o1.elim
      | cons z3 z4 => cases z4 with
        | nil => exact o1.elim
        | cons z5 z6 => cases z6 with
          | cons _ _ => exact o1.elim
          | nil => exact ⟨_, _, _, rfl, o1 L1 H1 _ (.refl _ _) q1 (((e1.set i z1).set j z3).set l z5)⟩
/-- the stores of a written tuple: none where they go by way of a tuple, the names where they are swapped -/
def swS (sc : Scope) (ts vs : List Expr) : Option (Option (List Str)) :=
  if !(ts.length == 2 || ts.length == 3) || vs.length != ts.length then some none
  else if !(vs.all plainX) then none
  else
    let line := (ts.head?.map (·.pos.line)).getD 0
    let names := ts.filterMap fun
      | .Name id pos => if sc.names.lookup id == some .local && pos.line == line then some id else none
      | _ => none
    if names.length != ts.length || names.eraseDups.length != names.length then some none
    else if vs.all (foldedForSure 8) then some none
    else if vs.all (constantsAlone 8) then none
    else some (some names)
theorem swS_ok {ts vs : List Expr} {r : Option (List Str)} {kt k2 : Nat} {pt pt2 : Pos} {env : PySem.Env} (hk : env.scope.kind = .function) (h : swS env.scope ts vs = some r) : swappedStores [.Tuple ts kt pt] (.Tuple vs k2 pt2) env = pure r := by
  have hbk : env.blockKind = .function := by
    unfold Env.blockKind
    rw [hk]; rfl
  have nostar : vs.all plainX = true → (vs.any fun | .Starred .. => true | _ => false) = false := fun q => by
    rw [List.any_eq_false]
    intro e he
    have := List.all_eq_true.mp q e he
    cases e <;> first | exact absurd this Bool.false_ne_true | (intro z; cases z)
  unfold swS at h
  unfold swappedStores
  simp only [pure_bind]
  by_cases c1 : (!(ts.length == 2 || ts.length == 3) || vs.length != ts.length) = true
  · rw [if_pos c1] at h
    cases h
    rw [if_pos (by rw [c1]; rfl)]
  · rw [if_neg c1] at h
    rw [if_neg (by rw [hbk]; simpa using c1)]
    by_cases c2 : (!(vs.all plainX)) = true
    · rw [if_pos c2] at h; cases h
    · rw [if_neg c2] at h
      have c2' : vs.all plainX = true := by simpa using c2
      split
      · rename_i z
        exact Bool.noConfusion ((nostar c2').symm.trans z)
      · generalize hn : (ts.filterMap fun
            | .Name id pos => if env.scope.names.lookup id == some .local && pos.line == (ts.head?.map (·.pos.line)).getD 0 then some id else none
            | _ => none) = nm
        have h' : (if (nm.length != ts.length || nm.eraseDups.length != nm.length) = true then some none else if vs.all (foldedForSure 8) = true then some none else if vs.all (constantsAlone 8) = true then none else some (some nm)) = some r := by
          rw [← hn]
          exact h
        have g : (if (nm.length != ts.length || nm.eraseDups.length != nm.length) = true then (pure none : Sem (Option (List Str))) else if vs.all (foldedForSure 8) = true then pure none else if vs.all (constantsAlone 8) = true then (unsupported "assign.tuple-of-constant-expressions:order-of-the-stores" >>= fun (_ : Unit) => pure (some nm)) else pure (some nm)) = pure r := by
          by_cases d1 : (nm.length != ts.length || nm.eraseDups.length != nm.length) = true
          · rw [if_pos d1] at h' ⊢; cases h'; rfl
          · rw [if_neg d1] at h' ⊢
            by_cases d2 : vs.all (foldedForSure 8) = true
            · rw [if_pos d2] at h' ⊢; cases h'; rfl
            · rw [if_neg d2] at h' ⊢
              by_cases d3 : vs.all (constantsAlone 8) = true
              · rw [if_pos d3] at h'; cases h'
              · rw [if_neg d3] at h' ⊢; cases h'; rfl
        rw [← hn] at g
        exact g
end
end PD

set_option Elab.async false
set_option linter.all false
set_option autoImplicit false
set_option maxRecDepth 100000
/-! PdL: whether an expression of the text is a given one of the small language: a checker, and its proof. -/
namespace PD
open PySem PySem.Spec L2

structure Fn where
  name : Str
  qual : Str
  st : Stmt
  N : List Str
  ps : List Str
  g : Fd
  ways : List (Nat × List Str × List Nat)
structure Tbl where
  fns : List Fn
  free : List Str
  consts : List (Str × D)
/-- what is asked of an expression: its value; its truth; a new list; the parts of a comprehension -/
inductive Md where | val | test | new | comp

def sq (a b : Str) : Bool := a.cps.toList == b.cps.toList
theorem sq_ok {a b : Str} (h : sq a b = true) : a = b := by
  have h' : a.cps.toList = b.cps.toList := by simpa [sq] using h
  cases a; cases b
  simp only [Str.mk.injEq]
  exact Array.toList_inj.mp h'
theorem sq_no {a b : Str} (h : (!sq a b) = true) : (a == b) = false := by
  have h' : sq a b = false := by simpa using h
  rw [beq_eq_false_iff_ne]
  rintro rfl
  simp [sq] at h'
def lk (sc : Scope) (n : Str) : Option NameKind := (sc.names.find? fun p => sq n p.1).map (·.2)
theorem lk_ok (sc : Scope) (n : Str) : lk sc n = sc.names.lookup n := by
  unfold lk
  induction sc.names with
  | nil => rfl
  | cons p r ih =>
    obtain ⟨m, k⟩ := p
    rw [List.find?_cons, List.lookup_cons]
    have : (n == m) = sq n m := by
      cases h : sq n m with
      | true => rw [sq_ok h]; simp
      | false => exact sq_no (by rw [h]; rfl)
    rw [this]
    cases sq n m with
    | true => rfl
    | false => exact ih
def leafM : Md → Bool
  | .val => true
  | .test => true
  | _ => false
def listM : Md → Bool
  | .comp => false
  | _ => true
def isBo : BO → Operator → Bool
  | .add, .Add => true
  | .sub, .Sub => true
  | .mul, .Mult => true
  | .fdiv, .FloorDiv => true
  | .mod, .Mod => true
  | .pow, .Pow => true
  | _, _ => false
theorem isBo_ok {o : BO} {p : Operator} (h : isBo o p = true) : p = boOp o := by cases o <;> cases p <;> first | rfl | cases h
def isCo : CO → CmpOp → Bool
  | .eq, .Eq => true
  | .ne, .NotEq => true
  | .lt, .Lt => true
  | .le, .LtE => true
  | .gt, .Gt => true
  | .ge, .GtE => true
  | .mem, .In => true
  | .nmem, .NotIn => true
  | _, _ => false
theorem isCo_ok {o : CO} {p : CmpOp} (h : isCo o p = true) : p = coOp o := by cases o <;> cases p <;> first | rfl | cases h
def isIs : Bool → CmpOp → Bool
  | false, .Is => true
  | true, .IsNot => true
  | _, _ => false
def eqLit : D → Const → Bool
  | .non, .none => true
  | .bl a, .bool b => a == b
  | .int a, .int b => decide (a = b)
  | .str a, .str b => sq a b
  | _, _ => false
mutual
def eqD0 : D → D → Bool
  | .non, .non => true
  | .bl a, .bl b => a == b
  | .int a, .int b => decide (a = b)
  | .str a, .str b => sq a b
  | .tup a, .tup b => eqDs0 a b
  | _, _ => false
def eqDs0 : List D → List D → Bool
  | [], [] => true
  | x :: xs, y :: ys => eqD0 x y && eqDs0 xs ys
  | _, _ => false
end
mutual
theorem eqD0_ok : ∀ {a b : D}, eqD0 a b = true → a = b
  | .non, b, h => by cases b <;> first | rfl | cases h
  | .bl a, b, h => by
    cases b <;> first | cases h | skip
    rw [eqD0] at h
    rw [beq_iff_eq.mp h]
  | .int a, b, h => by
    cases b <;> first | cases h | skip
    rw [eqD0] at h
    rw [of_decide_eq_true h]
  | .str a, b, h => by
    cases b <;> first | cases h | skip
    rw [eqD0] at h
    rw [sq_ok h]
  | .tup a, b, h => by
    cases b <;> first | cases h | skip
    rw [eqD0] at h
    rw [eqDs0_ok h]
  | .lst a, b, h => by cases b <;> cases h
theorem eqDs0_ok : ∀ {a b : List D}, eqDs0 a b = true → a = b
  | [], b, h => by cases b <;> first | rfl | cases h
  | x :: xs, b, h => by
    cases b with
    | nil => cases h
    | cons y ys =>
      rw [eqDs0, Bool.and_eq_true] at h
      rw [eqD0_ok h.1, eqDs0_ok h.2]
end
def visB (sc : Scope) (n : Str) : Bool := match lk sc n with
  | some .local => true
  | some .cell => true
  | some .free => true
  | _ => false
theorem visB_ok {sc : Scope} {n : Str} (h : visB sc n = true) : Vis sc n := by
  unfold visB at h
  rw [lk_ok] at h
  unfold Vis
  split at h <;> first | (rename_i e; rw [e]; simp) | cases h
def glB (sc : Scope) (n : Str) : Bool := match lk sc n with
  | some .globalImplicit => true
  | _ => false
theorem glB_ok {X : L2.Cx} {n : Str} (h : glB X.env.scope n = true) : Gl X n := by
  unfold glB at h
  rw [lk_ok] at h
  split at h <;> first | (rename_i e; exact e) | cases h
def locB (sc : Scope) (n : Str) : Bool := match lk sc n with
  | some .local => true
  | _ => false
theorem locB_ok {sc : Scope} {n : Str} (h : locB sc n = true) : sc.names.lookup n = some .local := by
  unfold locB at h
  rw [lk_ok] at h
  split at h <;> first | (rename_i e; exact e) | cases h
def celB (sc : Scope) (n : Str) : Bool := match lk sc n with
  | some .cell => true
  | _ => false
theorem celB_ok {sc : Scope} {n : Str} (h : celB sc n = true) : sc.names.lookup n = some .cell := by
  unfold celB at h
  rw [lk_ok] at h
  split at h <;> first | (rename_i e; exact e) | cases h
def ixB (N : List Str) (i : Nat) (n : Str) : Bool := match N[i]? with
  | some m => sq m n
  | none => false
theorem ixB_ok {N : List Str} {i : Nat} {n : Str} (h : ixB N i n = true) : N[i]? = some n := by
  unfold ixB at h
  split at h
  · rename_i m e
    rw [e, sq_ok h]
  · cases h
def freeB (T : Tbl) (n : Str) : Bool := T.free.any (sq n)
theorem freeB_ok {T : Tbl} {n : Str} (h : freeB T n = true) : n ∈ T.free := by
  obtain ⟨m, hm, e⟩ := List.any_eq_true.mp h
  rw [sq_ok e]; exact hm
def constB (T : Tbl) (n : Str) (d : D) : Bool := T.consts.any fun p => sq n p.1 && eqD0 d p.2
theorem constB_ok {T : Tbl} {n : Str} {d : D} (h : constB T n d = true) : (n, d) ∈ T.consts := by
  obtain ⟨⟨m, d'⟩, hm, e⟩ := List.any_eq_true.mp h
  rw [Bool.and_eq_true] at e
  rw [sq_ok e.1, eqD0_ok e.2]; exact hm
def fnB (T : Tbl) (f : Nat) (n : Str) : Bool := match T.fns[f]? with
  | some fn => sq fn.name n
  | none => false
def eqSs : List Str → List Str → Bool
  | [], [] => true
  | a :: r, b :: s => sq a b && eqSs r s
  | _, _ => false
theorem eqSs_ok : ∀ {a b : List Str}, eqSs a b = true → a = b
  | [], [], _ => rfl
  | [], _ :: _, h => by cases h
  | _ :: _, [], h => by cases h
  | x :: a, y :: b, h => by
    rw [eqSs, Bool.and_eq_true] at h
    rw [sq_ok h.1, eqSs_ok h.2]
def wayB (T : Tbl) (f n : Nat) (ks : List Str) (perm : List Nat) : Bool := match T.fns[f]? with
  | some fn => (fn.ways.any fun q => decide (q.1 = n) && eqSs q.2.1 ks && decide (q.2.2 = perm)) && decide (perm.length = fn.ps.length)
  | none => false
def kwNames (kws : List Keyword) : List Str := kws.filterMap fun k => k.arg
theorem kwNames_ok : ∀ {kws : List Keyword}, kws.all (fun k => k.arg.isSome) = true → kws.map (·.arg) = (kwNames kws).map some
  | [], _ => rfl
  | ⟨none, e, p⟩ :: r, h => by simp at h
  | ⟨some n, e, p⟩ :: r, h => by
    simp only [List.all_cons, Bool.and_eq_true] at h
    have := kwNames_ok h.2
    unfold kwNames at this ⊢
    simp only [List.map_cons, List.filterMap_cons, this]
/-! comprehensions' blocks, targets -/
def blkB (N : List Str) (sc scope : Scope) (own : List Nat) : Bool :=
  (match scope.kind with | .function => true | _ => false) && (scope.names.all fun y => match lk scope y.1 with | some k => decide (k = y.2) | none => false)
  && (own.all fun i => decide (i < N.length))
  && (scope.names.all fun y => match y.2 with
    | .free => celB sc y.1 || (match lk sc y.1 with | some .free => true | _ => false)
    | .local => (own.any fun i => ixB N i y.1) || !(N.any (sq y.1))
    | .cell => (own.any fun i => ixB N i y.1) || !(N.any (sq y.1))
    | _ => true)
def ownP (N : List Str) (own : List Nat) : List (Str × Nat) := own.map fun i => ((N[i]?).getD "", i)
theorem ownP_2 (N : List Str) (own : List Nat) : (ownP N own).map (·.2) = own := by
  unfold ownP
  rw [List.map_map]
  exact (List.map_congr_left fun _ _ => rfl).trans (List.map_id _)
theorem blkB_ok {N : List Str} {sc scope : Scope} {own : List Nat} (h : blkB N sc scope own = true) : BlkOk N sc scope (ownP N own) := by
  unfold blkB at h
  simp only [Bool.and_eq_true] at h
  obtain ⟨⟨⟨h1, h2⟩, h3⟩, h4⟩ := h
  have inN : ∀ {n : Str} {i : Nat}, i ∈ own → ixB N i n = true → n ∈ (ownP N own).map (·.1) := fun {n i} hi e => by
    refine List.mem_map.mpr ⟨(n, i), ?_, rfl⟩
    refine List.mem_map.mpr ⟨i, hi, ?_⟩
    rw [ixB_ok e]; rfl
  have notN : ∀ {n : Str}, (!(N.any (sq n))) = true → n ∉ N := fun {n} e m => by
    have : N.any (sq n) = true := List.any_eq_true.mpr ⟨n, m, by simp [sq]⟩
    rw [this] at e; cases e
  refine ⟨?_, fun y hy => ?_, fun p hp => ?_, fun y hy e => ?_, fun y hy e => ?_⟩
  · cases e : scope.kind <;> rw [e] at h1 <;> first | rfl | cases h1
  · have := List.all_eq_true.mp h2 y hy
    rw [lk_ok] at this
    split at this
    · rename_i k e
      rw [e, of_decide_eq_true this]
    · cases this
  · obtain ⟨i, hi, rfl⟩ := List.mem_map.mp hp
    have := of_decide_eq_true (List.all_eq_true.mp h3 i hi)
    show N[i]? = some ((N[i]?).getD "")
    rw [List.getElem?_eq_getElem this]; rfl
  · have := List.all_eq_true.mp h4 y hy
    rw [e] at this
    simp only [Bool.or_eq_true] at this
    rcases this with z | z
    · exact .inl (celB_ok z)
    · rw [lk_ok] at z
      split at z <;> first | (rename_i e; exact .inr e) | cases z
  · have := List.all_eq_true.mp h4 y hy
    rcases e with e | e
    · rw [e] at this
      simp only [Bool.or_eq_true] at this
      rcases this with z | z
      · obtain ⟨i, hi, z⟩ := List.any_eq_true.mp z
        exact .inl (inN hi z)
      · exact .inr (notN z)
    · rw [e] at this
      simp only [Bool.or_eq_true] at this
      rcases this with z | z
      · obtain ⟨i, hi, z⟩ := List.any_eq_true.mp z
        exact .inl (inN hi z)
      · exact .inr (notN z)
/-- a name that may be stored into; fs: the names known to the scope as it was written -/
def stoB (fb : Bool) (sc fs : Scope) (n : Str) : Bool := locB sc n || (celB sc n && (fb || celB fs n))
def tgB (N : List Str) (fb : Bool) (sc fs : Scope) : Bool → List Nat → Expr → Bool
  | false, [i], .Name n _ => ixB N i n && stoB fb sc fs n
  | true, is, .Tuple ts _ _ => tgsB N fb sc fs is ts
  | _, _, _ => false
where tgsB (N : List Str) (fb : Bool) (sc fs : Scope) : List Nat → List Expr → Bool
  | [], [] => true
  | i :: is, .Name n _ :: ts => ixB N i n && stoB fb sc fs n && tgsB N fb sc fs is ts
  | _, _ => false
theorem stoB_ok {X : L2.Cx} {fb : Bool} {fs : Scope} {n : Str} (hf : ∀ n, (fb || celB fs n) = true → X.fn n = true) (h : stoB fb X.env.scope fs n = true) : Loc X.env.scope n ∧ (X.fn n = true ∨ X.env.scope.names.lookup n = some .local) := by
  unfold stoB at h
  rw [Bool.or_eq_true, Bool.and_eq_true] at h
  rcases h with h | ⟨h1, h2⟩
  · exact ⟨.inl (locB_ok h), .inr (locB_ok h)⟩
  · exact ⟨.inr (celB_ok h1), .inl (hf n h2)⟩
theorem tgsB_ok {X : L2.Cx} {fb : Bool} {fs : Scope} (hf : ∀ n, (fb || celB fs n) = true → X.fn n = true) (hN : X.N.Nodup) : ∀ {is : List Nat} {ts : List Expr}, tgB.tgsB X.N fb X.env.scope fs is ts = true → PGs X ts (gNames is) ∧ is.length = ts.length ∧ (∀ t ∈ ts, ∃ n p, t = .Name n p)
  | [], [], _ => ⟨pgs_nil, rfl, fun _ h => nomatch h⟩
  | [], _ :: _, h => by cases h
  | i :: is, [], h => by cases h
  | i :: is, t :: ts, h => by
    cases t with
    | Name n p =>
      unfold tgB.tgsB at h
      simp only [Bool.and_eq_true] at h
      obtain ⟨⟨h1, h2⟩, h3⟩ := h
      obtain ⟨g1, g2, g3⟩ := tgsB_ok hf hN h3
      obtain ⟨l1, l2⟩ := stoB_ok hf h2
      exact ⟨pgs_cons (pg_name hN (ixB_ok h1) l1 l2) g1, congrArg Nat.succ g2, fun t ht => by
        rcases List.mem_cons.mp ht with e | e
        · exact ⟨n, p, e⟩
        · exact g3 t e⟩
    | _ => cases h
theorem each_len {env : PySem.Env} : ∀ {ts : List Expr}, (∀ t ∈ ts, ∃ n p, t = .Name n p) → (assignEach ts env).length = ts.length ∧ (assignEach ts env).findIdx? (·.1) = none
  | [], _ => ⟨rfl, rfl⟩
  | t :: ts, h => by
    obtain ⟨n, p, rfl⟩ := h t List.mem_cons_self
    obtain ⟨a, b⟩ := each_len (env := env) fun t ht => h t (List.mem_cons_of_mem _ ht)
    refine ⟨congrArg Nat.succ a, ?_⟩
    show List.findIdx? (·.1) ((false, _) :: assignEach ts env) = none
    rw [List.findIdx?_cons, b]; rfl
theorem pg_names {X : L2.Cx} {fb : Bool} {fs : Scope} (hc : X.calm = true) (hf : ∀ n, (fb || celB fs n) = true → X.fn n = true) (hN : X.N.Nodup) {is : List Nat} {ts : List Expr} {k : Nat} {p : Pos} (h : tgB.tgsB X.N fb X.env.scope fs is ts = true) : PG X (.Tuple ts k p) (gTup X.K is.length (gNames is)) := by
  obtain ⟨g1, g2, g3⟩ := tgsB_ok hf hN h
  obtain ⟨a, b⟩ := each_len (env := X.env) g3
  exact pg_tup hc g1 (a.trans g2.symm) b
theorem tgB_ok {X : L2.Cx} {fb : Bool} {fs : Scope} (hc : X.calm = true) (hf : ∀ n, (fb || celB fs n) = true → X.fn n = true) (hN : X.N.Nodup) {many : Bool} {is : List Nat} {t : Expr} (h : tgB X.N fb X.env.scope fs many is t = true) : PG X t (tgOf X.K many is) := by
  unfold tgB at h
  split at h
  · rw [Bool.and_eq_true] at h
    obtain ⟨l1, l2⟩ := stoB_ok hf h.2
    exact pg_name hN (ixB_ok h.1) l1 l2
  · exact pg_names hc hf hN h
  · cases h

/-! ### the checker -/
mutual
def chk (T : Tbl) (N : List Str) : E → Md → Scope → Expr → Bool
  | .lit d, m, sc, x => leafM m && match x with
    | .Constant c _ _ => eqLit d c
    | .Name n _ => glB sc n && constB T n d && !sq n "__debug__"
    | _ => false
  | .var i, m, sc, x => leafM m && match x with
    | .Name n _ => ixB N i n && visB sc n && !sq n "__debug__" && !sq n "__classdict__"
    | _ => false
  | .bin o a b, m, sc, x => leafM m && match x with
    | .BinOp xa op xb _ => isBo o op && chk T N a .val sc xa && chk T N b .val sc xb
    | _ => false
  | .neg a, m, sc, x => leafM m && match x with
    | .UnaryOp .USub xa _ => chk T N a .val sc xa
    | _ => false
  | .cmp o a b, m, sc, x => leafM m && match x with
    | .Compare xa [op] [xb] _ => isCo o op && !behindInMarks op xb && chk T N a .val sc xa && chk T N b .val sc xb
    | _ => false
  | .isn n a, m, sc, x => leafM m && match x with
    | .Compare xa [op] [.Constant .none _ _] _ => isIs n op && chk T N a .val sc xa
    | _ => false
  | .and es, m, sc, x => leafM m && match x with
    | .BoolOp .And (xa :: xs) _ => chks T N es m sc (xa :: xs)
    | _ => false
  | .or es, m, sc, x => leafM m && match x with
    | .BoolOp .Or (xa :: xs) _ => chks T N es m sc (xa :: xs)
    | _ => false
  | .not a, m, sc, x => leafM m && match x with
    | .UnaryOp .Not xa _ => chk T N a m sc xa
    | _ => false
  | .ite c a b, m, sc, x => leafM m && match x with
    | .IfExp xc xa xb _ => chk T N c .test sc xc && chk T N a m sc xa && chk T N b m sc xb
    | _ => false
  | .tup es, m, sc, x => leafM m && match x with
    | .Tuple xs _ _ => xs.all plainX && chks T N es .val sc xs
    | _ => false
  | .lst es, m, sc, x => listM m && match x with
    | .List xs _ => xs.all plainX && chks T N es .val sc xs
    | _ => false
  | .new e, m, sc, x => (match m with | .val => true | _ => false) && chk T N e .new sc x
  | .idx a i, m, sc, x => leafM m && match x with
    | .Subscript xa xi _ => plainX xi && chk T N a .val sc xa && chk T N i .val sc xi
    | _ => false
  | .sli a lo hi, m, sc, x => listM m && match x with
    | .Subscript xa (.Slice xl xh none _) _ => chk T N a .val sc xa && chko T N lo sc xl && chko T N hi sc xh
    | _ => false
  | .call f es, m, sc, x => leafM m && match x with
    | .Call (.Name n _) xs [] _ => fnB T f n && glB sc n && !sq n "__debug__" && xs.all plainX && chks T N es .val sc xs
    | _ => false
  | .callk f perm es ks, m, sc, x => leafM m && match x with
    | .Call (.Name n _) xs (kw :: kws) _ => fnB T f n && glB sc n && !sq n "__debug__" && xs.all plainX && ((kw :: kws).all fun k => k.arg.isSome) && wayB T f xs.length (kwNames (kw :: kws)) perm && chks T N es .val sc xs && chkk T N ks sc (kw :: kws)
    | _ => false
  | .bi b es, m, sc, x => leafM m && match x with
    | .Call (.Name n _) (xa :: xs) [] _ => sq n (biName b) && glB sc (biName b) && freeB T (biName b) && (xa :: xs).all plainX && chks T N es .val sc (xa :: xs)
    | _ => false
  | .isi a k, m, sc, x => leafM m && match x with
    | .Call (.Name n _) [xa, .Name t _] [] _ => sq n "isinstance" && glB sc "isinstance" && freeB T "isinstance" && sq t (Str.ofString (tkName k)) && glB sc (Str.ofString (tkName k)) && freeB T (Str.ofString (tkName k)) && plainX xa && chk T N a .val sc xa
    | _ => false
  | .lrg e, m, sc, x => listM m && match x with
    | .Call (.Name n _) [.Call (.Name r _) [xa] [] _] [] _ => sq n "list" && glB sc "list" && freeB T "list" && sq r "range" && glB sc "range" && freeB T "range" && plainX xa && chk T N e .val sc xa
    | _ => false
  | .comp e tg many it ifs own, m, sc, x => match x with
    | .ListComp elt [⟨tgx, iter, ifsx, 0⟩] scope _ => blkB N sc scope own && (tg.all fun i => own.any fun j => decide (i = j)) && tgB N false (relS scope sc) scope many tg tgx && plainX iter && chkIt T N it sc tgx iter
      && decide (ifsx.length ≤ 1) && chks T N ifs .test (relS scope sc) ifsx && chk T N e .val (relS scope sc) elt
    | _ => false
def chks (T : Tbl) (N : List Str) : Es → Md → Scope → List Expr → Bool
  | .nil, _, _, xs => match xs with
    | [] => true
    | _ => false
  | .cons e es, m, sc, xs => match xs with
    | x :: xs => chk T N e m sc x && chks T N es m sc xs
    | _ => false
def chkk (T : Tbl) (N : List Str) : Es → Scope → List Keyword → Bool
  | .nil, _, xs => match xs with
    | [] => true
    | _ => false
  | .cons e es, sc, xs => match xs with
    | ⟨_, x, _⟩ :: xs => chk T N e .val sc x && chkk T N es sc xs
    | _ => false
def chko (T : Tbl) (N : List Str) : Eo → Scope → Option Expr → Bool
  | .none, _, x => match x with
    | none => true
    | _ => false
  | .some e, sc, x => match x with
    | some x => chk T N e .val sc x
    | _ => false
def chkIt (T : Tbl) (N : List Str) : It → Scope → Expr → Expr → Bool
  | .seq e, sc, _, x => chk T N e .val sc x
  | .rng1 e, sc, _, x => match x with
    | .Call (.Name n _) [xa] [] _ => sq n "range" && glB sc "range" && freeB T "range" && plainX xa && chk T N e .val sc xa
    | _ => false
  | .rng2 a b, sc, _, x => match x with
    | .Call (.Name n _) [xa, xb] [] _ => sq n "range" && glB sc "range" && freeB T "range" && plainX xa && plainX xb && chk T N a .val sc xa && chk T N b .val sc xb
    | _ => false
  | .enum e, sc, tg, x => (match tg with | .Tuple _ _ _ => true | _ => false) && match x with
    | .Call (.Name n _) [xa] [] _ => sq n "enumerate" && glB sc "enumerate" && freeB T "enumerate" && plainX xa && chk T N e .val sc xa
    | _ => false
end

/-! ### its proof -/
structure TOk (X : L2.Cx) (C : Cl) (T : Tbl) (k : Nat) : Prop where
  calm : X.calm = true
  nodup : X.N.Nodup
  room : Room k X.A
  guards : X.A.guards = some []
  kind : X.env.scope.kind = .function
  free : ∀ n, n ∈ T.free → X.mg n = none
  consts : ∀ n d, (n, d) ∈ T.consts → ∃ u v, X.mg n = some u ∧ RelV v u ∧ ∀ L H, Rep X.K L H d v
  fns : ∀ (f : Nat) (fn : Fn), T.fns[f]? = some fn → ∃ fa fd, FnG X.prog X.w X.K X.mg X.base k fa fd fn.ps (C.call f) ∧ (∀ ds st, ds.length ≠ fn.ps.length → C.call f ds st = .bad) ∧ Binds X.K fd fn.ps [] ∧ (∀ q ∈ fn.ways, KB X.K fd fn.ps q.1 q.2.1 q.2.2) ∧
    X.mg fn.name = some (.ref fa) ∧ PySem.W.keepIn X.K (.ref fa) = true
def CompI (X : L2.Cx) (C : Cl) (x : Expr) (e : E) : Prop := match e, x with
  | .comp ee tgs many it ies own, .ListComp elt [⟨tg, iter, ifs, 0⟩] scope _ => BlkOk X.N X.env.scope scope (ownP X.N own) ∧ (∀ i ∈ tgs, i ∈ (ownP X.N own).map (·.2)) ∧ SI X C tg iter it ∧ plainX iter = true ∧
    (∀ (s : Shared) (H : Hp) (Ca : Addr) (cl : List (Str × Addr)) (fp : List Addr), PG (X.blk s H scope (compEnvC scope cl Ca X.env) fp) tg (tgOf X.K many tgs)) ∧
    (∀ (s : Shared) (H : Hp) (Ca : Addr) (cl : List (Str × Addr)) (fp : List Addr), SIfs (X.blk s H scope (compEnvC scope cl Ca X.env) fp) C ifs ies) ∧
    (∀ (s : Shared) (H : Hp) (Ca : Addr) (cl : List (Str × Addr)) (fp : List Addr), SE (X.blk s H scope (compEnvC scope cl Ca X.env) fp) C elt ee)
  | _, _ => False
def Pm (m : Md) (X : L2.Cx) (C : Cl) (x : Expr) (e : E) : Prop := match m with
  | .val => SE X C x e
  | .test => ST X C x e
  | .new => SN X C x e
  | .comp => CompI X C x e
inductive AllP (m : Md) (X : L2.Cx) (C : Cl) : List Expr → Es → Prop
  | nil : AllP m X C [] .nil
  | cons {x : Expr} {e : E} {xs : List Expr} {es : Es} : Pm m X C x e → AllP m X C xs es → AllP m X C (x :: xs) (.cons e es)
section
variable {T : Tbl} {C : Cl} {k : Nat} {X : L2.Cx} {x : Expr} {xs : List Expr} {e : E} {es : Es} {m : Md}
theorem leafP (hm : leafM m = true) (hp : plainT x = true) (h : SE X C x e) : Pm m X C x e := by
  cases m with
  | val => exact h
  | test => exact sT_plain h (test_plain hp X.env)
  | _ => cases hm
theorem listP (hm : listM m = true) (hp : plainT x = true) (h : SN X C x e) (hl : ∀ ρ s, IsL (evE C e ρ s)) : Pm m X C x e := by
  cases m with
  | val => exact sE_of_new h hl
  | test => exact sT_plain (sE_of_new h hl) (test_plain hp X.env)
  | new => exact h
  | comp => cases hm
theorem AllP.sA (h : AllP .val X C xs es) (hp : xs.all plainX = true) : SA X C xs es := by
  induction h with
  | nil => exact sA_nil
  | cons a _ ih =>
    rw [List.all_cons, Bool.and_eq_true] at hp
    exact sA_cons a (ih hp.2) hp.1
theorem AllP.sAnd {a : Expr} (h : AllP .val X C (a :: xs) es) : SAnd X C (a :: xs) es := by
  cases h with
  | @cons _ e0 _ _ h t =>
    induction t generalizing a e0 with
    | nil => exact sAnd_one h
    | cons h2 t ih => exact sAnd_cons h (ih h2)
theorem AllP.sOr {a : Expr} (h : AllP .val X C (a :: xs) es) : SOr X C (a :: xs) es := by
  cases h with
  | @cons _ e0 _ _ h t =>
    induction t generalizing a e0 with
    | nil => exact sOr_one h
    | cons h2 t ih => exact sOr_cons h (ih h2)
theorem AllP.wAnd {a : Expr} (h : AllP .test X C (a :: xs) es) : WAnd X C (a :: xs) es := by
  cases h with
  | @cons _ e0 _ _ h t =>
    induction t generalizing a e0 with
    | nil => exact wAnd_one h
    | cons h2 t ih => exact wAnd_cons h (ih h2)
theorem AllP.wOr {a : Expr} (h : AllP .test X C (a :: xs) es) : WOr X C (a :: xs) es := by
  cases h with
  | @cons _ e0 _ _ h t =>
    induction t generalizing a e0 with
    | nil => exact wOr_one h
    | cons h2 t ih => exact wOr_cons h (ih h2)
theorem isL_sli (lo hi : Eo) {a : E} (ρ : Env) (s : CS) : IsL (evE C (.sli a lo hi) ρ s) := by
  simp only [evE]
  cases evE C a ρ s with
  | bad => exact trivial
  | ok p s1 =>
    simp only [R.bind]
    cases evEo C lo ρ s1 with
    | bad => exact trivial
    | ok l s2 =>
      simp only
      cases evEo C hi ρ s2 with
      | bad => exact trivial
      | ok h s3 =>
        simp only
        have key : ∀ (y : PV), IsL (lift ((y.rd s3).bind fun x => (sliD x l h).map PV.d) s3) := fun y => by
          cases y.rd s3 with
          | none => exact trivial
          | some d => cases d <;> exact trivial
        cases p with
        | scr ns => exact trivial
        | d x => exact key _
        | obj k => exact key _
def esLen : Es → Nat
  | .nil => 0
  | .cons _ es => esLen es + 1
theorem evEs_len : ∀ {es : Es} {ρ : Env} {s s' : CS} {l : List PV}, evEs C es ρ s = .ok l s' → l.length = esLen es
  | .nil, _, _, _, _, h => by simp only [evEs] at h; cases h; rfl
  | .cons e es, ρ, s, s', l, h => by
    simp only [evEs] at h
    cases r : evE C e ρ s with
    | bad => rw [r] at h; cases h
    | ok p s1 =>
      rw [r] at h
      simp only [R.bind] at h
      cases r2 : evEs C es ρ s1 with
      | bad => rw [r2] at h; cases h
      | ok q s2 =>
        rw [r2] at h
        cases h
        simp only [List.length_cons, esLen, evEs_len r2]
theorem AllP.len (h : AllP m X C xs es) : esLen es = xs.length := by
  induction h with
  | nil => rfl
  | cons _ _ ih => exact congrArg Nat.succ ih
theorem TOk.un (ok : TOk X C T k) : X.A.units + 200 < cLine := by have := ok.room.un; omega
theorem TOk.blk (ok : TOk X C T k) {scope : Scope} (hk : scope.kind = .function) (s : Shared) (H : Hp) (Ca : Addr) (cl : List (Str × Addr)) (fp : List Addr) : TOk (X.blk s H scope (compEnvC scope cl Ca X.env) fp) C T k :=
  ⟨ok.calm, ok.nodup, ok.room, ok.guards, hk, ok.free, ok.consts, ok.fns⟩
theorem sIfs_of (h : AllP .test X C xs es) (hl : xs.length ≤ 1) : SIfs X C xs es := by
  cases h with
  | nil => exact sIfs_nil
  | cons a t => cases t with
    | nil => exact sIfs_one a
    | cons _ _ => simp at hl
theorem CompI.sN (h : CompI X C x e) (hc : X.calm = true) (hN : X.N.Nodup) : SN X C x e ∧ plainT x = true ∧ ∀ ρ s, IsL (evE C e ρ s) := by
  unfold CompI at h
  split at h
  · rename_i ee tgs many it ies own elt tg iter ifs scope pos
    obtain ⟨h1, h2, h3, h4, h5, h6, h7⟩ := h
    have z := sN_comp (pos := pos) hc hN h3 h1 h2 h5 h6 h7 h4
    rw [ownP_2] at z
    exact ⟨z, rfl, fun ρ s => isL_comp ρ s⟩
  · exact h.elim
end
end PD

set_option Elab.async false
set_option linter.all false
set_option autoImplicit false
set_option maxRecDepth 100000
/-! PdM: the checker's proof. -/
namespace PD
open PySem PySem.Spec L2

theorem fnB_ok {T : Tbl} {f : Nat} {n : Str} (h : fnB T f n = true) : ∃ fn, T.fns[f]? = some fn ∧ fn.name = n := by
  unfold fnB at h
  split at h
  · rename_i fn e
    exact ⟨fn, e, sq_ok h⟩
  · cases h
theorem wayB_ok {T : Tbl} {f n : Nat} {ks : List Str} {perm : List Nat} {fn : Fn} (hf : T.fns[f]? = some fn) (h : wayB T f n ks perm = true) : (n, ks, perm) ∈ fn.ways ∧ perm.length = fn.ps.length := by
  unfold wayB at h
  rw [hf] at h
  simp only [Bool.and_eq_true] at h
  obtain ⟨⟨a, b, c⟩, hm, e⟩ := List.any_eq_true.mp h.1
  simp only [Bool.and_eq_true] at e
  obtain ⟨⟨e1, e2⟩, e3⟩ := e
  have e1 : a = n := of_decide_eq_true e1
  have e2 : b = ks := eqSs_ok e2
  have e3 : c = perm := of_decide_eq_true e3
  subst e1 e2 e3
  exact ⟨hm, of_decide_eq_true h.2⟩
inductive AllK (X : L2.Cx) (C : Cl) : List Keyword → Es → Prop
  | nil : AllK X C [] .nil
  | cons {n : Option Str} {x : Expr} {p : Pos} {e : E} {xs : List Keyword} {es : Es} : SE X C x e → AllK X C xs es → AllK X C (⟨n, x, p⟩ :: xs) (.cons e es)
theorem AllK.sK {X : L2.Cx} {C : Cl} {kws : List Keyword} {es : Es} (h : AllK X C kws es) : SK X C kws es := by
  induction h with
  | nil => exact sK_nil
  | cons a _ ih => exact sK_cons a ih
theorem AllK.len {X : L2.Cx} {C : Cl} {kws : List Keyword} {es : Es} (h : AllK X C kws es) : esLen es = kws.length := by
  induction h with
  | nil => rfl
  | cons _ _ ih => exact congrArg Nat.succ ih
theorem eqLit_ok {X : L2.Cx} {C : Cl} {d : D} {c : Const} {j : Nat} {p : Pos} (h : eqLit d c = true) : SE X C (.Constant c j p) (.lit d) := by
  cases d with
  | non => cases c <;> first | exact sE_non | cases h
  | bl a =>
    cases c <;> first | cases h | skip
    rename_i b
    have h : (a == b) = true := h
    rw [beq_iff_eq.mp h]
    exact sE_bl
  | int a =>
    cases c <;> first | cases h | skip
    rename_i b
    have h : decide (a = b) = true := h
    rw [of_decide_eq_true h]
    exact sE_int
  | str a =>
    cases c <;> first | cases h | skip
    rename_i b
    have h : sq a b = true := h
    rw [sq_ok h]
    exact sE_str
  | _ => cases c <;> cases h

mutual
theorem snd : ∀ (e : E) (T : Tbl) (C : Cl) (k : Nat) (X : L2.Cx) (m : Md) (x : Expr), TOk X C T k → chk T X.N e m X.env.scope x = true → Pm m X C x e
  | .lit d, T, C, k, X, m, x, ok, h => by
    unfold chk at h
    rw [Bool.and_eq_true] at h
    obtain ⟨hm, h⟩ := h
    split at h
    · exact leafP hm rfl (eqLit_ok h)
    · simp only [Bool.and_eq_true] at h
      obtain ⟨⟨h1, h2⟩, h3⟩ := h
      obtain ⟨u, v, g1, g2, g3⟩ := ok.consts _ _ (constB_ok h2)
      exact leafP hm rfl (sE_glob (glB_ok h1) g1 g2 g3 (sq_no h3))
    · cases h
  | .var i, T, C, k, X, m, x, ok, h => by
    unfold chk at h
    rw [Bool.and_eq_true] at h
    obtain ⟨hm, h⟩ := h
    split at h
    · simp only [Bool.and_eq_true] at h
      obtain ⟨⟨⟨h1, h2⟩, h3⟩, h4⟩ := h
      exact leafP hm rfl (sE_var (ixB_ok h1) (visB_ok h2) (sq_no h3) (sq_no h4))
    · cases h
  | .bin o a b, T, C, k, X, m, x, ok, h => by
    unfold chk at h
    rw [Bool.and_eq_true] at h
    obtain ⟨hm, h⟩ := h
    split at h
    · simp only [Bool.and_eq_true] at h
      obtain ⟨⟨h1, h2⟩, h3⟩ := h
      rw [isBo_ok h1]
      exact leafP hm rfl (sE_bin o (snd a T C k X .val _ ok h2) (snd b T C k X .val _ ok h3))
    · cases h
  | .neg a, T, C, k, X, m, x, ok, h => by
    unfold chk at h
    rw [Bool.and_eq_true] at h
    obtain ⟨hm, h⟩ := h
    split at h
    · exact leafP hm rfl (sE_neg (snd a T C k X .val _ ok h))
    · cases h
  | .cmp o a b, T, C, k, X, m, x, ok, h => by
    unfold chk at h
    rw [Bool.and_eq_true] at h
    obtain ⟨hm, h⟩ := h
    split at h
    · simp only [Bool.and_eq_true] at h
      obtain ⟨⟨⟨h1, h2⟩, h3⟩, h4⟩ := h
      have e := isCo_ok h1
      subst e
      have hb : ∀ {b : Bool}, (!b) = true → b = false := by intro b h; simpa using h
      have hu : X.A.units + 65 < cLine := by have := ok.un; omega
      cases m with
      | val => exact sE_cmp o hu (hb h2) (snd a T C k X .val _ ok h3) (snd b T C k X .val _ ok h4)
      | test => exact sT_cmp o hu (hb h2) (snd a T C k X .val _ ok h3) (snd b T C k X .val _ ok h4)
      | _ => cases hm
    · cases h
  | .isn n a, T, C, k, X, m, x, ok, h => by
    unfold chk at h
    rw [Bool.and_eq_true] at h
    obtain ⟨hm, h⟩ := h
    split at h
    · rename_i xa op j p1 p2
      simp only [Bool.and_eq_true] at h
      obtain ⟨h1, h2⟩ := h
      have z := snd a T C k X .val _ ok h2
      cases n with
      | false =>
        cases op <;> first | cases h1 | skip
        cases m with
        | val => exact sE_isn z
        | test => exact sT_isn z
        | _ => cases hm
      | true =>
        cases op <;> first | cases h1 | skip
        cases m with
        | val => exact sE_notn z
        | test => exact sT_notn z
        | _ => cases hm
    · cases h
  | .and es, T, C, k, X, m, x, ok, h => by
    unfold chk at h
    rw [Bool.and_eq_true] at h
    obtain ⟨hm, h⟩ := h
    split at h
    · cases m with
      | val => exact pe_imp ((snds es T C k X .val _ ok h).sAnd _) fun σ H Q h => by simpa only [tM, evE] using h
      | test => exact pt_imp ((snds es T C k X .test _ ok h).wAnd _).pt fun σ H Q h => by simpa only [tT, evE] using h
      | _ => cases hm
    · cases h
  | .or es, T, C, k, X, m, x, ok, h => by
    unfold chk at h
    rw [Bool.and_eq_true] at h
    obtain ⟨hm, h⟩ := h
    split at h
    · cases m with
      | val => exact pe_imp ((snds es T C k X .val _ ok h).sOr _) fun σ H Q h => by simpa only [tM, evE] using h
      | test => exact pt_imp ((snds es T C k X .test _ ok h).wOr _).pt fun σ H Q h => by simpa only [tT, evE] using h
      | _ => cases hm
    · cases h
  | .not a, T, C, k, X, m, x, ok, h => by
    unfold chk at h
    rw [Bool.and_eq_true] at h
    obtain ⟨hm, h⟩ := h
    split at h
    · have z := snd a T C k X m _ ok h
      cases m with
      | val => exact sE_not z
      | test => exact sT_not z
      | _ => cases hm
    · cases h
  | .ite c a b, T, C, k, X, m, x, ok, h => by
    unfold chk at h
    rw [Bool.and_eq_true] at h
    obtain ⟨hm, h⟩ := h
    split at h
    · simp only [Bool.and_eq_true] at h
      obtain ⟨⟨h1, h2⟩, h3⟩ := h
      have z1 := snd c T C k X .test _ ok h1
      have z2 := snd a T C k X m _ ok h2
      have z3 := snd b T C k X m _ ok h3
      cases m with
      | val => exact sE_ite z1 z2 z3
      | test => exact sT_ite z1 z2 z3
      | _ => cases hm
    · cases h
  | .tup es, T, C, k, X, m, x, ok, h => by
    unfold chk at h
    rw [Bool.and_eq_true] at h
    obtain ⟨hm, h⟩ := h
    split at h
    · rw [Bool.and_eq_true] at h
      exact leafP hm rfl (sE_tup ((snds es T C k X .val _ ok h.2).sA h.1))
    · cases h
  | .lst es, T, C, k, X, m, x, ok, h => by
    unfold chk at h
    rw [Bool.and_eq_true] at h
    obtain ⟨hm, h⟩ := h
    split at h
    · rw [Bool.and_eq_true] at h
      exact listP hm rfl (sN_lst ((snds es T C k X .val _ ok h.2).sA h.1)) isL_lst
    · cases h
  | .new e, T, C, k, X, m, x, ok, h => by
    unfold chk at h
    rw [Bool.and_eq_true] at h
    obtain ⟨hm, h⟩ := h
    have z := snd e T C k X .new _ ok h
    cases m with
    | val => exact sE_new z
    | _ => cases hm
  | .idx a i, T, C, k, X, m, x, ok, h => by
    unfold chk at h
    rw [Bool.and_eq_true] at h
    obtain ⟨hm, h⟩ := h
    split at h
    · simp only [Bool.and_eq_true] at h
      obtain ⟨⟨h1, h2⟩, h3⟩ := h
      exact leafP hm rfl (sE_idx (snd a T C k X .val _ ok h2) (snd i T C k X .val _ ok h3) h1)
    · cases h
  | .sli a lo hi, T, C, k, X, m, x, ok, h => by
    unfold chk at h
    rw [Bool.and_eq_true] at h
    obtain ⟨hm, h⟩ := h
    split at h
    · simp only [Bool.and_eq_true] at h
      obtain ⟨⟨h1, h2⟩, h3⟩ := h
      exact listP hm rfl (sN_sli (snd a T C k X .val _ ok h1) (sndo lo T C k X _ ok h2) (sndo hi T C k X _ ok h3)) (isL_sli lo hi)
    · cases h
  | .call f es, T, C, k, X, m, x, ok, h => by
    unfold chk at h
    rw [Bool.and_eq_true] at h
    obtain ⟨hm, h⟩ := h
    split at h
    · rename_i n p xs pos
      simp only [Bool.and_eq_true] at h
      obtain ⟨⟨⟨⟨h1, h2⟩, h3⟩, h4⟩, h5⟩ := h
      obtain ⟨fn, hf, rfl⟩ := fnB_ok h1
      obtain ⟨fa, fd, F, hbad, hb, _, hmg, hk⟩ := ok.fns f fn hf
      have z := snds es T C k X .val _ ok h5
      cases xs with
      | nil =>
        cases z
        exact leafP hm rfl (sE_call0 F hbad ok.room ok.guards hb (glB_ok h2) hmg hk (sq_no h3))
      | cons xa xr => exact leafP hm rfl (sE_call F hbad ok.room ok.guards hb (glB_ok h2) hmg hk (sq_no h3) h4 (z.sA h4))
    · cases h
  | .callk f perm es ks, T, C, k, X, m, x, ok, h => by
    unfold chk at h
    rw [Bool.and_eq_true] at h
    obtain ⟨hm, h⟩ := h
    split at h
    · rename_i n p xs kw kws pos
      simp only [Bool.and_eq_true] at h
      obtain ⟨⟨⟨⟨⟨⟨⟨h1, h2⟩, h3⟩, h4⟩, h5⟩, h6⟩, h7⟩, h8⟩ := h
      obtain ⟨fn, hf, rfl⟩ := fnB_ok h1
      obtain ⟨fa, fd, F, hbad, hb, hw, hmg, hk⟩ := ok.fns f fn hf
      obtain ⟨w1, w2⟩ := wayB_ok hf h6
      have z := snds es T C k X .val _ ok h7
      have y := sndk ks T C k X _ ok h8
      have nm := kwNames_ok (kws := kw :: kws) (by simpa using h5)
      have nl : (kwNames (kw :: kws)).length = (kw :: kws).length := by
        have := congrArg List.length nm
        simpa using this.symm
      exact leafP hm rfl (sE_callk F ok.room ok.guards (hw _ w1) w2 (glB_ok h2) hmg hk (sq_no h3) h4 nm (fun e => by have e : kwNames (kw :: kws) = [] := e; rw [e] at nl; cases nl) (z.sA h4) y.sK (fun ρ st l st' e => by rw [evEs_len e, z.len]) (fun ρ st l st' e => by exact (evEs_len e).trans (y.len.trans nl.symm)))
    · cases h
  | .bi b es, T, C, k, X, m, x, ok, h => by
    unfold chk at h
    rw [Bool.and_eq_true] at h
    obtain ⟨hm, h⟩ := h
    split at h
    · rename_i n p xa xs pos
      simp only [Bool.and_eq_true] at h
      obtain ⟨⟨⟨⟨h1, h2⟩, h3⟩, h4⟩, h5⟩ := h
      have e := sq_ok h1
      subst e
      have h4' : (xa :: xs).all plainX = true := by simpa using h4
      have z := snds es T C k X .val _ ok h5
      exact leafP hm rfl (sE_bi b ok.calm ok.un ok.guards (glB_ok h2) (ok.free _ (freeB_ok h3)) h4' (z.sA h4'))
    · cases h
  | .isi a t, T, C, k, X, m, x, ok, h => by
    unfold chk at h
    rw [Bool.and_eq_true] at h
    obtain ⟨hm, h⟩ := h
    split at h
    · simp only [Bool.and_eq_true] at h
      obtain ⟨⟨⟨⟨⟨⟨⟨h1, h2⟩, h3⟩, h4⟩, h5⟩, h6⟩, h7⟩, h8⟩ := h
      have e1 := sq_ok h1
      have e2 := sq_ok h4
      subst e1 e2
      exact leafP hm rfl (sE_isi t (glB_ok h2) (ok.free _ (freeB_ok h3)) (glB_ok h5) (ok.free _ (freeB_ok h6)) h7 (snd a T C k X .val _ ok h8))
    · cases h
  | .lrg e, T, C, k, X, m, x, ok, h => by
    unfold chk at h
    rw [Bool.and_eq_true] at h
    obtain ⟨hm, h⟩ := h
    split at h
    · simp only [Bool.and_eq_true] at h
      obtain ⟨⟨⟨⟨⟨⟨⟨h1, h2⟩, h3⟩, h4⟩, h5⟩, h6⟩, h7⟩, h8⟩ := h
      have e1 := sq_ok h1
      have e2 := sq_ok h4
      subst e1 e2
      exact listP hm rfl (sN_lrg ok.calm (glB_ok h2) (ok.free _ (freeB_ok h3)) (glB_ok h5) (ok.free _ (freeB_ok h6)) h7 (snd e T C k X .val _ ok h8)) isL_lrg
    · cases h
  | .comp e tg many it ifs own, T, C, k, X, m, x, ok, h => by
    unfold chk at h
    split at h
    · rename_i elt tgx iter ifsx scope pos
      simp only [Bool.and_eq_true] at h
      obtain ⟨⟨⟨⟨⟨⟨⟨h1, h2⟩, h3⟩, h4⟩, h5⟩, h6⟩, h7⟩, h8⟩ := h
      have bo := blkB_ok h1
      have ci : CompI X C (.ListComp elt [⟨tgx, iter, ifsx, 0⟩] scope pos) (.comp e tg many it ifs own) := by
        refine ⟨bo, fun i hi => ?_, sndI it T C k X _ _ ok h5, h4, fun s H Ca cl fp => ?_, fun s H Ca cl fp => ?_, fun s H Ca cl fp => ?_⟩
        · rw [ownP_2]
          obtain ⟨j, hj, e⟩ := List.any_eq_true.mp (List.all_eq_true.mp h2 i hi)
          rw [of_decide_eq_true e]; exact hj
        · exact tgB_ok (X := X.blk s H scope (compEnvC scope cl Ca X.env) fp) (fb := false) (fs := scope) ok.calm (fun n hn => by
            rw [Bool.false_or] at hn
            exact beq_iff_eq.mpr (celB_ok hn)) ok.nodup h3
        · exact sIfs_of (snds ifs T C k (X.blk s H scope (compEnvC scope cl Ca X.env) fp) .test _ (ok.blk bo.kind s H Ca cl fp) h7) (of_decide_eq_true h6)
        · exact snd e T C k (X.blk s H scope (compEnvC scope cl Ca X.env) fp) .val _ (ok.blk bo.kind s H Ca cl fp) h8
      obtain ⟨z1, z2, z3⟩ := ci.sN ok.calm ok.nodup
      cases m with
      | comp => exact ci
      | val => exact listP (m := .val) rfl z2 z1 z3
      | test => exact listP (m := .test) rfl z2 z1 z3
      | new => exact z1
    · cases h
theorem snds : ∀ (es : Es) (T : Tbl) (C : Cl) (k : Nat) (X : L2.Cx) (m : Md) (xs : List Expr), TOk X C T k → chks T X.N es m X.env.scope xs = true → AllP m X C xs es
  | .nil, T, C, k, X, m, xs, ok, h => by
    unfold chks at h
    split at h
    · exact .nil
    · cases h
  | .cons e es, T, C, k, X, m, xs, ok, h => by
    unfold chks at h
    split at h
    · rw [Bool.and_eq_true] at h
      exact .cons (snd e T C k X m _ ok h.1) (snds es T C k X m _ ok h.2)
    · cases h
theorem sndk : ∀ (es : Es) (T : Tbl) (C : Cl) (k : Nat) (X : L2.Cx) (xs : List Keyword), TOk X C T k → chkk T X.N es X.env.scope xs = true → AllK X C xs es
  | .nil, T, C, k, X, xs, ok, h => by
    unfold chkk at h
    split at h
    · exact .nil
    · cases h
  | .cons e es, T, C, k, X, xs, ok, h => by
    unfold chkk at h
    split at h
    · rw [Bool.and_eq_true] at h
      exact .cons (snd e T C k X .val _ ok h.1) (sndk es T C k X _ ok h.2)
    · cases h
theorem sndo : ∀ (e : Eo) (T : Tbl) (C : Cl) (k : Nat) (X : L2.Cx) (x : Option Expr), TOk X C T k → chko T X.N e X.env.scope x = true → SO X C x e
  | .none, T, C, k, X, x, ok, h => by
    unfold chko at h
    split at h
    · exact sO_none
    · cases h
  | .some e, T, C, k, X, x, ok, h => by
    unfold chko at h
    split at h
    · exact sO_some (snd e T C k X .val _ ok h)
    · cases h
theorem sndI : ∀ (i : It) (T : Tbl) (C : Cl) (k : Nat) (X : L2.Cx) (tg x : Expr), TOk X C T k → chkIt T X.N i X.env.scope tg x = true → SI X C tg x i
  | .seq e, T, C, k, X, tg, x, ok, h => by
    unfold chkIt at h
    exact sI_seq (snd e T C k X .val _ ok h)
  | .rng1 e, T, C, k, X, tg, x, ok, h => by
    unfold chkIt at h
    split at h
    · simp only [Bool.and_eq_true] at h
      obtain ⟨⟨⟨⟨h1, h2⟩, h3⟩, h4⟩, h5⟩ := h
      have e1 := sq_ok h1
      subst e1
      exact sI_rng1 (glB_ok h2) (ok.free _ (freeB_ok h3)) h4 (snd e T C k X .val _ ok h5)
    · cases h
  | .rng2 a b, T, C, k, X, tg, x, ok, h => by
    unfold chkIt at h
    split at h
    · simp only [Bool.and_eq_true] at h
      obtain ⟨⟨⟨⟨⟨⟨h1, h2⟩, h3⟩, h4⟩, h5⟩, h6⟩, h7⟩ := h
      have e1 := sq_ok h1
      subst e1
      exact sI_rng2 (glB_ok h2) (ok.free _ (freeB_ok h3)) h4 h5 (snd a T C k X .val _ ok h6) (snd b T C k X .val _ ok h7)
    · cases h
  | .enum e, T, C, k, X, tg, x, ok, h => by
    unfold chkIt at h
    rw [Bool.and_eq_true] at h
    obtain ⟨ht, h⟩ := h
    split at h
    · simp only [Bool.and_eq_true] at h
      obtain ⟨⟨⟨⟨h1, h2⟩, h3⟩, h4⟩, h5⟩ := h
      have e1 := sq_ok h1
      subst e1
      cases tg with
      | Tuple ts k p => exact sI_enum (glB_ok h2) (ok.free _ (freeB_ok h3)) h4 (snd e T C _ X .val _ ok h5)
      | _ => cases ht
    · cases h
end
end PD

set_option Elab.async false
set_option linter.all false
set_option autoImplicit false
set_option maxRecDepth 100000
/-! PdN: the checker of statements and defs, its proof; the law's call. -/
namespace PD
open PySem PySem.Spec L2

def swB (sc : Scope) (n : Str) (p : Pos) (scope : Scope) (v : Pos) : Bool :=
  locB sc n && p.line == v.line && !(scope.names.any fun y => sq y.1 n && (match y.2 with | .local => true | .cell => true | _ => false))
theorem swB_ok {env : PySem.Env} {n : Str} {p pos : Pos} {elt : Expr} {gs : List Comprehension} {scope : Scope} {l : Nat} (hk : env.scope.kind = .function) : swapsWith (.ListComp elt gs scope pos) (some (.Name n p)) l env = pure (swB env.scope n p scope pos) := by
  have hbk : (env.blockKind == .function) = true := by
    unfold Env.blockKind
    rw [hk]; rfl
  have e1 : (env.kindOf n == some .local) = locB env.scope n := by
    unfold locB
    rw [lk_ok]
    show (env.scope.names.lookup n == some .local) = _
    cases env.scope.names.lookup n with
    | none => rfl
    | some k => cases k <;> rfl
  have e2 : (scope.names.any fun (m, k) => m == n && (k == .local || k == .cell)) = (scope.names.any fun y => sq y.1 n && (match y.2 with | .local => true | .cell => true | _ => false)) := by
    congr 1
    funext y
    obtain ⟨m, k⟩ := y
    have : (m == n) = sq m n := by
      cases h : sq m n with
      | true => rw [sq_ok h]; simp
      | false => exact sq_no (by rw [h]; rfl)
    show (m == n && _) = (sq m n && _)
    rw [this]
    cases k <;> rfl
  show pure (env.blockKind == .function && env.kindOf n == some .local && p.line == pos.line && !(scope.names.any fun (m, k) => m == n && (k == .local || k == .cell))) = _
  rw [hbk, e1, e2]
  rfl
def unNew : E → E
  | .new e => e
  | e => e
def isComp : E → Bool
  | .comp _ _ _ _ _ _ => true
  | .new (.comp _ _ _ _ _ _) => true
  | _ => false
def notTup : Expr → Bool
  | .Tuple _ _ _ => false
  | _ => true
def baseB : Expr → Bool
  | .Call (.Name _ _) [] [] _ => false
  | _ => true
def isFrz : S → Bool
  | .frz _ => true
  | _ => false
def asg2B (sc : Scope) (is : List Nat) (ts vs : List Expr) : Bool := match swS sc ts vs with
  | some none => decide (is.length ≤ 100)
  | some (some ns) => (match is, ts, vs with
    | [i, j], [.Name a _, .Name b _], [_, _] => decide (i ≠ j) && locB sc a && locB sc b && eqSs ns [a, b]
    | [i, j, l], [.Name a _, .Name b _, .Name c _], [_, _, _] => decide (i ≠ j) && decide (i ≠ l) && decide (j ≠ l) && locB sc a && locB sc b && locB sc c && eqSs ns [a, b, c]
    | _, _, _ => false)
  | none => false
mutual
def chkS (T : Tbl) (N : List Str) : S → Scope → Stmt → Bool
  | .asg i e, sc, x => match x with
    | .Assign [.Name n p] a _ => ixB N i n && stoB true sc sc n && (if notComp a then chk T N e .val sc a else match a with
      | .ListComp _ _ scope pos => isComp e && (if swB sc n p scope pos then chk T N (unNew e) .comp sc a else chk T N e .val sc a)
      | _ => false)
    | _ => false
  | .asgT is e, sc, x => match x with
    | .Assign [.Tuple ts _ _] a _ => tgB.tgsB N true sc sc is ts && notComp a && notTup a && chk T N e .val sc a
    | _ => false
  | .asg2 is es, sc, x => match x with
    | .Assign [.Tuple ts _ _] (.Tuple vs _ _) _ => tgB.tgsB N true sc sc is ts && vs.all plainX && chks T N es .val sc vs && asg2B sc is ts vs
    | _ => false
  | .setI o i v, sc, x => match x with
    | .Assign [.Subscript a b _] c _ => notComp c && plainX b && chk T N o .val sc a && chk T N i .val sc b && chk T N v .val sc c
    | _ => false
  | .expr e, sc, x => match x with
    | .Expr a _ => notComp a && chk T N e .val sc a
    | _ => false
  | .app o v, sc, x => match x with
    | .Expr (.Call (.Attribute a nm apos) [b] [] cpos) _ => sq nm "append" && baseB a && (apos.endLine == cpos.line) && plainX b && chk T N o .val sc a && chk T N v .val sc b
    | _ => false
  | .ext o v, sc, x => match x with
    | .Expr (.Call (.Attribute a nm apos) [b] [] cpos) _ => sq nm "extend" && baseB a && (apos.endLine == cpos.line) && plainX b && chk T N o .val sc a && chk T N v .val sc b
    | _ => false
  | .frz _, _, _ => false
  | .ret e, sc, x => match x with
    | .Return (some a) _ => chk T N e .val sc a
    | _ => false
  | .retN, _, x => match x with
    | .Return none _ => true
    | _ => false
  | .ifs c a b, sc, x => match x with
    | .If xc xa xb _ => chk T N c .test sc xc && chkSs T N a sc xa && chkSs T N b sc xb
    | _ => false
  | .for tg many it b, sc, x => match x with
    | .For tgx iter xb [] _ => tgB N true sc sc many tg tgx && plainX iter && chkIt T N it sc tgx iter && chkSs T N b sc xb
    | _ => false
  | .pass, _, x => match x with
    | .Pass _ => true
    | _ => false
  | .stop, _, _ => true
def chkSs (T : Tbl) (N : List Str) : Ss → Scope → List Stmt → Bool
  | .nil, _, xs => match xs with
    | [] => true
    | _ => false
  | .cons s ss, sc, xs => if isFrz s then chkSs T N ss sc xs else match xs with
    | x :: xs => chkS T N s sc x && chkSs T N ss sc xs
    | _ => false
end
/-- what a body's statements ask further -/
structure SOk (X : L2.Cx) (C : Cl) (T : Tbl) (k : Nat) : Prop where
  ok : TOk X C T k
  own : PassesOwn (model X.prog X.w) X.A X.env X.xe
  fn : ∀ n, X.fn n = true
theorem each_names {env : PySem.Env} {t : Expr} (h : ∀ v p, t ≠ .Starred v p) : (assignEach [t] env).map (·.2) = [assign t env] := by
  cases t <;> first | rfl | exact absurd rfl (h _ _)
mutual
theorem sndS : ∀ (s : S) (T : Tbl) (C : Cl) (k : Nat) (X : L2.Cx) (x : Stmt), SOk X C T k → chkS T X.N s X.env.scope x = true → SS X C x s
  | .asg i e, T, C, k, X, x, ok, h => by
    unfold chkS at h
    split at h
    · rename_i n p a pos
      simp only [Bool.and_eq_true] at h
      obtain ⟨⟨h1, h2⟩, h3⟩ := h
      obtain ⟨l1, l2⟩ := stoB_ok (fun n _ => ok.fn n) h2
      cases hc : notComp a with
      | true =>
        rw [hc] at h3
        exact sS_asg ok.ok.nodup (ixB_ok h1) l1 l2 hc (snd e T C k X .val _ ok.ok h3)
      | false =>
        rw [hc] at h3
        rw [if_neg Bool.false_ne_true] at h3
        split at h3
        · rename_i elt gs scope vpos
          rw [Bool.and_eq_true] at h3
          obtain ⟨hi, h3⟩ := h3
          cases hs : swB X.env.scope n p scope vpos with
          | false =>
            rw [hs, if_neg Bool.false_ne_true] at h3
            exact sS_asgW ok.ok.nodup (ixB_ok h1) l1 l2 (by rw [swB_ok ok.ok.kind, hs]) (snd e T C k X .val _ ok.ok h3)
          | true =>
            rw [hs, if_pos rfl] at h3
            have ci := snd (unNew e) T C k X .comp _ ok.ok h3
            have hsw : ∀ l, swapsWith (.ListComp elt gs scope vpos) (some (.Name n p)) l X.env = pure true := fun l => by rw [swB_ok ok.ok.kind, hs]
            have hl : X.env.scope.names.lookup n = some .local := by
              unfold swB at hs
              simp only [Bool.and_eq_true] at hs
              exact locB_ok hs.1.1
            have key : ∀ {ee : E} {tgs : List Nat} {many : Bool} {it : It} {ies : Es} {own : List Nat}, CompI X C (.ListComp elt gs scope vpos) (.comp ee tgs many it ies own) →
                PS X (.Assign [.Name n p] (.ListComp elt gs scope vpos) pos) (tAsg (tN X.K (evE C (.comp ee tgs many it ies own))) (gName i)) := by
              intro ee tgs many it ies own ci
              unfold CompI at ci
              split at ci
              · rename_i e1 e2
                cases e1
                cases e2
                obtain ⟨c1, c2, c3, c4, c5, c6, c7⟩ := ci
                have z := ps_comp (spos := pos) ok.ok.calm ok.ok.nodup (ixB_ok h1) hl (hsw _) c3 c1 c2 c5 c6 c7 c4
                rw [ownP_2] at z
                exact z
              · exact ci.elim
            unfold isComp at hi
            split at hi
            · exact sS_asgC (key ci) fun σ H Q h => list_reads isL_comp h
            · exact sS_asgC (key ci) fun σ H Q h => new_reads h
            · cases hi
        · cases h3
    · cases h
  | .asgT is e, T, C, k, X, x, ok, h => by
    unfold chkS at h
    split at h
    · rename_i ts kt pt a pos
      simp only [Bool.and_eq_true] at h
      obtain ⟨⟨⟨h1, h2⟩, h3⟩, h4⟩ := h
      refine sS_asgT (pg_names ok.ok.calm (fun n _ => ok.fn n) ok.ok.nodup h1) h2 ?_ rfl (snd e T C k X .val _ ok.ok h4)
      unfold swappedStores
      cases a <;> first | rfl | cases h3
    · cases h
  | .asg2 is es, T, C, k, X, x, ok, h => by
    unfold chkS at h
    split at h
    · rename_i ts kt pt vs k2 p2 pos
      simp only [Bool.and_eq_true] at h
      obtain ⟨⟨⟨h1, h2⟩, h3⟩, h4⟩ := h
      have z := (snds es T C k X .val _ ok.ok h3).sA h2
      have nd := ok.ok.nodup
      unfold asg2B at h4
      split at h4
      · rename_i e
        exact sS_asg2 (pg_names ok.ok.calm (fun n _ => ok.fn n) ok.ok.nodup h1) (of_decide_eq_true h4) (swS_ok ok.ok.kind e) rfl z
      · rename_i ns e
        have w := swS_ok (kt := kt) (k2 := k2) (pt := pt) (pt2 := p2) ok.ok.kind e
        split at h4
        · simp only [Bool.and_eq_true] at h4
          obtain ⟨⟨⟨a1, a2⟩, a3⟩, a4⟩ := h4
          rw [eqSs_ok a4] at w
          unfold tgB.tgsB at h1
          simp only [Bool.and_eq_true] at h1
          obtain ⟨⟨b1, b2⟩, h1⟩ := h1
          unfold tgB.tgsB at h1
          simp only [Bool.and_eq_true] at h1
          obtain ⟨⟨b3, b4⟩, h1⟩ := h1
          exact sS_asg2P (y := ⟨#[]⟩) ok.ok.calm nd (ixB_ok b1) (ixB_ok b3) (of_decide_eq_true a1) (locB_ok a2) (locB_ok a3) w z
        · simp only [Bool.and_eq_true] at h4
          obtain ⟨⟨⟨⟨⟨⟨a1, a2⟩, a3⟩, a4⟩, a5⟩, a6⟩, a7⟩ := h4
          rw [eqSs_ok a7] at w
          unfold tgB.tgsB at h1
          simp only [Bool.and_eq_true] at h1
          obtain ⟨⟨b1, b2⟩, h1⟩ := h1
          unfold tgB.tgsB at h1
          simp only [Bool.and_eq_true] at h1
          obtain ⟨⟨b3, b4⟩, h1⟩ := h1
          unfold tgB.tgsB at h1
          simp only [Bool.and_eq_true] at h1
          obtain ⟨⟨b5, b6⟩, h1⟩ := h1
          exact sS_asg3P ok.ok.calm nd (ixB_ok b1) (ixB_ok b3) (ixB_ok b5) (of_decide_eq_true a1) (of_decide_eq_true a2) (of_decide_eq_true a3) (locB_ok a4) (locB_ok a5) (locB_ok a6) w z
        · cases h4
      · cases h4
    · cases h
  | .setI o i v, T, C, k, X, x, ok, h => by
    unfold chkS at h
    split at h
    · simp only [Bool.and_eq_true] at h
      obtain ⟨⟨⟨⟨h1, h2⟩, h3⟩, h4⟩, h5⟩ := h
      exact sS_setI h1 h2 (snd o T C k X .val _ ok.ok h3) (snd i T C k X .val _ ok.ok h4) (snd v T C k X .val _ ok.ok h5)
    · cases h
  | .expr e, T, C, k, X, x, ok, h => by
    unfold chkS at h
    split at h
    · simp only [Bool.and_eq_true] at h
      exact sS_expr h.1 (snd e T C k X .val _ ok.ok h.2)
    · cases h
  | .app o v, T, C, k, X, x, ok, h => by
    unfold chkS at h
    split at h
    · simp only [Bool.and_eq_true] at h
      obtain ⟨⟨⟨⟨⟨h1, h2⟩, h3⟩, h4⟩, h5⟩, h6⟩ := h
      have e := sq_ok h1
      subst e
      exact sS_app (snd o T C k X .val _ ok.ok h5) (snd v T C k X .val _ ok.ok h6) (fun id p p2 z => by subst z; cases h2) h3 h4
    · cases h
  | .ext o v, T, C, k, X, x, ok, h => by
    unfold chkS at h
    split at h
    · simp only [Bool.and_eq_true] at h
      obtain ⟨⟨⟨⟨⟨h1, h2⟩, h3⟩, h4⟩, h5⟩, h6⟩ := h
      have e := sq_ok h1
      subst e
      exact sS_ext (snd o T C k X .val _ ok.ok h5) (snd v T C k X .val _ ok.ok h6) (fun id p p2 z => by subst z; cases h2) h3 h4
    · cases h
  | .frz i, T, C, k, X, x, ok, h => by
    unfold chkS at h
    cases h
  | .ret e, T, C, k, X, x, ok, h => by
    unfold chkS at h
    split at h
    · exact sS_ret (snd e T C k X .val _ ok.ok h)
    · cases h
  | .retN, T, C, k, X, x, ok, h => by
    unfold chkS at h
    split at h
    · exact sS_retN
    · cases h
  | .ifs c a b, T, C, k, X, x, ok, h => by
    unfold chkS at h
    split at h
    · simp only [Bool.and_eq_true] at h
      obtain ⟨⟨h1, h2⟩, h3⟩ := h
      exact sS_ifs (snd c T C k X .test _ ok.ok h1) (sndSs a T C k X _ ok h2) (sndSs b T C k X _ ok h3)
    · cases h
  | .for tg many it b, T, C, k, X, x, ok, h => by
    unfold chkS at h
    split at h
    · simp only [Bool.and_eq_true] at h
      obtain ⟨⟨⟨h1, h2⟩, h3⟩, h4⟩ := h
      exact sS_for ok.own ok.ok.calm (sndI it T C k X _ _ ok.ok h3) (tgB_ok ok.ok.calm (fun n _ => ok.fn n) ok.ok.nodup h1) (sndSs b T C k X _ ok h4) h2
    · cases h
  | .pass, T, C, k, X, x, ok, h => by
    unfold chkS at h
    split at h
    · exact sS_pass
    · cases h
  | .stop, T, C, k, X, x, ok, h => sS_stop
theorem sndSs : ∀ (ss : Ss) (T : Tbl) (C : Cl) (k : Nat) (X : L2.Cx) (xs : List Stmt), SOk X C T k → chkSs T X.N ss X.env.scope xs = true → SSs X C xs ss
  | .nil, T, C, k, X, xs, ok, h => by
    unfold chkSs at h
    split at h
    · exact sSs_nil
    · cases h
  | .cons s ss, T, C, k, X, xs, ok, h => by
    unfold chkSs at h
    cases hf : isFrz s with
    | true =>
      rw [hf, if_pos rfl] at h
      have z := sndSs ss T C k X _ ok h
      cases s <;> first | exact sSs_frz z | cases hf
    | false =>
      rw [hf, if_neg Bool.false_ne_true] at h
      split at h
      · rw [Bool.and_eq_true] at h
        exact sSs_cons (sndS s T C k X _ ok h.1) (sndSs ss T C k X _ ok h.2)
      · cases h
end

/-! ### defs -/
def nodB : List Str → Bool
  | [] => true
  | a :: r => !(r.any (sq a)) && nodB r
theorem nodB_ok : ∀ {l : List Str}, nodB l = true → l.Nodup
  | [], _ => List.nodup_nil
  | a :: r, h => by
    rw [nodB, Bool.and_eq_true] at h
    refine List.nodup_cons.mpr ⟨fun m => ?_, nodB_ok h.2⟩
    have : r.any (sq a) = true := List.any_eq_true.mpr ⟨a, m, by simp [sq]⟩
    rw [this] at h
    exact absurd h.1 (by simp)
def scB (N ps : List Str) (sc : Scope) : Bool :=
  (match sc.kind with | .function => true | _ => false) && !sc.isCoroutine && !sc.isGenerator && nodB N && eqSs (N.take ps.length) ps && (ps.all fun p => locB sc p || celB sc p) && (sc.names.all fun y => match y.2 with | .free => false | _ => true)
theorem scB_ok {N ps : List Str} {sc : Scope} (h : scB N ps sc = true) : FnScope N ps sc := by
  unfold scB at h
  simp only [Bool.and_eq_true] at h
  obtain ⟨⟨⟨⟨⟨⟨h1, h2⟩, h3⟩, h4⟩, h5⟩, h6⟩, h7⟩ := h
  refine ⟨?_, by simpa using h2, by simpa using h3, nodB_ok h4, eqSs_ok h5, fun x hx => ?_, fun y hy e => ?_⟩
  · cases e : sc.kind <;> rw [e] at h1 <;> first | rfl | cases h1
  · have := List.all_eq_true.mp h6 x hx
    rw [Bool.or_eq_true] at this
    exact this.elim (fun z => .inl (locB_ok z)) fun z => .inr (celB_ok z)
  · have := List.all_eq_true.mp h7 y hy
    rw [e] at this
    cases this
def chkF (T : Tbl) (f : Fn) : Bool := scB f.N f.ps (defScope f.st) && decide (f.g.np = f.ps.length) && decide (f.g.nn = f.N.length) && chkSs T f.N f.g.body (defScope f.st) (defBody f.st)
def chkT (T : Tbl) : Bool := T.fns.all (chkF T)
def Tbl.F (T : Tbl) (f : Nat) : Option Fd := (T.fns[f]?).map (·.g)
/-- the text's defs as they stand behind its top -/
structure KOk (K : PySem.W.Frag) (mg : Str → Option Value) (T : Tbl) : Prop where
  free : ∀ n, n ∈ T.free → mg n = none
  consts : ∀ n d, (n, d) ∈ T.consts → ∃ u v, mg n = some u ∧ RelV v u ∧ ∀ L H, Rep K L H d v
  fns : ∀ (f : Nat) (fn : Fn), T.fns[f]? = some fn → ∃ fa fd, Fun K fn.name fn.qual fn.st fa fd ∧ Binds K fd fn.ps [] ∧ (∀ q ∈ fn.ways, KB K fd fn.ps q.1 q.2.1 q.2.2) ∧ mg fn.name = some (.ref fa)
theorem callN_bad {T : Tbl} (hT : chkT T = true) : ∀ (n f : Nat) (fn : Fn) (ds : List PV) (st : CS), T.fns[f]? = some fn → ds.length ≠ fn.ps.length → callN T.F n f ds st = .bad
  | 0, f, fn, ds, st, hf, hl => rfl
  | n + 1, f, fn, ds, st, hf, hl => by
    have c := List.all_eq_true.mp hT fn (List.mem_of_getElem? hf)
    unfold chkF at c
    simp only [Bool.and_eq_true] at c
    have e : T.F f = some fn.g := by unfold Tbl.F; rw [hf]; rfl
    rw [callN, e]
    show runF _ fn.g ds st = .bad
    unfold runF
    rw [if_neg (by rw [of_decide_eq_true c.1.1.2]; exact hl)]
section
variable {P : Program} {w : World} {K : PySem.W.Frag} {mg : Str → Option Value} {base : Heap} {T : Tbl}
theorem all_fns (hT : chkT T = true) (ko : KOk K mg T) : ∀ (n f : Nat) (fn : Fn) (fa : Addr) (fd : FuncData), T.fns[f]? = some fn → Fun K fn.name fn.qual fn.st fa fd → FnG P w K mg base n fa fd fn.ps (callN T.F n f)
  | 0, f, fn, fa, fd, hf, hF => fnG_bad fun _ _ => rfl
  | n + 1, f, fn, fa, fd, hf, hF => by
    have c := List.all_eq_true.mp hT fn (List.mem_of_getElem? hf)
    unfold chkF at c
    simp only [Bool.and_eq_true] at c
    obtain ⟨⟨⟨c1, c2⟩, c3⟩, c4⟩ := c
    have S := scB_ok c1
    have e : T.F f = some fn.g := by unfold Tbl.F; rw [hf]; rfl
    have e2 : callN T.F (n + 1) f = runF ⟨callN T.F n⟩ fn.g := by
      funext ds st
      rw [callN, e]
    rw [e2]
    refine fnG_of (C := ⟨callN T.F n⟩) hF S (of_decide_eq_true c2) (of_decide_eq_true c3) fun cdv A outer s H hr hg hM => ?_
    refine sndSs fn.g.body T ⟨callN T.F n⟩ n _ _ ⟨⟨rfl, S.nd, hr, hg, S.kind, ko.free, ko.consts, fun f' fn' hf' => ?_⟩, passes_of (K := fun e s' => L2.CX P w outer H s E0 e s') rfl, fun _ => rfl⟩ c4
    obtain ⟨fa', fd', F', hb, hw, hmg⟩ := ko.fns f' fn' hf'
    exact ⟨fa', fd', all_fns hT ko n f' fn' fa' fd' hf' F', fun ds st hl => callN_bad hT n f' fn' ds st hf' hl, hb, hw, hmg, F'.kp⟩
end
end PD

set_option Elab.async false
set_option linter.all false
set_option autoImplicit false
set_option maxRecDepth 100000
/-! PdO: the law's call; what is asked of a text. -/
namespace PD
open PySem PySem.Spec L2
open PyProof.Rows (AllBare IntsAre)

/-- the law's answer: true -/
def Yes (r : R PV) : Prop := ∃ st, r = .ok (.d (.bl true)) st
section
variable {P : Program} {w : World} {K : PySem.W.Frag} {mg mb : Str → Option Value} {k : Nat} {fa a : Addr} {fd : FuncData} {x : Str} {sem : List PV → CS → R PV} {s : Shared} {vs : List Value} {ns : List Int}
/-- the call from a heap where the script alone may be tracked -/
theorem call_at {H : Hp} (KX : K.In s.heap) (hns : s.heap.Ns mainGlobals mg) (hb : s.heap.Ns builtinsNs mb) (hbb : ∀ x : Str, x ≠ "__name__" → mb x = bootBuiltins x) (hlim : s.heap.NoLimit) (hg : s.gens = #[]) (hr : Room k callerA)
    (F : ∀ base : Heap, K.In base → base.Ns mainGlobals mg → FnG P w K mg base k fa fd [x] sem) (hbind : ∀ (s : Shared) (u : Value), BindsTo s fd ⟨[u], []⟩ [(x, u)]) (hs : Yes (sem [.scr ns] []))
    (nod : ∀ b o, s.heap.get? b = some o → (∃ es ep, o.data = .dict es ep) → H b = none) (hKn : ∀ b o, K.lookup b = some o → H b = none)
    (hok : HOk P w H s.heap) (hO : L2.Only H) (hS : L2.SqL K H a (ns.map V.int)) :
    codeAny (model P w) callerA (.call (.ref fa) ⟨[.ref a], []⟩) (fun r s' => r = .ok (.ret (.bool true)) ∧ OldK s.heap s'.heap ∧ s'.os = s.os ∧ AllBare s'.gens) s := by
  have into : ∀ {b : Addr} {m : Str → Option Value}, s.heap.Ns b m → (hidT s.heap H).Ns b m := by
    rintro b m ⟨o, es, ep, e, d, r⟩
    exact ⟨o, es, ep, hidT_get e (nod b o e ⟨es, ep, d⟩), d, r⟩
  have kin : K.In (hidT s.heap H) := fun b o e => hidT_get (KX b o e) (hKn b o e)
  have md : Mod K mg (hidT s.heap H) := by
    obtain ⟨mc, c1, c2⟩ := hlim
    exact ⟨kin, into hns, ⟨mb, into hb, hbb⟩, mc, into c1, c2⟩
  have env : Env0 P w K mg (hidT s.heap H) callerA [] s H := ⟨rfl, md, fun b o e => of_hidT e, Nat.le_of_eq (hidT_size _ _), trivial, fun b hb => absurd hb List.not_mem_nil, hok, .of_eq hg⟩
  obtain ⟨st, hs⟩ := hs
  have sr : SRel K ⟨[], []⟩ H [] := ⟨rfl, fun k c x h => by simp at h, fun i j a h => by simp at h, fun a h => absurd h List.not_mem_nil⟩
  have rp : RepPs K ⟨[], []⟩ H [.scr ns] [.ref a] := by
    refine .cons ⟨a, rfl, ?_⟩ .nil
    rcases hS with h | h
    · exact .inl ⟨fun m => m.elim (fun z => absurd z List.not_mem_nil) fun z => absurd z List.not_mem_nil, h⟩
    · exact .inr (.inr h)
  have out : Out K ⟨[], []⟩ H (fun v _ => v = .bl true) (sem [.scr ns] []) := by
    rw [hs]
    intro L' H' v _ _ r
    have r' : Rep K L' H' (.bl true) v := r
    cases r'
    rfl
  refine codeAny_mono ((F _ kin (into hns)).run callerA [] s H ⟨[.ref a], []⟩ [.ref a] [.ref a] _ ⟨[], []⟩ [.scr ns] [] hr rfl env (hbind s (.ref a)) (.cons rfl .nil) sr rp rfl out) fun r s' h => ?_
  cases r with
  | error e =>
    obtain ⟨_, _, _, _, _, _, _, _, _, _, _, _, z⟩ := h
    exact z.elim
  | ok fl => cases fl with
    | ret u =>
      obtain ⟨v, H', os, bare, un, hok', rv, rfl⟩ := h
      obtain rfl : u = Value.bool true := rv
      refine ⟨rfl, OldK.of_keep fun b o e => ?_, os, bare⟩
      rcases hO b with z | ⟨ob, xs, z⟩
      · exact un.keep b o e z (fun m => absurd m List.not_mem_nil) (by simp)
      · obtain ⟨g1, _⟩ := hok b _ z
        obtain ⟨g2, _⟩ := hok' b _ (un.frzs b ob _ z)
        rw [e] at g1
        cases g1
        exact g2
    | _ => exact False.elim h
theorem law_callG (KX : K.In s.heap) (hns : s.heap.Ns mainGlobals mg) (hb : s.heap.Ns builtinsNs mb) (hbb : ∀ x : Str, x ≠ "__name__" → mb x = bootBuiltins x) (hlim : s.heap.NoLimit) (hg : s.gens = #[])
    (ha : s.heap.get? a = some { cls := .type "list", data := .seq vs.toArray }) (hi : IntsAre vs ns) (hl : ns.length ≤ sizeLine) (hr : Room k callerA)
    (F : ∀ base : Heap, K.In base → base.Ns mainGlobals mg → FnG P w K mg base k fa fd [x] sem) (hbind : ∀ (s : Shared) (u : Value), BindsTo s fd ⟨[u], []⟩ [(x, u)]) (hs : Yes (sem [.scr ns] [])) :
    codeAny (model P w) callerA (.call (.ref fa) ⟨[.ref a], []⟩) (fun r s' => r = .ok (.ret (.bool true)) ∧ OldK s.heap s'.heap ∧ s'.os = s.os ∧ AllBare s'.gens) s := by
  have rv := L2.vals_ints hi
  cases hk : K.lookup a with
  | none =>
    let H : Hp := fun b => if b = a then some (.frz { cls := .type "list", data := .seq vs.toArray } (.lst (ns.map V.int))) else none
    have at_ : H a = some (.frz { cls := .type "list", data := .seq vs.toArray } (.lst (ns.map V.int))) := if_pos rfl
    have off : ∀ {b : Addr}, b ≠ a → H b = none := fun e => if_neg e
    refine call_at (H := H) KX hns hb hbb hlim hg hr F hbind hs (fun b o e d => ?_) (fun b o e => ?_) (fun b u z => ?_) (fun b => ?_) (.inl (.inr ⟨_, at_⟩))
    · by_cases q : b = a
      · subst q
        rw [ha] at e
        cases e
        obtain ⟨es, ep, d⟩ := d
        cases d
      · exact off q
    · by_cases q : b = a
      · rw [q, hk] at e; cases e
      · exact off q
    · by_cases q : b = a
      · subst q
        rw [at_] at z
        cases z
        exact ⟨ha, by rw [List.length_map]; exact hl, vs, _, rv, ha⟩
      · rw [off q] at z; cases z
    · by_cases q : b = a
      · exact .inr ⟨_, _, by rw [q]; exact at_⟩
      · exact .inl (off q)
  | some o =>
    have e := KX a o hk
    rw [ha] at e
    cases e
    refine call_at (H := fun _ => none) KX hns hb hbb hlim hg hr F hbind hs (fun _ _ _ _ => rfl) (fun _ _ _ => rfl) (fun b u z => ?_) (fun _ => .inl rfl) (.inr ⟨_, vs.toArray, _, hk, rfl, rfl, rfl, by rw [List.size_toArray, hi.length]; exact hl, by simpa using rv⟩)
    have z' : (none : Option HO) = some u := z
    cases z'
end

/-! ### what is asked of a text -/
/-- how a def takes its arguments: by place, and with keywords -/
def BindP (fn : Fn) : Prop := ∀ (kV doc pm : Value) (an : Option Addr) (cdv ct : Value) (us : List Value), us.length = fn.ps.length →
  bindArgs (PySem.W.fnOf fn.name fn.qual (defArgs fn.st) (defBody fn.st) (defScope fn.st) .none kV doc pm an cdv ct) ⟨us, []⟩ = pure (fn.ps.zip us)
def WayP (fn : Fn) (q : Nat × List Str × List Nat) : Prop := ∀ (kV doc pm : Value) (an : Option Addr) (cdv ct : Value) (us ws : List Value), us.length = q.1 → ws.length = q.2.1.length →
  bindArgs (PySem.W.fnOf fn.name fn.qual (defArgs fn.st) (defBody fn.st) (defScope fn.st) .none kV doc pm an cdv ct) ⟨us, q.2.1.zip ws⟩ = pure (fn.ps.zip ((pickAll (us ++ ws) q.2.2).getD []))
structure FnP (fn : Fn) : Prop where
  bind : BindP fn
  way : ∀ q ∈ fn.ways, WayP fn q
/-- a def as the top has left it -/
def FnAt (K : PySem.W.Frag) (fn : Fn) : Prop := ∃ fa fd, PySem.W.nsIn K mainGlobals fn.name = some (some (.ref fa)) ∧ Fun K fn.name fn.qual fn.st fa fd
section
variable {K : PySem.W.Frag} {fn : Fn} {fa : Addr} {oc : Value} {od an : Option Addr} {osl : Array (Option Value)} {kV doc pm cdv ct : Value}
theorem fnAt (a : PySem.W.nsIn K mainGlobals fn.name = some (some (.ref fa))) (l : K.lookup fa = some ⟨oc, od, .func (PySem.W.fnOf fn.name fn.qual (defArgs fn.st) (defBody fn.st) (defScope fn.st) .none kV doc pm an cdv ct), osl⟩)
    (c : PySem.W.codeIn K cdv fn.qual = true) (k : PySem.W.keepIn K (.ref fa) = true) : FnAt K fn := ⟨fa, _, a, fun_mk l c k⟩
end
/-- a constant of the text -/
def ConstAt (K : PySem.W.Frag) (n : Str) (d : D) : Prop := ∃ u v, PySem.W.nsIn K mainGlobals n = some (some u) ∧ RelV v u ∧ ∀ L H, Rep K L H d v
theorem constI {K : PySem.W.Frag} {n : Str} {i : Int} {t : Tok} (h : PySem.W.nsIn K mainGlobals n = some (some (.int i t))) : ConstAt K n (.int i) := ⟨_, .int i, h, ⟨t, rfl⟩, fun _ _ => .int i⟩
theorem constS {K : PySem.W.Frag} {n : Str} {z : Str} {t : Tok} (h : PySem.W.nsIn K mainGlobals n = some (some (.str z t))) : ConstAt K n (.str z) := ⟨_, .str z, h, ⟨t, rfl⟩, fun _ _ => .str z⟩
structure TextAt (K : PySem.W.Frag) (T : Tbl) : Prop where
  free : ∀ n ∈ T.free, PySem.W.nsIn K mainGlobals n = some none
  consts : ∀ q ∈ T.consts, ConstAt K q.1 q.2
  fns : ∀ fn ∈ T.fns, FnAt K fn
theorem TextAt.ok {K : PySem.W.Frag} {T : Tbl} {h : Heap} {mg : Str → Option Value} (t : TextAt K T) (hp : ∀ fn ∈ T.fns, FnP fn) (X : K.In h) (G : h.Ns mainGlobals mg) : KOk K mg T where
  free := fun n hn => PySem.W.mg_none_of X G (t.free n hn)
  consts := fun n d hn => by
    obtain ⟨u, v, e, r, q⟩ := t.consts (n, d) hn
    exact ⟨u, v, PySem.W.mg_of X G e, r, q⟩
  fns := fun f fn hf => by
    have m := List.mem_of_getElem? hf
    obtain ⟨fa, fd, e, F⟩ := t.fns fn m
    have P := hp fn m
    refine ⟨fa, fd, F, F.binds P.bind, fun q hq => ?_, PySem.W.mg_of X G e⟩
    obtain ⟨oc, od, kV, doc, pm, an, cdv, ct, osl, rfl, lk, hcd⟩ := F.ex
    intro s us ws ys hk hu hw hy
    refine BindsTo.of_eq ?_
    rw [P.way q hq kV doc pm an cdv ct us ws hu hw, hy]
    rfl
/-- THE LAW: f is its place in the table -/
theorem walkG {l : PySem.W.OpenLaw} {n k f : Nat} {q : Program} {loose : List Str} {XP : (Str → Option Value) → Heap → Prop} {YP : World → Heap → Prop} {d : DefRec} {K : Params → PySem.W.Frag} {x : Str} {T : Tbl} {fn : Fn}
    (hn : l.most = some n) (hn2 : n ≤ sizeLine) (hdf : d.params.defaults = []) (hr : Room k callerA) (hT : chkT T = true) (hp : ∀ fn ∈ T.fns, FnP fn) (hf : T.fns[f]? = some fn) (hx : fn.ps = [x]) (hname : fn.name = d.name)
    (hY : ∀ (w : World) (h : Heap), YP w h → (K w.params).In h) (t : ∀ w : World, TextAt (K w.params) T)
    (hs : ∀ ns : List Int, ns.length ≤ n → Yes (callN T.F k f [.scr ns] [])) : PySem.W.WalkO q loose XP YP l.row.toRowW d [] (fun f vs => PySem.call f vs) := by
  refine Att.attach_call hn hdf fun w s₀ s₁ mg mb fa o pm cd doc a vs ns G Y ho hd hcd hmg hobj hints hlen hg => ?_
  have KX := hY w _ Y
  have ko := (t w).ok hp KX G.T.g
  obtain ⟨fa', fd, F, hb, _, hm⟩ := ko.fns f fn hf
  rw [hname] at hm
  have e := hmg.symm.trans hm
  cases e
  refine law_callG (x := x) (fd := fd) KX G.T.g G.T.b G.T.builtins G.T.nolimit hg hobj hints (Nat.le_trans hlen hn2) hr (fun base kb nb => ?_) (fun s u => ?_) (hs ns hlen)
  · have z := all_fns (P := l.prog) (w := w) (base := base) hT ko k f fn _ fd hf F
    rw [hx] at z
    exact z
  · obtain ⟨oc, od, kV, doc, pm, an, cdv, ct, osl, rfl, lk, hcd⟩ := F.ex
    refine BindsTo.of_eq ?_
    have z := (hp fn (List.mem_of_getElem? hf)).bind kV doc pm an cdv ct [u] (by rw [hx]; rfl)
    rw [hx] at z
    exact z
end PD

set_option Elab.async false
set_option linter.all false
set_option autoImplicit false
set_option maxRecDepth 100000
/-! PdQ: plain lemmas over the small language. -/
namespace PD
open PySem

/-- a step that comes to its end with a wish -/
@[irreducible] def R.sat {α : Type} (r : R α) (Q : α → CS → Prop) : Prop := ∃ a s, r = .ok a s ∧ Q a s
theorem sat_ok {α : Type} {a : α} {s : CS} {Q : α → CS → Prop} (h : Q a s) : (R.ok a s).sat Q := by
  unfold R.sat; exact ⟨a, s, rfl, h⟩
theorem sat_eq {α : Type} {r : R α} {Q : α → CS → Prop} (h : r.sat Q) : ∃ a s, r = .ok a s ∧ Q a s := by
  unfold R.sat at h; exact h
theorem sat_bind {α β : Type} {r : R α} {f : α → CS → R β} {Q : β → CS → Prop} {P : α → CS → Prop} (h : r.sat P) (g : ∀ a s, P a s → (f a s).sat Q) : (r.bind f).sat Q := by
  obtain ⟨a, s, rfl, h'⟩ := sat_eq h
  exact g a s h'
theorem sat_mono {α : Type} {r : R α} {P Q : α → CS → Prop} (h : r.sat P) (g : ∀ a s, P a s → Q a s) : r.sat Q := by
  obtain ⟨a, s, rfl, h'⟩ := sat_eq h
  exact sat_ok (g a s h')
/-- loops by an invariant that counts the turns -/
theorem for_inv {f : Env → CS → R Fl} {many : Bool} {tg : List Nat} {Q : Fl → CS → Prop} (I : Nat → Env → CS → Prop) : ∀ (xs : List D) (i : Nat) (ρ : Env) (s : CS), I i ρ s →
    (∀ (j : Nat) (x : D) (ρ : Env) (s : CS), i ≤ j → xs[j - i]? = some x → I j ρ s → ∃ ρ', bindT many tg x ρ = some ρ' ∧ (f ρ' s).sat fun fl s1 => match fl with
      | .nx ρ2 => I (j + 1) ρ2 s1
      | .rt v => Q (.rt v) s1) →
    (∀ ρ s, I (i + xs.length) ρ s → Q (.nx ρ) s) → (forGo f many tg xs ρ s).sat Q
  | [], i, ρ, s, h, _, e => sat_ok (e ρ s h)
  | x :: xs, i, ρ, s, h, st, e => by
    obtain ⟨ρ', hb, hf⟩ := st i x ρ s (Nat.le_refl _) (by simp) h
    simp only [forGo, hb]
    refine sat_bind hf fun fl s1 hq => ?_
    cases fl with
    | nx ρ2 =>
      refine for_inv I xs (i + 1) ρ2 s1 hq (fun j y ρ s hj hy hI => st j y ρ s (by omega) ?_ hI) fun ρ s hI => e ρ s ?_
      · have e2 : j - i = (j - (i + 1)) + 1 := by omega
        rw [e2, List.getElem?_cons_succ]
        exact hy
      · rw [List.length_cons]
        have e3 : i + (xs.length + 1) = i + 1 + xs.length := by omega
        rw [e3]; exact hI
    | rt v => exact sat_ok hq
/-- a list made item by item, without tests -/
theorem comp_map {f : Env → CS → R PV} {t : Env → CS → R Bool} {many : Bool} {tg : List Nat} {ρ : Env} {s : CS} (g : D → D) : ∀ (xs acc : List D), acc.length + xs.length ≤ sizeLine → (∀ x ∈ xs, ∃ ρ', bindT many tg x ρ = some ρ' ∧ t ρ' s = .ok true s ∧ f ρ' s = .ok (.d (g x)) s) →
    compGo f t many tg ρ xs acc s = .ok (acc ++ xs.map g) s
  | [], acc, _, _ => by simp [compGo]
  | x :: xs, acc, hl, h => by
    obtain ⟨ρ', hb, ht, hf⟩ := h x List.mem_cons_self
    rw [List.length_cons] at hl
    simp only [compGo, hb, ht, R.bind, if_true, hf]
    rw [if_pos (by omega), comp_map g xs (acc ++ [g x]) (by rw [List.length_append, List.length_singleton]; omega) fun y hy => h y (List.mem_cons_of_mem _ hy)]
    simp
/-- .. with tests -/
theorem comp_filter {f : Env → CS → R PV} {t : Env → CS → R Bool} {many : Bool} {tg : List Nat} {ρ : Env} {s : CS} (g : D → D) (p : D → Bool) : ∀ (xs acc : List D), acc.length + xs.length ≤ sizeLine → (∀ x ∈ xs, ∃ ρ', bindT many tg x ρ = some ρ' ∧ t ρ' s = .ok (p x) s ∧ (p x = true → f ρ' s = .ok (.d (g x)) s)) →
    compGo f t many tg ρ xs acc s = .ok (acc ++ (xs.filter p).map g) s
  | [], acc, _, _ => by simp [compGo]
  | x :: xs, acc, hl, h => by
    obtain ⟨ρ', hb, ht, hf⟩ := h x List.mem_cons_self
    rw [List.length_cons] at hl
    simp only [compGo, hb, ht, R.bind]
    cases hp : p x with
    | true =>
      simp only [if_true, hf hp]
      rw [if_pos (by omega), comp_filter g p xs (acc ++ [g x]) (by rw [List.length_append, List.length_singleton]; omega) fun y hy => h y (List.mem_cons_of_mem _ hy)]
      simp [hp]
    | false =>
      simp only [Bool.false_eq_true, if_false]
      rw [comp_filter g p xs acc (by omega) fun y hy => h y (List.mem_cons_of_mem _ hy)]
      simp [hp]
/-- a list made item by item of steps that change the store: an invariant -/
theorem comp_inv {f : Env → CS → R PV} {t : Env → CS → R Bool} {many : Bool} {tg : List Nat} {ρ : Env} {Q : List D → CS → Prop} (I : Nat → List D → CS → Prop) : ∀ (xs : List D) (i : Nat) (acc : List D) (s : CS), acc.length + xs.length ≤ sizeLine → I i acc s →
    (∀ (j : Nat) (x : D) (acc : List D) (s : CS), i ≤ j → xs[j - i]? = some x → I j acc s → ∃ ρ', bindT many tg x ρ = some ρ' ∧ (t ρ' s).sat fun b s1 => if b = true then (f ρ' s1).sat fun v s2 => ∃ y, v = .d y ∧ I (j + 1) (acc ++ [y]) s2 else I (j + 1) acc s1) →
    (∀ acc s, I (i + xs.length) acc s → Q acc s) → (compGo f t many tg ρ xs acc s).sat Q
  | [], i, acc, s, _, h, _, e => sat_ok (e acc s h)
  | x :: xs, i, acc, s, hl, h, st, e => by
    obtain ⟨ρ', hb, hf⟩ := st i x acc s (Nat.le_refl _) (by simp) h
    rw [List.length_cons] at hl
    simp only [compGo, hb]
    have next : ∀ (acc' : List D) (s1 : CS), acc'.length + xs.length ≤ sizeLine → I (i + 1) acc' s1 → (compGo f t many tg ρ xs acc' s1).sat Q := fun acc' s1 hl' hI => by
      refine comp_inv I xs (i + 1) acc' s1 hl' hI (fun j y acc s hj hy hI => st j y acc s (by omega) ?_ hI) fun acc s hI => e acc s ?_
      · have e2 : j - i = (j - (i + 1)) + 1 := by omega
        rw [e2, List.getElem?_cons_succ]
        exact hy
      · rw [List.length_cons]
        have e3 : i + (xs.length + 1) = i + 1 + xs.length := by omega
        rw [e3]; exact hI
    refine sat_bind hf fun b s1 hq => ?_
    cases b with
    | true =>
      simp only [if_true] at hq ⊢
      refine sat_bind hq fun v s2 ⟨y, e2, hI⟩ => ?_
      subst e2
      simp only
      rw [if_pos (by omega)]
      exact next _ _ (by rw [List.length_append, List.length_singleton]; omega) hI
    | false =>
      simp only [Bool.false_eq_true, if_false] at hq ⊢
      exact next _ _ (by omega) hq

/-! ### numbers -/
theorem log_lt {m : Int} {k : Nat} (h0 : 0 ≤ m) (h : m < 2 ^ k) (hk : 0 < k) : m.natAbs.log2 < k := by
  have h1 : m.natAbs < 2 ^ k := by
    have : ((2 ^ k : Nat) : Int) = (2 : Int) ^ k := by simp
    omega
  by_cases e : m.natAbs = 0
  · rw [e]; simpa using hk
  · exact (Nat.log2_lt e).mpr h1
theorem div_log {m : Int} (h0 : 0 ≤ m) (h : m < 2 ^ 200) : m.natAbs.log2 < 9000 := Nat.lt_of_lt_of_le (log_lt h0 h (by decide)) (by decide)
theorem ix_nn {n : Nat} {i : Int} (h0 : 0 ≤ i) (h : i < n) : L2.ixN n i = some i.toNat := by
  unfold L2.ixN
  rw [if_pos h0]
  simp [h]
  try omega
theorem atI_nn {α : Type} {l : List α} {i : Int} (h0 : 0 ≤ i) (h : i < l.length) : L2.atI l i = l[i.toNat]? := by
  unfold L2.atI
  rw [ix_nn h0 h]
  rfl
theorem atI_ints {ns : List Int} {i : Int} (h0 : 0 ≤ i) (h : i < ns.length) : L2.atI (ns.map D.int) i = some (.int (ns.getD i.toNat 0)) := by
  rw [atI_nn h0 (by rw [List.length_map]; exact h), List.getElem?_map]
  have : i.toNat < ns.length := by omega
  simp [List.getElem?_eq_getElem this]

/-! ### data -/
mutual
def D.okS : D → Bool
  | .str s => s.cps.toList.all fun c => decide (c < 0x110000)
  | .lst l => D.okSs l
  | .tup l => D.okSs l
  | .int i => decide (i.natAbs.log2 < 1920)
  | _ => true
def D.okSs : List D → Bool
  | [] => true
  | x :: r => x.okS && D.okSs r
end
mutual
theorem okS_show : ∀ d : D, d.okS = true → d.toP.showable = true ∧ d.toP.leavesShort 1921 = true
  | .non, _ => ⟨rfl, rfl⟩
  | .bl _, _ => ⟨rfl, rfl⟩
  | .int i, h => by
    rw [D.okS, decide_eq_true_eq] at h
    refine ⟨by simpa [D.toP, PyData.showable] using h, ?_⟩
    rw [D.toP, PyData.leavesShort, PyData.shown, decide_eq_true_eq]
    have e := PySem.int_text_length_le (k := 1920) (by decide) h
    show (Str.ofString (toString i)).length ≤ 1921
    have e2 : (Str.ofString (toString i)).length = (toString i).length := by
      rw [Str.ofString_eq_toList]
      show (((toString i).toList.map Char.toNat).toArray).size = _
      rw [List.size_toArray, List.length_map, String.length_toList]
    rw [e2]; exact e
  | .str s, h => by
    rw [D.okS] at h
    refine ⟨by simp [D.toP, PyData.showable], ?_⟩
    rw [D.toP, PyData.leavesShort, List.all_eq_true]
    intro c hc
    have := List.all_eq_true.mp h c hc
    rw [decide_eq_true_eq] at this ⊢
    omega
  | .lst l, h => by
    rw [D.okS] at h
    have z := okSs_show l h
    exact ⟨by rw [D.toP, PyData.showable]; exact z.1, by rw [D.toP, PyData.leavesShort]; exact z.2⟩
  | .tup l, h => by
    rw [D.okS] at h
    have z := okSs_show l h
    exact ⟨by rw [D.toP, PyData.showable]; exact z.1, by rw [D.toP, PyData.leavesShort]; exact z.2⟩
theorem okSs_show : ∀ l : List D, D.okSs l = true → PyData.showableAll (D.toPs l) = true ∧ PyData.leavesShortAll 1921 (D.toPs l) = true
  | [], _ => ⟨by simp [D.toPs, PyData.showableAll], by simp [D.toPs, PyData.leavesShortAll]⟩
  | x :: r, h => by
    rw [D.okSs, Bool.and_eq_true] at h
    have a := okS_show x h.1
    have b := okSs_show r h.2
    simp [D.toPs, PyData.showableAll, PyData.leavesShortAll, a.1, a.2, b.1, b.2]
end
/-- data of at most so many leaves has a text -/
theorem reprD_ok {d : D} (h : d.okS = true) (hw : d.toP.weight ≤ 8000) (hd : d.toP.depth ≤ 60) : reprD d = some d.toP.shown := by
  obtain ⟨h1, h2⟩ := okS_show d h
  have h3 := PyData.shown_le 1921 (by decide) d.toP h2
  unfold reprD
  rw [if_pos]
  have h4 : d.toP.shown.length ≤ sizeLine := by
    have e : sizeLine = 16777216 := by decide
    omega
  simp [h1, h4, hd]
mutual
theorem okS_lay : ∀ d : D, d.okS = true → d.toP.canLay0 = true
  | .non, _ => rfl
  | .bl _, _ => rfl
  | .int i, h => rfl
  | .str s, h => by
    rw [D.okS] at h
    rw [D.toP, PyData.canLay0]
    unfold PyData.strOk
    rw [← Array.all_toList]
    exact h
  | .lst l, h => by
    rw [D.okS] at h
    rw [D.toP, PyData.canLay0]; exact okSs_lay l h
  | .tup l, h => by
    rw [D.okS] at h
    rw [D.toP, PyData.canLay0]; exact okSs_lay l h
theorem okSs_lay : ∀ l : List D, D.okSs l = true → PyData.canLayAll0 (D.toPs l) = true
  | [], _ => by simp [D.toPs, PyData.canLayAll0]
  | x :: r, h => by
    rw [D.okSs, Bool.and_eq_true] at h
    simp [D.toPs, PyData.canLayAll0, okS_lay x h.1, okSs_lay r h.2]
end
end PD

set_option Elab.async false
set_option linter.all false
set_option autoImplicit false
set_option maxRecDepth 100000
/-! PdR: the meaning, one step at a time: equations without binders, for simp. -/
namespace PD
open PySem

@[irreducible] def R.go {α β : Type} (r : R α) (f : α → CS → R β) : R β := r.bind f
theorem go_ok {α β : Type} (a : α) (s : CS) (f : α → CS → R β) : (R.ok a s).go f = f a s := by unfold R.go; rfl
theorem go_bad {α β : Type} (f : α → CS → R β) : (R.bad : R α).go f = .bad := by unfold R.go; rfl
theorem go_def {α β : Type} (r : R α) (f : α → CS → R β) : r.go f = r.bind f := by unfold R.go; rfl
theorem go_sat {α β : Type} {r : R α} {f : α → CS → R β} {Q : β → CS → Prop} {P : α → CS → Prop} (h : r.sat P) (g : ∀ a s, P a s → (f a s).sat Q) : (r.go f).sat Q := by
  rw [go_def]; exact sat_bind h g
/-- a choice -/
def br {β : Type} (c : Option Bool) (f g : CS → R β) (s : CS) : R β := match c with
  | some true => f s
  | some false => g s
  | none => .bad
theorem br_t {β : Type} (f g : CS → R β) (s : CS) : br (some true) f g s = f s := rfl
theorem br_f {β : Type} (f g : CS → R β) (s : CS) : br (some false) f g s = g s := rfl
def tru (p : PV) (s : CS) : Option Bool := (p.rd s).bind truth
theorem tru_bl (b : Bool) (s : CS) : tru (.d (.bl b)) s = some b := rfl
theorem tru_int (i : Int) (s : CS) : tru (.d (.int i)) s = some (i != 0) := rfl
theorem tru_non (s : CS) : tru (.d .non) s = some false := rfl
theorem tru_lst (l : List D) (s : CS) : tru (.d (.lst l)) s = some (!l.isEmpty) := rfl
theorem rd_d (x : D) (s : CS) : (PV.d x).rd s = some x := rfl
def rdC : Option Cell → Option D
  | some (.lst l) => some (.lst l)
  | _ => none
theorem rd_obj (k : Nat) (s : CS) : (PV.obj k).rd s = rdC s[k]? := rfl
theorem rdC_l (l : List D) : rdC (some (.lst l)) = some (.lst l) := rfl
def varR (o : Option (Option PV)) (s : CS) : R PV := match o with
  | some (some v) => .ok v s
  | _ => .bad
theorem varR_ok (v : PV) (s : CS) : varR (some (some v)) s = .ok v s := rfl
def retD (o : Option D) (s : CS) : R PV := lift (o.map PV.d) s
theorem retD_ok (d : D) (s : CS) : retD (some d) s = .ok (.d d) s := rfl
section
variable (C : Cl)
def kBin1 (o : BO) (b : E) (ρ : Env) (x : PV) (s : CS) : R PV := (evE C b ρ s).bind fun y s2 => lift (match x.rd s2, y.rd s2 with
    | some x, some y => (binop o x y).map PV.d
    | _, _ => none) s2
def opD (f : D → D → Option D) : Option D → Option D → Option D
  | some x, some y => f x y
  | _, _ => none
theorem opD_ok (f : D → D → Option D) (x y : D) : opD f (some x) (some y) = f x y := rfl
def kBin2 (o : BO) (x y : PV) (s : CS) : R PV := retD (opD (binop o) (x.rd s) (y.rd s)) s
def kCmp1 (o : CO) (b : E) (ρ : Env) (x : PV) (s : CS) : R PV := (evE C b ρ s).bind fun y s2 => lift (match x.rd s2, y.rd s2 with
    | some x, some y => (cmpop o x y).map PV.d
    | _, _ => none) s2
def kCmp2 (o : CO) (x y : PV) (s : CS) : R PV := retD (opD (cmpop o) (x.rd s) (y.rd s)) s
theorem q_lit (c : D) (ρ : Env) (s : CS) : evE C (.lit c) ρ s = .ok (.d c) s := by rw [evE]
theorem q_var (i : Nat) (ρ : Env) (s : CS) : evE C (.var i) ρ s = varR ρ[i]? s := by rw [evE]; rfl
theorem q_bin (o : BO) (a b : E) (ρ : Env) (s : CS) : evE C (.bin o a b) ρ s = (evE C a ρ s).go (kBin1 C o b ρ) := by rw [evE, go_def]; rfl
theorem lift_opD (f : D → D → Option D) (x y : PV) (s : CS) : lift (match x.rd s, y.rd s with
    | some x, some y => (f x y).map PV.d
    | _, _ => none) s = retD (opD f (x.rd s) (y.rd s)) s := by
  unfold retD opD
  cases x.rd s <;> cases y.rd s <;> rfl
theorem q_bin1 (o : BO) (b : E) (ρ : Env) (x : PV) (s : CS) : kBin1 C o b ρ x s = (evE C b ρ s).go (kBin2 o x) := by
  rw [go_def]; unfold kBin1; congr 1; funext y s2; exact lift_opD _ _ _ _
theorem q_bin2 (o : BO) (x y : PV) (s : CS) : kBin2 o x y s = retD (opD (binop o) (x.rd s) (y.rd s)) s := rfl
theorem q_cmp (o : CO) (a b : E) (ρ : Env) (s : CS) : evE C (.cmp o a b) ρ s = (evE C a ρ s).go (kCmp1 C o b ρ) := by rw [evE, go_def]; rfl
theorem q_cmp1 (o : CO) (b : E) (ρ : Env) (x : PV) (s : CS) : kCmp1 C o b ρ x s = (evE C b ρ s).go (kCmp2 o x) := by
  rw [go_def]; unfold kCmp1; congr 1; funext y s2; exact lift_opD _ _ _ _
theorem q_cmp2 (o : CO) (x y : PV) (s : CS) : kCmp2 o x y s = retD (opD (cmpop o) (x.rd s) (y.rd s)) s := rfl
def kNeg (x : PV) (s : CS) : R PV := match x with
  | .d (.int i) => .ok (.d (.int (-i))) s
  | _ => .bad
theorem q_neg (a : E) (ρ : Env) (s : CS) : evE C (.neg a) ρ s = (evE C a ρ s).go kNeg := by rw [evE, go_def]; rfl
theorem q_neg1 (i : Int) (s : CS) : kNeg (.d (.int i)) s = .ok (.d (.int (-i))) s := rfl
def kIsn (n : Bool) (x : PV) (s : CS) : R PV := lift ((isNone x s).map fun b => PV.d (.bl (b != n))) s
theorem q_isn (n : Bool) (a : E) (ρ : Env) (s : CS) : evE C (.isn n a) ρ s = (evE C a ρ s).go (kIsn n) := by rw [evE, go_def]; rfl
theorem q_isn_non (n : Bool) (s : CS) : kIsn n (.d .non) s = .ok (.d (.bl (!n))) s := by cases n <;> rfl
theorem q_isn_bl (n b : Bool) (s : CS) : kIsn n (.d (.bl b)) s = .ok (.d (.bl n)) s := by cases n <;> rfl
theorem q_isn_int (n : Bool) (i : Int) (s : CS) : kIsn n (.d (.int i)) s = .ok (.d (.bl n)) s := by cases n <;> rfl
theorem q_isn_str (n : Bool) (z : Str) (s : CS) : kIsn n (.d (.str z)) s = .ok (.d (.bl n)) s := by cases n <;> rfl
theorem q_isn_lst (n : Bool) (l : List D) (s : CS) : kIsn n (.d (.lst l)) s = .ok (.d (.bl n)) s := by cases n <;> rfl
theorem q_isn_tup (n : Bool) (l : List D) (s : CS) : kIsn n (.d (.tup l)) s = .ok (.d (.bl n)) s := by cases n <;> rfl
def kAnd (es : Es) (ρ : Env) (x : PV) (s : CS) : R PV := br (tru x s) (evAnd C es ρ) (R.ok x) s
def kOr (es : Es) (ρ : Env) (x : PV) (s : CS) : R PV := br (tru x s) (R.ok x) (evOr C es ρ) s
theorem q_and (es : Es) (ρ : Env) (s : CS) : evE C (.and es) ρ s = evAnd C es ρ s := by rw [evE]
theorem q_or (es : Es) (ρ : Env) (s : CS) : evE C (.or es) ρ s = evOr C es ρ s := by rw [evE]
theorem q_and1 (e : E) (ρ : Env) (s : CS) : evAnd C (.cons e .nil) ρ s = evE C e ρ s := by rw [evAnd]
theorem q_or1 (e : E) (ρ : Env) (s : CS) : evOr C (.cons e .nil) ρ s = evE C e ρ s := by rw [evOr]
theorem q_and2 (e e2 : E) (es : Es) (ρ : Env) (s : CS) : evAnd C (.cons e (.cons e2 es)) ρ s = (evE C e ρ s).go (kAnd C (.cons e2 es) ρ) := by
  rw [evAnd, go_def]; congr 1
theorem q_or2 (e e2 : E) (es : Es) (ρ : Env) (s : CS) : evOr C (.cons e (.cons e2 es)) ρ s = (evE C e ρ s).go (kOr C (.cons e2 es) ρ) := by
  rw [evOr, go_def]; congr 1; funext x s1; unfold kOr br tru; split <;> rename_i h <;> rw [h]
theorem q_kand (es : Es) (ρ : Env) (x : PV) (s : CS) : kAnd C es ρ x s = br (tru x s) (evAnd C es ρ) (R.ok x) s := rfl
theorem q_kor (es : Es) (ρ : Env) (x : PV) (s : CS) : kOr C es ρ x s = br (tru x s) (R.ok x) (evOr C es ρ) s := rfl
def notR (o : Option Bool) (s : CS) : R PV := lift (o.map fun b => PV.d (.bl !b)) s
theorem notR_ok (b : Bool) (s : CS) : notR (some b) s = .ok (.d (.bl !b)) s := rfl
def kNot (x : PV) (s : CS) : R PV := notR (tru x s) s
theorem q_not (a : E) (ρ : Env) (s : CS) : evE C (.not a) ρ s = (evE C a ρ s).go kNot := by
  rw [evE, go_def]; congr 1; funext x s1; unfold kNot notR tru; cases x.rd s1 <;> rfl
theorem q_not1 (x : PV) (s : CS) : kNot x s = notR (tru x s) s := rfl
def kIte (a b : E) (ρ : Env) (x : PV) (s : CS) : R PV := br (tru x s) (evE C a ρ) (evE C b ρ) s
theorem q_ite (c a b : E) (ρ : Env) (s : CS) : evE C (.ite c a b) ρ s = (evE C c ρ s).go (kIte C a b ρ) := by
  rw [evE, go_def]; congr 1
theorem q_ite1 (a b : E) (ρ : Env) (x : PV) (s : CS) : kIte C a b ρ x s = br (tru x s) (evE C a ρ) (evE C b ρ) s := rfl
def kTup (xs : List PV) (s : CS) : R PV := lift (if xs.length ≤ sizeLine then (ownAll xs).map fun l => PV.d (.tup l) else none) s
def kLst (xs : List PV) (s : CS) : R PV := lift (if xs.length ≤ sizeLine then (ownAll xs).map fun l => PV.d (.lst l) else none) s
theorem q_tup (es : Es) (ρ : Env) (s : CS) : evE C (.tup es) ρ s = (evEs C es ρ s).go kTup := by rw [evE, go_def]; rfl
theorem q_lst (es : Es) (ρ : Env) (s : CS) : evE C (.lst es) ρ s = (evEs C es ρ s).go kLst := by rw [evE, go_def]; rfl
def dispR (t : List D → D) (o : Option (List D)) (n : Nat) (s : CS) : R PV := match o with
  | some l => if n ≤ sizeLine then .ok (.d (t l)) s else .bad
  | none => .bad
theorem dispR_ok {t : List D → D} {l : List D} {n : Nat} {s : CS} (h : n ≤ 1000) : dispR t (some l) n s = .ok (.d (t l)) s := if_pos (Nat.le_trans h (by decide))
theorem q_tup1 (xs : List PV) (s : CS) : kTup xs s = dispR D.tup (ownAll xs) xs.length s := by
  unfold kTup dispR
  cases ownAll xs with
  | none => split <;> rfl
  | some l => split <;> rfl
theorem q_lst1 (xs : List PV) (s : CS) : kLst xs s = dispR D.lst (ownAll xs) xs.length s := by
  unfold kLst dispR
  cases ownAll xs with
  | none => split <;> rfl
  | some l => split <;> rfl
def kNew (x : PV) (s : CS) : R PV := match x with
  | .d (.lst l) => .ok (.obj s.length) (s ++ [.lst l])
  | _ => .bad
theorem q_new (e : E) (ρ : Env) (s : CS) : evE C (.new e) ρ s = (evE C e ρ s).go kNew := by rw [evE, go_def]; rfl
theorem q_new1 (l : List D) (s : CS) : kNew (.d (.lst l)) s = .ok (.obj s.length) (s ++ [.lst l]) := rfl
def ixR (x : Option D) (y : PV) : Option D := match x, y with
  | some x, .d y => ixD x y
  | _, _ => none
theorem ixR_ok (x y : D) : ixR (some x) (.d y) = ixD x y := rfl
def kIdx1 (i : E) (ρ : Env) (x : PV) (s : CS) : R PV := (evE C i ρ s).bind fun y s2 => lift (match x.rd s2, y with
    | some x, .d y => (ixD x y).map PV.d
    | _, _ => none) s2
def kIdx2 (x y : PV) (s : CS) : R PV := retD (ixR (x.rd s) y) s
theorem q_idx (a i : E) (ρ : Env) (s : CS) : evE C (.idx a i) ρ s = (evE C a ρ s).go (kIdx1 C i ρ) := by rw [evE, go_def]; rfl
theorem q_idx1 (i : E) (ρ : Env) (x : PV) (s : CS) : kIdx1 C i ρ x s = (evE C i ρ s).go (kIdx2 x) := by
  rw [go_def]; unfold kIdx1; congr 1; funext y s2; unfold kIdx2 retD ixR
  cases x.rd s2 with
  | none => rfl
  | some d => cases y <;> rfl
theorem q_idx2 (x y : PV) (s : CS) : kIdx2 x y s = retD (ixR (x.rd s) y) s := rfl
def sliR (x : PV) (l h : Option Int) (s : CS) : R PV := lift (match x with
      | .scr ns => some (PV.d (.lst ((cutL ns l h).map D.int)))
      | x => (x.rd s).bind fun x => (sliD x l h).map PV.d) s
def kSli2 (x : PV) (l : Option Int) (h : Option Int) (s : CS) : R PV := sliR x l h s
def kSli1 (hi : Eo) (ρ : Env) (x : PV) (l : Option Int) (s : CS) : R PV := (evEo C hi ρ s).bind (kSli2 x l)
def kSli (lo hi : Eo) (ρ : Env) (x : PV) (s : CS) : R PV := (evEo C lo ρ s).bind (kSli1 C hi ρ x)
theorem q_sli (a : E) (lo hi : Eo) (ρ : Env) (s : CS) : evE C (.sli a lo hi) ρ s = (evE C a ρ s).go (kSli C lo hi ρ) := by rw [evE, go_def]; rfl
theorem q_sli1 (lo hi : Eo) (ρ : Env) (x : PV) (s : CS) : kSli C lo hi ρ x s = (evEo C lo ρ s).go (kSli1 C hi ρ x) := by rw [go_def]; rfl
theorem q_sli2 (hi : Eo) (ρ : Env) (x : PV) (l : Option Int) (s : CS) : kSli1 C hi ρ x l s = (evEo C hi ρ s).go (kSli2 x l) := by rw [go_def]; rfl
theorem q_sli3 (x : PV) (l h : Option Int) (s : CS) : kSli2 x l h s = sliR x l h s := rfl
theorem sliR_scr (ns : List Int) (l h : Option Int) (s : CS) : sliR (.scr ns) l h s = .ok (.d (.lst ((cutL ns l h).map D.int))) s := rfl
theorem sliR_lst (xs : List D) (l h : Option Int) (s : CS) : sliR (.d (.lst xs)) l h s = .ok (.d (.lst (cutL xs l h))) s := rfl
theorem q_onone (ρ : Env) (s : CS) : evEo C .none ρ s = .ok none s := by rw [evEo]
def kOs (x : PV) (s : CS) : R (Option Int) := match x with
  | .d (.int i) => .ok (some i) s
  | _ => .bad
theorem q_osome (e : E) (ρ : Env) (s : CS) : evEo C (.some e) ρ s = (evE C e ρ s).go kOs := by rw [evEo, go_def]; rfl
theorem q_os (i : Int) (s : CS) : kOs (.d (.int i)) s = .ok (some i) s := rfl
theorem q_call (f : Nat) (es : Es) (ρ : Env) (s : CS) : evE C (.call f es) ρ s = (evEs C es ρ s).go (C.call f) := by rw [evE, go_def]
def permR (f : Nat) (o : Option (List PV)) (s : CS) : R PV := match o with
  | some ys => C.call f ys s
  | none => .bad
theorem permR_ok (f : Nat) (ys : List PV) (s : CS) : permR C f (some ys) s = C.call f ys s := rfl
def kCk2 (f : Nat) (perm : List Nat) (xs zs : List PV) (s : CS) : R PV := permR C f (pickAll (xs ++ zs) perm) s
def kCk1 (f : Nat) (perm : List Nat) (ks : Es) (ρ : Env) (xs : List PV) (s : CS) : R PV := (evEs C ks ρ s).bind (kCk2 C f perm xs)
theorem q_callk (f : Nat) (perm : List Nat) (es ks : Es) (ρ : Env) (s : CS) : evE C (.callk f perm es ks) ρ s = (evEs C es ρ s).go (kCk1 C f perm ks ρ) := by
  rw [evE, go_def]; rfl
theorem q_callk1 (f : Nat) (perm : List Nat) (ks : Es) (ρ : Env) (xs : List PV) (s : CS) : kCk1 C f perm ks ρ xs s = (evEs C ks ρ s).go (kCk2 C f perm xs) := by rw [go_def]; rfl
theorem q_callk2 (f : Nat) (perm : List Nat) (xs zs : List PV) (s : CS) : kCk2 C f perm xs zs s = permR C f (pickAll (xs ++ zs) perm) s := rfl
def biR (b : BI) (o : Option (List D)) (s : CS) : R PV := match o with
  | some l => retD (bi b l) s
  | none => .bad
theorem biR_ok (b : BI) (l : List D) (s : CS) : biR b (some l) s = retD (bi b l) s := rfl
def kBi (b : BI) (xs : List PV) (s : CS) : R PV := biR b (rdAll s xs) s
theorem q_bi (b : BI) (es : Es) (ρ : Env) (s : CS) : evE C (.bi b es) ρ s = (evEs C es ρ s).go (kBi b) := by
  rw [evE, go_def]; congr 1; funext xs s1; unfold kBi biR retD; cases rdAll s1 xs <;> rfl
theorem q_bi1 (b : BI) (xs : List PV) (s : CS) : kBi b xs s = biR b (rdAll s xs) s := rfl
def isiR (k : TK) (o : Option D) (s : CS) : R PV := match o with
  | some x => .ok (.d (.bl (isK k x))) s
  | none => .bad
theorem isiR_ok (k : TK) (x : D) (s : CS) : isiR k (some x) s = .ok (.d (.bl (isK k x))) s := rfl
def kIsi (k : TK) (x : PV) (s : CS) : R PV := isiR k (x.rd s) s
theorem q_isi (a : E) (k : TK) (ρ : Env) (s : CS) : evE C (.isi a k) ρ s = (evE C a ρ s).go (kIsi k) := by
  rw [evE, go_def]; congr 1; funext x s1; unfold kIsi isiR; cases x.rd s1 <;> rfl
theorem q_isi1 (k : TK) (x : PV) (s : CS) : kIsi k x s = isiR k (x.rd s) s := rfl
def kLrg (x : PV) (s : CS) : R PV := match x with
  | .d (.int j) => if 0 ≤ j ∧ j ≤ 16777216 then .ok (.d (.lst (rngItems 0 j.toNat))) s else .bad
  | _ => .bad
theorem q_lrg (e : E) (ρ : Env) (s : CS) : evE C (.lrg e) ρ s = (evE C e ρ s).go kLrg := by rw [evE, go_def]; rfl
theorem q_lrg1 {j : Int} {s : CS} (h0 : 0 ≤ j) (h : j ≤ 16777216) : kLrg (.d (.int j)) s = .ok (.d (.lst (rngItems 0 j.toNat))) s := by
  show (if 0 ≤ j ∧ j ≤ 16777216 then _ else _) = _
  rw [if_pos ⟨h0, h⟩]
def kComp2 (l : List D) (s : CS) : R PV := .ok (.d (.lst l)) s
def cmp_ (e : E) (tg : List Nat) (many : Bool) (ifs : Es) (ρ : Env) (xs : List D) (s : CS) : R (List D) := compGo (fun ρ s => evE C e ρ s) (fun ρ s => evIfs C ifs ρ s) many tg ρ xs [] s
def kComp1 (e : E) (tg : List Nat) (many : Bool) (ifs : Es) (ρ : Env) (xs : List D) (s : CS) : R PV := (cmp_ C e tg many ifs ρ xs s).bind kComp2
theorem q_comp (e : E) (tg : List Nat) (many : Bool) (it : It) (ifs : Es) (own : List Nat) (ρ : Env) (s : CS) : evE C (.comp e tg many it ifs own) ρ s = (evIt C it ρ s).go (kComp1 C e tg many ifs (wipeE ρ own)) := by
  rw [evE, go_def]; rfl
theorem q_comp1 (e : E) (tg : List Nat) (many : Bool) (ifs : Es) (ρ : Env) (xs : List D) (s : CS) : kComp1 C e tg many ifs ρ xs s = (cmp_ C e tg many ifs ρ xs s).go kComp2 := by rw [go_def]; rfl
theorem q_comp2 (l : List D) (s : CS) : kComp2 l s = .ok (.d (.lst l)) s := rfl
/-! arguments -/
def kEs2 (x : PV) (xs : List PV) (s : CS) : R (List PV) := .ok (x :: xs) s
def kEs1 (es : Es) (ρ : Env) (x : PV) (s : CS) : R (List PV) := (evEs C es ρ s).bind (kEs2 x)
theorem q_es0 (ρ : Env) (s : CS) : evEs C .nil ρ s = .ok [] s := by rw [evEs]
theorem q_es (e : E) (es : Es) (ρ : Env) (s : CS) : evEs C (.cons e es) ρ s = (evE C e ρ s).go (kEs1 C es ρ) := by rw [evEs, go_def]; rfl
theorem q_es1 (es : Es) (ρ : Env) (x : PV) (s : CS) : kEs1 C es ρ x s = (evEs C es ρ s).go (kEs2 x) := by rw [go_def]; rfl
theorem q_es2 (x : PV) (xs : List PV) (s : CS) : kEs2 x xs s = .ok (x :: xs) s := rfl
theorem own0 : ownAll [] = some [] := rfl
def consO (x : D) (o : Option (List D)) : Option (List D) := o.map (x :: ·)
theorem own1 (x : D) (r : List PV) : ownAll (.d x :: r) = consO x (ownAll r) := rfl
theorem consO_ok (x : D) (l : List D) : consO x (some l) = some (x :: l) := rfl
theorem rdl0 (s : CS) : rdAll s [] = some [] := rfl
def consR (o : Option D) (r : Option (List D)) : Option (List D) := o.bind fun d => r.map (d :: ·)
theorem rdl1 (s : CS) (x : PV) (r : List PV) : rdAll s (x :: r) = consR (x.rd s) (rdAll s r) := rfl
theorem consR_ok (x : D) (l : List D) : consR (some x) (some l) = some (x :: l) := rfl
/-! what is walked -/
def kSeq (x : PV) (s : CS) : R (List D) := match x with
  | .d (.lst l) => .ok l s
  | .d (.tup l) => .ok l s
  | _ => .bad
theorem q_seq (e : E) (ρ : Env) (s : CS) : evIt C (.seq e) ρ s = (evE C e ρ s).go kSeq := by rw [evIt, go_def]; rfl
theorem q_seqL (l : List D) (s : CS) : kSeq (.d (.lst l)) s = .ok l s := rfl
theorem q_seqT (l : List D) (s : CS) : kSeq (.d (.tup l)) s = .ok l s := rfl
def kR1 (x : PV) (s : CS) : R (List D) := match x with
  | .d (.int j) => if smallI j then .ok (rngItems 0 j.toNat) s else .bad
  | _ => .bad
theorem q_r1 (e : E) (ρ : Env) (s : CS) : evIt C (.rng1 e) ρ s = (evE C e ρ s).go kR1 := by rw [evIt, go_def]; rfl
theorem q_r11 {j : Int} {s : CS} (h : smallI j = true) : kR1 (.d (.int j)) s = .ok (rngItems 0 j.toNat) s := by
  show (if smallI j = true then _ else _) = _
  rw [if_pos h]
def kR22 (x y : PV) (s : CS) : R (List D) := match x, y with
  | .d (.int i), .d (.int j) => if smallI i && smallI j then .ok (rngItems i (j - i).toNat) s else .bad
  | _, _ => .bad
def kR21 (b : E) (ρ : Env) (x : PV) (s : CS) : R (List D) := (evE C b ρ s).bind (kR22 x)
theorem q_r2 (a b : E) (ρ : Env) (s : CS) : evIt C (.rng2 a b) ρ s = (evE C a ρ s).go (kR21 C b ρ) := by rw [evIt, go_def]; rfl
theorem q_r21 (b : E) (ρ : Env) (x : PV) (s : CS) : kR21 C b ρ x s = (evE C b ρ s).go (kR22 x) := by rw [go_def]; rfl
theorem q_r22 {i j : Int} {s : CS} (h : smallI i = true) (h2 : smallI j = true) : kR22 (.d (.int i)) (.d (.int j)) s = .ok (rngItems i (j - i).toNat) s := by
  show (if (smallI i && smallI j) = true then _ else _) = _
  rw [if_pos (by rw [h, h2]; rfl)]
def kEn (x : PV) (s : CS) : R (List D) := match x with
  | .d (.lst l) => .ok (enumItems l) s
  | _ => .bad
theorem q_en (e : E) (ρ : Env) (s : CS) : evIt C (.enum e) ρ s = (evE C e ρ s).go kEn := by rw [evIt, go_def]; rfl
theorem q_en1 (l : List D) (s : CS) : kEn (.d (.lst l)) s = .ok (enumItems l) s := rfl
def kIf (es : Es) (ρ : Env) (x : PV) (s : CS) : R Bool := br (tru x s) (evIfs C es ρ) (R.ok false) s
theorem q_if0 (ρ : Env) (s : CS) : evIfs C .nil ρ s = .ok true s := by rw [evIfs]
theorem q_if (e : E) (es : Es) (ρ : Env) (s : CS) : evIfs C (.cons e es) ρ s = (evE C e ρ s).go (kIf C es ρ) := by
  rw [evIfs, go_def]; congr 1
theorem q_if1 (es : Es) (ρ : Env) (x : PV) (s : CS) : kIf C es ρ x s = br (tru x s) (evIfs C es ρ) (R.ok false) s := rfl
/-! statements -/
def kAsg (i : Nat) (ρ : Env) (x : PV) (s : CS) : R Fl := .ok (.nx (ρ.set i (some x))) s
theorem q_asg (i : Nat) (e : E) (ρ : Env) (s : CS) : exS C (.asg i e) ρ s = (evE C e ρ s).go (kAsg i ρ) := by rw [exS, go_def]; rfl
theorem q_asg1 (i : Nat) (ρ : Env) (x : PV) (s : CS) : kAsg i ρ x s = .ok (.nx (ρ.set i (some x))) s := rfl
def nxR (o : Option Env) (s : CS) : R Fl := lift (o.map Fl.nx) s
theorem nxR_ok (ρ : Env) (s : CS) : nxR (some ρ) s = .ok (.nx ρ) s := rfl
def kAsgT (is : List Nat) (ρ : Env) (x : PV) (s : CS) : R Fl := match x with
  | .d (.tup l) => nxR (setAll ρ is l) s
  | _ => .bad
theorem q_asgT (is : List Nat) (e : E) (ρ : Env) (s : CS) : exS C (.asgT is e) ρ s = (evE C e ρ s).go (kAsgT is ρ) := by rw [exS, go_def]; rfl
theorem q_asgT1 (is : List Nat) (ρ : Env) (l : List D) (s : CS) : kAsgT is ρ (.d (.tup l)) s = nxR (setAll ρ is l) s := rfl
def kAsg2 (is : List Nat) (ρ : Env) (xs : List PV) (s : CS) : R Fl := nxR (setAllP ρ is xs) s
theorem q_asg2 (is : List Nat) (es : Es) (ρ : Env) (s : CS) : exS C (.asg2 is es) ρ s = (evEs C es ρ s).go (kAsg2 is ρ) := by rw [exS, go_def]; rfl
theorem q_asg21 (is : List Nat) (ρ : Env) (xs : List PV) (s : CS) : kAsg2 is ρ xs s = nxR (setAllP ρ is xs) s := rfl
theorem setAll0 (ρ : Env) : setAll ρ [] [] = some ρ := rfl
theorem setAll1 (ρ : Env) (i : Nat) (is : List Nat) (x : D) (xs : List D) : setAll ρ (i :: is) (x :: xs) = setAll (ρ.set i (some (.d x))) is xs := rfl
theorem setAllP0 (ρ : Env) : setAllP ρ [] [] = some ρ := rfl
theorem setAllP1 (ρ : Env) (i : Nat) (is : List Nat) (x : PV) (xs : List PV) : setAllP ρ (i :: is) (x :: xs) = setAllP (ρ.set i (some x)) is xs := rfl
def kSet3 (ρ : Env) (y x j : PV) (s3 : CS) : R Fl := match x, j, y with
    | .obj k, .d (.int j), .d y => match s3[k]? with
      | some (.lst l) => match L2.ixN l.length j with
        | some n => .ok (.nx ρ) (s3.set k (.lst (l.set n y)))
        | none => .bad
      | _ => .bad
    | _, _, _ => .bad
def kSet2 (i : E) (ρ : Env) (y x : PV) (s : CS) : R Fl := (evE C i ρ s).bind (kSet3 ρ y x)
def kSet1 (o i : E) (ρ : Env) (y : PV) (s : CS) : R Fl := (evE C o ρ s).bind (kSet2 C i ρ y)
theorem q_set (o i v : E) (ρ : Env) (s : CS) : exS C (.setI o i v) ρ s = (evE C v ρ s).go (kSet1 C o i ρ) := by rw [exS, go_def]; rfl
theorem q_set1 (o i : E) (ρ : Env) (y : PV) (s : CS) : kSet1 C o i ρ y s = (evE C o ρ s).go (kSet2 C i ρ y) := by rw [go_def]; rfl
theorem q_set2 (i : E) (ρ : Env) (y x : PV) (s : CS) : kSet2 C i ρ y x s = (evE C i ρ s).go (kSet3 ρ y x) := by rw [go_def]; rfl
def setR (ρ : Env) (k : Nat) (y : D) (l : List D) (o : Option Nat) (s : CS) : R Fl := match o with
  | some n => .ok (.nx ρ) (s.set k (.lst (l.set n y)))
  | none => .bad
theorem setR_ok (ρ : Env) (k : Nat) (y : D) (l : List D) (n : Nat) (s : CS) : setR ρ k y l (some n) s = .ok (.nx ρ) (s.set k (.lst (l.set n y))) := rfl
def setC (ρ : Env) (k : Nat) (y : D) (j : Int) (o : Option Cell) (s : CS) : R Fl := match o with
  | some (.lst l) => setR ρ k y l (L2.ixN l.length j) s
  | _ => .bad
theorem setC_ok (ρ : Env) (k : Nat) (y : D) (j : Int) (l : List D) (s : CS) : setC ρ k y j (some (.lst l)) s = setR ρ k y l (L2.ixN l.length j) s := rfl
theorem q_set3 (ρ : Env) (y : D) (k : Nat) (j : Int) (s : CS) : kSet3 ρ (.d y) (.obj k) (.d (.int j)) s = setC ρ k y j s[k]? s := by
  simp only [kSet3, setC]
  cases s[k]? with
  | none => rfl
  | some c => cases c with
    | dead => rfl
    | lst l => rfl
def kExpr (ρ : Env) (_ : PV) (s : CS) : R Fl := .ok (.nx ρ) s
theorem q_expr (e : E) (ρ : Env) (s : CS) : exS C (.expr e) ρ s = (evE C e ρ s).go (kExpr ρ) := by rw [exS, go_def]; rfl
theorem q_expr1 (ρ : Env) (x : PV) (s : CS) : kExpr ρ x s = .ok (.nx ρ) s := rfl
def kRet (x : PV) (s : CS) : R Fl := .ok (.rt x) s
theorem q_ret (e : E) (ρ : Env) (s : CS) : exS C (.ret e) ρ s = (evE C e ρ s).go kRet := by rw [exS, go_def]; rfl
theorem q_ret1 (x : PV) (s : CS) : kRet x s = .ok (.rt x) s := rfl
theorem q_retN (ρ : Env) (s : CS) : exS C .retN ρ s = .ok (.rt (.d .non)) s := by rw [exS]
theorem q_pass (ρ : Env) (s : CS) : exS C .pass ρ s = .ok (.nx ρ) s := by rw [exS]
theorem q_stop (ρ : Env) (s : CS) : exS C .stop ρ s = .bad := by rw [exS]
def kIfs (a b : Ss) (ρ : Env) (x : PV) (s : CS) : R Fl := br (tru x s) (exSs C a ρ) (exSs C b ρ) s
theorem q_ifs (c : E) (a b : Ss) (ρ : Env) (s : CS) : exS C (.ifs c a b) ρ s = (evE C c ρ s).go (kIfs C a b ρ) := by
  rw [exS, go_def]; congr 1
theorem q_ifs1 (a b : Ss) (ρ : Env) (x : PV) (s : CS) : kIfs C a b ρ x s = br (tru x s) (exSs C a ρ) (exSs C b ρ) s := rfl
@[irreducible] def for_ (b : Ss) (tg : List Nat) (many : Bool) (xs : List D) (ρ : Env) (s : CS) : R Fl := forGo (fun ρ s => exSs C b ρ s) many tg xs ρ s
theorem for_def (b : Ss) (tg : List Nat) (many : Bool) (xs : List D) (ρ : Env) (s : CS) : for_ C b tg many xs ρ s = forGo (fun ρ s => exSs C b ρ s) many tg xs ρ s := by unfold for_; rfl
def kFor (tg : List Nat) (many : Bool) (b : Ss) (ρ : Env) (xs : List D) (s : CS) : R Fl := for_ C b tg many xs ρ s
theorem q_for (tg : List Nat) (many : Bool) (it : It) (b : Ss) (ρ : Env) (s : CS) : exS C (.for tg many it b) ρ s = (evIt C it ρ s).go (kFor C tg many b ρ) := by rw [exS, go_def]; unfold kFor for_; rfl
theorem q_for1 (tg : List Nat) (many : Bool) (b : Ss) (ρ : Env) (xs : List D) (s : CS) : kFor C tg many b ρ xs s = for_ C b tg many xs ρ s := rfl
def kSs (ss : Ss) (f : Fl) (s : CS) : R Fl := match f with
  | .nx ρ2 => exSs C ss ρ2 s
  | .rt v => .ok (.rt v) s
theorem q_ss0 (ρ : Env) (s : CS) : exSs C .nil ρ s = .ok (.nx ρ) s := by rw [exSs]
theorem q_ss (x : S) (xs : Ss) (ρ : Env) (s : CS) : exSs C (.cons x xs) ρ s = (exS C x ρ s).go (kSs C xs) := by
  rw [exSs, go_def]; congr 1
theorem q_ssn (ss : Ss) (ρ : Env) (s : CS) : kSs C ss (.nx ρ) s = exSs C ss ρ s := rfl
theorem q_ssr (ss : Ss) (v : PV) (s : CS) : kSs C ss (.rt v) s = .ok (.rt v) s := rfl
def frzC (i : Nat) (ρ : Env) (k : Nat) (o : Option Cell) (s : CS) : R Fl := match o with
  | some (.lst l) => .ok (.nx (ρ.set i (some (.d (.lst l))))) (s.set k .dead)
  | _ => .bad
theorem frzC_ok (i : Nat) (ρ : Env) (k : Nat) (l : List D) (s : CS) : frzC i ρ k (some (.lst l)) s = .ok (.nx (ρ.set i (some (.d (.lst l))))) (s.set k .dead) := rfl
def frzR (i : Nat) (ρ : Env) (o : Option (Option PV)) (s : CS) : R Fl := match o with
    | some (some (.obj k)) => frzC i ρ k s[k]? s
    | _ => .bad
theorem q_frz (i : Nat) (ρ : Env) (s : CS) : exS C (.frz i) ρ s = frzR i ρ ρ[i]? s := by
  rw [exS]
  unfold frzR frzC
  cases ρ[i]? with
  | none => rfl
  | some p => cases p with
    | none => rfl
    | some v => cases v <;> rfl
theorem frzR_ok (i k : Nat) (ρ : Env) (s : CS) : frzR i ρ (some (some (.obj k))) s = frzC i ρ k s[k]? s := rfl
def kApp2 (ρ : Env) (k : Nat) (y : PV) (s2 : CS) : R Fl := match y with
        | .d y => match s2[k]? with
          | some (.lst l) => if l.length < sizeLine then .ok (.nx ρ) (s2.set k (.lst (l ++ [y]))) else .bad
          | _ => .bad
        | _ => .bad
def kApp1 (v : E) (ρ : Env) (x : PV) (s1 : CS) : R Fl := match x with
    | .obj k => match s1[k]? with
      | some (.lst _) => (evE C v ρ s1).bind (kApp2 ρ k)
      | _ => .bad
    | _ => .bad
theorem q_app (o v : E) (ρ : Env) (s : CS) : exS C (.app o v) ρ s = (evE C o ρ s).go (kApp1 C v ρ) := by rw [exS, go_def]; rfl
def appC (v : E) (ρ : Env) (k : Nat) (o : Option Cell) (s : CS) : R Fl := match o with
  | some (.lst _) => (evE C v ρ s).bind (kApp2 ρ k)
  | _ => .bad
theorem appC_ok (v : E) (ρ : Env) (k : Nat) (l : List D) (s : CS) : appC C v ρ k (some (.lst l)) s = (evE C v ρ s).go (kApp2 ρ k) := by rw [go_def]; rfl
theorem q_app1 (k : Nat) (v : E) (ρ : Env) (s : CS) : kApp1 C v ρ (.obj k) s = appC C v ρ k s[k]? s := rfl
def appD (ρ : Env) (k : Nat) (y : D) (o : Option Cell) (s : CS) : R Fl := match o with
  | some (.lst l) => if l.length < sizeLine then .ok (.nx ρ) (s.set k (.lst (l ++ [y]))) else .bad
  | _ => .bad
theorem q_app2 (k : Nat) (y : D) (ρ : Env) (s : CS) : kApp2 ρ k (.d y) s = appD ρ k y s[k]? s := rfl
theorem appD_ok {ρ : Env} {k : Nat} {y : D} {l : List D} {s : CS} (h : l.length < sizeLine) : appD ρ k y (some (.lst l)) s = .ok (.nx ρ) (s.set k (.lst (l ++ [y]))) := if_pos h
def kExt2 (ρ : Env) (k : Nat) (y : PV) (s2 : CS) : R Fl := match y with
        | .d (.lst ys) => match s2[k]? with
          | some (.lst l) => if l.length + ys.length ≤ sizeLine then .ok (.nx ρ) (s2.set k (.lst (l ++ ys))) else .bad
          | _ => .bad
        | _ => .bad
def kExt1 (v : E) (ρ : Env) (x : PV) (s1 : CS) : R Fl := match x with
    | .obj k => match s1[k]? with
      | some (.lst _) => (evE C v ρ s1).bind (kExt2 ρ k)
      | _ => .bad
    | _ => .bad
theorem q_ext (o v : E) (ρ : Env) (s : CS) : exS C (.ext o v) ρ s = (evE C o ρ s).go (kExt1 C v ρ) := by rw [exS, go_def]; rfl
def extC (v : E) (ρ : Env) (k : Nat) (o : Option Cell) (s : CS) : R Fl := match o with
  | some (.lst _) => (evE C v ρ s).bind (kExt2 ρ k)
  | _ => .bad
theorem extC_ok (v : E) (ρ : Env) (k : Nat) (l : List D) (s : CS) : extC C v ρ k (some (.lst l)) s = (evE C v ρ s).go (kExt2 ρ k) := by rw [go_def]; rfl
theorem q_ext1 (k : Nat) (v : E) (ρ : Env) (s : CS) : kExt1 C v ρ (.obj k) s = extC C v ρ k s[k]? s := rfl
def extD (ρ : Env) (k : Nat) (ys : List D) (o : Option Cell) (s : CS) : R Fl := match o with
  | some (.lst l) => if l.length + ys.length ≤ sizeLine then .ok (.nx ρ) (s.set k (.lst (l ++ ys))) else .bad
  | _ => .bad
theorem q_ext2 (k : Nat) (ys : List D) (ρ : Env) (s : CS) : kExt2 ρ k (.d (.lst ys)) s = extD ρ k ys s[k]? s := rfl
theorem extD_ok {ρ : Env} {k : Nat} {ys l : List D} {s : CS} (h : l.length + ys.length ≤ sizeLine) : extD ρ k ys (some (.lst l)) s = .ok (.nx ρ) (s.set k (.lst (l ++ ys))) := if_pos h
end
/-! defs -/
def kFn (n : Nat) (f : Fl) (s : CS) : R PV := match f with
  | .nx _ => leave n (.d .non) s
  | .rt v => leave n v s
theorem kFn_rt (n : Nat) (v : PV) (s : CS) : kFn n (.rt v) s = leave n v s := rfl
theorem kFn_nx (n : Nat) (ρ : Env) (s : CS) : kFn n (.nx ρ) s = leave n (.d .non) s := rfl
theorem q_fn {F : Nat → Option Fd} {n f : Nat} {args : List PV} {s : CS} {g : Fd} (hf : F f = some g) (ha : args.length = g.np) : callN F (n + 1) f args s = (exSs ⟨callN F n⟩ g.body (args.map some ++ List.replicate (g.nn - args.length) none) s).go (kFn s.length) := by
  rw [callN, hf]
  show runF _ g args s = _
  unfold runF
  rw [if_pos ha, go_def]
  congr 1
theorem leave_d {n : Nat} {x : D} {s : CS} (h : s.length = n) : leave n (.d x) s = .ok (.d x) s := by
  show R.ok _ (s.take n) = _
  rw [← h, List.take_length]
theorem leave_cut {n : Nat} {x : D} {s : CS} : leave n (.d x) s = .ok (.d x) (s.take n) := rfl
/-! operators -/
theorem b_add (a b : Int) : binop .add (.int a) (.int b) = some (.int (a + b)) := rfl
theorem b_sub (a b : Int) : binop .sub (.int a) (.int b) = some (.int (a - b)) := rfl
theorem b_mulL {a b : Int} (h : a.natAbs < 2 ^ 64) : binop .mul (.int a) (.int b) = some (.int (a * b)) := by
  show (if a.natAbs < 2 ^ 64 ∨ b.natAbs < 2 ^ 64 ∨ _ then _ else _) = _
  rw [if_pos (.inl h)]
theorem b_mulR {a b : Int} (h : b.natAbs < 2 ^ 64) : binop .mul (.int a) (.int b) = some (.int (a * b)) := by
  show (if a.natAbs < 2 ^ 64 ∨ b.natAbs < 2 ^ 64 ∨ _ then _ else _) = _
  rw [if_pos (.inr (.inl h))]
theorem b_mulLL {a b : Int} (h : -1000000000000 < a) (h2 : a < 1000000000000) : binop .mul (.int a) (.int b) = some (.int (a * b)) := b_mulL (by omega)
theorem b_mulRR {a b : Int} (h : -1000000000000 < b) (h2 : b < 1000000000000) : binop .mul (.int a) (.int b) = some (.int (a * b)) := b_mulR (by omega)
theorem b_div {a b : Int} (h : 0 < b) (h2 : b.natAbs.log2 < 9000) : binop .fdiv (.int a) (.int b) = some (.int (a / b)) := by
  show (if 0 < b ∧ b.natAbs.log2 < 9000 then _ else _) = _
  rw [if_pos ⟨h, h2⟩]
theorem b_divL {a b : Int} (h : 0 < b) (h2 : b < 1073741824) : binop .fdiv (.int a) (.int b) = some (.int (a / b)) := b_div h (Nat.lt_of_lt_of_le (log_lt (k := 30) (Int.le_of_lt h) h2 (by decide)) (by decide))
theorem b_mod {a b : Int} (h : 0 < b) : binop .mod (.int a) (.int b) = some (.int (a % b)) := by
  show (if 0 < b then _ else _) = _
  rw [if_pos h]
theorem b_pow {a b : Int} (h : a.natAbs < 2 ^ 64) (h0 : 0 ≤ b) (h1 : b ≤ 1000000) : binop .pow (.int a) (.int b) = some (.int (a ^ b.toNat)) := by
  show (if 0 ≤ b ∧ b ≤ 1000000 ∧ a.natAbs < 2 ^ 64 then _ else _) = _
  rw [if_pos ⟨h0, h1, h⟩]
theorem b_powL {a b : Int} (h : -1073741824 < a) (h2 : a < 1073741824) (h0 : 0 ≤ b) (h1 : b ≤ 1000000) : binop .pow (.int a) (.int b) = some (.int (a ^ b.toNat)) := b_pow (by omega) h0 h1
theorem c_lt (a b : Int) : cmpop .lt (.int a) (.int b) = some (.bl (decide (a < b))) := rfl
theorem c_le (a b : Int) : cmpop .le (.int a) (.int b) = some (.bl (decide (a ≤ b))) := rfl
theorem c_gt (a b : Int) : cmpop .gt (.int a) (.int b) = some (.bl (decide (b < a))) := rfl
theorem c_ge (a b : Int) : cmpop .ge (.int a) (.int b) = some (.bl (decide (b ≤ a))) := rfl
theorem c_eqI (a b : Int) : cmpop .eq (.int a) (.int b) = some (.bl (decide (a = b))) := by
  show some (D.bl (PyData.eqv (.int a) (.int b))) = _
  simp only [PyData.eqv]
  congr 2
theorem c_neI (a b : Int) : cmpop .ne (.int a) (.int b) = some (.bl (!decide (a = b))) := by
  show some (D.bl (!PyData.eqv (.int a) (.int b))) = _
  simp only [PyData.eqv]
  congr 2
theorem c_eqS (a b : Str) : cmpop .eq (.str a) (.str b) = some (.bl (decide (a = b))) := by
  show some (D.bl (a == b)) = _
  congr 2
theorem c_neS (a b : Str) : cmpop .ne (.str a) (.str b) = some (.bl (!decide (a = b))) := by
  show some (D.bl (!(a == b))) = _
  congr 2
theorem i_lst (l : List D) (i : Int) : ixD (.lst l) (.int i) = L2.atI l i := rfl
theorem i_tup (l : List D) (i : Int) : ixD (.tup l) (.int i) = L2.atI l i := rfl
theorem bi_int (i : Int) : bi .int [.int i] = some (.int i) := rfl
theorem bi_intB (b : Bool) : bi .int [.bl b] = some (.int (if b then 1 else 0)) := rfl
theorem bi_lenL (l : List D) : bi .len [.lst l] = some (.int l.length) := rfl
theorem bi_lenT (l : List D) : bi .len [.tup l] = some (.int l.length) := rfl
theorem bi_abs (i : Int) : bi .abs [.int i] = some (.int (if i < 0 then -i else i)) := rfl
theorem bi_repr (x : D) : bi .repr [x] = (reprD x).map .str := rfl
theorem bi_repr' {x : D} {t : Str} (h : reprD x = some t) : bi .repr [x] = some (.str t) := by rw [bi_repr, h]; rfl
theorem bind1 (i : Nat) (x : D) (ρ : Env) : bindT false [i] x ρ = some (ρ.set i (some (.d x))) := rfl
theorem bindM (is : List Nat) (l : List D) (ρ : Env) : bindT true is (.tup l) ρ = setAll ρ is l := by cases is <;> rfl
/-! items at written places -/
theorem at0 {α : Type} (x : α) (r : List α) : L2.atI (x :: r) 0 = some x := by
  rw [atI_nn (by decide) (by simp only [List.length_cons]; omega)]; rfl
theorem at1 {α : Type} (x y : α) (r : List α) : L2.atI (x :: y :: r) 1 = some y := by
  rw [atI_nn (by decide) (by simp only [List.length_cons]; omega)]; rfl
theorem at2 {α : Type} (x y z : α) (r : List α) : L2.atI (x :: y :: z :: r) 2 = some z := by
  rw [atI_nn (by decide) (by simp only [List.length_cons]; omega)]; rfl
theorem at3 {α : Type} (x y z w : α) (r : List α) : L2.atI (x :: y :: z :: w :: r) 3 = some w := by
  rw [atI_nn (by decide) (by simp only [List.length_cons]; omega)]; rfl
theorem ix0 (n : Nat) : L2.ixN (n + 1) 0 = some 0 := ix_nn (by decide) (by omega)
theorem ix1 (n : Nat) : L2.ixN (n + 2) 1 = some 1 := ix_nn (by decide) (by omega)
theorem ix2 (n : Nat) : L2.ixN (n + 3) 2 = some 2 := ix_nn (by decide) (by omega)
theorem take_set (s : CS) (k : Nat) (c : Cell) : (s.set k c).take s.length = s.set k c := by
  have : (s.set k c).length = s.length := List.length_set
  rw [← this, List.take_length]
theorem toPs_len : ∀ l : List D, (D.toPs l).length = l.length
  | [] => rfl
  | _ :: r => by rw [D.toPs, List.length_cons, List.length_cons, toPs_len r]
theorem ints_lay : ∀ ns : List Int, PyData.canLayAll0 (D.toPs (ns.map D.int)) = true ∧ PyData.depthAll (D.toPs (ns.map D.int)) ≤ 1
  | [] => ⟨by simp [D.toPs, PyData.canLayAll0], by simp [D.toPs, PyData.depthAll]⟩
  | n :: r => by
    have h := ints_lay r
    refine ⟨by simp [D.toPs, D.toP, PyData.canLayAll0, PyData.canLay0, h.1], ?_⟩
    have := h.2
    simp only [List.map_cons, D.toPs, D.toP, PyData.depthAll, PyData.depth]
    omega
theorem shaped_ints (ns : List Int) : SeqAt.shaped (D.lst (ns.map D.int)).toP = true := by
  have h := ints_lay ns
  rw [D.toP]
  unfold SeqAt.shaped
  rw [PyData.canLay0, h.1, Bool.true_and, decide_eq_true_eq]
  simp only [PyData.depth]
  have := h.2
  omega
theorem c_neIN (ns : List Int) : cmpop .ne (.lst (ns.map D.int)) (.lst []) = some (.bl (!decide (ns = []))) := by
  have e : eqS (.lst (ns.map D.int)) (.lst []) = some (decide (ns = [])) := by
    unfold eqS
    rw [shaped_ints, show SeqAt.shaped (D.lst []).toP = true by rfl]
    cases ns with
    | nil => rfl
    | cons n r => simp [D.toP, D.toPs, PyData.eqv, PyData.eqvAll]
  show (((strEq _ _).or (eqS _ _)).map fun c => D.bl !c) = _
  rw [e]; rfl
theorem bi_min2 (a b : Int) : bi .min [.tup [.int a, .int b]] = some (.int (min a b)) := rfl
theorem bi_max2 (a b : Int) : bi .max [.tup [.int a, .int b]] = some (.int (max a b)) := rfl
/-- [int(x) for x in ..] of ints -/
theorem comp_ints {C : Cl} {i : Nat} {ρ : Env} {s : CS} {ns : List Int} (hi : i < ρ.length) (hn : ns.length ≤ 1000) : cmp_ C (.bi .int (.cons (.var i) .nil)) [i] false .nil ρ (ns.map D.int) s = .ok (ns.map D.int) s := by
  unfold cmp_
  rw [comp_map (fun x => x) _ [] (by rw [List.length_map, List.length_nil, Nat.zero_add]; exact Nat.le_trans hn (by decide)) fun x hx => ?_]
  · rw [List.nil_append, List.map_id']
  · obtain ⟨n, _, rfl⟩ := List.mem_map.mp hx
    refine ⟨_, rfl, by rw [q_if0], ?_⟩
    rw [q_bi, q_es, q_var, List.getElem?_set_self hi, varR_ok, go_ok, q_es1, q_es0, go_ok, q_es2, go_ok, q_bi1, rdl1, rdl0, rd_d, consR_ok, biR_ok, bi_int, retD_ok]
theorem cut_len {α : Type} (l : List α) (lo hi : Option Int) : (cutL l lo hi).length ≤ l.length := by
  unfold cutL
  rw [List.length_take, List.length_drop]
  omega
theorem leave_obj {n k : Nat} {s : CS} (h : k = n) (hl : s.length ≤ n + 1) : leave n (.obj k) s = .ok (.obj k) s := by
  show (if k < n then _ else if k = n then R.ok (PV.obj k) (s.take (n + 1)) else _) = _
  rw [if_neg (by omega), if_pos h, List.take_of_length_le hl]
theorem c_neB (a b : Bool) : cmpop .ne (.bl a) (.bl b) = some (.bl (!(a == b))) := by
  have e : eqS (.bl a) (.bl b) = some (a == b) := by
    unfold eqS
    rw [show SeqAt.shaped (D.bl a).toP = true by rfl, show SeqAt.shaped (D.bl b).toP = true by rfl]
    simp [D.toP, PyData.eqv]
  rw [show cmpop .ne (.bl a) (.bl b) = (eqS (.bl a) (.bl b)).map fun c => D.bl !c from rfl, e]; rfl
theorem shaped_t2 (a b : Int) : SeqAt.shaped (D.tup [.int a, .int b]).toP = true := by
  simp [SeqAt.shaped, D.toP, D.toPs, PyData.canLay0, PyData.canLayAll0, PyData.depth, PyData.depthAll]
theorem eqS_t2 (a b c d : Int) : eqS (.tup [.int a, .int b]) (.tup [.int c, .int d]) = some (decide (a = c ∧ b = d)) := by
  unfold eqS
  rw [shaped_t2, shaped_t2]
  simp [D.toP, D.toPs, PyData.eqv, PyData.eqvAll]
  rw [Bool.eq_iff_iff]
  simp
theorem c_neT2 (a b c d : Int) : cmpop .ne (.tup [.int a, .int b]) (.tup [.int c, .int d]) = some (.bl (!decide (a = c ∧ b = d))) := by
  rw [show cmpop .ne (.tup [.int a, .int b]) (.tup [.int c, .int d]) = (eqS (.tup [.int a, .int b]) (.tup [.int c, .int d])).map fun c => D.bl !c from rfl, eqS_t2]; rfl
theorem c_eqT2 (a b c d : Int) : cmpop .eq (.tup [.int a, .int b]) (.tup [.int c, .int d]) = some (.bl (decide (a = c ∧ b = d))) := by
  rw [show cmpop .eq (.tup [.int a, .int b]) (.tup [.int c, .int d]) = (eqS (.tup [.int a, .int b]) (.tup [.int c, .int d])).map D.bl from rfl, eqS_t2]; rfl
theorem c_mem (x : D) (l : List D) : cmpop .mem x (.lst l) = (memD x (.lst l)).map .bl := rfl
/-- lists of data that are looked through -/
theorem shaped_lst {l : List D} {n : Nat} (h : ∀ x ∈ l, x.toP.canLay0 = true ∧ x.toP.depth ≤ n) (hn : n + 1 ≤ 64) : SeqAt.shaped (D.lst l).toP = true := by
  have key : ∀ l : List D, (∀ x ∈ l, x.toP.canLay0 = true ∧ x.toP.depth ≤ n) → PyData.canLayAll0 (D.toPs l) = true ∧ PyData.depthAll (D.toPs l) ≤ n := by
    intro l
    induction l with
    | nil => intro _; exact ⟨by simp [D.toPs, PyData.canLayAll0], by simp [D.toPs, PyData.depthAll]⟩
    | cons x r ih =>
      intro h
      have a := h x List.mem_cons_self
      have b := ih fun y hy => h y (List.mem_cons_of_mem _ hy)
      refine ⟨by simp [D.toPs, PyData.canLayAll0, a.1, b.1], ?_⟩
      simp only [D.toPs, PyData.depthAll]
      have := a.2
      have := b.2
      omega
  obtain ⟨a, b⟩ := key l h
  rw [D.toP]
  unfold SeqAt.shaped
  rw [PyData.canLay0, a, Bool.true_and, decide_eq_true_eq]
  simp only [PyData.depth]
  omega
theorem q_r11L {j : Int} {s : CS} (h : -1000000000000 < j) (h2 : j < 1000000000000) : kR1 (.d (.int j)) s = .ok (rngItems 0 j.toNat) s := q_r11 (decide_eq_true (by omega))
theorem q_r22L {i j : Int} {s : CS} (h : -1000000000000 < i) (h2 : i < 1000000000000) (h3 : -1000000000000 < j) (h4 : j < 1000000000000) : kR22 (.d (.int i)) (.d (.int j)) s = .ok (rngItems i (j - i).toNat) s := q_r22 (decide_eq_true (by omega)) (decide_eq_true (by omega))
/-- a list made of one name's values -/
theorem comp_one {C : Cl} {e : E} {i : Nat} {ρ : Env} {s : CS} {xs : List D} (g : D → D) (hn : xs.length ≤ 100000) (h : ∀ x ∈ xs, evE C e (ρ.set i (some (.d x))) s = .ok (.d (g x)) s) : cmp_ C e [i] false .nil ρ xs s = .ok (xs.map g) s := by
  unfold cmp_
  rw [comp_map g _ [] (by rw [List.length_nil, Nat.zero_add]; exact Nat.le_trans hn (by decide)) fun x hx => ⟨_, rfl, by rw [q_if0], h x hx⟩, List.nil_append]
theorem comp_sel {C : Cl} {e c : E} {i : Nat} {ρ : Env} {s : CS} {xs : List D} (g : D → D) (p : D → Bool) (hn : xs.length ≤ 100000) (hp : ∀ x ∈ xs, evIfs C (.cons c .nil) (ρ.set i (some (.d x))) s = .ok (p x) s) (h : ∀ x ∈ xs, p x = true → evE C e (ρ.set i (some (.d x))) s = .ok (.d (g x)) s) :
    cmp_ C e [i] false (.cons c .nil) ρ xs s = .ok ((xs.filter p).map g) s := by
  unfold cmp_
  rw [comp_filter g p _ [] (by rw [List.length_nil, Nat.zero_add]; exact Nat.le_trans hn (by decide)) fun x hx => ⟨_, rfl, hp x hx, h x hx⟩, List.nil_append]
theorem rng_len (lo : Int) (n : Nat) : (rngItems lo n).length = n := by simp [rngItems]
theorem rng_at {lo : Int} {n j : Nat} {x : D} (h : (rngItems lo n)[j]? = some x) : j < n ∧ x = .int (lo + j) := by
  have hj : j < n := by
    have := (List.getElem?_eq_some_iff.mp h).1
    rwa [rng_len] at this
  refine ⟨hj, ?_⟩
  unfold rngItems at h
  rw [List.getElem?_map, List.getElem?_range hj] at h
  cases h; rfl
theorem rng_mem {lo : Int} {n : Nat} {x : D} (h : x ∈ rngItems lo n) : ∃ j : Nat, j < n ∧ x = .int (lo + j) := by
  obtain ⟨j, hj, e⟩ := List.mem_iff_getElem.mp h
  exact ⟨j, rng_at (by rw [List.getElem?_eq_getElem hj, e])⟩
theorem memD_of {a : D} {l : List D} (h : SeqAt.shaped a.toP = true) (h2 : SeqAt.shaped (D.lst l).toP = true) : memD a (.lst l) = some (l.any fun z => PyData.eqv z.toP a.toP) := by
  show (if (SeqAt.shaped a.toP && SeqAt.shaped (D.lst l).toP) = true then _ else _) = _
  rw [if_pos (by rw [h, h2]; rfl)]
theorem last_get (t : CS) (c : Cell) : (t ++ [c])[t.length]? = some c := by simp
theorem last_set (t : CS) (c d : Cell) : (t ++ [c]).set t.length d = t ++ [d] := by simp
theorem rng_ints (lo : Int) (n : Nat) : rngItems lo n = ((List.range n).map fun (i : Nat) => lo + (i : Int)).map D.int := by
  unfold rngItems
  rw [List.map_map]; rfl
theorem c_neLL {l : List D} (h : SeqAt.shaped (D.lst l).toP = true) : cmpop .ne (.lst l) (.lst l) = some (.bl false) := by
  have e : eqS (.lst l) (.lst l) = some true := by
    unfold eqS
    rw [h]
    simp only [Bool.and_self, if_true]
    exact congrArg some (PySem.SeqAt.eqv_refl _ (Bool.and_eq_true_iff.mp h).1)
  rw [show cmpop .ne (.lst l) (.lst l) = (eqS (.lst l) (.lst l)).map fun c => D.bl !c from rfl, e]; rfl
theorem head_of {xs : List D} {p : D → Bool} {g : D → D} {k : Nat} {x : D} (hx : xs[k]? = some x) (hp : p x = true) (hb : ∀ (j : Nat) (y : D), j < k → xs[j]? = some y → p y = false) : L2.atI ((xs.filter p).map g) 0 = some (g x) := by
  have key : ∀ (xs : List D) (k : Nat), xs[k]? = some x → (∀ (j : Nat) (y : D), j < k → xs[j]? = some y → p y = false) → ∃ r, xs.filter p = x :: r := by
    intro xs
    induction xs with
    | nil => intro k h; simp at h
    | cons y r ih =>
      intro k h hb
      cases k with
      | zero =>
        simp at h
        subst h
        exact ⟨r.filter p, by rw [List.filter_cons, if_pos hp]⟩
      | succ k =>
        have hy := hb 0 y (Nat.zero_lt_succ _) rfl
        obtain ⟨q, e⟩ := ih k (by simpa using h) fun j z hj hz => hb (j + 1) z (Nat.succ_lt_succ hj) (by simpa using hz)
        exact ⟨q, by rw [List.filter_cons, if_neg (by rw [hy]; exact Bool.false_ne_true), e]⟩
  obtain ⟨r, e⟩ := key xs k hx hb
  rw [e, List.map_cons, at0]
theorem enum_at {l : List D} {k : Nat} : (enumItems l)[k]? = (l[k]?).map fun x => D.tup [.int (k : Int), x] := by
  unfold enumItems
  rw [List.getElem?_map, List.getElem?_zipIdx]
  cases l[k]? with
  | none => rfl
  | some x => simp
theorem enum_len (l : List D) : (enumItems l).length = l.length := by
  unfold enumItems
  rw [List.length_map, List.length_zipIdx]
/-- a list made of pairs, with a test -/
theorem comp_sel2 {C : Cl} {e c : E} {i j : Nat} {ρ : Env} {s : CS} {xs : List D} (g : D → D) (p : D → Bool) (hn : xs.length ≤ 100000) (hp : ∀ x ∈ xs, ∃ a b, x = .tup [a, b] ∧ evIfs C (.cons c .nil) ((ρ.set i (some (.d a))).set j (some (.d b))) s = .ok (p x) s ∧ (p x = true → evE C e ((ρ.set i (some (.d a))).set j (some (.d b))) s = .ok (.d (g x)) s)) :
    cmp_ C e [i, j] true (.cons c .nil) ρ xs s = .ok ((xs.filter p).map g) s := by
  unfold cmp_
  rw [comp_filter g p _ [] (by rw [List.length_nil, Nat.zero_add]; exact Nat.le_trans hn (by decide)) fun x hx => ?_, List.nil_append]
  obtain ⟨a, b, rfl, h1, h2⟩ := hp x hx
  exact ⟨_, rfl, h1, h2⟩
theorem repI {a : Int} (h : 0 ≤ a) (h2 : a < 2 ^ 200) : ∃ T, reprD (.int a) = some T := by
  have l1 := log_lt h h2 (by decide)
  refine ⟨_, reprD_ok ?_ ?_ ?_⟩
  · have := Nat.lt_of_lt_of_le l1 (by decide : 200 ≤ 1920)
    simp [D.okS, *]
  · simp only [D.toP, PyData.weight]
    split <;> omega
  · simp [D.toP, PyData.depth]
theorem nc0 : ((0 : Nat) : Int) = 0 := rfl
theorem nc1 : ((1 : Nat) : Int) = 1 := rfl
theorem c_neNN : cmpop .ne (.lst []) (.lst []) = some (.bl false) := rfl
theorem c_eqNN : cmpop .eq (.lst []) (.lst []) = some (.bl true) := rfl
/-- the draw's third power -/
theorem pow3_ok {x l a b c : Int} (x0 : 0 ≤ x) (x1 : x < 4294967296) (l0 : 0 ≤ l) (l1 : l ≤ 1000000) (a0 : 0 ≤ a) (a1 : a ≤ 1000000) (b0 : 0 ≤ b) (b1 : b ≤ 1000000) (c0 : 0 ≤ c) (c1 : c ≤ 1000000) : (x * (2 * l + a) + b * l * l + c).natAbs < 18446744073709551616 := by
  have h1 : x * (2 * l + a) ≤ 4294967296 * 3000000 := Int.mul_le_mul (by omega) (by omega) (by omega) (by omega)
  have h2 : 0 ≤ x * (2 * l + a) := Int.mul_nonneg x0 (by omega)
  have h3 : b * l ≤ 1000000 * 1000000 := Int.mul_le_mul b1 l1 l0 (by omega)
  have h4 : 0 ≤ b * l := Int.mul_nonneg b0 l0
  have h5 : b * l * l ≤ 1000000 * 1000000 * 1000000 := Int.mul_le_mul h3 l1 l0 (by omega)
  have h6 : 0 ≤ b * l * l := Int.mul_nonneg h4 l0
  omega
end PD

set_option linter.all false
set_option autoImplicit false
namespace LAW
open PD
def g_is_integer : Fd := ⟨1, 1,
    (.cons (.ret (.and (.cons (.isi (.var 0) .int) (.cons (.not (.isi (.var 0) .bool)) .nil))))
      .nil)⟩
def g_is_within : Fd := ⟨3, 3,
    (.cons (.ifs (.not (.call 0 (.cons (.var 0) .nil))) (.cons (.ret (.lit (.bl false)))
      .nil) .nil)
      (.cons (.ret (.and (.cons (.or (.cons (.isn false (.var 1)) (.cons (.cmp .le (.var 1) (.var 0)) .nil))) (.cons (.or (.cons (.isn false (.var 2)) (.cons (.cmp .le (.var 0) (.var 2)) .nil))) .nil))))
      .nil))⟩
def g_need_number : Fd := ⟨4, 4,
    (.cons (.ifs (.not (.call 1 (.cons (.var 0) (.cons (.var 2) (.cons (.var 3) .nil))))) (.cons (.stop)
      .nil) .nil)
      .nil)⟩
def g_need_by : Fd := ⟨1, 1,
    (.cons (.expr (.call 2 (.cons (.var 0) (.cons (.lit (.str "by")) (.cons (.lit (.int 2)) (.cons (.lit (.int 4)) .nil))))))
      .nil)⟩
def g_need_ticks : Fd := ⟨3, 3,
    (.cons (.expr (.call 2 (.cons (.var 0) (.cons (.lit (.str "many")) (.cons (.lit (.int 1)) (.cons (.lit (.int 200)) .nil))))))
      (.cons (.expr (.call 3 (.cons (.var 1) .nil)))
      (.cons (.expr (.call 2 (.cons (.var 2) (.cons (.lit (.str "tick")) (.cons (.lit (.int 0)) (.cons (.lit .non) .nil))))))
      .nil)))⟩
def g_inner_tick : Fd := ⟨3, 3,
    (.cons (.expr (.call 4 (.cons (.var 0) (.cons (.var 1) (.cons (.var 2) .nil)))))
      (.cons (.ret (.ite (.cmp .lt (.var 2) (.var 0)) (.var 2) (.bin .add (.bin .sub (.var 0) (.lit (.int 1))) (.bin .mul (.var 1) (.bin .add (.bin .sub (.var 2) (.var 0)) (.lit (.int 1)))))))
      .nil))⟩
def g_cut_tick : Fd := ⟨3, 3,
    (.cons (.expr (.call 4 (.cons (.var 0) (.cons (.var 1) (.cons (.var 2) .nil)))))
      (.cons (.ret (.ite (.cmp .lt (.var 2) (.var 0)) (.var 2) (.bin .add (.bin .sub (.var 0) (.lit (.int 1))) (.bin .fdiv (.bin .add (.bin .sub (.var 2) (.var 0)) (.var 1)) (.var 1)))))
      .nil))⟩
def g__law_clock : Fd := ⟨1, 2,
    (.cons (.ret (.new (.lst (.cons (.comp (.bi .int (.cons (.var 1) .nil)) [1] false (.seq (.sli (.var 0) .none (.some (.lit (.int 60))))) .nil [1]) (.cons (.lit (.int 0)) (.cons (.lit (.int 0)) .nil))))))
      .nil)⟩
def g__law_tock : Fd := ⟨2, 6,
    (.cons (.ifs (.cmp .gt (.idx (.var 0) (.lit (.int 2))) (.lit (.int 0))) (.cons (.asg 5 (.bi .int (.cons (.idx (.var 0) (.lit (.int 2))) .nil)))
      (.cons (.setI (.var 0) (.lit (.int 2)) (.bin .fdiv (.var 5) (.var 1)))
      (.cons (.ret (.bin .mod (.bi .int (.cons (.var 5) .nil)) (.var 1)))
      .nil))) .nil)
      (.cons (.asg 2 (.idx (.var 0) (.lit (.int 1))))
      (.cons (.setI (.var 0) (.lit (.int 1)) (.bin .add (.var 2) (.lit (.int 1))))
      (.cons (.asg 3 (.bin .add (.bin .mul (.lit (.int 73127)) (.var 2)) (.lit (.int 9743))))
      (.cons (.ifs (.cmp .ne (.idx (.var 0) (.lit (.int 0))) (.lst .nil)) (.cons (.asg 3 (.idx (.idx (.var 0) (.lit (.int 0))) (.bin .mod (.bi .int (.cons (.var 2) .nil)) (.bi .len (.cons (.idx (.var 0) (.lit (.int 0))) .nil)))))
      .nil) .nil)
      (.cons (.ifs (.and (.cons (.cmp .lt (.var 2) (.bi .len (.cons (.idx (.var 0) (.lit (.int 0))) .nil))) (.cons (.cmp .ge (.bi .abs (.cons (.var 3) .nil)) (.bin .pow (.lit (.int 10)) (.lit (.int 18)))) .nil))) (.cons (.asg 5 (.bin .add (.bin .mul (.lit (.int 2)) (.bin .sub (.bi .abs (.cons (.var 3) .nil)) (.bin .pow (.lit (.int 10)) (.lit (.int 18))))) (.bi .int (.cons (.cmp .lt (.var 3) (.lit (.int 0))) .nil))))
      (.cons (.setI (.var 0) (.lit (.int 2)) (.bin .fdiv (.var 5) (.var 1)))
      (.cons (.ret (.bin .mod (.bi .int (.cons (.var 5) .nil)) (.var 1)))
      .nil))) .nil)
      (.cons (.asg 4 (.bin .mod (.bi .int (.cons (.bin .pow (.bin .add (.bin .add (.bin .mod (.bi .int (.cons (.var 3) .nil)) (.lit (.int 2147483353))) (.bin .mul (.lit (.int 43103)) (.var 2))) (.lit (.int 9743))) (.lit (.int 5))) .nil)) (.lit (.int 2147483323))))
      (.cons (.asg 4 (.bin .mod (.bi .int (.cons (.bin .pow (.bin .add (.bin .add (.bin .mul (.var 4) (.bin .add (.bin .mul (.lit (.int 2)) (.var 2)) (.lit (.int 4397)))) (.bin .mul (.bin .mul (.lit (.int 73127)) (.var 2)) (.var 2))) (.lit (.int 43103))) (.lit (.int 3))) .nil)) (.lit (.int 2147483269))))
      (.cons (.ret (.bin .mod (.bi .int (.cons (.bin .fdiv (.var 4) (.lit (.int 32))) .nil)) (.var 1)))
      .nil)))))))))⟩
def g__law_of : Fd := ⟨2, 2,
    (.cons (.ret (.idx (.var 1) (.call 8 (.cons (.var 0) (.cons (.bi .len (.cons (.var 1) .nil)) .nil)))))
      .nil)⟩
def g_law : Fd := ⟨1, 13,
    (.cons (.asg 1 (.call 7 (.cons (.var 0) .nil)))
      (.cons (.for [2] false (.rng1 (.lit (.int 4))) (.cons (.asg2 [7, 8] (.cons (.call 9 (.cons (.var 1) (.cons (.lst (.cons (.lit (.int 1)) (.cons (.lit (.int 2)) (.cons (.lit (.int 3)) (.cons (.lit (.int 200)) (.cons (.bin .add (.lit (.int 1)) (.call 8 (.cons (.var 1) (.cons (.lit (.int 200)) .nil)))) .nil)))))) .nil))) (.cons (.bin .add (.lit (.int 2)) (.call 8 (.cons (.var 1) (.cons (.lit (.int 3)) .nil)))) .nil)))
      (.cons (.asg2 [9, 10] (.cons (.new (.lrg (.var 7))) (.cons (.bin .sub (.var 7) (.lit (.int 1))) .nil)))
      (.cons (.for [3] false (.rng1 (.lit (.int 12))) (.cons (.asg 10 (.bin .add (.var 10) (.var 8)))
      (.cons (.app (.var 9) (.var 10))
      .nil)))
      (.cons (.ifs (.cmp .ne (.comp (.call 5 (.cons (.var 7) (.cons (.var 8) (.cons (.var 6) .nil)))) [6] false (.rng1 (.bi .len (.cons (.var 9) .nil))) .nil [6]) (.var 9)) (.cons (.ret (.lit (.bl false)))
      .nil) .nil)
      (.cons (.frz 9)
      (.cons (.for [4] false (.seq (.lst (.cons (.lit (.int 0)) (.cons (.bin .sub (.var 7) (.lit (.int 1))) (.cons (.var 7) (.cons (.bin .add (.var 7) (.lit (.int 1))) (.cons (.bin .add (.var 7) (.call 8 (.cons (.var 1) (.cons (.bin .mul (.lit (.int 10)) (.var 8)) .nil)))) (.cons (.call 8 (.cons (.var 1) (.cons (.bin .add (.var 7) (.bin .mul (.lit (.int 10)) (.var 8))) .nil))) .nil)))))))) (.cons (.asg 11 (.idx (.comp (.var 6) [6, 12] true (.enum (.var 9)) (.cons (.cmp .ge (.var 12) (.var 4)) .nil) [6, 12]) (.lit (.int 0))))
      (.cons (.ifs (.or (.cons (.cmp .ne (.bi .repr (.cons (.call 6 (.cons (.var 7) (.cons (.var 8) (.cons (.var 4) .nil)))) .nil)) (.bi .repr (.cons (.var 11) .nil))) (.cons (.cmp .ne (.callk 6 [2, 1, 0] .nil (.cons (.var 4) (.cons (.var 8) (.cons (.var 7) .nil)))) (.var 11)) .nil))) (.cons (.ret (.lit (.bl false)))
      .nil) .nil)
      .nil)))
      (.cons (.asg 5 (.bin .add (.bin .pow (.lit (.int 10)) (.lit (.int 20))) (.call 8 (.cons (.var 1) (.cons (.bin .pow (.lit (.int 10)) (.lit (.int 9))) .nil)))))
      (.cons (.asg 6 (.call 6 (.cons (.var 7) (.cons (.var 8) (.cons (.var 5) .nil)))))
      (.cons (.ifs (.or (.cons (.cmp .lt (.callk 5 [2, 1, 0] .nil (.cons (.var 6) (.cons (.var 8) (.cons (.var 7) .nil)))) (.var 5)) (.cons (.cmp .ge (.call 5 (.cons (.var 7) (.cons (.var 8) (.cons (.bin .sub (.var 6) (.lit (.int 1))) .nil)))) (.var 5)) .nil))) (.cons (.ret (.lit (.bl false)))
      .nil) .nil)
      (.cons (.ifs (.cmp .ne (.bi .repr (.cons (.call 5 (.cons (.var 7) (.cons (.var 8) (.cons (.bin .add (.var 7) (.var 5)) .nil)))) .nil)) (.bi .repr (.cons (.bin .add (.bin .sub (.var 7) (.lit (.int 1))) (.bin .mul (.var 8) (.bin .add (.var 5) (.lit (.int 1))))) .nil))) (.cons (.ret (.lit (.bl false)))
      .nil) .nil)
      .nil)))))))))))
      (.cons (.ret (.lit (.bl true)))
      .nil)))⟩
end LAW

set_option Elab.async false
set_option linter.all false
set_option autoImplicit false
set_option maxRecDepth 100000
namespace LAW
open PD PySem
def Fs : List Fd := [g_is_integer, g_is_within, g_need_number, g_need_by, g_need_ticks, g_inner_tick, g_cut_tick, g__law_clock, g__law_tock, g__law_of, g_law]
def FF (f : Nat) : Option Fd := Fs[f]?
theorem f0 : FF 0 = some g_is_integer := rfl
theorem f1 : FF 1 = some g_is_within := rfl
theorem f2 : FF 2 = some g_need_number := rfl
theorem f3 : FF 3 = some g_need_by := rfl
theorem f4 : FF 4 = some g_need_ticks := rfl
theorem f5 : FF 5 = some g_inner_tick := rfl
theorem f6 : FF 6 = some g_cut_tick := rfl
theorem f7 : FF 7 = some g__law_clock := rfl
theorem f8 : FF 8 = some g__law_tock := rfl
theorem f9 : FF 9 = some g__law_of := rfl
theorem f10 : FF 10 = some g_law := rfl
set_option maxHeartbeats 1000000 in
theorem draw_ok (n : Nat) (s : CS) (k : Nat) (m lap rest : Int) (ns : List Int) (hk : s[k]? = some (.lst [.lst (ns.map .int), .int lap, .int rest])) (hm : 0 < m) (hm2 : m.natAbs.log2 < 9000) (hl : 0 ≤ lap) (hl2 : lap ≤ 1000000) (hr : 0 ≤ rest) :
    ∃ r lap' rest', callN FF (n + 1) 8 [.obj k, .d (.int m)] s = .ok (.d (.int r)) (s.set k (.lst [.lst (ns.map .int), .int lap', .int rest'])) ∧ 0 ≤ r ∧ r < m ∧ lap ≤ lap' ∧ lap' ≤ lap + 1 ∧ 0 ≤ rest' := by
  have hkl : k < s.length := (List.getElem?_eq_some_iff.mp hk).1
  have hml : (m.natAbs).log2 < 9000 := hm2
  have hlN : lap.natAbs < 18446744073709551616 := by omega
  have p5 : ∀ c : Int, (c % 2147483353 + 43103 * lap + 9743).natAbs < 18446744073709551616 := fun c => by omega
  have p3 : ∀ c : Int, (c % 2147483323 * (2 * lap + 4397) + 73127 * lap * lap + 43103).natAbs < 18446744073709551616 := fun c => pow3_ok (by omega) (by omega) hl hl2 (by omega) (by omega) (by omega) (by omega) (by omega) (by omega)
  have pm : ∀ c : Int, (c % 2147483323).natAbs < 18446744073709551616 := fun c => by omega
  rw [q_fn f8 rfl]
  by_cases h1 : 0 < rest
  · refine ⟨rest % m, lap, rest / m, ?_, Int.emod_nonneg _ (by omega), Int.emod_lt_of_pos _ hm, by omega, by omega, Int.ediv_nonneg hr (by omega)⟩
    simp only [g__law_tock, q_lit, q_var, varR_ok, q_bin, q_bin1, q_bin2, q_cmp, q_cmp1, q_cmp2, q_neg, q_neg1, q_isn, q_isn_non, q_isn_bl, q_isn_int, q_isn_str, q_isn_lst, q_isn_tup, q_and, q_or, q_and1, q_or1, q_and2, q_or2, q_kand, q_kor, q_not, q_not1, notR_ok, q_ite, q_ite1, q_tup, q_lst, q_new, q_new1, q_idx, q_idx1, q_idx2, ixR_ok, q_sli, q_sli1, q_sli2, q_sli3, sliR_scr, sliR_lst, q_onone, q_osome, q_os, q_call, q_callk, q_callk1, q_callk2, permR_ok, q_bi, q_bi1, biR_ok, q_isi, q_isi1, isiR_ok, q_lrg, q_comp, q_comp1, q_comp2, q_es0, q_es, q_es1, q_es2, own0, own1, consO_ok, rdl0, rdl1, consR_ok, q_seq, q_seqL, q_seqT, q_r1, q_r2, q_r21, q_en, q_en1, q_if0, q_if, q_if1, q_asg, q_asg1, nxR_ok, q_asgT, q_asgT1, q_asg2, q_asg21, setAll0, setAll1, setAllP0, setAllP1, q_set, q_set1, q_set2, q_set3, setC_ok, setR_ok, rd_obj, rdC_l, frzR_ok, frzC_ok, q_app1, q_app2, appC_ok, q_ext1, q_ext2, extC_ok, extD_ok, appD_ok, Nat.sub_zero, Int.zero_add, at0, at1, at2, at3, last_get, last_set, enum_len, ix0, ix1, ix2, b_mulL, b_mulR, b_mulLL, b_mulRR, bi_min2, bi_max2, comp_ints, Nat.reduceSub, Nat.sub_self, b_mod, c_neIN, c_neNN, c_eqNN, q_r11L, q_r22L, c_neB, c_neT2, c_eqT2, c_mem, nc0, nc1, Int.cast_ofNat_Int, take_set, List.take_length, List.length_map, b_div, b_divL, b_pow, b_powL, q_expr, q_expr1, q_ret, q_ret1, q_retN, q_pass, q_stop, q_ifs, q_ifs1, q_for, q_for1, q_ss0, q_ss, q_ssn, q_ssr, q_frz, q_app, q_ext, kFn_rt, kFn_nx, go_ok, go_bad, br_t, br_f, tru_bl, tru_int, tru_non, tru_lst, rd_d, retD_ok, opD_ok, b_add, b_sub, c_lt, c_le, c_gt, c_ge, c_eqI, c_neI, c_eqS, c_neS, i_lst, i_tup, bi_int, bi_intB, bi_lenL, bi_lenT, bi_abs, bind1, bindM, isK, pickAll, wipeE, leave_cut, q_tup1, q_lst1, dispR_ok, Nat.zero_le, Nat.reduceLeDiff, Nat.reduceAdd, Nat.reduceLT, Int.reduceLT, Int.reduceLE, Nat.reducePow, Int.reducePow, Int.reduceToNat, Int.reduceNeg, Int.reduceAdd, Nat.zero_add, Option.bind_some, Option.map_some, Option.bind, Option.map, List.getElem?_cons_zero, List.getElem?_cons_succ, List.set_cons_zero, List.set_cons_succ, List.map_cons, List.map_nil, List.cons_append, List.nil_append, List.length_cons, List.length_nil, List.replicate_succ, List.replicate_zero, decide_true, decide_false, eq_self, and_self, true_and, and_true, and_false, false_and, not_true_eq_false, not_false_eq_true, beq_self_eq_true, Bool.not_true, Bool.not_false, Bool.and_true, Bool.and_false, if_true, if_false, hk, hkl, hm, hm2, List.getElem?_set_self, List.set_set, h1]
  · have fin : ∀ (x : Int), ∃ r lap' rest', R.ok (PV.d (.int (x / 32 % m))) (s.set k (.lst [.lst (ns.map .int), .int (lap + 1), .int rest])) = .ok (.d (.int r)) (s.set k (.lst [.lst (ns.map .int), .int lap', .int rest'])) ∧ 0 ≤ r ∧ r < m ∧ lap ≤ lap' ∧ lap' ≤ lap + 1 ∧ 0 ≤ rest' := fun x =>
      ⟨_, _, _, rfl, Int.emod_nonneg _ (by omega), Int.emod_lt_of_pos _ hm, by omega, by omega, hr⟩
    by_cases hn : ns = []
    · subst hn
      have h2 : ¬ lap < 0 := by omega
      simp only [g__law_tock, q_lit, q_var, varR_ok, q_bin, q_bin1, q_bin2, q_cmp, q_cmp1, q_cmp2, q_neg, q_neg1, q_isn, q_isn_non, q_isn_bl, q_isn_int, q_isn_str, q_isn_lst, q_isn_tup, q_and, q_or, q_and1, q_or1, q_and2, q_or2, q_kand, q_kor, q_not, q_not1, notR_ok, q_ite, q_ite1, q_tup, q_lst, q_new, q_new1, q_idx, q_idx1, q_idx2, ixR_ok, q_sli, q_sli1, q_sli2, q_sli3, sliR_scr, sliR_lst, q_onone, q_osome, q_os, q_call, q_callk, q_callk1, q_callk2, permR_ok, q_bi, q_bi1, biR_ok, q_isi, q_isi1, isiR_ok, q_lrg, q_comp, q_comp1, q_comp2, q_es0, q_es, q_es1, q_es2, own0, own1, consO_ok, rdl0, rdl1, consR_ok, q_seq, q_seqL, q_seqT, q_r1, q_r2, q_r21, q_en, q_en1, q_if0, q_if, q_if1, q_asg, q_asg1, nxR_ok, q_asgT, q_asgT1, q_asg2, q_asg21, setAll0, setAll1, setAllP0, setAllP1, q_set, q_set1, q_set2, q_set3, setC_ok, setR_ok, rd_obj, rdC_l, frzR_ok, frzC_ok, q_app1, q_app2, appC_ok, q_ext1, q_ext2, extC_ok, extD_ok, appD_ok, Nat.sub_zero, Int.zero_add, at0, at1, at2, at3, last_get, last_set, enum_len, ix0, ix1, ix2, b_mulL, b_mulR, b_mulLL, b_mulRR, bi_min2, bi_max2, comp_ints, Nat.reduceSub, Nat.sub_self, b_mod, c_neIN, c_neNN, c_eqNN, q_r11L, q_r22L, c_neB, c_neT2, c_eqT2, c_mem, nc0, nc1, Int.cast_ofNat_Int, take_set, List.take_length, List.length_map, b_div, b_divL, b_pow, b_powL, q_expr, q_expr1, q_ret, q_ret1, q_retN, q_pass, q_stop, q_ifs, q_ifs1, q_for, q_for1, q_ss0, q_ss, q_ssn, q_ssr, q_frz, q_app, q_ext, kFn_rt, kFn_nx, go_ok, go_bad, br_t, br_f, tru_bl, tru_int, tru_non, tru_lst, rd_d, retD_ok, opD_ok, b_add, b_sub, c_lt, c_le, c_gt, c_ge, c_eqI, c_neI, c_eqS, c_neS, i_lst, i_tup, bi_int, bi_intB, bi_lenL, bi_lenT, bi_abs, bind1, bindM, isK, pickAll, wipeE, leave_cut, q_tup1, q_lst1, dispR_ok, Nat.zero_le, Nat.reduceLeDiff, Nat.reduceAdd, Nat.reduceLT, Int.reduceLT, Int.reduceLE, Nat.reducePow, Int.reducePow, Int.reduceToNat, Int.reduceNeg, Int.reduceAdd, Nat.zero_add, Option.bind_some, Option.map_some, Option.bind, Option.map, List.getElem?_cons_zero, List.getElem?_cons_succ, List.set_cons_zero, List.set_cons_succ, List.map_cons, List.map_nil, List.cons_append, List.nil_append, List.length_cons, List.length_nil, List.replicate_succ, List.replicate_zero, decide_true, decide_false, eq_self, and_self, true_and, and_true, and_false, false_and, not_true_eq_false, not_false_eq_true, beq_self_eq_true, Bool.not_true, Bool.not_false, Bool.and_true, Bool.and_false, if_true, if_false, hk, hkl, hm, hm2, List.getElem?_set_self, List.set_set, h1, h2, p5, p3, pm, hlN]
      exact fin _
    · have hp : 0 < ns.length := List.length_pos_iff.mpr hn
      have hp2 : (0 : Int) < (ns.length : Int) := by omega
      obtain ⟨c, hc⟩ : ∃ c, L2.atI (ns.map D.int) (lap % (ns.length : Int)) = some (D.int c) := ⟨_, atI_ints (Int.emod_nonneg _ (by omega)) (Int.emod_lt_of_pos _ hp2)⟩
      by_cases h2 : lap < (ns.length : Int)
      · by_cases h3 : 1000000000000000000 ≤ (if c < 0 then -c else c)
        · have h4 : 0 ≤ 2 * ((if c < 0 then -c else c) - 1000000000000000000) + (if (decide (c < 0)) = true then 1 else 0) := by
            split <;> omega
          refine ⟨_, lap + 1, (2 * ((if c < 0 then -c else c) - 1000000000000000000) + (if (decide (c < 0)) = true then 1 else 0)) / m, ?_, Int.emod_nonneg (2 * ((if c < 0 then -c else c) - 1000000000000000000) + (if (decide (c < 0)) = true then 1 else 0)) (by omega), Int.emod_lt_of_pos _ hm, by omega, by omega, Int.ediv_nonneg h4 (by omega)⟩
          simp only [g__law_tock, q_lit, q_var, varR_ok, q_bin, q_bin1, q_bin2, q_cmp, q_cmp1, q_cmp2, q_neg, q_neg1, q_isn, q_isn_non, q_isn_bl, q_isn_int, q_isn_str, q_isn_lst, q_isn_tup, q_and, q_or, q_and1, q_or1, q_and2, q_or2, q_kand, q_kor, q_not, q_not1, notR_ok, q_ite, q_ite1, q_tup, q_lst, q_new, q_new1, q_idx, q_idx1, q_idx2, ixR_ok, q_sli, q_sli1, q_sli2, q_sli3, sliR_scr, sliR_lst, q_onone, q_osome, q_os, q_call, q_callk, q_callk1, q_callk2, permR_ok, q_bi, q_bi1, biR_ok, q_isi, q_isi1, isiR_ok, q_lrg, q_comp, q_comp1, q_comp2, q_es0, q_es, q_es1, q_es2, own0, own1, consO_ok, rdl0, rdl1, consR_ok, q_seq, q_seqL, q_seqT, q_r1, q_r2, q_r21, q_en, q_en1, q_if0, q_if, q_if1, q_asg, q_asg1, nxR_ok, q_asgT, q_asgT1, q_asg2, q_asg21, setAll0, setAll1, setAllP0, setAllP1, q_set, q_set1, q_set2, q_set3, setC_ok, setR_ok, rd_obj, rdC_l, frzR_ok, frzC_ok, q_app1, q_app2, appC_ok, q_ext1, q_ext2, extC_ok, extD_ok, appD_ok, Nat.sub_zero, Int.zero_add, at0, at1, at2, at3, last_get, last_set, enum_len, ix0, ix1, ix2, b_mulL, b_mulR, b_mulLL, b_mulRR, bi_min2, bi_max2, comp_ints, Nat.reduceSub, Nat.sub_self, b_mod, c_neIN, c_neNN, c_eqNN, q_r11L, q_r22L, c_neB, c_neT2, c_eqT2, c_mem, nc0, nc1, Int.cast_ofNat_Int, take_set, List.take_length, List.length_map, b_div, b_divL, b_pow, b_powL, q_expr, q_expr1, q_ret, q_ret1, q_retN, q_pass, q_stop, q_ifs, q_ifs1, q_for, q_for1, q_ss0, q_ss, q_ssn, q_ssr, q_frz, q_app, q_ext, kFn_rt, kFn_nx, go_ok, go_bad, br_t, br_f, tru_bl, tru_int, tru_non, tru_lst, rd_d, retD_ok, opD_ok, b_add, b_sub, c_lt, c_le, c_gt, c_ge, c_eqI, c_neI, c_eqS, c_neS, i_lst, i_tup, bi_int, bi_intB, bi_lenL, bi_lenT, bi_abs, bind1, bindM, isK, pickAll, wipeE, leave_cut, q_tup1, q_lst1, dispR_ok, Nat.zero_le, Nat.reduceLeDiff, Nat.reduceAdd, Nat.reduceLT, Int.reduceLT, Int.reduceLE, Nat.reducePow, Int.reducePow, Int.reduceToNat, Int.reduceNeg, Int.reduceAdd, Nat.zero_add, Option.bind_some, Option.map_some, Option.bind, Option.map, List.getElem?_cons_zero, List.getElem?_cons_succ, List.set_cons_zero, List.set_cons_succ, List.map_cons, List.map_nil, List.cons_append, List.nil_append, List.length_cons, List.length_nil, List.replicate_succ, List.replicate_zero, decide_true, decide_false, eq_self, and_self, true_and, and_true, and_false, false_and, not_true_eq_false, not_false_eq_true, beq_self_eq_true, Bool.not_true, Bool.not_false, Bool.and_true, Bool.and_false, if_true, if_false, hk, hkl, hm, hm2, List.getElem?_set_self, List.set_set, h1, h2, h3, hn, hp2, hc, p5, p3, pm, hlN]
        · simp only [g__law_tock, q_lit, q_var, varR_ok, q_bin, q_bin1, q_bin2, q_cmp, q_cmp1, q_cmp2, q_neg, q_neg1, q_isn, q_isn_non, q_isn_bl, q_isn_int, q_isn_str, q_isn_lst, q_isn_tup, q_and, q_or, q_and1, q_or1, q_and2, q_or2, q_kand, q_kor, q_not, q_not1, notR_ok, q_ite, q_ite1, q_tup, q_lst, q_new, q_new1, q_idx, q_idx1, q_idx2, ixR_ok, q_sli, q_sli1, q_sli2, q_sli3, sliR_scr, sliR_lst, q_onone, q_osome, q_os, q_call, q_callk, q_callk1, q_callk2, permR_ok, q_bi, q_bi1, biR_ok, q_isi, q_isi1, isiR_ok, q_lrg, q_comp, q_comp1, q_comp2, q_es0, q_es, q_es1, q_es2, own0, own1, consO_ok, rdl0, rdl1, consR_ok, q_seq, q_seqL, q_seqT, q_r1, q_r2, q_r21, q_en, q_en1, q_if0, q_if, q_if1, q_asg, q_asg1, nxR_ok, q_asgT, q_asgT1, q_asg2, q_asg21, setAll0, setAll1, setAllP0, setAllP1, q_set, q_set1, q_set2, q_set3, setC_ok, setR_ok, rd_obj, rdC_l, frzR_ok, frzC_ok, q_app1, q_app2, appC_ok, q_ext1, q_ext2, extC_ok, extD_ok, appD_ok, Nat.sub_zero, Int.zero_add, at0, at1, at2, at3, last_get, last_set, enum_len, ix0, ix1, ix2, b_mulL, b_mulR, b_mulLL, b_mulRR, bi_min2, bi_max2, comp_ints, Nat.reduceSub, Nat.sub_self, b_mod, c_neIN, c_neNN, c_eqNN, q_r11L, q_r22L, c_neB, c_neT2, c_eqT2, c_mem, nc0, nc1, Int.cast_ofNat_Int, take_set, List.take_length, List.length_map, b_div, b_divL, b_pow, b_powL, q_expr, q_expr1, q_ret, q_ret1, q_retN, q_pass, q_stop, q_ifs, q_ifs1, q_for, q_for1, q_ss0, q_ss, q_ssn, q_ssr, q_frz, q_app, q_ext, kFn_rt, kFn_nx, go_ok, go_bad, br_t, br_f, tru_bl, tru_int, tru_non, tru_lst, rd_d, retD_ok, opD_ok, b_add, b_sub, c_lt, c_le, c_gt, c_ge, c_eqI, c_neI, c_eqS, c_neS, i_lst, i_tup, bi_int, bi_intB, bi_lenL, bi_lenT, bi_abs, bind1, bindM, isK, pickAll, wipeE, leave_cut, q_tup1, q_lst1, dispR_ok, Nat.zero_le, Nat.reduceLeDiff, Nat.reduceAdd, Nat.reduceLT, Int.reduceLT, Int.reduceLE, Nat.reducePow, Int.reducePow, Int.reduceToNat, Int.reduceNeg, Int.reduceAdd, Nat.zero_add, Option.bind_some, Option.map_some, Option.bind, Option.map, List.getElem?_cons_zero, List.getElem?_cons_succ, List.set_cons_zero, List.set_cons_succ, List.map_cons, List.map_nil, List.cons_append, List.nil_append, List.length_cons, List.length_nil, List.replicate_succ, List.replicate_zero, decide_true, decide_false, eq_self, and_self, true_and, and_true, and_false, false_and, not_true_eq_false, not_false_eq_true, beq_self_eq_true, Bool.not_true, Bool.not_false, Bool.and_true, Bool.and_false, if_true, if_false, hk, hkl, hm, hm2, List.getElem?_set_self, List.set_set, h1, h2, h3, hn, hp2, hc, p5, p3, pm, hlN]
          exact fin _
      · simp only [g__law_tock, q_lit, q_var, varR_ok, q_bin, q_bin1, q_bin2, q_cmp, q_cmp1, q_cmp2, q_neg, q_neg1, q_isn, q_isn_non, q_isn_bl, q_isn_int, q_isn_str, q_isn_lst, q_isn_tup, q_and, q_or, q_and1, q_or1, q_and2, q_or2, q_kand, q_kor, q_not, q_not1, notR_ok, q_ite, q_ite1, q_tup, q_lst, q_new, q_new1, q_idx, q_idx1, q_idx2, ixR_ok, q_sli, q_sli1, q_sli2, q_sli3, sliR_scr, sliR_lst, q_onone, q_osome, q_os, q_call, q_callk, q_callk1, q_callk2, permR_ok, q_bi, q_bi1, biR_ok, q_isi, q_isi1, isiR_ok, q_lrg, q_comp, q_comp1, q_comp2, q_es0, q_es, q_es1, q_es2, own0, own1, consO_ok, rdl0, rdl1, consR_ok, q_seq, q_seqL, q_seqT, q_r1, q_r2, q_r21, q_en, q_en1, q_if0, q_if, q_if1, q_asg, q_asg1, nxR_ok, q_asgT, q_asgT1, q_asg2, q_asg21, setAll0, setAll1, setAllP0, setAllP1, q_set, q_set1, q_set2, q_set3, setC_ok, setR_ok, rd_obj, rdC_l, frzR_ok, frzC_ok, q_app1, q_app2, appC_ok, q_ext1, q_ext2, extC_ok, extD_ok, appD_ok, Nat.sub_zero, Int.zero_add, at0, at1, at2, at3, last_get, last_set, enum_len, ix0, ix1, ix2, b_mulL, b_mulR, b_mulLL, b_mulRR, bi_min2, bi_max2, comp_ints, Nat.reduceSub, Nat.sub_self, b_mod, c_neIN, c_neNN, c_eqNN, q_r11L, q_r22L, c_neB, c_neT2, c_eqT2, c_mem, nc0, nc1, Int.cast_ofNat_Int, take_set, List.take_length, List.length_map, b_div, b_divL, b_pow, b_powL, q_expr, q_expr1, q_ret, q_ret1, q_retN, q_pass, q_stop, q_ifs, q_ifs1, q_for, q_for1, q_ss0, q_ss, q_ssn, q_ssr, q_frz, q_app, q_ext, kFn_rt, kFn_nx, go_ok, go_bad, br_t, br_f, tru_bl, tru_int, tru_non, tru_lst, rd_d, retD_ok, opD_ok, b_add, b_sub, c_lt, c_le, c_gt, c_ge, c_eqI, c_neI, c_eqS, c_neS, i_lst, i_tup, bi_int, bi_intB, bi_lenL, bi_lenT, bi_abs, bind1, bindM, isK, pickAll, wipeE, leave_cut, q_tup1, q_lst1, dispR_ok, Nat.zero_le, Nat.reduceLeDiff, Nat.reduceAdd, Nat.reduceLT, Int.reduceLT, Int.reduceLE, Nat.reducePow, Int.reducePow, Int.reduceToNat, Int.reduceNeg, Int.reduceAdd, Nat.zero_add, Option.bind_some, Option.map_some, Option.bind, Option.map, List.getElem?_cons_zero, List.getElem?_cons_succ, List.set_cons_zero, List.set_cons_succ, List.map_cons, List.map_nil, List.cons_append, List.nil_append, List.length_cons, List.length_nil, List.replicate_succ, List.replicate_zero, decide_true, decide_false, eq_self, and_self, true_and, and_true, and_false, false_and, not_true_eq_false, not_false_eq_true, beq_self_eq_true, Bool.not_true, Bool.not_false, Bool.and_true, Bool.and_false, if_true, if_false, hk, hkl, hm, hm2, List.getElem?_set_self, List.set_set, h1, h2, hn, hp2, hc, p5, p3, pm, hlN]
        exact fin _
theorem of_ok (n : Nat) (s : CS) (k : Nat) (lap rest : Int) (ns : List Int) (ds : List D) (hk : s[k]? = some (.lst [.lst (ns.map .int), .int lap, .int rest])) (hd : ds ≠ []) (hd2 : ds.length ≤ 1000) (hl : 0 ≤ lap) (hl2 : lap ≤ 1000000) (hr : 0 ≤ rest) :
    ∃ x lap' rest', callN FF (n + 2) 9 [.obj k, .d (.lst ds)] s = .ok (.d x) (s.set k (.lst [.lst (ns.map .int), .int lap', .int rest'])) ∧ x ∈ ds ∧ lap ≤ lap' ∧ lap' ≤ lap + 1 ∧ 0 ≤ rest' := by
  have hp : 0 < ds.length := List.length_pos_iff.mpr hd
  obtain ⟨r, lap', rest', e, h1, h2, h3, h4, h5⟩ := draw_ok n s k ds.length lap rest ns hk (by omega) (div_log (by omega) (by omega)) hl hl2 hr
  have hi : r.toNat < ds.length := by omega
  have ha : L2.atI ds r = some ds[r.toNat] := by rw [atI_nn h1 h2, List.getElem?_eq_getElem hi]
  refine ⟨ds[r.toNat], lap', rest', ?_, List.getElem_mem _, h3, h4, h5⟩
  rw [q_fn f9 rfl]
  simp only [g__law_of, q_lit, q_var, varR_ok, q_bin, q_bin1, q_bin2, q_cmp, q_cmp1, q_cmp2, q_neg, q_neg1, q_isn, q_isn_non, q_isn_bl, q_isn_int, q_isn_str, q_isn_lst, q_isn_tup, q_and, q_or, q_and1, q_or1, q_and2, q_or2, q_kand, q_kor, q_not, q_not1, notR_ok, q_ite, q_ite1, q_tup, q_lst, q_new, q_new1, q_idx, q_idx1, q_idx2, ixR_ok, q_sli, q_sli1, q_sli2, q_sli3, sliR_scr, sliR_lst, q_onone, q_osome, q_os, q_call, q_callk, q_callk1, q_callk2, permR_ok, q_bi, q_bi1, biR_ok, q_isi, q_isi1, isiR_ok, q_lrg, q_comp, q_comp1, q_comp2, q_es0, q_es, q_es1, q_es2, own0, own1, consO_ok, rdl0, rdl1, consR_ok, q_seq, q_seqL, q_seqT, q_r1, q_r2, q_r21, q_en, q_en1, q_if0, q_if, q_if1, q_asg, q_asg1, nxR_ok, q_asgT, q_asgT1, q_asg2, q_asg21, setAll0, setAll1, setAllP0, setAllP1, q_set, q_set1, q_set2, q_set3, setC_ok, setR_ok, rd_obj, rdC_l, frzR_ok, frzC_ok, q_app1, q_app2, appC_ok, q_ext1, q_ext2, extC_ok, extD_ok, appD_ok, Nat.sub_zero, Int.zero_add, at0, at1, at2, at3, last_get, last_set, enum_len, ix0, ix1, ix2, b_mulL, b_mulR, b_mulLL, b_mulRR, bi_min2, bi_max2, comp_ints, Nat.reduceSub, Nat.sub_self, b_mod, c_neIN, c_neNN, c_eqNN, q_r11L, q_r22L, c_neB, c_neT2, c_eqT2, c_mem, nc0, nc1, Int.cast_ofNat_Int, take_set, List.take_length, List.length_map, b_div, b_divL, b_pow, b_powL, q_expr, q_expr1, q_ret, q_ret1, q_retN, q_pass, q_stop, q_ifs, q_ifs1, q_for, q_for1, q_ss0, q_ss, q_ssn, q_ssr, q_frz, q_app, q_ext, kFn_rt, kFn_nx, go_ok, go_bad, br_t, br_f, tru_bl, tru_int, tru_non, tru_lst, rd_d, retD_ok, opD_ok, b_add, b_sub, c_lt, c_le, c_gt, c_ge, c_eqI, c_neI, c_eqS, c_neS, i_lst, i_tup, bi_int, bi_intB, bi_lenL, bi_lenT, bi_abs, bind1, bindM, isK, pickAll, wipeE, leave_cut, q_tup1, q_lst1, dispR_ok, Nat.zero_le, Nat.reduceLeDiff, Nat.reduceAdd, Nat.reduceLT, Int.reduceLT, Int.reduceLE, Nat.reducePow, Int.reducePow, Int.reduceToNat, Int.reduceNeg, Int.reduceAdd, Nat.zero_add, Option.bind_some, Option.map_some, Option.bind, Option.map, List.getElem?_cons_zero, List.getElem?_cons_succ, List.set_cons_zero, List.set_cons_succ, List.map_cons, List.map_nil, List.cons_append, List.nil_append, List.length_cons, List.length_nil, List.replicate_succ, List.replicate_zero, decide_true, decide_false, eq_self, and_self, true_and, and_true, and_false, false_and, not_true_eq_false, not_false_eq_true, beq_self_eq_true, Bool.not_true, Bool.not_false, Bool.and_true, Bool.and_false, if_true, if_false, e, ha]
theorem stair_ok (n : Nat) (ns : List Int) (hn : ns.length ≤ 63) : callN FF (n + 1) 7 [.scr ns] [] = .ok (.obj 0) [.lst [.lst ((cutL ns none (some 60)).map D.int), .int 0, .int 0]] := by
  rw [q_fn f7 rfl]
  have hl : (cutL ns none (some 60)).length ≤ 1000 := Nat.le_trans (cut_len _ _ _) (by omega)
  simp only [g__law_clock, q_lit, q_var, varR_ok, q_bin, q_bin1, q_bin2, q_cmp, q_cmp1, q_cmp2, q_neg, q_neg1, q_isn, q_isn_non, q_isn_bl, q_isn_int, q_isn_str, q_isn_lst, q_isn_tup, q_and, q_or, q_and1, q_or1, q_and2, q_or2, q_kand, q_kor, q_not, q_not1, notR_ok, q_ite, q_ite1, q_tup, q_lst, q_new, q_new1, q_idx, q_idx1, q_idx2, ixR_ok, q_sli, q_sli1, q_sli2, q_sli3, sliR_scr, sliR_lst, q_onone, q_osome, q_os, q_call, q_callk, q_callk1, q_callk2, permR_ok, q_bi, q_bi1, biR_ok, q_isi, q_isi1, isiR_ok, q_lrg, q_comp, q_comp1, q_comp2, q_es0, q_es, q_es1, q_es2, own0, own1, consO_ok, rdl0, rdl1, consR_ok, q_seq, q_seqL, q_seqT, q_r1, q_r2, q_r21, q_en, q_en1, q_if0, q_if, q_if1, q_asg, q_asg1, nxR_ok, q_asgT, q_asgT1, q_asg2, q_asg21, setAll0, setAll1, setAllP0, setAllP1, q_set, q_set1, q_set2, q_set3, setC_ok, setR_ok, rd_obj, rdC_l, frzR_ok, frzC_ok, q_app1, q_app2, appC_ok, q_ext1, q_ext2, extC_ok, extD_ok, appD_ok, Nat.sub_zero, Int.zero_add, at0, at1, at2, at3, last_get, last_set, enum_len, ix0, ix1, ix2, b_mulL, b_mulR, b_mulLL, b_mulRR, bi_min2, bi_max2, comp_ints, Nat.reduceSub, Nat.sub_self, b_mod, c_neIN, c_neNN, c_eqNN, q_r11L, q_r22L, c_neB, c_neT2, c_eqT2, c_mem, nc0, nc1, Int.cast_ofNat_Int, take_set, List.take_length, List.length_map, b_div, b_divL, b_pow, b_powL, q_expr, q_expr1, q_ret, q_ret1, q_retN, q_pass, q_stop, q_ifs, q_ifs1, q_for, q_for1, q_ss0, q_ss, q_ssn, q_ssr, q_frz, q_app, q_ext, kFn_rt, kFn_nx, go_ok, go_bad, br_t, br_f, tru_bl, tru_int, tru_non, tru_lst, rd_d, retD_ok, opD_ok, b_add, b_sub, c_lt, c_le, c_gt, c_ge, c_eqI, c_neI, c_eqS, c_neS, i_lst, i_tup, bi_int, bi_intB, bi_lenL, bi_lenT, bi_abs, bind1, bindM, isK, pickAll, wipeE, leave_cut, q_tup1, q_lst1, dispR_ok, Nat.zero_le, Nat.reduceLeDiff, Nat.reduceAdd, Nat.reduceLT, Int.reduceLT, Int.reduceLE, Nat.reducePow, Int.reducePow, Int.reduceToNat, Int.reduceNeg, Int.reduceAdd, Nat.zero_add, Option.bind_some, Option.map_some, Option.bind, Option.map, List.getElem?_cons_zero, List.getElem?_cons_succ, List.set_cons_zero, List.set_cons_succ, List.map_cons, List.map_nil, List.cons_append, List.nil_append, List.length_cons, List.length_nil, List.replicate_succ, List.replicate_zero, decide_true, decide_false, eq_self, and_self, true_and, and_true, and_false, false_and, not_true_eq_false, not_false_eq_true, beq_self_eq_true, Bool.not_true, Bool.not_false, Bool.and_true, Bool.and_false, if_true, if_false, hl]
  exact leave_obj rfl (by simp)
theorem isint_ok (n : Nat) (i : Int) (s : CS) : callN FF (n + 1) 0 [.d (.int i)] s = .ok (.d (.bl true)) s := by
  rw [q_fn f0 rfl]
  simp only [g_is_integer, q_lit, q_var, varR_ok, q_bin, q_bin1, q_bin2, q_cmp, q_cmp1, q_cmp2, q_neg, q_neg1, q_isn, q_isn_non, q_isn_bl, q_isn_int, q_isn_str, q_isn_lst, q_isn_tup, q_and, q_or, q_and1, q_or1, q_and2, q_or2, q_kand, q_kor, q_not, q_not1, notR_ok, q_ite, q_ite1, q_tup, q_lst, q_new, q_new1, q_idx, q_idx1, q_idx2, ixR_ok, q_sli, q_sli1, q_sli2, q_sli3, sliR_scr, sliR_lst, q_onone, q_osome, q_os, q_call, q_callk, q_callk1, q_callk2, permR_ok, q_bi, q_bi1, biR_ok, q_isi, q_isi1, isiR_ok, q_lrg, q_comp, q_comp1, q_comp2, q_es0, q_es, q_es1, q_es2, own0, own1, consO_ok, rdl0, rdl1, consR_ok, q_seq, q_seqL, q_seqT, q_r1, q_r2, q_r21, q_en, q_en1, q_if0, q_if, q_if1, q_asg, q_asg1, nxR_ok, q_asgT, q_asgT1, q_asg2, q_asg21, setAll0, setAll1, setAllP0, setAllP1, q_set, q_set1, q_set2, q_set3, setC_ok, setR_ok, rd_obj, rdC_l, frzR_ok, frzC_ok, q_app1, q_app2, appC_ok, q_ext1, q_ext2, extC_ok, extD_ok, appD_ok, Nat.sub_zero, Int.zero_add, at0, at1, at2, at3, last_get, last_set, enum_len, ix0, ix1, ix2, b_mulL, b_mulR, b_mulLL, b_mulRR, bi_min2, bi_max2, comp_ints, Nat.reduceSub, Nat.sub_self, b_mod, c_neIN, c_neNN, c_eqNN, q_r11L, q_r22L, c_neB, c_neT2, c_eqT2, c_mem, nc0, nc1, Int.cast_ofNat_Int, take_set, List.take_length, List.length_map, b_div, b_divL, b_pow, b_powL, q_expr, q_expr1, q_ret, q_ret1, q_retN, q_pass, q_stop, q_ifs, q_ifs1, q_for, q_for1, q_ss0, q_ss, q_ssn, q_ssr, q_frz, q_app, q_ext, kFn_rt, kFn_nx, go_ok, go_bad, br_t, br_f, tru_bl, tru_int, tru_non, tru_lst, rd_d, retD_ok, opD_ok, b_add, b_sub, c_lt, c_le, c_gt, c_ge, c_eqI, c_neI, c_eqS, c_neS, i_lst, i_tup, bi_int, bi_intB, bi_lenL, bi_lenT, bi_abs, bind1, bindM, isK, pickAll, wipeE, leave_cut, q_tup1, q_lst1, dispR_ok, Nat.zero_le, Nat.reduceLeDiff, Nat.reduceAdd, Nat.reduceLT, Int.reduceLT, Int.reduceLE, Nat.reducePow, Int.reducePow, Int.reduceToNat, Int.reduceNeg, Int.reduceAdd, Nat.zero_add, Option.bind_some, Option.map_some, Option.bind, Option.map, List.getElem?_cons_zero, List.getElem?_cons_succ, List.set_cons_zero, List.set_cons_succ, List.map_cons, List.map_nil, List.cons_append, List.nil_append, List.length_cons, List.length_nil, List.replicate_succ, List.replicate_zero, decide_true, decide_false, eq_self, and_self, true_and, and_true, and_false, false_and, not_true_eq_false, not_false_eq_true, beq_self_eq_true, Bool.not_true, Bool.not_false, Bool.and_true, Bool.and_false, if_true, if_false]
theorem within_ok (n : Nat) (i l : Int) (s : CS) (h : l ≤ i) : callN FF (n + 2) 1 [.d (.int i), .d (.int l), .d .non] s = .ok (.d (.bl true)) s := by
  rw [q_fn f1 rfl]
  simp only [g_is_within, q_lit, q_var, varR_ok, q_bin, q_bin1, q_bin2, q_cmp, q_cmp1, q_cmp2, q_neg, q_neg1, q_isn, q_isn_non, q_isn_bl, q_isn_int, q_isn_str, q_isn_lst, q_isn_tup, q_and, q_or, q_and1, q_or1, q_and2, q_or2, q_kand, q_kor, q_not, q_not1, notR_ok, q_ite, q_ite1, q_tup, q_lst, q_new, q_new1, q_idx, q_idx1, q_idx2, ixR_ok, q_sli, q_sli1, q_sli2, q_sli3, sliR_scr, sliR_lst, q_onone, q_osome, q_os, q_call, q_callk, q_callk1, q_callk2, permR_ok, q_bi, q_bi1, biR_ok, q_isi, q_isi1, isiR_ok, q_lrg, q_comp, q_comp1, q_comp2, q_es0, q_es, q_es1, q_es2, own0, own1, consO_ok, rdl0, rdl1, consR_ok, q_seq, q_seqL, q_seqT, q_r1, q_r2, q_r21, q_en, q_en1, q_if0, q_if, q_if1, q_asg, q_asg1, nxR_ok, q_asgT, q_asgT1, q_asg2, q_asg21, setAll0, setAll1, setAllP0, setAllP1, q_set, q_set1, q_set2, q_set3, setC_ok, setR_ok, rd_obj, rdC_l, frzR_ok, frzC_ok, q_app1, q_app2, appC_ok, q_ext1, q_ext2, extC_ok, extD_ok, appD_ok, Nat.sub_zero, Int.zero_add, at0, at1, at2, at3, last_get, last_set, enum_len, ix0, ix1, ix2, b_mulL, b_mulR, b_mulLL, b_mulRR, bi_min2, bi_max2, comp_ints, Nat.reduceSub, Nat.sub_self, b_mod, c_neIN, c_neNN, c_eqNN, q_r11L, q_r22L, c_neB, c_neT2, c_eqT2, c_mem, nc0, nc1, Int.cast_ofNat_Int, take_set, List.take_length, List.length_map, b_div, b_divL, b_pow, b_powL, q_expr, q_expr1, q_ret, q_ret1, q_retN, q_pass, q_stop, q_ifs, q_ifs1, q_for, q_for1, q_ss0, q_ss, q_ssn, q_ssr, q_frz, q_app, q_ext, kFn_rt, kFn_nx, go_ok, go_bad, br_t, br_f, tru_bl, tru_int, tru_non, tru_lst, rd_d, retD_ok, opD_ok, b_add, b_sub, c_lt, c_le, c_gt, c_ge, c_eqI, c_neI, c_eqS, c_neS, i_lst, i_tup, bi_int, bi_intB, bi_lenL, bi_lenT, bi_abs, bind1, bindM, isK, pickAll, wipeE, leave_cut, q_tup1, q_lst1, dispR_ok, Nat.zero_le, Nat.reduceLeDiff, Nat.reduceAdd, Nat.reduceLT, Int.reduceLT, Int.reduceLE, Nat.reducePow, Int.reducePow, Int.reduceToNat, Int.reduceNeg, Int.reduceAdd, Nat.zero_add, Option.bind_some, Option.map_some, Option.bind, Option.map, List.getElem?_cons_zero, List.getElem?_cons_succ, List.set_cons_zero, List.set_cons_succ, List.map_cons, List.map_nil, List.cons_append, List.nil_append, List.length_cons, List.length_nil, List.replicate_succ, List.replicate_zero, decide_true, decide_false, eq_self, and_self, true_and, and_true, and_false, false_and, not_true_eq_false, not_false_eq_true, beq_self_eq_true, Bool.not_true, Bool.not_false, Bool.and_true, Bool.and_false, if_true, if_false, isint_ok, h]
theorem within2_ok (n : Nat) (i l u : Int) (s : CS) (h : l ≤ i) (h2 : i ≤ u) : callN FF (n + 2) 1 [.d (.int i), .d (.int l), .d (.int u)] s = .ok (.d (.bl true)) s := by
  rw [q_fn f1 rfl]
  simp only [g_is_within, q_lit, q_var, varR_ok, q_bin, q_bin1, q_bin2, q_cmp, q_cmp1, q_cmp2, q_neg, q_neg1, q_isn, q_isn_non, q_isn_bl, q_isn_int, q_isn_str, q_isn_lst, q_isn_tup, q_and, q_or, q_and1, q_or1, q_and2, q_or2, q_kand, q_kor, q_not, q_not1, notR_ok, q_ite, q_ite1, q_tup, q_lst, q_new, q_new1, q_idx, q_idx1, q_idx2, ixR_ok, q_sli, q_sli1, q_sli2, q_sli3, sliR_scr, sliR_lst, q_onone, q_osome, q_os, q_call, q_callk, q_callk1, q_callk2, permR_ok, q_bi, q_bi1, biR_ok, q_isi, q_isi1, isiR_ok, q_lrg, q_comp, q_comp1, q_comp2, q_es0, q_es, q_es1, q_es2, own0, own1, consO_ok, rdl0, rdl1, consR_ok, q_seq, q_seqL, q_seqT, q_r1, q_r2, q_r21, q_en, q_en1, q_if0, q_if, q_if1, q_asg, q_asg1, nxR_ok, q_asgT, q_asgT1, q_asg2, q_asg21, setAll0, setAll1, setAllP0, setAllP1, q_set, q_set1, q_set2, q_set3, setC_ok, setR_ok, rd_obj, rdC_l, frzR_ok, frzC_ok, q_app1, q_app2, appC_ok, q_ext1, q_ext2, extC_ok, extD_ok, appD_ok, Nat.sub_zero, Int.zero_add, at0, at1, at2, at3, last_get, last_set, enum_len, ix0, ix1, ix2, b_mulL, b_mulR, b_mulLL, b_mulRR, bi_min2, bi_max2, comp_ints, Nat.reduceSub, Nat.sub_self, b_mod, c_neIN, c_neNN, c_eqNN, q_r11L, q_r22L, c_neB, c_neT2, c_eqT2, c_mem, nc0, nc1, Int.cast_ofNat_Int, take_set, List.take_length, List.length_map, b_div, b_divL, b_pow, b_powL, q_expr, q_expr1, q_ret, q_ret1, q_retN, q_pass, q_stop, q_ifs, q_ifs1, q_for, q_for1, q_ss0, q_ss, q_ssn, q_ssr, q_frz, q_app, q_ext, kFn_rt, kFn_nx, go_ok, go_bad, br_t, br_f, tru_bl, tru_int, tru_non, tru_lst, rd_d, retD_ok, opD_ok, b_add, b_sub, c_lt, c_le, c_gt, c_ge, c_eqI, c_neI, c_eqS, c_neS, i_lst, i_tup, bi_int, bi_intB, bi_lenL, bi_lenT, bi_abs, bind1, bindM, isK, pickAll, wipeE, leave_cut, q_tup1, q_lst1, dispR_ok, Nat.zero_le, Nat.reduceLeDiff, Nat.reduceAdd, Nat.reduceLT, Int.reduceLT, Int.reduceLE, Nat.reducePow, Int.reducePow, Int.reduceToNat, Int.reduceNeg, Int.reduceAdd, Nat.zero_add, Option.bind_some, Option.map_some, Option.bind, Option.map, List.getElem?_cons_zero, List.getElem?_cons_succ, List.set_cons_zero, List.set_cons_succ, List.map_cons, List.map_nil, List.cons_append, List.nil_append, List.length_cons, List.length_nil, List.replicate_succ, List.replicate_zero, decide_true, decide_false, eq_self, and_self, true_and, and_true, and_false, false_and, not_true_eq_false, not_false_eq_true, beq_self_eq_true, Bool.not_true, Bool.not_false, Bool.and_true, Bool.and_false, if_true, if_false, isint_ok, h, h2]
theorem need_ok (n : Nat) (i l : Int) (z : Str) (s : CS) (h : l ≤ i) : callN FF (n + 3) 2 [.d (.int i), .d (.str z), .d (.int l), .d .non] s = .ok (.d .non) s := by
  rw [q_fn f2 rfl]
  simp only [g_need_number, q_lit, q_var, varR_ok, q_bin, q_bin1, q_bin2, q_cmp, q_cmp1, q_cmp2, q_neg, q_neg1, q_isn, q_isn_non, q_isn_bl, q_isn_int, q_isn_str, q_isn_lst, q_isn_tup, q_and, q_or, q_and1, q_or1, q_and2, q_or2, q_kand, q_kor, q_not, q_not1, notR_ok, q_ite, q_ite1, q_tup, q_lst, q_new, q_new1, q_idx, q_idx1, q_idx2, ixR_ok, q_sli, q_sli1, q_sli2, q_sli3, sliR_scr, sliR_lst, q_onone, q_osome, q_os, q_call, q_callk, q_callk1, q_callk2, permR_ok, q_bi, q_bi1, biR_ok, q_isi, q_isi1, isiR_ok, q_lrg, q_comp, q_comp1, q_comp2, q_es0, q_es, q_es1, q_es2, own0, own1, consO_ok, rdl0, rdl1, consR_ok, q_seq, q_seqL, q_seqT, q_r1, q_r2, q_r21, q_en, q_en1, q_if0, q_if, q_if1, q_asg, q_asg1, nxR_ok, q_asgT, q_asgT1, q_asg2, q_asg21, setAll0, setAll1, setAllP0, setAllP1, q_set, q_set1, q_set2, q_set3, setC_ok, setR_ok, rd_obj, rdC_l, frzR_ok, frzC_ok, q_app1, q_app2, appC_ok, q_ext1, q_ext2, extC_ok, extD_ok, appD_ok, Nat.sub_zero, Int.zero_add, at0, at1, at2, at3, last_get, last_set, enum_len, ix0, ix1, ix2, b_mulL, b_mulR, b_mulLL, b_mulRR, bi_min2, bi_max2, comp_ints, Nat.reduceSub, Nat.sub_self, b_mod, c_neIN, c_neNN, c_eqNN, q_r11L, q_r22L, c_neB, c_neT2, c_eqT2, c_mem, nc0, nc1, Int.cast_ofNat_Int, take_set, List.take_length, List.length_map, b_div, b_divL, b_pow, b_powL, q_expr, q_expr1, q_ret, q_ret1, q_retN, q_pass, q_stop, q_ifs, q_ifs1, q_for, q_for1, q_ss0, q_ss, q_ssn, q_ssr, q_frz, q_app, q_ext, kFn_rt, kFn_nx, go_ok, go_bad, br_t, br_f, tru_bl, tru_int, tru_non, tru_lst, rd_d, retD_ok, opD_ok, b_add, b_sub, c_lt, c_le, c_gt, c_ge, c_eqI, c_neI, c_eqS, c_neS, i_lst, i_tup, bi_int, bi_intB, bi_lenL, bi_lenT, bi_abs, bind1, bindM, isK, pickAll, wipeE, leave_cut, q_tup1, q_lst1, dispR_ok, Nat.zero_le, Nat.reduceLeDiff, Nat.reduceAdd, Nat.reduceLT, Int.reduceLT, Int.reduceLE, Nat.reducePow, Int.reducePow, Int.reduceToNat, Int.reduceNeg, Int.reduceAdd, Nat.zero_add, Option.bind_some, Option.map_some, Option.bind, Option.map, List.getElem?_cons_zero, List.getElem?_cons_succ, List.set_cons_zero, List.set_cons_succ, List.map_cons, List.map_nil, List.cons_append, List.nil_append, List.length_cons, List.length_nil, List.replicate_succ, List.replicate_zero, decide_true, decide_false, eq_self, and_self, true_and, and_true, and_false, false_and, not_true_eq_false, not_false_eq_true, beq_self_eq_true, Bool.not_true, Bool.not_false, Bool.and_true, Bool.and_false, if_true, if_false, within_ok, h]
theorem need2_ok (n : Nat) (i l u : Int) (z : Str) (s : CS) (h : l ≤ i) (h2 : i ≤ u) : callN FF (n + 3) 2 [.d (.int i), .d (.str z), .d (.int l), .d (.int u)] s = .ok (.d .non) s := by
  rw [q_fn f2 rfl]
  simp only [g_need_number, q_lit, q_var, varR_ok, q_bin, q_bin1, q_bin2, q_cmp, q_cmp1, q_cmp2, q_neg, q_neg1, q_isn, q_isn_non, q_isn_bl, q_isn_int, q_isn_str, q_isn_lst, q_isn_tup, q_and, q_or, q_and1, q_or1, q_and2, q_or2, q_kand, q_kor, q_not, q_not1, notR_ok, q_ite, q_ite1, q_tup, q_lst, q_new, q_new1, q_idx, q_idx1, q_idx2, ixR_ok, q_sli, q_sli1, q_sli2, q_sli3, sliR_scr, sliR_lst, q_onone, q_osome, q_os, q_call, q_callk, q_callk1, q_callk2, permR_ok, q_bi, q_bi1, biR_ok, q_isi, q_isi1, isiR_ok, q_lrg, q_comp, q_comp1, q_comp2, q_es0, q_es, q_es1, q_es2, own0, own1, consO_ok, rdl0, rdl1, consR_ok, q_seq, q_seqL, q_seqT, q_r1, q_r2, q_r21, q_en, q_en1, q_if0, q_if, q_if1, q_asg, q_asg1, nxR_ok, q_asgT, q_asgT1, q_asg2, q_asg21, setAll0, setAll1, setAllP0, setAllP1, q_set, q_set1, q_set2, q_set3, setC_ok, setR_ok, rd_obj, rdC_l, frzR_ok, frzC_ok, q_app1, q_app2, appC_ok, q_ext1, q_ext2, extC_ok, extD_ok, appD_ok, Nat.sub_zero, Int.zero_add, at0, at1, at2, at3, last_get, last_set, enum_len, ix0, ix1, ix2, b_mulL, b_mulR, b_mulLL, b_mulRR, bi_min2, bi_max2, comp_ints, Nat.reduceSub, Nat.sub_self, b_mod, c_neIN, c_neNN, c_eqNN, q_r11L, q_r22L, c_neB, c_neT2, c_eqT2, c_mem, nc0, nc1, Int.cast_ofNat_Int, take_set, List.take_length, List.length_map, b_div, b_divL, b_pow, b_powL, q_expr, q_expr1, q_ret, q_ret1, q_retN, q_pass, q_stop, q_ifs, q_ifs1, q_for, q_for1, q_ss0, q_ss, q_ssn, q_ssr, q_frz, q_app, q_ext, kFn_rt, kFn_nx, go_ok, go_bad, br_t, br_f, tru_bl, tru_int, tru_non, tru_lst, rd_d, retD_ok, opD_ok, b_add, b_sub, c_lt, c_le, c_gt, c_ge, c_eqI, c_neI, c_eqS, c_neS, i_lst, i_tup, bi_int, bi_intB, bi_lenL, bi_lenT, bi_abs, bind1, bindM, isK, pickAll, wipeE, leave_cut, q_tup1, q_lst1, dispR_ok, Nat.zero_le, Nat.reduceLeDiff, Nat.reduceAdd, Nat.reduceLT, Int.reduceLT, Int.reduceLE, Nat.reducePow, Int.reducePow, Int.reduceToNat, Int.reduceNeg, Int.reduceAdd, Nat.zero_add, Option.bind_some, Option.map_some, Option.bind, Option.map, List.getElem?_cons_zero, List.getElem?_cons_succ, List.set_cons_zero, List.set_cons_succ, List.map_cons, List.map_nil, List.cons_append, List.nil_append, List.length_cons, List.length_nil, List.replicate_succ, List.replicate_zero, decide_true, decide_false, eq_self, and_self, true_and, and_true, and_false, false_and, not_true_eq_false, not_false_eq_true, beq_self_eq_true, Bool.not_true, Bool.not_false, Bool.and_true, Bool.and_false, if_true, if_false, within2_ok, h, h2]
theorem nby_ok (n : Nat) (b : Int) (s : CS) (h : 2 ≤ b) (h2 : b ≤ 4) : callN FF (n + 4) 3 [.d (.int b)] s = .ok (.d .non) s := by
  rw [q_fn f3 rfl]
  simp only [g_need_by, q_lit, q_var, varR_ok, q_bin, q_bin1, q_bin2, q_cmp, q_cmp1, q_cmp2, q_neg, q_neg1, q_isn, q_isn_non, q_isn_bl, q_isn_int, q_isn_str, q_isn_lst, q_isn_tup, q_and, q_or, q_and1, q_or1, q_and2, q_or2, q_kand, q_kor, q_not, q_not1, notR_ok, q_ite, q_ite1, q_tup, q_lst, q_new, q_new1, q_idx, q_idx1, q_idx2, ixR_ok, q_sli, q_sli1, q_sli2, q_sli3, sliR_scr, sliR_lst, q_onone, q_osome, q_os, q_call, q_callk, q_callk1, q_callk2, permR_ok, q_bi, q_bi1, biR_ok, q_isi, q_isi1, isiR_ok, q_lrg, q_comp, q_comp1, q_comp2, q_es0, q_es, q_es1, q_es2, own0, own1, consO_ok, rdl0, rdl1, consR_ok, q_seq, q_seqL, q_seqT, q_r1, q_r2, q_r21, q_en, q_en1, q_if0, q_if, q_if1, q_asg, q_asg1, nxR_ok, q_asgT, q_asgT1, q_asg2, q_asg21, setAll0, setAll1, setAllP0, setAllP1, q_set, q_set1, q_set2, q_set3, setC_ok, setR_ok, rd_obj, rdC_l, frzR_ok, frzC_ok, q_app1, q_app2, appC_ok, q_ext1, q_ext2, extC_ok, extD_ok, appD_ok, Nat.sub_zero, Int.zero_add, at0, at1, at2, at3, last_get, last_set, enum_len, ix0, ix1, ix2, b_mulL, b_mulR, b_mulLL, b_mulRR, bi_min2, bi_max2, comp_ints, Nat.reduceSub, Nat.sub_self, b_mod, c_neIN, c_neNN, c_eqNN, q_r11L, q_r22L, c_neB, c_neT2, c_eqT2, c_mem, nc0, nc1, Int.cast_ofNat_Int, take_set, List.take_length, List.length_map, b_div, b_divL, b_pow, b_powL, q_expr, q_expr1, q_ret, q_ret1, q_retN, q_pass, q_stop, q_ifs, q_ifs1, q_for, q_for1, q_ss0, q_ss, q_ssn, q_ssr, q_frz, q_app, q_ext, kFn_rt, kFn_nx, go_ok, go_bad, br_t, br_f, tru_bl, tru_int, tru_non, tru_lst, rd_d, retD_ok, opD_ok, b_add, b_sub, c_lt, c_le, c_gt, c_ge, c_eqI, c_neI, c_eqS, c_neS, i_lst, i_tup, bi_int, bi_intB, bi_lenL, bi_lenT, bi_abs, bind1, bindM, isK, pickAll, wipeE, leave_cut, q_tup1, q_lst1, dispR_ok, Nat.zero_le, Nat.reduceLeDiff, Nat.reduceAdd, Nat.reduceLT, Int.reduceLT, Int.reduceLE, Nat.reducePow, Int.reducePow, Int.reduceToNat, Int.reduceNeg, Int.reduceAdd, Nat.zero_add, Option.bind_some, Option.map_some, Option.bind, Option.map, List.getElem?_cons_zero, List.getElem?_cons_succ, List.set_cons_zero, List.set_cons_succ, List.map_cons, List.map_nil, List.cons_append, List.nil_append, List.length_cons, List.length_nil, List.replicate_succ, List.replicate_zero, decide_true, decide_false, eq_self, and_self, true_and, and_true, and_false, false_and, not_true_eq_false, not_false_eq_true, beq_self_eq_true, Bool.not_true, Bool.not_false, Bool.and_true, Bool.and_false, if_true, if_false, need2_ok, h, h2]
theorem nticks_ok (n : Nat) (m b t : Int) (s : CS) (hm : 1 ≤ m) (hm2 : m ≤ 200) (h : 2 ≤ b) (h2 : b ≤ 4) (ht : 0 ≤ t) : callN FF (n + 5) 4 [.d (.int m), .d (.int b), .d (.int t)] s = .ok (.d .non) s := by
  rw [q_fn f4 rfl]
  have a := fun s => need2_ok (n + 1) m 1 200 "many" s hm hm2
  have c := fun s => nby_ok n b s h h2
  have d := fun s => need_ok (n + 1) t 0 "tick" s ht
  simp only [g_need_ticks, q_lit, q_var, varR_ok, q_bin, q_bin1, q_bin2, q_cmp, q_cmp1, q_cmp2, q_neg, q_neg1, q_isn, q_isn_non, q_isn_bl, q_isn_int, q_isn_str, q_isn_lst, q_isn_tup, q_and, q_or, q_and1, q_or1, q_and2, q_or2, q_kand, q_kor, q_not, q_not1, notR_ok, q_ite, q_ite1, q_tup, q_lst, q_new, q_new1, q_idx, q_idx1, q_idx2, ixR_ok, q_sli, q_sli1, q_sli2, q_sli3, sliR_scr, sliR_lst, q_onone, q_osome, q_os, q_call, q_callk, q_callk1, q_callk2, permR_ok, q_bi, q_bi1, biR_ok, q_isi, q_isi1, isiR_ok, q_lrg, q_comp, q_comp1, q_comp2, q_es0, q_es, q_es1, q_es2, own0, own1, consO_ok, rdl0, rdl1, consR_ok, q_seq, q_seqL, q_seqT, q_r1, q_r2, q_r21, q_en, q_en1, q_if0, q_if, q_if1, q_asg, q_asg1, nxR_ok, q_asgT, q_asgT1, q_asg2, q_asg21, setAll0, setAll1, setAllP0, setAllP1, q_set, q_set1, q_set2, q_set3, setC_ok, setR_ok, rd_obj, rdC_l, frzR_ok, frzC_ok, q_app1, q_app2, appC_ok, q_ext1, q_ext2, extC_ok, extD_ok, appD_ok, Nat.sub_zero, Int.zero_add, at0, at1, at2, at3, last_get, last_set, enum_len, ix0, ix1, ix2, b_mulL, b_mulR, b_mulLL, b_mulRR, bi_min2, bi_max2, comp_ints, Nat.reduceSub, Nat.sub_self, b_mod, c_neIN, c_neNN, c_eqNN, q_r11L, q_r22L, c_neB, c_neT2, c_eqT2, c_mem, nc0, nc1, Int.cast_ofNat_Int, take_set, List.take_length, List.length_map, b_div, b_divL, b_pow, b_powL, q_expr, q_expr1, q_ret, q_ret1, q_retN, q_pass, q_stop, q_ifs, q_ifs1, q_for, q_for1, q_ss0, q_ss, q_ssn, q_ssr, q_frz, q_app, q_ext, kFn_rt, kFn_nx, go_ok, go_bad, br_t, br_f, tru_bl, tru_int, tru_non, tru_lst, rd_d, retD_ok, opD_ok, b_add, b_sub, c_lt, c_le, c_gt, c_ge, c_eqI, c_neI, c_eqS, c_neS, i_lst, i_tup, bi_int, bi_intB, bi_lenL, bi_lenT, bi_abs, bind1, bindM, isK, pickAll, wipeE, leave_cut, q_tup1, q_lst1, dispR_ok, Nat.zero_le, Nat.reduceLeDiff, Nat.reduceAdd, Nat.reduceLT, Int.reduceLT, Int.reduceLE, Nat.reducePow, Int.reducePow, Int.reduceToNat, Int.reduceNeg, Int.reduceAdd, Nat.zero_add, Option.bind_some, Option.map_some, Option.bind, Option.map, List.getElem?_cons_zero, List.getElem?_cons_succ, List.set_cons_zero, List.set_cons_succ, List.map_cons, List.map_nil, List.cons_append, List.nil_append, List.length_cons, List.length_nil, List.replicate_succ, List.replicate_zero, decide_true, decide_false, eq_self, and_self, true_and, and_true, and_false, false_and, not_true_eq_false, not_false_eq_true, beq_self_eq_true, Bool.not_true, Bool.not_false, Bool.and_true, Bool.and_false, if_true, if_false, a, c, d]
def inn (m b t : Int) : Int := if t < m then t else m - 1 + b * (t - m + 1)
def cut (m b t : Int) : Int := if t < m then t else m - 1 + (t - m + b) / b
theorem inn_ok (n : Nat) (m b t : Int) (s : CS) (hm : 1 ≤ m) (hm2 : m ≤ 200) (h : 2 ≤ b) (h2 : b ≤ 4) (ht : 0 ≤ t) : callN FF (n + 6) 5 [.d (.int m), .d (.int b), .d (.int t)] s = .ok (.d (.int (inn m b t))) s := by
  rw [q_fn f5 rfl]
  have hb : b.natAbs < 18446744073709551616 := by omega
  have a := fun s => nticks_ok n m b t s hm hm2 h h2 ht
  unfold inn
  by_cases hc : t < m
  · simp only [g_inner_tick, q_lit, q_var, varR_ok, q_bin, q_bin1, q_bin2, q_cmp, q_cmp1, q_cmp2, q_neg, q_neg1, q_isn, q_isn_non, q_isn_bl, q_isn_int, q_isn_str, q_isn_lst, q_isn_tup, q_and, q_or, q_and1, q_or1, q_and2, q_or2, q_kand, q_kor, q_not, q_not1, notR_ok, q_ite, q_ite1, q_tup, q_lst, q_new, q_new1, q_idx, q_idx1, q_idx2, ixR_ok, q_sli, q_sli1, q_sli2, q_sli3, sliR_scr, sliR_lst, q_onone, q_osome, q_os, q_call, q_callk, q_callk1, q_callk2, permR_ok, q_bi, q_bi1, biR_ok, q_isi, q_isi1, isiR_ok, q_lrg, q_comp, q_comp1, q_comp2, q_es0, q_es, q_es1, q_es2, own0, own1, consO_ok, rdl0, rdl1, consR_ok, q_seq, q_seqL, q_seqT, q_r1, q_r2, q_r21, q_en, q_en1, q_if0, q_if, q_if1, q_asg, q_asg1, nxR_ok, q_asgT, q_asgT1, q_asg2, q_asg21, setAll0, setAll1, setAllP0, setAllP1, q_set, q_set1, q_set2, q_set3, setC_ok, setR_ok, rd_obj, rdC_l, frzR_ok, frzC_ok, q_app1, q_app2, appC_ok, q_ext1, q_ext2, extC_ok, extD_ok, appD_ok, Nat.sub_zero, Int.zero_add, at0, at1, at2, at3, last_get, last_set, enum_len, ix0, ix1, ix2, b_mulL, b_mulR, b_mulLL, b_mulRR, bi_min2, bi_max2, comp_ints, Nat.reduceSub, Nat.sub_self, b_mod, c_neIN, c_neNN, c_eqNN, q_r11L, q_r22L, c_neB, c_neT2, c_eqT2, c_mem, nc0, nc1, Int.cast_ofNat_Int, take_set, List.take_length, List.length_map, b_div, b_divL, b_pow, b_powL, q_expr, q_expr1, q_ret, q_ret1, q_retN, q_pass, q_stop, q_ifs, q_ifs1, q_for, q_for1, q_ss0, q_ss, q_ssn, q_ssr, q_frz, q_app, q_ext, kFn_rt, kFn_nx, go_ok, go_bad, br_t, br_f, tru_bl, tru_int, tru_non, tru_lst, rd_d, retD_ok, opD_ok, b_add, b_sub, c_lt, c_le, c_gt, c_ge, c_eqI, c_neI, c_eqS, c_neS, i_lst, i_tup, bi_int, bi_intB, bi_lenL, bi_lenT, bi_abs, bind1, bindM, isK, pickAll, wipeE, leave_cut, q_tup1, q_lst1, dispR_ok, Nat.zero_le, Nat.reduceLeDiff, Nat.reduceAdd, Nat.reduceLT, Int.reduceLT, Int.reduceLE, Nat.reducePow, Int.reducePow, Int.reduceToNat, Int.reduceNeg, Int.reduceAdd, Nat.zero_add, Option.bind_some, Option.map_some, Option.bind, Option.map, List.getElem?_cons_zero, List.getElem?_cons_succ, List.set_cons_zero, List.set_cons_succ, List.map_cons, List.map_nil, List.cons_append, List.nil_append, List.length_cons, List.length_nil, List.replicate_succ, List.replicate_zero, decide_true, decide_false, eq_self, and_self, true_and, and_true, and_false, false_and, not_true_eq_false, not_false_eq_true, beq_self_eq_true, Bool.not_true, Bool.not_false, Bool.and_true, Bool.and_false, if_true, if_false, a, hc]
  · simp only [g_inner_tick, q_lit, q_var, varR_ok, q_bin, q_bin1, q_bin2, q_cmp, q_cmp1, q_cmp2, q_neg, q_neg1, q_isn, q_isn_non, q_isn_bl, q_isn_int, q_isn_str, q_isn_lst, q_isn_tup, q_and, q_or, q_and1, q_or1, q_and2, q_or2, q_kand, q_kor, q_not, q_not1, notR_ok, q_ite, q_ite1, q_tup, q_lst, q_new, q_new1, q_idx, q_idx1, q_idx2, ixR_ok, q_sli, q_sli1, q_sli2, q_sli3, sliR_scr, sliR_lst, q_onone, q_osome, q_os, q_call, q_callk, q_callk1, q_callk2, permR_ok, q_bi, q_bi1, biR_ok, q_isi, q_isi1, isiR_ok, q_lrg, q_comp, q_comp1, q_comp2, q_es0, q_es, q_es1, q_es2, own0, own1, consO_ok, rdl0, rdl1, consR_ok, q_seq, q_seqL, q_seqT, q_r1, q_r2, q_r21, q_en, q_en1, q_if0, q_if, q_if1, q_asg, q_asg1, nxR_ok, q_asgT, q_asgT1, q_asg2, q_asg21, setAll0, setAll1, setAllP0, setAllP1, q_set, q_set1, q_set2, q_set3, setC_ok, setR_ok, rd_obj, rdC_l, frzR_ok, frzC_ok, q_app1, q_app2, appC_ok, q_ext1, q_ext2, extC_ok, extD_ok, appD_ok, Nat.sub_zero, Int.zero_add, at0, at1, at2, at3, last_get, last_set, enum_len, ix0, ix1, ix2, b_mulL, b_mulR, b_mulLL, b_mulRR, bi_min2, bi_max2, comp_ints, Nat.reduceSub, Nat.sub_self, b_mod, c_neIN, c_neNN, c_eqNN, q_r11L, q_r22L, c_neB, c_neT2, c_eqT2, c_mem, nc0, nc1, Int.cast_ofNat_Int, take_set, List.take_length, List.length_map, b_div, b_divL, b_pow, b_powL, q_expr, q_expr1, q_ret, q_ret1, q_retN, q_pass, q_stop, q_ifs, q_ifs1, q_for, q_for1, q_ss0, q_ss, q_ssn, q_ssr, q_frz, q_app, q_ext, kFn_rt, kFn_nx, go_ok, go_bad, br_t, br_f, tru_bl, tru_int, tru_non, tru_lst, rd_d, retD_ok, opD_ok, b_add, b_sub, c_lt, c_le, c_gt, c_ge, c_eqI, c_neI, c_eqS, c_neS, i_lst, i_tup, bi_int, bi_intB, bi_lenL, bi_lenT, bi_abs, bind1, bindM, isK, pickAll, wipeE, leave_cut, q_tup1, q_lst1, dispR_ok, Nat.zero_le, Nat.reduceLeDiff, Nat.reduceAdd, Nat.reduceLT, Int.reduceLT, Int.reduceLE, Nat.reducePow, Int.reducePow, Int.reduceToNat, Int.reduceNeg, Int.reduceAdd, Nat.zero_add, Option.bind_some, Option.map_some, Option.bind, Option.map, List.getElem?_cons_zero, List.getElem?_cons_succ, List.set_cons_zero, List.set_cons_succ, List.map_cons, List.map_nil, List.cons_append, List.nil_append, List.length_cons, List.length_nil, List.replicate_succ, List.replicate_zero, decide_true, decide_false, eq_self, and_self, true_and, and_true, and_false, false_and, not_true_eq_false, not_false_eq_true, beq_self_eq_true, Bool.not_true, Bool.not_false, Bool.and_true, Bool.and_false, if_true, if_false, a, hc, hb]
theorem cut_ok (n : Nat) (m b t : Int) (s : CS) (hm : 1 ≤ m) (hm2 : m ≤ 200) (h : 2 ≤ b) (h2 : b ≤ 4) (ht : 0 ≤ t) : callN FF (n + 6) 6 [.d (.int m), .d (.int b), .d (.int t)] s = .ok (.d (.int (cut m b t))) s := by
  rw [q_fn f6 rfl]
  have hb : 0 < b := by omega
  have hb2 : b < 1073741824 := by omega
  have a := fun s => nticks_ok n m b t s hm hm2 h h2 ht
  unfold cut
  by_cases hc : t < m
  · simp only [g_cut_tick, q_lit, q_var, varR_ok, q_bin, q_bin1, q_bin2, q_cmp, q_cmp1, q_cmp2, q_neg, q_neg1, q_isn, q_isn_non, q_isn_bl, q_isn_int, q_isn_str, q_isn_lst, q_isn_tup, q_and, q_or, q_and1, q_or1, q_and2, q_or2, q_kand, q_kor, q_not, q_not1, notR_ok, q_ite, q_ite1, q_tup, q_lst, q_new, q_new1, q_idx, q_idx1, q_idx2, ixR_ok, q_sli, q_sli1, q_sli2, q_sli3, sliR_scr, sliR_lst, q_onone, q_osome, q_os, q_call, q_callk, q_callk1, q_callk2, permR_ok, q_bi, q_bi1, biR_ok, q_isi, q_isi1, isiR_ok, q_lrg, q_comp, q_comp1, q_comp2, q_es0, q_es, q_es1, q_es2, own0, own1, consO_ok, rdl0, rdl1, consR_ok, q_seq, q_seqL, q_seqT, q_r1, q_r2, q_r21, q_en, q_en1, q_if0, q_if, q_if1, q_asg, q_asg1, nxR_ok, q_asgT, q_asgT1, q_asg2, q_asg21, setAll0, setAll1, setAllP0, setAllP1, q_set, q_set1, q_set2, q_set3, setC_ok, setR_ok, rd_obj, rdC_l, frzR_ok, frzC_ok, q_app1, q_app2, appC_ok, q_ext1, q_ext2, extC_ok, extD_ok, appD_ok, Nat.sub_zero, Int.zero_add, at0, at1, at2, at3, last_get, last_set, enum_len, ix0, ix1, ix2, b_mulL, b_mulR, b_mulLL, b_mulRR, bi_min2, bi_max2, comp_ints, Nat.reduceSub, Nat.sub_self, b_mod, c_neIN, c_neNN, c_eqNN, q_r11L, q_r22L, c_neB, c_neT2, c_eqT2, c_mem, nc0, nc1, Int.cast_ofNat_Int, take_set, List.take_length, List.length_map, b_div, b_divL, b_pow, b_powL, q_expr, q_expr1, q_ret, q_ret1, q_retN, q_pass, q_stop, q_ifs, q_ifs1, q_for, q_for1, q_ss0, q_ss, q_ssn, q_ssr, q_frz, q_app, q_ext, kFn_rt, kFn_nx, go_ok, go_bad, br_t, br_f, tru_bl, tru_int, tru_non, tru_lst, rd_d, retD_ok, opD_ok, b_add, b_sub, c_lt, c_le, c_gt, c_ge, c_eqI, c_neI, c_eqS, c_neS, i_lst, i_tup, bi_int, bi_intB, bi_lenL, bi_lenT, bi_abs, bind1, bindM, isK, pickAll, wipeE, leave_cut, q_tup1, q_lst1, dispR_ok, Nat.zero_le, Nat.reduceLeDiff, Nat.reduceAdd, Nat.reduceLT, Int.reduceLT, Int.reduceLE, Nat.reducePow, Int.reducePow, Int.reduceToNat, Int.reduceNeg, Int.reduceAdd, Nat.zero_add, Option.bind_some, Option.map_some, Option.bind, Option.map, List.getElem?_cons_zero, List.getElem?_cons_succ, List.set_cons_zero, List.set_cons_succ, List.map_cons, List.map_nil, List.cons_append, List.nil_append, List.length_cons, List.length_nil, List.replicate_succ, List.replicate_zero, decide_true, decide_false, eq_self, and_self, true_and, and_true, and_false, false_and, not_true_eq_false, not_false_eq_true, beq_self_eq_true, Bool.not_true, Bool.not_false, Bool.and_true, Bool.and_false, if_true, if_false, a, hc]
  · simp only [g_cut_tick, q_lit, q_var, varR_ok, q_bin, q_bin1, q_bin2, q_cmp, q_cmp1, q_cmp2, q_neg, q_neg1, q_isn, q_isn_non, q_isn_bl, q_isn_int, q_isn_str, q_isn_lst, q_isn_tup, q_and, q_or, q_and1, q_or1, q_and2, q_or2, q_kand, q_kor, q_not, q_not1, notR_ok, q_ite, q_ite1, q_tup, q_lst, q_new, q_new1, q_idx, q_idx1, q_idx2, ixR_ok, q_sli, q_sli1, q_sli2, q_sli3, sliR_scr, sliR_lst, q_onone, q_osome, q_os, q_call, q_callk, q_callk1, q_callk2, permR_ok, q_bi, q_bi1, biR_ok, q_isi, q_isi1, isiR_ok, q_lrg, q_comp, q_comp1, q_comp2, q_es0, q_es, q_es1, q_es2, own0, own1, consO_ok, rdl0, rdl1, consR_ok, q_seq, q_seqL, q_seqT, q_r1, q_r2, q_r21, q_en, q_en1, q_if0, q_if, q_if1, q_asg, q_asg1, nxR_ok, q_asgT, q_asgT1, q_asg2, q_asg21, setAll0, setAll1, setAllP0, setAllP1, q_set, q_set1, q_set2, q_set3, setC_ok, setR_ok, rd_obj, rdC_l, frzR_ok, frzC_ok, q_app1, q_app2, appC_ok, q_ext1, q_ext2, extC_ok, extD_ok, appD_ok, Nat.sub_zero, Int.zero_add, at0, at1, at2, at3, last_get, last_set, enum_len, ix0, ix1, ix2, b_mulL, b_mulR, b_mulLL, b_mulRR, bi_min2, bi_max2, comp_ints, Nat.reduceSub, Nat.sub_self, b_mod, c_neIN, c_neNN, c_eqNN, q_r11L, q_r22L, c_neB, c_neT2, c_eqT2, c_mem, nc0, nc1, Int.cast_ofNat_Int, take_set, List.take_length, List.length_map, b_div, b_divL, b_pow, b_powL, q_expr, q_expr1, q_ret, q_ret1, q_retN, q_pass, q_stop, q_ifs, q_ifs1, q_for, q_for1, q_ss0, q_ss, q_ssn, q_ssr, q_frz, q_app, q_ext, kFn_rt, kFn_nx, go_ok, go_bad, br_t, br_f, tru_bl, tru_int, tru_non, tru_lst, rd_d, retD_ok, opD_ok, b_add, b_sub, c_lt, c_le, c_gt, c_ge, c_eqI, c_neI, c_eqS, c_neS, i_lst, i_tup, bi_int, bi_intB, bi_lenL, bi_lenT, bi_abs, bind1, bindM, isK, pickAll, wipeE, leave_cut, q_tup1, q_lst1, dispR_ok, Nat.zero_le, Nat.reduceLeDiff, Nat.reduceAdd, Nat.reduceLT, Int.reduceLT, Int.reduceLE, Nat.reducePow, Int.reducePow, Int.reduceToNat, Int.reduceNeg, Int.reduceAdd, Nat.zero_add, Option.bind_some, Option.map_some, Option.bind, Option.map, List.getElem?_cons_zero, List.getElem?_cons_succ, List.set_cons_zero, List.set_cons_succ, List.map_cons, List.map_nil, List.cons_append, List.nil_append, List.length_cons, List.length_nil, List.replicate_succ, List.replicate_zero, decide_true, decide_false, eq_self, and_self, true_and, and_true, and_false, false_and, not_true_eq_false, not_false_eq_true, beq_self_eq_true, Bool.not_true, Bool.not_false, Bool.and_true, Bool.and_false, if_true, if_false, a, hc, hb, hb2]
/-! what stands where -/
def stI (m : Nat) (b : Int) (i : Nat) : List Int := ((List.range m).map fun (j : Nat) => (j : Int)) ++ (List.range i).map fun (j : Nat) => (m : Int) - 1 + b * ((j : Int) + 1)
theorem stI_succ (m : Nat) (b : Int) (i : Nat) : stI m b (i + 1) = stI m b i ++ [(m : Int) - 1 + b * ((i : Int) + 1)] := by
  unfold stI
  rw [List.range_succ, List.map_append, List.append_assoc]
  rfl
theorem stI_len (m : Nat) (b : Int) (i : Nat) : (stI m b i).length = m + i := by simp [stI]
theorem stI_at (m : Nat) (b : Int) {i k : Nat} (hk : k < m + i) : (stI m b i)[k]? = some (inn m b k) := by
  unfold stI inn
  by_cases h : k < m
  · rw [List.getElem?_append_left (by simpa using h), List.getElem?_map, List.getElem?_range h, if_pos (by omega)]
    rfl
  · rw [List.getElem?_append_right (by simpa using h), List.getElem?_map, List.length_map, List.length_range, List.getElem?_range (by omega), if_neg (by omega)]
    simp only [Option.map_some]
    congr 3
    omega
theorem stI_inn (m : Nat) (b : Int) (i : Nat) : (rngItems 0 (m + i)).map (fun x => match x with | .int t => D.int (inn m b t) | _ => .non) = (stI m b i).map D.int := by
  refine List.ext_getElem? fun k => ?_
  rw [List.getElem?_map, List.getElem?_map]
  by_cases hk : k < m + i
  · rw [stI_at m b hk]
    unfold rngItems
    rw [List.getElem?_map, List.getElem?_range hk]
    simp
  · rw [List.getElem?_eq_none (by rw [rng_len]; omega), List.getElem?_eq_none (by rw [stI_len]; omega)]
    rfl
end LAW

set_option Elab.async false
set_option linter.all false
set_option autoImplicit false
set_option maxRecDepth 100000
namespace LAW
open PD PySem
theorem cut_ge {m b w : Int} (hm : 1 ≤ m) (hb : 2 ≤ b) (hb2 : b ≤ 4) (hw : 0 ≤ w) : 0 ≤ cut m b w ∧ w ≤ inn m b (cut m b w) := by
  unfold cut inn
  rcases (show b = 2 ∨ b = 3 ∨ b = 4 by omega) with rfl | rfl | rfl <;> (split <;> (try split) <;> omega)
theorem cut_lt {m b w j : Int} (hm : 1 ≤ m) (hb : 2 ≤ b) (hb2 : b ≤ 4) (hw : 0 ≤ w) (h0 : 0 ≤ j) (hj : j < cut m b w) : inn m b j < w := by
  unfold cut at hj
  unfold inn
  rcases (show b = 2 ∨ b = 3 ∨ b = 4 by omega) with rfl | rfl | rfl <;> (split at hj <;> split <;> omega)
theorem cut_top {m b w : Int} (hm : 1 ≤ m) (hb : 2 ≤ b) (hb2 : b ≤ 4) (hw : 0 ≤ w) (h : w < m + 10 * b) : cut m b w < m + 12 := by
  unfold cut
  rcases (show b = 2 ∨ b = 3 ∨ b = 4 by omega) with rfl | rfl | rfl <;> (split <;> omega)
def fstD : D → D
  | .tup [a, _] => a
  | _ => .non
def geD (w : Int) : D → Bool
  | .tup [_, .int v] => decide (w ≤ v)
  | _ => false
theorem due_ok {m : Nat} {b w : Int} (hm : 1 ≤ m) (hb : 2 ≤ b) (hb2 : b ≤ 4) (hw : 0 ≤ w) (h : w < m + 10 * b) : L2.atI (((enumItems ((stI m b 12).map D.int)).filter (geD w)).map fstD) 0 = some (.int (cut m b w)) := by
  have c1 := cut_ge (m := m) (w := w) (by omega) hb hb2 hw
  have c2 := cut_top (m := m) (w := w) (by omega) hb hb2 hw h
  have at_ : ∀ k : Nat, k < m + 12 → (enumItems ((stI m b 12).map D.int))[k]? = some (.tup [.int (k : Int), .int (inn m b k)]) := fun k hk => by
    rw [enum_at, List.getElem?_map, stI_at m b hk]
    rfl
  have hc : ((cut m b w).toNat : Int) = cut m b w := by omega
  have z := head_of (g := fstD) (p := geD w) (at_ (cut m b w).toNat (by omega)) (by
    show decide (w ≤ _) = true
    rw [hc]
    exact decide_eq_true c1.2) fun j y hj hy => by
    rw [at_ j (by omega)] at hy
    cases hy
    show decide (w ≤ _) = false
    have := cut_lt (m := m) (w := w) (j := j) (by omega) hb hb2 hw (by omega) (by omega)
    exact decide_eq_false (by omega)
  rw [z]
  show some (D.int _) = _
  rw [hc]
theorem env13 {ρ : PD.Env} (h : ρ.length = 13) : ∃ a b c d e f g i j k l m n, ρ = [a, b, c, d, e, f, g, i, j, k, l, m, n] := by
  match ρ, h with
  | [a, b, c, d, e, f, g, i, j, k, l, m, n], _ => exact ⟨a, b, c, d, e, f, g, i, j, k, l, m, n, rfl⟩
def st0 (ns : List Int) (lap rest : Int) : Cell := .lst [.lst (ns.map .int), .int lap, .int rest]
def I1 (ns : List Int) (j : Nat) (ρ : PD.Env) (s : CS) : Prop := ∃ lap rest t, s = st0 ns lap rest :: t ∧ 0 ≤ lap ∧ lap ≤ 6 * (j : Int) ∧ 0 ≤ rest ∧ ρ.length = 13 ∧ ρ[1]? = some (some (PV.obj 0))
def I2 (c0 : Cell) (t : CS) (m : Nat) (b : Int) (i : Nat) (ρ : PD.Env) (s : CS) : Prop := s = c0 :: (t ++ [.lst ((stI m b i).map D.int)]) ∧ ρ.length = 13 ∧ ρ[1]? = some (some (PV.obj 0)) ∧ ρ[7]? = some (some (.d (.int m))) ∧ ρ[8]? = some (some (.d (.int b))) ∧ ρ[9]? = some (some (.obj (t.length + 1))) ∧
  ρ[10]? = some (some (.d (.int ((m : Int) - 1 + b * (i : Int)))))
def I3 (S : CS) (m : Nat) (b : Int) (_ : Nat) (ρ : PD.Env) (s : CS) : Prop := s = S ∧ ρ.length = 13 ∧ ρ[1]? = some (some (PV.obj 0)) ∧ ρ[7]? = some (some (.d (.int m))) ∧ ρ[8]? = some (some (.d (.int b))) ∧ ρ[9]? = some (some (.d (.lst ((stI m b 12).map D.int))))
def gInn (m : Nat) (b : Int) : D → D := fun x => match x with
  | .int t => D.int (inn m b t)
  | _ => .non
set_option maxHeartbeats 4000000 in
theorem law_yes0 (ns0 : List Int) (hn : ns0.length ≤ 63) : (callN FF 7 10 [.scr ns0] []).sat fun v _ => v = .d (.bl true) := by
  rw [q_fn f10 rfl]
  simp only [g_law, q_lit, q_var, varR_ok, q_bin, q_bin1, q_bin2, q_cmp, q_cmp1, q_cmp2, q_neg, q_neg1, q_isn, q_isn_non, q_isn_bl, q_isn_int, q_isn_str, q_isn_lst, q_isn_tup, q_and, q_or, q_and1, q_or1, q_and2, q_or2, q_kand, q_kor, q_not, q_not1, notR_ok, q_ite, q_ite1, q_tup, q_lst, q_new, q_new1, q_idx, q_idx1, q_idx2, ixR_ok, q_sli, q_sli1, q_sli2, q_sli3, sliR_scr, sliR_lst, q_onone, q_osome, q_os, q_call, q_callk, q_callk1, q_callk2, permR_ok, q_bi, q_bi1, biR_ok, q_isi, q_isi1, isiR_ok, q_lrg, q_lrg1, Int.toNat_natCast, q_comp, q_comp1, q_comp2, q_es0, q_es, q_es1, q_es2, own0, own1, consO_ok, rdl0, rdl1, consR_ok, q_seq, q_seqL, q_seqT, q_r1, q_r2, q_r21, q_en, q_en1, q_if0, q_if, q_if1, q_asg, q_asg1, nxR_ok, q_asgT, q_asgT1, q_asg2, q_asg21, setAll0, setAll1, setAllP0, setAllP1, q_set, q_set1, q_set2, q_set3, setC_ok, setR_ok, rd_obj, rdC_l, frzR_ok, frzC_ok, q_app1, q_app2, appC_ok, q_ext1, q_ext2, extC_ok, extD_ok, appD_ok, Nat.sub_zero, Int.zero_add, at0, at1, at2, at3, last_get, last_set, enum_len, ix0, ix1, ix2, b_mulL, b_mulR, b_mulLL, b_mulRR, bi_min2, bi_max2, comp_ints, Nat.reduceSub, Nat.sub_self, b_mod, c_neIN, c_neNN, c_eqNN, q_r11L, q_r22L, c_neB, c_neT2, c_eqT2, c_mem, nc0, nc1, Int.cast_ofNat_Int, take_set, List.take_length, List.length_map, b_div, b_divL, b_pow, b_powL, q_expr, q_expr1, q_ret, q_ret1, q_retN, q_pass, q_stop, q_ifs, q_ifs1, q_for, q_for1, q_ss0, q_ss, q_ssn, q_ssr, q_frz, q_app, q_ext, kFn_rt, kFn_nx, go_ok, go_bad, br_t, br_f, tru_bl, tru_int, tru_non, tru_lst, rd_d, retD_ok, opD_ok, b_add, b_sub, c_lt, c_le, c_gt, c_ge, c_eqI, c_neI, c_eqS, c_neS, i_lst, i_tup, bi_int, bi_intB, bi_lenL, bi_lenT, bi_abs, bind1, bindM, isK, pickAll, wipeE, leave_cut, q_tup1, q_lst1, dispR_ok, Nat.zero_le, Nat.reduceLeDiff, Nat.reduceAdd, Nat.reduceLT, Int.reduceLT, Int.reduceLE, Nat.reducePow, Int.reducePow, Int.reduceToNat, Int.reduceNeg, Int.reduceAdd, Nat.zero_add, Option.bind_some, Option.map_some, Option.bind, Option.map, List.getElem?_cons_zero, List.getElem?_cons_succ, List.set_cons_zero, List.set_cons_succ, List.map_cons, List.map_nil, List.cons_append, List.nil_append, List.length_cons, List.length_nil, List.replicate_succ, List.replicate_zero, decide_true, decide_false, eq_self, and_self, true_and, and_true, and_false, false_and, not_true_eq_false, not_false_eq_true, beq_self_eq_true, Bool.not_true, Bool.not_false, Bool.and_true, Bool.and_false, if_true, if_false, stair_ok 5 ns0 hn]
  generalize cutL ns0 none (some 60) = ns
  refine go_sat (P := fun fl s => fl = .rt (.d (.bl true))) (go_sat (P := fun fl s => ∃ ρ, fl = .nx ρ ∧ I1 ns 4 ρ s) ?_ ?_) ?_
  · rw [for_def]; refine for_inv (I1 ns) _ 0 _ _ ⟨0, 0, [], rfl, by omega, by omega, by omega, rfl, rfl⟩ ?_ fun ρ s h => ⟨ρ, rfl, by rw [rng_len, Nat.zero_add] at h; exact h⟩
    rintro j x ρ s _ hx ⟨lap, rest, t, rfl, h1, h2, h3, h4, h5⟩
    obtain ⟨a0, a1, a2, a3, a4, a5, a6, a7, a8, a9, a10, a11, a12, rfl⟩ := env13 h4
    have h5' : a1 = some (.obj 0) := by simpa using h5
    subst h5'
    obtain ⟨hj, rfl⟩ := rng_at hx
    refine ⟨_, rfl, ?_⟩
    obtain ⟨r1, lap1, rest1, e1, r10, r11, k1, k2, k3⟩ := draw_ok 5 (st0 ns lap rest :: t) 0 200 lap rest ns rfl (by decide) (by decide) h1 (by omega) h3
    obtain ⟨y, lap2, rest2, e2, hy, k4, k5, k6⟩ := of_ok 4 (st0 ns lap1 rest1 :: t) 0 lap1 rest1 ns [.int 1, .int 2, .int 3, .int 200, .int (1 + r1)] rfl (by simp) (by simp) (by omega) (by omega) k3
    obtain ⟨m, rfl, m0, m1⟩ : ∃ m : Nat, y = .int m ∧ 1 ≤ m ∧ m ≤ 200 := by
      simp only [List.mem_cons, List.not_mem_nil, or_false] at hy
      rcases hy with rfl | rfl | rfl | rfl | rfl
      · exact ⟨1, rfl, by decide, by decide⟩
      · exact ⟨2, rfl, by decide, by decide⟩
      · exact ⟨3, rfl, by decide, by decide⟩
      · exact ⟨200, rfl, by decide, by decide⟩
      · exact ⟨(1 + r1).toNat, by rw [show (((1 + r1).toNat : Nat) : Int) = 1 + r1 by omega], by omega, by omega⟩
    obtain ⟨r3, lap3, rest3, e3, r30, r31, k7, k8, k9⟩ := draw_ok 5 (st0 ns lap2 rest2 :: t) 0 3 lap2 rest2 ns rfl (by decide) (by decide) (by omega) (by omega) k6
    have m0' : (0 : Int) ≤ (m : Int) := by omega
    have m1' : (m : Int) ≤ 16777216 := by omega
    simp only [st0, List.set_cons_zero] at e1 e2 e3
    simp only [q_lit, q_var, varR_ok, q_bin, q_bin1, q_bin2, q_cmp, q_cmp1, q_cmp2, q_neg, q_neg1, q_isn, q_isn_non, q_isn_bl, q_isn_int, q_isn_str, q_isn_lst, q_isn_tup, q_and, q_or, q_and1, q_or1, q_and2, q_or2, q_kand, q_kor, q_not, q_not1, notR_ok, q_ite, q_ite1, q_tup, q_lst, q_new, q_new1, q_idx, q_idx1, q_idx2, ixR_ok, q_sli, q_sli1, q_sli2, q_sli3, sliR_scr, sliR_lst, q_onone, q_osome, q_os, q_call, q_callk, q_callk1, q_callk2, permR_ok, q_bi, q_bi1, biR_ok, q_isi, q_isi1, isiR_ok, q_lrg, q_lrg1, Int.toNat_natCast, q_comp, q_comp1, q_comp2, q_es0, q_es, q_es1, q_es2, own0, own1, consO_ok, rdl0, rdl1, consR_ok, q_seq, q_seqL, q_seqT, q_r1, q_r2, q_r21, q_en, q_en1, q_if0, q_if, q_if1, q_asg, q_asg1, nxR_ok, q_asgT, q_asgT1, q_asg2, q_asg21, setAll0, setAll1, setAllP0, setAllP1, q_set, q_set1, q_set2, q_set3, setC_ok, setR_ok, rd_obj, rdC_l, frzR_ok, frzC_ok, q_app1, q_app2, appC_ok, q_ext1, q_ext2, extC_ok, extD_ok, appD_ok, Nat.sub_zero, Int.zero_add, at0, at1, at2, at3, last_get, last_set, enum_len, ix0, ix1, ix2, b_mulL, b_mulR, b_mulLL, b_mulRR, bi_min2, bi_max2, comp_ints, Nat.reduceSub, Nat.sub_self, b_mod, c_neIN, c_neNN, c_eqNN, q_r11L, q_r22L, c_neB, c_neT2, c_eqT2, c_mem, nc0, nc1, Int.cast_ofNat_Int, take_set, List.take_length, List.length_map, b_div, b_divL, b_pow, b_powL, q_expr, q_expr1, q_ret, q_ret1, q_retN, q_pass, q_stop, q_ifs, q_ifs1, q_for, q_for1, q_ss0, q_ss, q_ssn, q_ssr, q_frz, q_app, q_ext, kFn_rt, kFn_nx, go_ok, go_bad, br_t, br_f, tru_bl, tru_int, tru_non, tru_lst, rd_d, retD_ok, opD_ok, b_add, b_sub, c_lt, c_le, c_gt, c_ge, c_eqI, c_neI, c_eqS, c_neS, i_lst, i_tup, bi_int, bi_intB, bi_lenL, bi_lenT, bi_abs, bind1, bindM, isK, pickAll, wipeE, leave_cut, q_tup1, q_lst1, dispR_ok, Nat.zero_le, Nat.reduceLeDiff, Nat.reduceAdd, Nat.reduceLT, Int.reduceLT, Int.reduceLE, Nat.reducePow, Int.reducePow, Int.reduceToNat, Int.reduceNeg, Int.reduceAdd, Nat.zero_add, Option.bind_some, Option.map_some, Option.bind, Option.map, List.getElem?_cons_zero, List.getElem?_cons_succ, List.set_cons_zero, List.set_cons_succ, List.map_cons, List.map_nil, List.cons_append, List.nil_append, List.length_cons, List.length_nil, List.replicate_succ, List.replicate_zero, decide_true, decide_false, eq_self, and_self, true_and, and_true, and_false, false_and, not_true_eq_false, not_false_eq_true, beq_self_eq_true, Bool.not_true, Bool.not_false, Bool.and_true, Bool.and_false, if_true, if_false, st0, e1, e2, e3, m0', m1']
    generalize hb : 2 + r3 = b
    have b1 : 2 ≤ b := by omega
    have b2 : b ≤ 4 := by omega
    have bN : b.natAbs < 18446744073709551616 := by omega
    refine go_sat (P := fun fl s => ∃ ρ, fl = .nx ρ ∧ I2 (st0 ns lap3 rest3) t m b 12 ρ s) ?_ ?_
    · have start : rngItems 0 m = (stI m b 0).map D.int := by
        rw [rng_ints]
        unfold stI
        simp
      rw [for_def]; refine for_inv (I2 (st0 ns lap3 rest3) t m b) _ 0 _ _ ⟨by rw [← start]; rfl, rfl, rfl, rfl, rfl, rfl, ?_⟩ ?_ fun ρ s h => ⟨ρ, rfl, by rw [rng_len, Nat.zero_add] at h; exact h⟩
      · show some (some (PV.d (.int ((m : Int) - 1)))) = some (some (PV.d (.int ((m : Int) - 1 + b * ((0 : Nat) : Int)))))
        rw [nc0, Int.mul_zero, Int.add_zero]
      rintro i x ρ s _ hx ⟨rfl, g1, g2, g3, g4, g5, g6⟩
      obtain ⟨hi, rfl⟩ := rng_at hx
      obtain ⟨a0, a1, a2, a3, a4, a5, a6, a7, a8, a9, a10, a11, a12, rfl⟩ := env13 g1
      have g2' : a1 = some (.obj 0) := by simpa using g2
      have g3' : a7 = some (.d (.int m)) := by simpa using g3
      have g4' : a8 = some (.d (.int b)) := by simpa using g4
      have g5' : a9 = some (.obj (t.length + 1)) := by simpa using g5
      have g6' : a10 = some (.d (.int ((m : Int) - 1 + b * (i : Int)))) := by simpa using g6
      subst g2' g3' g4' g5' g6'
      refine ⟨_, rfl, ?_⟩
      have ei : (m : Int) - 1 + b * (i : Int) + b = (m : Int) - 1 + b * ((i : Int) + 1) := by
        rw [Int.mul_add, Int.mul_one]; omega
      have hlen : m + i < sizeLine := Nat.lt_of_lt_of_le (by omega : m + i < 1000) (by decide)
      simp only [q_lit, q_var, varR_ok, q_bin, q_bin1, q_bin2, q_cmp, q_cmp1, q_cmp2, q_neg, q_neg1, q_isn, q_isn_non, q_isn_bl, q_isn_int, q_isn_str, q_isn_lst, q_isn_tup, q_and, q_or, q_and1, q_or1, q_and2, q_or2, q_kand, q_kor, q_not, q_not1, notR_ok, q_ite, q_ite1, q_tup, q_lst, q_new, q_new1, q_idx, q_idx1, q_idx2, ixR_ok, q_sli, q_sli1, q_sli2, q_sli3, sliR_scr, sliR_lst, q_onone, q_osome, q_os, q_call, q_callk, q_callk1, q_callk2, permR_ok, q_bi, q_bi1, biR_ok, q_isi, q_isi1, isiR_ok, q_lrg, q_lrg1, Int.toNat_natCast, q_comp, q_comp1, q_comp2, q_es0, q_es, q_es1, q_es2, own0, own1, consO_ok, rdl0, rdl1, consR_ok, q_seq, q_seqL, q_seqT, q_r1, q_r2, q_r21, q_en, q_en1, q_if0, q_if, q_if1, q_asg, q_asg1, nxR_ok, q_asgT, q_asgT1, q_asg2, q_asg21, setAll0, setAll1, setAllP0, setAllP1, q_set, q_set1, q_set2, q_set3, setC_ok, setR_ok, rd_obj, rdC_l, frzR_ok, frzC_ok, q_app1, q_app2, appC_ok, q_ext1, q_ext2, extC_ok, extD_ok, appD_ok, Nat.sub_zero, Int.zero_add, at0, at1, at2, at3, last_get, last_set, enum_len, ix0, ix1, ix2, b_mulL, b_mulR, b_mulLL, b_mulRR, bi_min2, bi_max2, comp_ints, Nat.reduceSub, Nat.sub_self, b_mod, c_neIN, c_neNN, c_eqNN, q_r11L, q_r22L, c_neB, c_neT2, c_eqT2, c_mem, nc0, nc1, Int.cast_ofNat_Int, take_set, List.take_length, List.length_map, b_div, b_divL, b_pow, b_powL, q_expr, q_expr1, q_ret, q_ret1, q_retN, q_pass, q_stop, q_ifs, q_ifs1, q_for, q_for1, q_ss0, q_ss, q_ssn, q_ssr, q_frz, q_app, q_ext, kFn_rt, kFn_nx, go_ok, go_bad, br_t, br_f, tru_bl, tru_int, tru_non, tru_lst, rd_d, retD_ok, opD_ok, b_add, b_sub, c_lt, c_le, c_gt, c_ge, c_eqI, c_neI, c_eqS, c_neS, i_lst, i_tup, bi_int, bi_intB, bi_lenL, bi_lenT, bi_abs, bind1, bindM, isK, pickAll, wipeE, leave_cut, q_tup1, q_lst1, dispR_ok, Nat.zero_le, Nat.reduceLeDiff, Nat.reduceAdd, Nat.reduceLT, Int.reduceLT, Int.reduceLE, Nat.reducePow, Int.reducePow, Int.reduceToNat, Int.reduceNeg, Int.reduceAdd, Nat.zero_add, Option.bind_some, Option.map_some, Option.bind, Option.map, List.getElem?_cons_zero, List.getElem?_cons_succ, List.set_cons_zero, List.set_cons_succ, List.map_cons, List.map_nil, List.cons_append, List.nil_append, List.length_cons, List.length_nil, List.replicate_succ, List.replicate_zero, decide_true, decide_false, eq_self, and_self, true_and, and_true, and_false, false_and, not_true_eq_false, not_false_eq_true, beq_self_eq_true, Bool.not_true, Bool.not_false, Bool.and_true, Bool.and_false, if_true, if_false, stI_len, hlen]
      refine sat_ok ⟨?_, rfl, rfl, rfl, rfl, rfl, ?_⟩
      · rw [stI_succ, List.map_append, ← ei]
        rfl
      · rw [show ((i + 1 : Nat) : Int) = (i : Int) + 1 by omega, ← ei]
        rfl
    · rintro fl s ⟨ρ, rfl, rfl, g1, g2, g3, g4, g5, g6⟩
      obtain ⟨a0, a1, a2, a3, a4, a5, a6, a7, a8, a9, a10, a11, a12, rfl⟩ := env13 g1
      have g2' : a1 = some (.obj 0) := by simpa using g2
      have g3' : a7 = some (.d (.int m)) := by simpa using g3
      have g4' : a8 = some (.d (.int b)) := by simpa using g4
      have g5' : a9 = some (.obj (t.length + 1)) := by simpa using g5
      subst g2' g3' g4' g5'
      have l1 : (-1000000000000 : Int) < ((m + 12 : Nat) : Int) := by omega
      have l2 : ((m + 12 : Nat) : Int) < 1000000000000 := by omega
      simp only [q_lit, q_var, varR_ok, q_bin, q_bin1, q_bin2, q_cmp, q_cmp1, q_cmp2, q_neg, q_neg1, q_isn, q_isn_non, q_isn_bl, q_isn_int, q_isn_str, q_isn_lst, q_isn_tup, q_and, q_or, q_and1, q_or1, q_and2, q_or2, q_kand, q_kor, q_not, q_not1, notR_ok, q_ite, q_ite1, q_tup, q_lst, q_new, q_new1, q_idx, q_idx1, q_idx2, ixR_ok, q_sli, q_sli1, q_sli2, q_sli3, sliR_scr, sliR_lst, q_onone, q_osome, q_os, q_call, q_callk, q_callk1, q_callk2, permR_ok, q_bi, q_bi1, biR_ok, q_isi, q_isi1, isiR_ok, q_lrg, q_lrg1, Int.toNat_natCast, q_comp, q_comp1, q_comp2, q_es0, q_es, q_es1, q_es2, own0, own1, consO_ok, rdl0, rdl1, consR_ok, q_seq, q_seqL, q_seqT, q_r1, q_r2, q_r21, q_en, q_en1, q_if0, q_if, q_if1, q_asg, q_asg1, nxR_ok, q_asgT, q_asgT1, q_asg2, q_asg21, setAll0, setAll1, setAllP0, setAllP1, q_set, q_set1, q_set2, q_set3, setC_ok, setR_ok, rd_obj, rdC_l, frzR_ok, frzC_ok, q_app1, q_app2, appC_ok, q_ext1, q_ext2, extC_ok, extD_ok, appD_ok, Nat.sub_zero, Int.zero_add, at0, at1, at2, at3, last_get, last_set, enum_len, ix0, ix1, ix2, b_mulL, b_mulR, b_mulLL, b_mulRR, bi_min2, bi_max2, comp_ints, Nat.reduceSub, Nat.sub_self, b_mod, c_neIN, c_neNN, c_eqNN, q_r11L, q_r22L, c_neB, c_neT2, c_eqT2, c_mem, nc0, nc1, Int.cast_ofNat_Int, take_set, List.take_length, List.length_map, b_div, b_divL, b_pow, b_powL, q_expr, q_expr1, q_ret, q_ret1, q_retN, q_pass, q_stop, q_ifs, q_ifs1, q_for, q_for1, q_ss0, q_ss, q_ssn, q_ssr, q_frz, q_app, q_ext, kFn_rt, kFn_nx, go_ok, go_bad, br_t, br_f, tru_bl, tru_int, tru_non, tru_lst, rd_d, retD_ok, opD_ok, b_add, b_sub, c_lt, c_le, c_gt, c_ge, c_eqI, c_neI, c_eqS, c_neS, i_lst, i_tup, bi_int, bi_intB, bi_lenL, bi_lenT, bi_abs, bind1, bindM, isK, pickAll, wipeE, leave_cut, q_tup1, q_lst1, dispR_ok, Nat.zero_le, Nat.reduceLeDiff, Nat.reduceAdd, Nat.reduceLT, Int.reduceLT, Int.reduceLE, Nat.reducePow, Int.reducePow, Int.reduceToNat, Int.reduceNeg, Int.reduceAdd, Nat.zero_add, Option.bind_some, Option.map_some, Option.bind, Option.map, List.getElem?_cons_zero, List.getElem?_cons_succ, List.set_cons_zero, List.set_cons_succ, List.map_cons, List.map_nil, List.cons_append, List.nil_append, List.length_cons, List.length_nil, List.replicate_succ, List.replicate_zero, decide_true, decide_false, eq_self, and_self, true_and, and_true, and_false, false_and, not_true_eq_false, not_false_eq_true, beq_self_eq_true, Bool.not_true, Bool.not_false, Bool.and_true, Bool.and_false, if_true, if_false, stI_len, l1, l2]
      rw [comp_one (gInn m b) (by rw [rng_len]; omega) fun x hx => ?_]
      rotate_left
      · obtain ⟨u, hu, rfl⟩ := rng_mem hx
        have w := fun s => inn_ok 0 (m : Int) b (u : Int) s (by omega) (by omega) b1 b2 (by omega)
        simp only [q_lit, q_var, varR_ok, q_bin, q_bin1, q_bin2, q_cmp, q_cmp1, q_cmp2, q_neg, q_neg1, q_isn, q_isn_non, q_isn_bl, q_isn_int, q_isn_str, q_isn_lst, q_isn_tup, q_and, q_or, q_and1, q_or1, q_and2, q_or2, q_kand, q_kor, q_not, q_not1, notR_ok, q_ite, q_ite1, q_tup, q_lst, q_new, q_new1, q_idx, q_idx1, q_idx2, ixR_ok, q_sli, q_sli1, q_sli2, q_sli3, sliR_scr, sliR_lst, q_onone, q_osome, q_os, q_call, q_callk, q_callk1, q_callk2, permR_ok, q_bi, q_bi1, biR_ok, q_isi, q_isi1, isiR_ok, q_lrg, q_lrg1, Int.toNat_natCast, q_comp, q_comp1, q_comp2, q_es0, q_es, q_es1, q_es2, own0, own1, consO_ok, rdl0, rdl1, consR_ok, q_seq, q_seqL, q_seqT, q_r1, q_r2, q_r21, q_en, q_en1, q_if0, q_if, q_if1, q_asg, q_asg1, nxR_ok, q_asgT, q_asgT1, q_asg2, q_asg21, setAll0, setAll1, setAllP0, setAllP1, q_set, q_set1, q_set2, q_set3, setC_ok, setR_ok, rd_obj, rdC_l, frzR_ok, frzC_ok, q_app1, q_app2, appC_ok, q_ext1, q_ext2, extC_ok, extD_ok, appD_ok, Nat.sub_zero, Int.zero_add, at0, at1, at2, at3, last_get, last_set, enum_len, ix0, ix1, ix2, b_mulL, b_mulR, b_mulLL, b_mulRR, bi_min2, bi_max2, comp_ints, Nat.reduceSub, Nat.sub_self, b_mod, c_neIN, c_neNN, c_eqNN, q_r11L, q_r22L, c_neB, c_neT2, c_eqT2, c_mem, nc0, nc1, Int.cast_ofNat_Int, take_set, List.take_length, List.length_map, b_div, b_divL, b_pow, b_powL, q_expr, q_expr1, q_ret, q_ret1, q_retN, q_pass, q_stop, q_ifs, q_ifs1, q_for, q_for1, q_ss0, q_ss, q_ssn, q_ssr, q_frz, q_app, q_ext, kFn_rt, kFn_nx, go_ok, go_bad, br_t, br_f, tru_bl, tru_int, tru_non, tru_lst, rd_d, retD_ok, opD_ok, b_add, b_sub, c_lt, c_le, c_gt, c_ge, c_eqI, c_neI, c_eqS, c_neS, i_lst, i_tup, bi_int, bi_intB, bi_lenL, bi_lenT, bi_abs, bind1, bindM, isK, pickAll, wipeE, leave_cut, q_tup1, q_lst1, dispR_ok, Nat.zero_le, Nat.reduceLeDiff, Nat.reduceAdd, Nat.reduceLT, Int.reduceLT, Int.reduceLE, Nat.reducePow, Int.reducePow, Int.reduceToNat, Int.reduceNeg, Int.reduceAdd, Nat.zero_add, Option.bind_some, Option.map_some, Option.bind, Option.map, List.getElem?_cons_zero, List.getElem?_cons_succ, List.set_cons_zero, List.set_cons_succ, List.map_cons, List.map_nil, List.cons_append, List.nil_append, List.length_cons, List.length_nil, List.replicate_succ, List.replicate_zero, decide_true, decide_false, eq_self, and_self, true_and, and_true, and_false, false_and, not_true_eq_false, not_false_eq_true, beq_self_eq_true, Bool.not_true, Bool.not_false, Bool.and_true, Bool.and_false, if_true, if_false, w]
        rfl
      rw [show (rngItems 0 (m + 12)).map (gInn m b) = (stI m b 12).map D.int from stI_inn m b 12]
      obtain ⟨r4, lap4, rest4, e4, r40, r41, k10, k11, k12⟩ := draw_ok 5 (st0 ns lap3 rest3 :: (t ++ [.dead])) 0 (10 * b) lap3 rest3 ns rfl (by omega) (div_log (by omega) (by omega)) (by omega) (by omega) k9
      obtain ⟨r5, lap5, rest5, e5, r50, r51, k13, k14, k15⟩ := draw_ok 5 (st0 ns lap4 rest4 :: (t ++ [.dead])) 0 (m + 10 * b) lap4 rest4 ns rfl (by omega) (div_log (by omega) (by omega)) (by omega) (by omega) k12
      simp only [st0, List.set_cons_zero] at e4 e5
      simp only [q_lit, q_var, varR_ok, q_bin, q_bin1, q_bin2, q_cmp, q_cmp1, q_cmp2, q_neg, q_neg1, q_isn, q_isn_non, q_isn_bl, q_isn_int, q_isn_str, q_isn_lst, q_isn_tup, q_and, q_or, q_and1, q_or1, q_and2, q_or2, q_kand, q_kor, q_not, q_not1, notR_ok, q_ite, q_ite1, q_tup, q_lst, q_new, q_new1, q_idx, q_idx1, q_idx2, ixR_ok, q_sli, q_sli1, q_sli2, q_sli3, sliR_scr, sliR_lst, q_onone, q_osome, q_os, q_call, q_callk, q_callk1, q_callk2, permR_ok, q_bi, q_bi1, biR_ok, q_isi, q_isi1, isiR_ok, q_lrg, q_lrg1, Int.toNat_natCast, q_comp, q_comp1, q_comp2, q_es0, q_es, q_es1, q_es2, own0, own1, consO_ok, rdl0, rdl1, consR_ok, q_seq, q_seqL, q_seqT, q_r1, q_r2, q_r21, q_en, q_en1, q_if0, q_if, q_if1, q_asg, q_asg1, nxR_ok, q_asgT, q_asgT1, q_asg2, q_asg21, setAll0, setAll1, setAllP0, setAllP1, q_set, q_set1, q_set2, q_set3, setC_ok, setR_ok, rd_obj, rdC_l, frzR_ok, frzC_ok, q_app1, q_app2, appC_ok, q_ext1, q_ext2, extC_ok, extD_ok, appD_ok, Nat.sub_zero, Int.zero_add, at0, at1, at2, at3, last_get, last_set, enum_len, ix0, ix1, ix2, b_mulL, b_mulR, b_mulLL, b_mulRR, bi_min2, bi_max2, comp_ints, Nat.reduceSub, Nat.sub_self, b_mod, c_neIN, c_neNN, c_eqNN, q_r11L, q_r22L, c_neB, c_neT2, c_eqT2, c_mem, nc0, nc1, Int.cast_ofNat_Int, take_set, List.take_length, List.length_map, b_div, b_divL, b_pow, b_powL, q_expr, q_expr1, q_ret, q_ret1, q_retN, q_pass, q_stop, q_ifs, q_ifs1, q_for, q_for1, q_ss0, q_ss, q_ssn, q_ssr, q_frz, q_app, q_ext, kFn_rt, kFn_nx, go_ok, go_bad, br_t, br_f, tru_bl, tru_int, tru_non, tru_lst, rd_d, retD_ok, opD_ok, b_add, b_sub, c_lt, c_le, c_gt, c_ge, c_eqI, c_neI, c_eqS, c_neS, i_lst, i_tup, bi_int, bi_intB, bi_lenL, bi_lenT, bi_abs, bind1, bindM, isK, pickAll, wipeE, leave_cut, q_tup1, q_lst1, dispR_ok, Nat.zero_le, Nat.reduceLeDiff, Nat.reduceAdd, Nat.reduceLT, Int.reduceLT, Int.reduceLE, Nat.reducePow, Int.reducePow, Int.reduceToNat, Int.reduceNeg, Int.reduceAdd, Nat.zero_add, Option.bind_some, Option.map_some, Option.bind, Option.map, List.getElem?_cons_zero, List.getElem?_cons_succ, List.set_cons_zero, List.set_cons_succ, List.map_cons, List.map_nil, List.cons_append, List.nil_append, List.length_cons, List.length_nil, List.replicate_succ, List.replicate_zero, decide_true, decide_false, eq_self, and_self, true_and, and_true, and_false, false_and, not_true_eq_false, not_false_eq_true, beq_self_eq_true, Bool.not_true, Bool.not_false, Bool.and_true, Bool.and_false, if_true, if_false, c_neLL (shaped_ints _), st0, e4, e5]
      refine go_sat (P := fun fl s => ∃ ρ, fl = .nx ρ ∧ I3 (st0 ns lap5 rest5 :: (t ++ [.dead])) m b 6 ρ s) ?_ ?_
      · rw [for_def]; refine for_inv (I3 (st0 ns lap5 rest5 :: (t ++ [.dead])) m b) _ 0 _ _ ⟨rfl, rfl, rfl, rfl, rfl, rfl⟩ ?_ fun ρ s h => ⟨ρ, rfl, h⟩
        rintro i x ρ s _ hx ⟨rfl, g1, g2, g3, g4, g5⟩
        obtain ⟨w, rfl, w0, w1⟩ : ∃ w : Int, x = .int w ∧ 0 ≤ w ∧ w < m + 10 * b := by
          have hx := List.mem_of_getElem? hx
          simp only [List.mem_cons, List.not_mem_nil, or_false] at hx
          rcases hx with rfl | rfl | rfl | rfl | rfl | rfl <;> exact ⟨_, rfl, by omega, by omega⟩
        obtain ⟨a0, a1, a2, a3, a4, a5, a6, a7, a8, a9, a10, a11, a12, rfl⟩ := env13 g1
        have g2' : a1 = some (.obj 0) := by simpa using g2
        have g3' : a7 = some (.d (.int m)) := by simpa using g3
        have g4' : a8 = some (.d (.int b)) := by simpa using g4
        have g5' : a9 = some (.d (.lst ((stI m b 12).map D.int))) := by simpa using g5
        subst g2' g3' g4' g5'
        refine ⟨_, rfl, ?_⟩
        have cw := fun s => cut_ok 0 (m : Int) b w s (by omega) (by omega) b1 b2 w0
        have c1 := cut_ge (m := m) (w := w) (by omega) b1 b2 w0
        have c2 := cut_top (m := m) (w := w) (by omega) b1 b2 w0 w1
        obtain ⟨T, hT⟩ := repI (a := cut m b w) c1.1 (by omega)
        have hdue := due_ok (m := m) (by omega) b1 b2 w0 w1
        simp only [q_lit, q_var, varR_ok, q_bin, q_bin1, q_bin2, q_cmp, q_cmp1, q_cmp2, q_neg, q_neg1, q_isn, q_isn_non, q_isn_bl, q_isn_int, q_isn_str, q_isn_lst, q_isn_tup, q_and, q_or, q_and1, q_or1, q_and2, q_or2, q_kand, q_kor, q_not, q_not1, notR_ok, q_ite, q_ite1, q_tup, q_lst, q_new, q_new1, q_idx, q_idx1, q_idx2, ixR_ok, q_sli, q_sli1, q_sli2, q_sli3, sliR_scr, sliR_lst, q_onone, q_osome, q_os, q_call, q_callk, q_callk1, q_callk2, permR_ok, q_bi, q_bi1, biR_ok, q_isi, q_isi1, isiR_ok, q_lrg, q_lrg1, Int.toNat_natCast, q_comp, q_comp1, q_comp2, q_es0, q_es, q_es1, q_es2, own0, own1, consO_ok, rdl0, rdl1, consR_ok, q_seq, q_seqL, q_seqT, q_r1, q_r2, q_r21, q_en, q_en1, q_if0, q_if, q_if1, q_asg, q_asg1, nxR_ok, q_asgT, q_asgT1, q_asg2, q_asg21, setAll0, setAll1, setAllP0, setAllP1, q_set, q_set1, q_set2, q_set3, setC_ok, setR_ok, rd_obj, rdC_l, frzR_ok, frzC_ok, q_app1, q_app2, appC_ok, q_ext1, q_ext2, extC_ok, extD_ok, appD_ok, Nat.sub_zero, Int.zero_add, at0, at1, at2, at3, last_get, last_set, enum_len, ix0, ix1, ix2, b_mulL, b_mulR, b_mulLL, b_mulRR, bi_min2, bi_max2, comp_ints, Nat.reduceSub, Nat.sub_self, b_mod, c_neIN, c_neNN, c_eqNN, q_r11L, q_r22L, c_neB, c_neT2, c_eqT2, c_mem, nc0, nc1, Int.cast_ofNat_Int, take_set, List.take_length, List.length_map, b_div, b_divL, b_pow, b_powL, q_expr, q_expr1, q_ret, q_ret1, q_retN, q_pass, q_stop, q_ifs, q_ifs1, q_for, q_for1, q_ss0, q_ss, q_ssn, q_ssr, q_frz, q_app, q_ext, kFn_rt, kFn_nx, go_ok, go_bad, br_t, br_f, tru_bl, tru_int, tru_non, tru_lst, rd_d, retD_ok, opD_ok, b_add, b_sub, c_lt, c_le, c_gt, c_ge, c_eqI, c_neI, c_eqS, c_neS, i_lst, i_tup, bi_int, bi_intB, bi_lenL, bi_lenT, bi_abs, bind1, bindM, isK, pickAll, wipeE, leave_cut, q_tup1, q_lst1, dispR_ok, Nat.zero_le, Nat.reduceLeDiff, Nat.reduceAdd, Nat.reduceLT, Int.reduceLT, Int.reduceLE, Nat.reducePow, Int.reducePow, Int.reduceToNat, Int.reduceNeg, Int.reduceAdd, Nat.zero_add, Option.bind_some, Option.map_some, Option.bind, Option.map, List.getElem?_cons_zero, List.getElem?_cons_succ, List.set_cons_zero, List.set_cons_succ, List.map_cons, List.map_nil, List.cons_append, List.nil_append, List.length_cons, List.length_nil, List.replicate_succ, List.replicate_zero, decide_true, decide_false, eq_self, and_self, true_and, and_true, and_false, false_and, not_true_eq_false, not_false_eq_true, beq_self_eq_true, Bool.not_true, Bool.not_false, Bool.and_true, Bool.and_false, if_true, if_false]
        rw [comp_sel2 fstD (geD w) (by rw [enum_len, List.length_map, stI_len]; omega) fun x hx => ?_]
        · simp only [q_lit, q_var, varR_ok, q_bin, q_bin1, q_bin2, q_cmp, q_cmp1, q_cmp2, q_neg, q_neg1, q_isn, q_isn_non, q_isn_bl, q_isn_int, q_isn_str, q_isn_lst, q_isn_tup, q_and, q_or, q_and1, q_or1, q_and2, q_or2, q_kand, q_kor, q_not, q_not1, notR_ok, q_ite, q_ite1, q_tup, q_lst, q_new, q_new1, q_idx, q_idx1, q_idx2, ixR_ok, q_sli, q_sli1, q_sli2, q_sli3, sliR_scr, sliR_lst, q_onone, q_osome, q_os, q_call, q_callk, q_callk1, q_callk2, permR_ok, q_bi, q_bi1, biR_ok, q_isi, q_isi1, isiR_ok, q_lrg, q_lrg1, Int.toNat_natCast, q_comp, q_comp1, q_comp2, q_es0, q_es, q_es1, q_es2, own0, own1, consO_ok, rdl0, rdl1, consR_ok, q_seq, q_seqL, q_seqT, q_r1, q_r2, q_r21, q_en, q_en1, q_if0, q_if, q_if1, q_asg, q_asg1, nxR_ok, q_asgT, q_asgT1, q_asg2, q_asg21, setAll0, setAll1, setAllP0, setAllP1, q_set, q_set1, q_set2, q_set3, setC_ok, setR_ok, rd_obj, rdC_l, frzR_ok, frzC_ok, q_app1, q_app2, appC_ok, q_ext1, q_ext2, extC_ok, extD_ok, appD_ok, Nat.sub_zero, Int.zero_add, at0, at1, at2, at3, last_get, last_set, enum_len, ix0, ix1, ix2, b_mulL, b_mulR, b_mulLL, b_mulRR, bi_min2, bi_max2, comp_ints, Nat.reduceSub, Nat.sub_self, b_mod, c_neIN, c_neNN, c_eqNN, q_r11L, q_r22L, c_neB, c_neT2, c_eqT2, c_mem, nc0, nc1, Int.cast_ofNat_Int, take_set, List.take_length, List.length_map, b_div, b_divL, b_pow, b_powL, q_expr, q_expr1, q_ret, q_ret1, q_retN, q_pass, q_stop, q_ifs, q_ifs1, q_for, q_for1, q_ss0, q_ss, q_ssn, q_ssr, q_frz, q_app, q_ext, kFn_rt, kFn_nx, go_ok, go_bad, br_t, br_f, tru_bl, tru_int, tru_non, tru_lst, rd_d, retD_ok, opD_ok, b_add, b_sub, c_lt, c_le, c_gt, c_ge, c_eqI, c_neI, c_eqS, c_neS, i_lst, i_tup, bi_int, bi_intB, bi_lenL, bi_lenT, bi_abs, bind1, bindM, isK, pickAll, wipeE, leave_cut, q_tup1, q_lst1, dispR_ok, Nat.zero_le, Nat.reduceLeDiff, Nat.reduceAdd, Nat.reduceLT, Int.reduceLT, Int.reduceLE, Nat.reducePow, Int.reducePow, Int.reduceToNat, Int.reduceNeg, Int.reduceAdd, Nat.zero_add, Option.bind_some, Option.map_some, Option.bind, Option.map, List.getElem?_cons_zero, List.getElem?_cons_succ, List.set_cons_zero, List.set_cons_succ, List.map_cons, List.map_nil, List.cons_append, List.nil_append, List.length_cons, List.length_nil, List.replicate_succ, List.replicate_zero, decide_true, decide_false, eq_self, and_self, true_and, and_true, and_false, false_and, not_true_eq_false, not_false_eq_true, beq_self_eq_true, Bool.not_true, Bool.not_false, Bool.and_true, Bool.and_false, if_true, if_false, hdue, cw, bi_repr' hT]
          exact sat_ok ⟨rfl, rfl, rfl, rfl, rfl, rfl⟩
        · obtain ⟨u, v, rfl⟩ : ∃ u v : Int, x = .tup [.int u, .int v] := by
            obtain ⟨q, hq⟩ := List.getElem?_of_mem hx
            rw [enum_at, List.getElem?_map] at hq
            cases hz : (stI m b 12)[q]? with
            | none => rw [hz] at hq; cases hq
            | some z => rw [hz] at hq; cases hq; exact ⟨_, _, rfl⟩
          refine ⟨_, _, rfl, ?_, fun _ => ?_⟩
          · by_cases hv : w ≤ v
            · simp only [q_lit, q_var, varR_ok, q_bin, q_bin1, q_bin2, q_cmp, q_cmp1, q_cmp2, q_neg, q_neg1, q_isn, q_isn_non, q_isn_bl, q_isn_int, q_isn_str, q_isn_lst, q_isn_tup, q_and, q_or, q_and1, q_or1, q_and2, q_or2, q_kand, q_kor, q_not, q_not1, notR_ok, q_ite, q_ite1, q_tup, q_lst, q_new, q_new1, q_idx, q_idx1, q_idx2, ixR_ok, q_sli, q_sli1, q_sli2, q_sli3, sliR_scr, sliR_lst, q_onone, q_osome, q_os, q_call, q_callk, q_callk1, q_callk2, permR_ok, q_bi, q_bi1, biR_ok, q_isi, q_isi1, isiR_ok, q_lrg, q_lrg1, Int.toNat_natCast, q_comp, q_comp1, q_comp2, q_es0, q_es, q_es1, q_es2, own0, own1, consO_ok, rdl0, rdl1, consR_ok, q_seq, q_seqL, q_seqT, q_r1, q_r2, q_r21, q_en, q_en1, q_if0, q_if, q_if1, q_asg, q_asg1, nxR_ok, q_asgT, q_asgT1, q_asg2, q_asg21, setAll0, setAll1, setAllP0, setAllP1, q_set, q_set1, q_set2, q_set3, setC_ok, setR_ok, rd_obj, rdC_l, frzR_ok, frzC_ok, q_app1, q_app2, appC_ok, q_ext1, q_ext2, extC_ok, extD_ok, appD_ok, Nat.sub_zero, Int.zero_add, at0, at1, at2, at3, last_get, last_set, enum_len, ix0, ix1, ix2, b_mulL, b_mulR, b_mulLL, b_mulRR, bi_min2, bi_max2, comp_ints, Nat.reduceSub, Nat.sub_self, b_mod, c_neIN, c_neNN, c_eqNN, q_r11L, q_r22L, c_neB, c_neT2, c_eqT2, c_mem, nc0, nc1, Int.cast_ofNat_Int, take_set, List.take_length, List.length_map, b_div, b_divL, b_pow, b_powL, q_expr, q_expr1, q_ret, q_ret1, q_retN, q_pass, q_stop, q_ifs, q_ifs1, q_for, q_for1, q_ss0, q_ss, q_ssn, q_ssr, q_frz, q_app, q_ext, kFn_rt, kFn_nx, go_ok, go_bad, br_t, br_f, tru_bl, tru_int, tru_non, tru_lst, rd_d, retD_ok, opD_ok, b_add, b_sub, c_lt, c_le, c_gt, c_ge, c_eqI, c_neI, c_eqS, c_neS, i_lst, i_tup, bi_int, bi_intB, bi_lenL, bi_lenT, bi_abs, bind1, bindM, isK, pickAll, wipeE, leave_cut, q_tup1, q_lst1, dispR_ok, Nat.zero_le, Nat.reduceLeDiff, Nat.reduceAdd, Nat.reduceLT, Int.reduceLT, Int.reduceLE, Nat.reducePow, Int.reducePow, Int.reduceToNat, Int.reduceNeg, Int.reduceAdd, Nat.zero_add, Option.bind_some, Option.map_some, Option.bind, Option.map, List.getElem?_cons_zero, List.getElem?_cons_succ, List.set_cons_zero, List.set_cons_succ, List.map_cons, List.map_nil, List.cons_append, List.nil_append, List.length_cons, List.length_nil, List.replicate_succ, List.replicate_zero, decide_true, decide_false, eq_self, and_self, true_and, and_true, and_false, false_and, not_true_eq_false, not_false_eq_true, beq_self_eq_true, Bool.not_true, Bool.not_false, Bool.and_true, Bool.and_false, if_true, if_false, hv, geD]
            · simp only [q_lit, q_var, varR_ok, q_bin, q_bin1, q_bin2, q_cmp, q_cmp1, q_cmp2, q_neg, q_neg1, q_isn, q_isn_non, q_isn_bl, q_isn_int, q_isn_str, q_isn_lst, q_isn_tup, q_and, q_or, q_and1, q_or1, q_and2, q_or2, q_kand, q_kor, q_not, q_not1, notR_ok, q_ite, q_ite1, q_tup, q_lst, q_new, q_new1, q_idx, q_idx1, q_idx2, ixR_ok, q_sli, q_sli1, q_sli2, q_sli3, sliR_scr, sliR_lst, q_onone, q_osome, q_os, q_call, q_callk, q_callk1, q_callk2, permR_ok, q_bi, q_bi1, biR_ok, q_isi, q_isi1, isiR_ok, q_lrg, q_lrg1, Int.toNat_natCast, q_comp, q_comp1, q_comp2, q_es0, q_es, q_es1, q_es2, own0, own1, consO_ok, rdl0, rdl1, consR_ok, q_seq, q_seqL, q_seqT, q_r1, q_r2, q_r21, q_en, q_en1, q_if0, q_if, q_if1, q_asg, q_asg1, nxR_ok, q_asgT, q_asgT1, q_asg2, q_asg21, setAll0, setAll1, setAllP0, setAllP1, q_set, q_set1, q_set2, q_set3, setC_ok, setR_ok, rd_obj, rdC_l, frzR_ok, frzC_ok, q_app1, q_app2, appC_ok, q_ext1, q_ext2, extC_ok, extD_ok, appD_ok, Nat.sub_zero, Int.zero_add, at0, at1, at2, at3, last_get, last_set, enum_len, ix0, ix1, ix2, b_mulL, b_mulR, b_mulLL, b_mulRR, bi_min2, bi_max2, comp_ints, Nat.reduceSub, Nat.sub_self, b_mod, c_neIN, c_neNN, c_eqNN, q_r11L, q_r22L, c_neB, c_neT2, c_eqT2, c_mem, nc0, nc1, Int.cast_ofNat_Int, take_set, List.take_length, List.length_map, b_div, b_divL, b_pow, b_powL, q_expr, q_expr1, q_ret, q_ret1, q_retN, q_pass, q_stop, q_ifs, q_ifs1, q_for, q_for1, q_ss0, q_ss, q_ssn, q_ssr, q_frz, q_app, q_ext, kFn_rt, kFn_nx, go_ok, go_bad, br_t, br_f, tru_bl, tru_int, tru_non, tru_lst, rd_d, retD_ok, opD_ok, b_add, b_sub, c_lt, c_le, c_gt, c_ge, c_eqI, c_neI, c_eqS, c_neS, i_lst, i_tup, bi_int, bi_intB, bi_lenL, bi_lenT, bi_abs, bind1, bindM, isK, pickAll, wipeE, leave_cut, q_tup1, q_lst1, dispR_ok, Nat.zero_le, Nat.reduceLeDiff, Nat.reduceAdd, Nat.reduceLT, Int.reduceLT, Int.reduceLE, Nat.reducePow, Int.reducePow, Int.reduceToNat, Int.reduceNeg, Int.reduceAdd, Nat.zero_add, Option.bind_some, Option.map_some, Option.bind, Option.map, List.getElem?_cons_zero, List.getElem?_cons_succ, List.set_cons_zero, List.set_cons_succ, List.map_cons, List.map_nil, List.cons_append, List.nil_append, List.length_cons, List.length_nil, List.replicate_succ, List.replicate_zero, decide_true, decide_false, eq_self, and_self, true_and, and_true, and_false, false_and, not_true_eq_false, not_false_eq_true, beq_self_eq_true, Bool.not_true, Bool.not_false, Bool.and_true, Bool.and_false, if_true, if_false, hv, geD]
          · simp only [q_lit, q_var, varR_ok, q_bin, q_bin1, q_bin2, q_cmp, q_cmp1, q_cmp2, q_neg, q_neg1, q_isn, q_isn_non, q_isn_bl, q_isn_int, q_isn_str, q_isn_lst, q_isn_tup, q_and, q_or, q_and1, q_or1, q_and2, q_or2, q_kand, q_kor, q_not, q_not1, notR_ok, q_ite, q_ite1, q_tup, q_lst, q_new, q_new1, q_idx, q_idx1, q_idx2, ixR_ok, q_sli, q_sli1, q_sli2, q_sli3, sliR_scr, sliR_lst, q_onone, q_osome, q_os, q_call, q_callk, q_callk1, q_callk2, permR_ok, q_bi, q_bi1, biR_ok, q_isi, q_isi1, isiR_ok, q_lrg, q_lrg1, Int.toNat_natCast, q_comp, q_comp1, q_comp2, q_es0, q_es, q_es1, q_es2, own0, own1, consO_ok, rdl0, rdl1, consR_ok, q_seq, q_seqL, q_seqT, q_r1, q_r2, q_r21, q_en, q_en1, q_if0, q_if, q_if1, q_asg, q_asg1, nxR_ok, q_asgT, q_asgT1, q_asg2, q_asg21, setAll0, setAll1, setAllP0, setAllP1, q_set, q_set1, q_set2, q_set3, setC_ok, setR_ok, rd_obj, rdC_l, frzR_ok, frzC_ok, q_app1, q_app2, appC_ok, q_ext1, q_ext2, extC_ok, extD_ok, appD_ok, Nat.sub_zero, Int.zero_add, at0, at1, at2, at3, last_get, last_set, enum_len, ix0, ix1, ix2, b_mulL, b_mulR, b_mulLL, b_mulRR, bi_min2, bi_max2, comp_ints, Nat.reduceSub, Nat.sub_self, b_mod, c_neIN, c_neNN, c_eqNN, q_r11L, q_r22L, c_neB, c_neT2, c_eqT2, c_mem, nc0, nc1, Int.cast_ofNat_Int, take_set, List.take_length, List.length_map, b_div, b_divL, b_pow, b_powL, q_expr, q_expr1, q_ret, q_ret1, q_retN, q_pass, q_stop, q_ifs, q_ifs1, q_for, q_for1, q_ss0, q_ss, q_ssn, q_ssr, q_frz, q_app, q_ext, kFn_rt, kFn_nx, go_ok, go_bad, br_t, br_f, tru_bl, tru_int, tru_non, tru_lst, rd_d, retD_ok, opD_ok, b_add, b_sub, c_lt, c_le, c_gt, c_ge, c_eqI, c_neI, c_eqS, c_neS, i_lst, i_tup, bi_int, bi_intB, bi_lenL, bi_lenT, bi_abs, bind1, bindM, isK, pickAll, wipeE, leave_cut, q_tup1, q_lst1, dispR_ok, Nat.zero_le, Nat.reduceLeDiff, Nat.reduceAdd, Nat.reduceLT, Int.reduceLT, Int.reduceLE, Nat.reducePow, Int.reducePow, Int.reduceToNat, Int.reduceNeg, Int.reduceAdd, Nat.zero_add, Option.bind_some, Option.map_some, Option.bind, Option.map, List.getElem?_cons_zero, List.getElem?_cons_succ, List.set_cons_zero, List.set_cons_succ, List.map_cons, List.map_nil, List.cons_append, List.nil_append, List.length_cons, List.length_nil, List.replicate_succ, List.replicate_zero, decide_true, decide_false, eq_self, and_self, true_and, and_true, and_false, false_and, not_true_eq_false, not_false_eq_true, beq_self_eq_true, Bool.not_true, Bool.not_false, Bool.and_true, Bool.and_false, if_true, if_false]
            rfl
      · rintro fl s ⟨ρ, rfl, rfl, g1, g2, g3, g4, g5⟩
        obtain ⟨a0, a1, a2, a3, a4, a5, a6, a7, a8, a9, a10, a11, a12, rfl⟩ := env13 g1
        have g2' : a1 = some (.obj 0) := by simpa using g2
        have g3' : a7 = some (.d (.int m)) := by simpa using g3
        have g4' : a8 = some (.d (.int b)) := by simpa using g4
        subst g2' g3' g4'
        obtain ⟨r6, lap6, rest6, e6, r60, r61, k16, k17, k18⟩ := draw_ok 5 (st0 ns lap5 rest5 :: (t ++ [.dead])) 0 1000000000 lap5 rest5 ns rfl (by decide) (div_log (by decide) (by decide)) (by omega) (by omega) k15
        simp only [st0, List.set_cons_zero] at e6
        have hf : ∃ f : Int, f = 100000000000000000000 + r6 := ⟨_, rfl⟩
        obtain ⟨f, hf⟩ := hf
        have f0 : 0 ≤ f := by omega
        have cw := fun s => cut_ok 0 (m : Int) b f s (by omega) (by omega) b1 b2 f0
        have c1 := cut_ge (m := m) (w := f) (by omega) b1 b2 f0
        have c3 : (m : Int) ≤ cut m b f := by
          unfold cut
          rcases (show b = 2 ∨ b = 3 ∨ b = 4 by omega) with rfl | rfl | rfl <;> (split <;> omega)
        have i1 := fun s => inn_ok 0 (m : Int) b (cut m b f) s (by omega) (by omega) b1 b2 c1.1
        have i2 := fun s => inn_ok 0 (m : Int) b (cut m b f - 1) s (by omega) (by omega) b1 b2 (by omega)
        have c4 := cut_lt (m := m) (w := f) (j := cut m b f - 1) (by omega) b1 b2 f0 (by omega) (by omega)
        have i3 := fun s => inn_ok 0 (m : Int) b ((m : Int) + f) s (by omega) (by omega) b1 b2 (by omega)
        have e7 : inn m b ((m : Int) + f) = (m : Int) - 1 + b * (f + 1) := by
          unfold inn
          rw [if_neg (by omega), show (m : Int) + f - m + 1 = f + 1 by omega]
        have d0 : 0 ≤ b * (f + 1) := Int.mul_nonneg (by omega) (by omega)
        have d1 : b * (f + 1) ≤ 4 * 200000000000000000000 := Int.mul_le_mul b2 (by omega) (by omega) (by omega)
        obtain ⟨T, hT⟩ := repI (a := (m : Int) - 1 + b * (f + 1)) (by omega) (by omega)
        have n1 : ¬ inn m b (cut m b f) < f := by omega
        have n2 : ¬ f ≤ inn m b (cut m b f - 1) := by omega
        simp only [q_lit, q_var, varR_ok, q_bin, q_bin1, q_bin2, q_cmp, q_cmp1, q_cmp2, q_neg, q_neg1, q_isn, q_isn_non, q_isn_bl, q_isn_int, q_isn_str, q_isn_lst, q_isn_tup, q_and, q_or, q_and1, q_or1, q_and2, q_or2, q_kand, q_kor, q_not, q_not1, notR_ok, q_ite, q_ite1, q_tup, q_lst, q_new, q_new1, q_idx, q_idx1, q_idx2, ixR_ok, q_sli, q_sli1, q_sli2, q_sli3, sliR_scr, sliR_lst, q_onone, q_osome, q_os, q_call, q_callk, q_callk1, q_callk2, permR_ok, q_bi, q_bi1, biR_ok, q_isi, q_isi1, isiR_ok, q_lrg, q_lrg1, Int.toNat_natCast, q_comp, q_comp1, q_comp2, q_es0, q_es, q_es1, q_es2, own0, own1, consO_ok, rdl0, rdl1, consR_ok, q_seq, q_seqL, q_seqT, q_r1, q_r2, q_r21, q_en, q_en1, q_if0, q_if, q_if1, q_asg, q_asg1, nxR_ok, q_asgT, q_asgT1, q_asg2, q_asg21, setAll0, setAll1, setAllP0, setAllP1, q_set, q_set1, q_set2, q_set3, setC_ok, setR_ok, rd_obj, rdC_l, frzR_ok, frzC_ok, q_app1, q_app2, appC_ok, q_ext1, q_ext2, extC_ok, extD_ok, appD_ok, Nat.sub_zero, Int.zero_add, at0, at1, at2, at3, last_get, last_set, enum_len, ix0, ix1, ix2, b_mulL, b_mulR, b_mulLL, b_mulRR, bi_min2, bi_max2, comp_ints, Nat.reduceSub, Nat.sub_self, b_mod, c_neIN, c_neNN, c_eqNN, q_r11L, q_r22L, c_neB, c_neT2, c_eqT2, c_mem, nc0, nc1, Int.cast_ofNat_Int, take_set, List.take_length, List.length_map, b_div, b_divL, b_pow, b_powL, q_expr, q_expr1, q_ret, q_ret1, q_retN, q_pass, q_stop, q_ifs, q_ifs1, q_for, q_for1, q_ss0, q_ss, q_ssn, q_ssr, q_frz, q_app, q_ext, kFn_rt, kFn_nx, go_ok, go_bad, br_t, br_f, tru_bl, tru_int, tru_non, tru_lst, rd_d, retD_ok, opD_ok, b_add, b_sub, c_lt, c_le, c_gt, c_ge, c_eqI, c_neI, c_eqS, c_neS, i_lst, i_tup, bi_int, bi_intB, bi_lenL, bi_lenT, bi_abs, bind1, bindM, isK, pickAll, wipeE, leave_cut, q_tup1, q_lst1, dispR_ok, Nat.zero_le, Nat.reduceLeDiff, Nat.reduceAdd, Nat.reduceLT, Int.reduceLT, Int.reduceLE, Nat.reducePow, Int.reducePow, Int.reduceToNat, Int.reduceNeg, Int.reduceAdd, Nat.zero_add, Option.bind_some, Option.map_some, Option.bind, Option.map, List.getElem?_cons_zero, List.getElem?_cons_succ, List.set_cons_zero, List.set_cons_succ, List.map_cons, List.map_nil, List.cons_append, List.nil_append, List.length_cons, List.length_nil, List.replicate_succ, List.replicate_zero, decide_true, decide_false, eq_self, and_self, true_and, and_true, and_false, false_and, not_true_eq_false, not_false_eq_true, beq_self_eq_true, Bool.not_true, Bool.not_false, Bool.and_true, Bool.and_false, if_true, if_false, st0, e6, ← hf, cw, i1, i2, n1, n2, i3, e7, bN, bi_repr' hT]
        refine sat_ok ⟨lap6, rest6, t ++ [.dead], rfl, by omega, by omega, k18, rfl, rfl⟩
  · rintro fl s ⟨ρ, rfl, h⟩
    simp only [q_lit, q_var, varR_ok, q_bin, q_bin1, q_bin2, q_cmp, q_cmp1, q_cmp2, q_neg, q_neg1, q_isn, q_isn_non, q_isn_bl, q_isn_int, q_isn_str, q_isn_lst, q_isn_tup, q_and, q_or, q_and1, q_or1, q_and2, q_or2, q_kand, q_kor, q_not, q_not1, notR_ok, q_ite, q_ite1, q_tup, q_lst, q_new, q_new1, q_idx, q_idx1, q_idx2, ixR_ok, q_sli, q_sli1, q_sli2, q_sli3, sliR_scr, sliR_lst, q_onone, q_osome, q_os, q_call, q_callk, q_callk1, q_callk2, permR_ok, q_bi, q_bi1, biR_ok, q_isi, q_isi1, isiR_ok, q_lrg, q_lrg1, Int.toNat_natCast, q_comp, q_comp1, q_comp2, q_es0, q_es, q_es1, q_es2, own0, own1, consO_ok, rdl0, rdl1, consR_ok, q_seq, q_seqL, q_seqT, q_r1, q_r2, q_r21, q_en, q_en1, q_if0, q_if, q_if1, q_asg, q_asg1, nxR_ok, q_asgT, q_asgT1, q_asg2, q_asg21, setAll0, setAll1, setAllP0, setAllP1, q_set, q_set1, q_set2, q_set3, setC_ok, setR_ok, rd_obj, rdC_l, frzR_ok, frzC_ok, q_app1, q_app2, appC_ok, q_ext1, q_ext2, extC_ok, extD_ok, appD_ok, Nat.sub_zero, Int.zero_add, at0, at1, at2, at3, last_get, last_set, enum_len, ix0, ix1, ix2, b_mulL, b_mulR, b_mulLL, b_mulRR, bi_min2, bi_max2, comp_ints, Nat.reduceSub, Nat.sub_self, b_mod, c_neIN, c_neNN, c_eqNN, q_r11L, q_r22L, c_neB, c_neT2, c_eqT2, c_mem, nc0, nc1, Int.cast_ofNat_Int, take_set, List.take_length, List.length_map, b_div, b_divL, b_pow, b_powL, q_expr, q_expr1, q_ret, q_ret1, q_retN, q_pass, q_stop, q_ifs, q_ifs1, q_for, q_for1, q_ss0, q_ss, q_ssn, q_ssr, q_frz, q_app, q_ext, kFn_rt, kFn_nx, go_ok, go_bad, br_t, br_f, tru_bl, tru_int, tru_non, tru_lst, rd_d, retD_ok, opD_ok, b_add, b_sub, c_lt, c_le, c_gt, c_ge, c_eqI, c_neI, c_eqS, c_neS, i_lst, i_tup, bi_int, bi_intB, bi_lenL, bi_lenT, bi_abs, bind1, bindM, isK, pickAll, wipeE, leave_cut, q_tup1, q_lst1, dispR_ok, Nat.zero_le, Nat.reduceLeDiff, Nat.reduceAdd, Nat.reduceLT, Int.reduceLT, Int.reduceLE, Nat.reducePow, Int.reducePow, Int.reduceToNat, Int.reduceNeg, Int.reduceAdd, Nat.zero_add, Option.bind_some, Option.map_some, Option.bind, Option.map, List.getElem?_cons_zero, List.getElem?_cons_succ, List.set_cons_zero, List.set_cons_succ, List.map_cons, List.map_nil, List.cons_append, List.nil_append, List.length_cons, List.length_nil, List.replicate_succ, List.replicate_zero, decide_true, decide_false, eq_self, and_self, true_and, and_true, and_false, false_and, not_true_eq_false, not_false_eq_true, beq_self_eq_true, Bool.not_true, Bool.not_false, Bool.and_true, Bool.and_false, if_true, if_false]
    exact sat_ok rfl
  · rintro fl s rfl
    simp only [q_lit, q_var, varR_ok, q_bin, q_bin1, q_bin2, q_cmp, q_cmp1, q_cmp2, q_neg, q_neg1, q_isn, q_isn_non, q_isn_bl, q_isn_int, q_isn_str, q_isn_lst, q_isn_tup, q_and, q_or, q_and1, q_or1, q_and2, q_or2, q_kand, q_kor, q_not, q_not1, notR_ok, q_ite, q_ite1, q_tup, q_lst, q_new, q_new1, q_idx, q_idx1, q_idx2, ixR_ok, q_sli, q_sli1, q_sli2, q_sli3, sliR_scr, sliR_lst, q_onone, q_osome, q_os, q_call, q_callk, q_callk1, q_callk2, permR_ok, q_bi, q_bi1, biR_ok, q_isi, q_isi1, isiR_ok, q_lrg, q_lrg1, Int.toNat_natCast, q_comp, q_comp1, q_comp2, q_es0, q_es, q_es1, q_es2, own0, own1, consO_ok, rdl0, rdl1, consR_ok, q_seq, q_seqL, q_seqT, q_r1, q_r2, q_r21, q_en, q_en1, q_if0, q_if, q_if1, q_asg, q_asg1, nxR_ok, q_asgT, q_asgT1, q_asg2, q_asg21, setAll0, setAll1, setAllP0, setAllP1, q_set, q_set1, q_set2, q_set3, setC_ok, setR_ok, rd_obj, rdC_l, frzR_ok, frzC_ok, q_app1, q_app2, appC_ok, q_ext1, q_ext2, extC_ok, extD_ok, appD_ok, Nat.sub_zero, Int.zero_add, at0, at1, at2, at3, last_get, last_set, enum_len, ix0, ix1, ix2, b_mulL, b_mulR, b_mulLL, b_mulRR, bi_min2, bi_max2, comp_ints, Nat.reduceSub, Nat.sub_self, b_mod, c_neIN, c_neNN, c_eqNN, q_r11L, q_r22L, c_neB, c_neT2, c_eqT2, c_mem, nc0, nc1, Int.cast_ofNat_Int, take_set, List.take_length, List.length_map, b_div, b_divL, b_pow, b_powL, q_expr, q_expr1, q_ret, q_ret1, q_retN, q_pass, q_stop, q_ifs, q_ifs1, q_for, q_for1, q_ss0, q_ss, q_ssn, q_ssr, q_frz, q_app, q_ext, kFn_rt, kFn_nx, go_ok, go_bad, br_t, br_f, tru_bl, tru_int, tru_non, tru_lst, rd_d, retD_ok, opD_ok, b_add, b_sub, c_lt, c_le, c_gt, c_ge, c_eqI, c_neI, c_eqS, c_neS, i_lst, i_tup, bi_int, bi_intB, bi_lenL, bi_lenT, bi_abs, bind1, bindM, isK, pickAll, wipeE, leave_cut, q_tup1, q_lst1, dispR_ok, Nat.zero_le, Nat.reduceLeDiff, Nat.reduceAdd, Nat.reduceLT, Int.reduceLT, Int.reduceLE, Nat.reducePow, Int.reducePow, Int.reduceToNat, Int.reduceNeg, Int.reduceAdd, Nat.zero_add, Option.bind_some, Option.map_some, Option.bind, Option.map, List.getElem?_cons_zero, List.getElem?_cons_succ, List.set_cons_zero, List.set_cons_succ, List.map_cons, List.map_nil, List.cons_append, List.nil_append, List.length_cons, List.length_nil, List.replicate_succ, List.replicate_zero, decide_true, decide_false, eq_self, and_self, true_and, and_true, and_false, false_and, not_true_eq_false, not_false_eq_true, beq_self_eq_true, Bool.not_true, Bool.not_false, Bool.and_true, Bool.and_false, if_true, if_false]
    exact sat_ok rfl
end LAW

set_option linter.all false
set_option autoImplicit false
set_option maxRecDepth 100000
namespace LAW
open PySem PySem.Spec L2 PD
abbrev topS (j : Nat) : Stmt := PySem.Challenge.pw_backwardrow_k52_ticks_of_sped_rows.main.body.getD j (.Pass ⟨0, 0, 0, 0⟩)
def n_is_integer : Fn := { name := "is_integer", qual := "is_integer", st := topS 4, N := ["value"], ps := ["value"], g := g_is_integer, ways := [] }
def n_is_within : Fn := { name := "is_within", qual := "is_within", st := topS 5, N := ["value", "least", "most"], ps := ["value", "least", "most"], g := g_is_within, ways := [] }
def n_need_number : Fn := { name := "need_number", qual := "need_number", st := topS 6, N := ["value", "part", "least", "most"], ps := ["value", "part", "least", "most"], g := g_need_number, ways := [] }
def n_need_by : Fn := { name := "need_by", qual := "need_by", st := topS 11, N := ["by"], ps := ["by"], g := g_need_by, ways := [] }
def n_need_ticks : Fn := { name := "need_ticks", qual := "need_ticks", st := topS 12, N := ["many", "by", "tick"], ps := ["many", "by", "tick"], g := g_need_ticks, ways := [] }
def n_inner_tick : Fn := { name := "inner_tick", qual := "inner_tick", st := topS 13, N := ["many", "by", "tick"], ps := ["many", "by", "tick"], g := g_inner_tick, ways := [(0, ["tick", "by", "many"], [2, 1, 0])] }
def n_cut_tick : Fn := { name := "cut_tick", qual := "cut_tick", st := topS 14, N := ["many", "by", "tick"], ps := ["many", "by", "tick"], g := g_cut_tick, ways := [(0, ["tick", "by", "many"], [2, 1, 0])] }
def n__law_clock : Fn := { name := "_law_clock", qual := "_law_clock", st := topS 16, N := ["_law_script", "_law_cell"], ps := ["_law_script"], g := g__law_clock, ways := [] }
def n__law_tock : Fn := { name := "_law_tock", qual := "_law_tock", st := topS 17, N := ["_law_clock_here", "_law_many", "_law_lap", "_law_cell", "_law_mixed", "_law_rest"], ps := ["_law_clock_here", "_law_many"], g := g__law_tock, ways := [] }
def n__law_of : Fn := { name := "_law_of", qual := "_law_of", st := topS 18, N := ["_law_clock_here", "_law_some"], ps := ["_law_clock_here", "_law_some"], g := g__law_of, ways := [] }
def n_law : Fn := { name := "law", qual := "law", st := topS 19, N := ["_law_script", "_law_clock_here", "_law_turn", "_law_more", "_law_wish", "_law_far", "_law_at", "_law_many", "_law_by", "_law_stands", "_law_tick", "_law_due", "_law_its"], ps := ["_law_script"], g := g_law, ways := [] }
def tab : Tbl := { fns := [n_is_integer, n_is_within, n_need_number, n_need_by, n_need_ticks, n_inner_tick, n_cut_tick, n__law_clock, n__law_tock, n__law_of, n_law], free := ["abs", "bool", "enumerate", "int", "isinstance", "len", "list", "range", "repr"], consts := [("LEAST_BY", (.int 2)), ("MOST_BY", (.int 4)), ("MOST_MANY", (.int 200))] }
theorem p_is_integer : FnP n_is_integer where
  bind := fun _ _ _ _ _ _ us hl => match us, hl with | [_], _ => rfl
  way := fun q hq => nomatch hq
theorem p_is_within : FnP n_is_within where
  bind := fun _ _ _ _ _ _ us hl => match us, hl with | [_, _, _], _ => rfl
  way := fun q hq => nomatch hq
theorem p_need_number : FnP n_need_number where
  bind := fun _ _ _ _ _ _ us hl => match us, hl with | [_, _, _, _], _ => rfl
  way := fun q hq => nomatch hq
theorem p_need_by : FnP n_need_by where
  bind := fun _ _ _ _ _ _ us hl => match us, hl with | [_], _ => rfl
  way := fun q hq => nomatch hq
theorem p_need_ticks : FnP n_need_ticks where
  bind := fun _ _ _ _ _ _ us hl => match us, hl with | [_, _, _], _ => rfl
  way := fun q hq => nomatch hq
theorem p_inner_tick : FnP n_inner_tick where
  bind := fun _ _ _ _ _ _ us hl => match us, hl with | [_, _, _], _ => rfl
  way := by
    intro q hq
    simp only [n_inner_tick, List.mem_cons, List.not_mem_nil, or_false] at hq
    subst hq
    · exact fun _ _ _ _ _ _ us ws hu hw => match us, ws, hu, hw with | [], [_, _, _], _, _ => rfl
theorem p_cut_tick : FnP n_cut_tick where
  bind := fun _ _ _ _ _ _ us hl => match us, hl with | [_, _, _], _ => rfl
  way := by
    intro q hq
    simp only [n_cut_tick, List.mem_cons, List.not_mem_nil, or_false] at hq
    subst hq
    · exact fun _ _ _ _ _ _ us ws hu hw => match us, ws, hu, hw with | [], [_, _, _], _, _ => rfl
theorem p__law_clock : FnP n__law_clock where
  bind := fun _ _ _ _ _ _ us hl => match us, hl with | [_], _ => rfl
  way := fun q hq => nomatch hq
theorem p__law_tock : FnP n__law_tock where
  bind := fun _ _ _ _ _ _ us hl => match us, hl with | [_, _], _ => rfl
  way := fun q hq => nomatch hq
theorem p__law_of : FnP n__law_of where
  bind := fun _ _ _ _ _ _ us hl => match us, hl with | [_, _], _ => rfl
  way := fun q hq => nomatch hq
theorem p_law : FnP n_law where
  bind := fun _ _ _ _ _ _ us hl => match us, hl with | [_], _ => rfl
  way := fun q hq => nomatch hq
theorem all_p : ∀ fn ∈ tab.fns, FnP fn := by
  intro fn h
  simp only [tab, List.mem_cons, List.not_mem_nil, or_false] at h
  rcases h with rfl | rfl | rfl | rfl | rfl | rfl | rfl | rfl | rfl | rfl | rfl
  · exact p_is_integer
  · exact p_is_within
  · exact p_need_number
  · exact p_need_by
  · exact p_need_ticks
  · exact p_inner_tick
  · exact p_cut_tick
  · exact p__law_clock
  · exact p__law_tock
  · exact p__law_of
  · exact p_law
theorem tab_ok : chkT tab = true := by decide +kernel
theorem text_mk {K : PySem.W.Frag}
    {fa0 : Addr} {oc0 kV0 dc0 pm0 cd0 ct0 : Value} {od0 an0 : Option Addr} {sl0 : Array (Option Value)}
    (a0 : PySem.W.nsIn K mainGlobals "is_integer" = some (some (.ref fa0))) (l0 : K.lookup fa0 = some ⟨oc0, od0, .func (PySem.W.fnOf "is_integer" "is_integer" (defArgs (topS 4)) (defBody (topS 4)) (defScope (topS 4)) .none kV0 dc0 pm0 an0 cd0 ct0), sl0⟩) (c0 : PySem.W.codeIn K cd0 "is_integer" = true) (k0 : PySem.W.keepIn K (.ref fa0) = true)
    {fa1 : Addr} {oc1 kV1 dc1 pm1 cd1 ct1 : Value} {od1 an1 : Option Addr} {sl1 : Array (Option Value)}
    (a1 : PySem.W.nsIn K mainGlobals "is_within" = some (some (.ref fa1))) (l1 : K.lookup fa1 = some ⟨oc1, od1, .func (PySem.W.fnOf "is_within" "is_within" (defArgs (topS 5)) (defBody (topS 5)) (defScope (topS 5)) .none kV1 dc1 pm1 an1 cd1 ct1), sl1⟩) (c1 : PySem.W.codeIn K cd1 "is_within" = true) (k1 : PySem.W.keepIn K (.ref fa1) = true)
    {fa2 : Addr} {oc2 kV2 dc2 pm2 cd2 ct2 : Value} {od2 an2 : Option Addr} {sl2 : Array (Option Value)}
    (a2 : PySem.W.nsIn K mainGlobals "need_number" = some (some (.ref fa2))) (l2 : K.lookup fa2 = some ⟨oc2, od2, .func (PySem.W.fnOf "need_number" "need_number" (defArgs (topS 6)) (defBody (topS 6)) (defScope (topS 6)) .none kV2 dc2 pm2 an2 cd2 ct2), sl2⟩) (c2 : PySem.W.codeIn K cd2 "need_number" = true) (k2 : PySem.W.keepIn K (.ref fa2) = true)
    {fa3 : Addr} {oc3 kV3 dc3 pm3 cd3 ct3 : Value} {od3 an3 : Option Addr} {sl3 : Array (Option Value)}
    (a3 : PySem.W.nsIn K mainGlobals "need_by" = some (some (.ref fa3))) (l3 : K.lookup fa3 = some ⟨oc3, od3, .func (PySem.W.fnOf "need_by" "need_by" (defArgs (topS 11)) (defBody (topS 11)) (defScope (topS 11)) .none kV3 dc3 pm3 an3 cd3 ct3), sl3⟩) (c3 : PySem.W.codeIn K cd3 "need_by" = true) (k3 : PySem.W.keepIn K (.ref fa3) = true)
    {fa4 : Addr} {oc4 kV4 dc4 pm4 cd4 ct4 : Value} {od4 an4 : Option Addr} {sl4 : Array (Option Value)}
    (a4 : PySem.W.nsIn K mainGlobals "need_ticks" = some (some (.ref fa4))) (l4 : K.lookup fa4 = some ⟨oc4, od4, .func (PySem.W.fnOf "need_ticks" "need_ticks" (defArgs (topS 12)) (defBody (topS 12)) (defScope (topS 12)) .none kV4 dc4 pm4 an4 cd4 ct4), sl4⟩) (c4 : PySem.W.codeIn K cd4 "need_ticks" = true) (k4 : PySem.W.keepIn K (.ref fa4) = true)
    {fa5 : Addr} {oc5 kV5 dc5 pm5 cd5 ct5 : Value} {od5 an5 : Option Addr} {sl5 : Array (Option Value)}
    (a5 : PySem.W.nsIn K mainGlobals "inner_tick" = some (some (.ref fa5))) (l5 : K.lookup fa5 = some ⟨oc5, od5, .func (PySem.W.fnOf "inner_tick" "inner_tick" (defArgs (topS 13)) (defBody (topS 13)) (defScope (topS 13)) .none kV5 dc5 pm5 an5 cd5 ct5), sl5⟩) (c5 : PySem.W.codeIn K cd5 "inner_tick" = true) (k5 : PySem.W.keepIn K (.ref fa5) = true)
    {fa6 : Addr} {oc6 kV6 dc6 pm6 cd6 ct6 : Value} {od6 an6 : Option Addr} {sl6 : Array (Option Value)}
    (a6 : PySem.W.nsIn K mainGlobals "cut_tick" = some (some (.ref fa6))) (l6 : K.lookup fa6 = some ⟨oc6, od6, .func (PySem.W.fnOf "cut_tick" "cut_tick" (defArgs (topS 14)) (defBody (topS 14)) (defScope (topS 14)) .none kV6 dc6 pm6 an6 cd6 ct6), sl6⟩) (c6 : PySem.W.codeIn K cd6 "cut_tick" = true) (k6 : PySem.W.keepIn K (.ref fa6) = true)
    {fa7 : Addr} {oc7 kV7 dc7 pm7 cd7 ct7 : Value} {od7 an7 : Option Addr} {sl7 : Array (Option Value)}
    (a7 : PySem.W.nsIn K mainGlobals "_law_clock" = some (some (.ref fa7))) (l7 : K.lookup fa7 = some ⟨oc7, od7, .func (PySem.W.fnOf "_law_clock" "_law_clock" (defArgs (topS 16)) (defBody (topS 16)) (defScope (topS 16)) .none kV7 dc7 pm7 an7 cd7 ct7), sl7⟩) (c7 : PySem.W.codeIn K cd7 "_law_clock" = true) (k7 : PySem.W.keepIn K (.ref fa7) = true)
    {fa8 : Addr} {oc8 kV8 dc8 pm8 cd8 ct8 : Value} {od8 an8 : Option Addr} {sl8 : Array (Option Value)}
    (a8 : PySem.W.nsIn K mainGlobals "_law_tock" = some (some (.ref fa8))) (l8 : K.lookup fa8 = some ⟨oc8, od8, .func (PySem.W.fnOf "_law_tock" "_law_tock" (defArgs (topS 17)) (defBody (topS 17)) (defScope (topS 17)) .none kV8 dc8 pm8 an8 cd8 ct8), sl8⟩) (c8 : PySem.W.codeIn K cd8 "_law_tock" = true) (k8 : PySem.W.keepIn K (.ref fa8) = true)
    {fa9 : Addr} {oc9 kV9 dc9 pm9 cd9 ct9 : Value} {od9 an9 : Option Addr} {sl9 : Array (Option Value)}
    (a9 : PySem.W.nsIn K mainGlobals "_law_of" = some (some (.ref fa9))) (l9 : K.lookup fa9 = some ⟨oc9, od9, .func (PySem.W.fnOf "_law_of" "_law_of" (defArgs (topS 18)) (defBody (topS 18)) (defScope (topS 18)) .none kV9 dc9 pm9 an9 cd9 ct9), sl9⟩) (c9 : PySem.W.codeIn K cd9 "_law_of" = true) (k9 : PySem.W.keepIn K (.ref fa9) = true)
    {fa10 : Addr} {oc10 kV10 dc10 pm10 cd10 ct10 : Value} {od10 an10 : Option Addr} {sl10 : Array (Option Value)}
    (a10 : PySem.W.nsIn K mainGlobals "law" = some (some (.ref fa10))) (l10 : K.lookup fa10 = some ⟨oc10, od10, .func (PySem.W.fnOf "law" "law" (defArgs (topS 19)) (defBody (topS 19)) (defScope (topS 19)) .none kV10 dc10 pm10 an10 cd10 ct10), sl10⟩) (c10 : PySem.W.codeIn K cd10 "law" = true) (k10 : PySem.W.keepIn K (.ref fa10) = true)
    (z0 : PySem.W.nsIn K mainGlobals "abs" = some none)
    (z1 : PySem.W.nsIn K mainGlobals "bool" = some none)
    (z2 : PySem.W.nsIn K mainGlobals "enumerate" = some none)
    (z3 : PySem.W.nsIn K mainGlobals "int" = some none)
    (z4 : PySem.W.nsIn K mainGlobals "isinstance" = some none)
    (z5 : PySem.W.nsIn K mainGlobals "len" = some none)
    (z6 : PySem.W.nsIn K mainGlobals "list" = some none)
    (z7 : PySem.W.nsIn K mainGlobals "range" = some none)
    (z8 : PySem.W.nsIn K mainGlobals "repr" = some none)
    {ct_0 : Tok} (kst0 : PySem.W.nsIn K mainGlobals "LEAST_BY" = some (some (.int 2 ct_0)))
    {ct_1 : Tok} (kst1 : PySem.W.nsIn K mainGlobals "MOST_BY" = some (some (.int 4 ct_1)))
    {ct_2 : Tok} (kst2 : PySem.W.nsIn K mainGlobals "MOST_MANY" = some (some (.int 200 ct_2))) : TextAt K tab := by
  refine ⟨fun n hn => ?_, fun q hq => ?_, fun fn hf => ?_⟩
  · simp only [tab, List.mem_cons, List.not_mem_nil, or_false] at hn
    rcases hn with rfl | rfl | rfl | rfl | rfl | rfl | rfl | rfl | rfl
    · exact z0
    · exact z1
    · exact z2
    · exact z3
    · exact z4
    · exact z5
    · exact z6
    · exact z7
    · exact z8
  · simp only [tab, List.mem_cons, List.not_mem_nil, or_false] at hq
    rcases hq with rfl | rfl | rfl
    · exact constI kst0
    · exact constI kst1
    · exact constI kst2
  · simp only [tab, List.mem_cons, List.not_mem_nil, or_false] at hf
    rcases hf with rfl | rfl | rfl | rfl | rfl | rfl | rfl | rfl | rfl | rfl | rfl
    · exact fnAt (fn := n_is_integer) a0 l0 c0 k0
    · exact fnAt (fn := n_is_within) a1 l1 c1 k1
    · exact fnAt (fn := n_need_number) a2 l2 c2 k2
    · exact fnAt (fn := n_need_by) a3 l3 c3 k3
    · exact fnAt (fn := n_need_ticks) a4 l4 c4 k4
    · exact fnAt (fn := n_inner_tick) a5 l5 c5 k5
    · exact fnAt (fn := n_cut_tick) a6 l6 c6 k6
    · exact fnAt (fn := n__law_clock) a7 l7 c7 k7
    · exact fnAt (fn := n__law_tock) a8 l8 c8 k8
    · exact fnAt (fn := n__law_of) a9 l9 c9 k9
    · exact fnAt (fn := n_law) a10 l10 c10 k10
end LAW

set_option linter.all false
set_option autoImplicit false
set_option maxRecDepth 100000
namespace LAW
open PD PySem
abbrev fuel : Nat := 7
theorem tab_F : tab.F = FF := by
  funext f
  show (tab.fns[f]?).map (·.g) = Fs[f]?
  rw [← List.getElem?_map]
  rfl
theorem law_yes (ns : List Int) (h : ns.length ≤ 63) : Yes (callN tab.F fuel 10 [.scr ns] []) := by
  rw [tab_F]
  obtain ⟨a, s, e, rfl⟩ := sat_eq (law_yes0 ns h)
  exact ⟨s, e⟩
end LAW

set_option maxRecDepth 100000
open PySem PySem.W PyProof.Rows
set_option maxHeartbeats 0 in
theorem PySem.Challenge.cw_backwardrow_k52_ticks_of_sped_rows_holds : PySem.Challenge.rw_backwardrow_k52_ticks_of_sped_rows.Holds := by
  w_on; o_law; k_head; (case hw => w_witness2)
  k_fill
  refine PD.walkG (l := PySem.Challenge.rw_backwardrow_k52_ticks_of_sped_rows) (n := 63) (k := LAW.fuel) (f := 10) (x := "_law_script") (T := LAW.tab) (fn := LAW.n_law) rfl (by decide) rfl ⟨rfl, by decide, by decide⟩ LAW.tab_ok LAW.all_p rfl rfl rfl (fun w h Y => PySem.W.kIn_of Y) ?F LAW.law_yes
  case F =>
    intro w
    refine' LAW.text_mk ?a0 ?l0 ?c0 ?k0 ?a1 ?l1 ?c1 ?k1 ?a2 ?l2 ?c2 ?k2 ?a3 ?l3 ?c3 ?k3 ?a4 ?l4 ?c4 ?k4 ?a5 ?l5 ?c5 ?k5 ?a6 ?l6 ?c6 ?k6 ?a7 ?l7 ?c7 ?k7 ?a8 ?l8 ?c8 ?k8 ?a9 ?l9 ?c9 ?k9 ?a10 ?l10 ?c10 ?k10 ?z0 ?z1 ?z2 ?z3 ?z4 ?z5 ?z6 ?z7 ?z8 ?kst0 ?kst1 ?kst2
    (case a0 => k_is); (case l0 => k_is); (case c0 => k_is); (case k0 => k_is); (case a1 => k_is); (case l1 => k_is); (case c1 => k_is); (case k1 => k_is); (case a2 => k_is); (case l2 => k_is); (case c2 => k_is); (case k2 => k_is); (case a3 => k_is); (case l3 => k_is); (case c3 => k_is); (case k3 => k_is); (case a4 => k_is); (case l4 => k_is); (case c4 => k_is); (case k4 => k_is); (case a5 => k_is); (case l5 => k_is); (case c5 => k_is); (case k5 => k_is); (case a6 => k_is); (case l6 => k_is); (case c6 => k_is); (case k6 => k_is); (case a7 => k_is); (case l7 => k_is); (case c7 => k_is); (case k7 => k_is); (case a8 => k_is); (case l8 => k_is); (case c8 => k_is); (case k8 => k_is); (case a9 => k_is); (case l9 => k_is); (case c9 => k_is); (case k9 => k_is); (case a10 => k_is); (case l10 => k_is); (case c10 => k_is); (case k10 => k_is); (case z0 => k_is); (case z1 => k_is); (case z2 => k_is); (case z3 => k_is); (case z4 => k_is); (case z5 => k_is); (case z6 => k_is); (case z7 => k_is); (case z8 => k_is); (case kst0 => k_is); (case kst1 => k_is); (case kst2 => k_is)

