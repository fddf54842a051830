import PyProof.Rows.All
import Wide.All
import OpenK.AllK
import Wide.FinOn
import HandS.ForMost
import HandS.Exc
import HandS.ExcSuper
import HandS.Wide
import HandS.Deep
import HandS.Flow
import HandS.IsInst
import HandS.Defaults
import HandS.HeadEnd
import HandS.HeadHook1
import HandS.HeadHook2
import PyProof.ReprNest
import HandS.RaiseMore
import HandS.TupMul
import HandS.TupAny
import HandS.Style
import HandS.Conv
import HandS.Star
import KE.DataMinMax
import HandS.WordsExc
import PyProof.ReprLen
import PyProof.P3Eq
import PySem.Challenge.RW_backwardrow_k03_words_in_their_order
set_option Elab.async false
set_option linter.all false
set_option maxRecDepth 100000
/-! PdA: a small language of pure steps, beside the model: its data, its syntax, its meaning. -/
namespace PD
open PySem

/-- data: what a value is, all the way in -/
inductive D where
  | non | bl (b : Bool) | int (i : Int) | str (s : Str) | lst (l : List D) | tup (l : List D)
  /-- a dict that is changed no more: its keys, its values; an instance that is changed no more: its class, the names of its fields, their values -/
  | dct (ks vs : List D) | ins (c : String) (ns : List String) (vs : List D)
/-- a value of a step: data, or the place of a list that may be changed -/
inductive PV where
  | d (x : D) | obj (k : Nat) | scr (ns : List Int)
/-- a list that may be changed; dead: nobody changes it any more -/
inductive Cell where
  | lst (l : List D) | ins (c : String) (ns : List String) (vs : List D) | dead
abbrev CS := List Cell
/-- what a step comes to -/
inductive R (α : Type) where
  | ok (a : α) (s : CS) | exc (c : String) (ns : List String) (vs : List D) (s : CS) | bad
@[simp] def R.bind {α β : Type} : R α → (α → CS → R β) → R β
  | .ok a s, f => f a s
  | .exc c ns vs s, _ => .exc c ns vs s
  | .bad, _ => .bad
/-- where nothing may be raised -/
def noX {α : Type} : R α → R α
  | .ok a s => .ok a s
  | _ => .bad
abbrev Env := List (Option PV)

mutual
def D.toP : D → PyData
  | .non => .none
  | .bl b => .bool b
  | .int i => .int i
  | .str s => .str s
  | .lst l => .list (D.toPs l)
  | .tup l => .tuple (D.toPs l)
  | .dct ks vs => .dict ((D.toPs ks).zip (D.toPs vs))
  | .ins _ _ _ => .dict []
def D.toPs : List D → List PyData
  | [] => []
  | x :: r => D.toP x :: D.toPs r
end
mutual
/-- neither dict nor instance within -/
def D.plain : D → Bool
  | .non => true
  | .bl _ => true
  | .int _ => true
  | .str _ => true
  | .lst l => D.plains l
  | .tup l => D.plains l
  | .dct _ _ => false
  | .ins _ _ _ => false
def D.plains : List D → Bool
  | [] => true
  | x :: r => D.plain x && D.plains r
end
mutual
/-- no instance within -/
def D.noIns : D → Bool
  | .non => true
  | .bl _ => true
  | .int _ => true
  | .str _ => true
  | .lst l => D.noInss l
  | .tup l => D.noInss l
  | .dct ks vs => D.noInss ks && D.noInss vs
  | .ins _ _ _ => false
def D.noInss : List D → Bool
  | [] => true
  | x :: r => D.noIns x && D.noInss r
end

/-- the data of a value as it stands -/
def PV.rd : PV → CS → Option D
  | .d x, _ => some x
  | .obj k, s => match s[k]? with
    | some (.lst l) => some (.lst l)
    | some (.ins c ns vs) => some (.ins c ns vs)
    | _ => none
  | .scr _, _ => none

/-- whether it is None -/
def isNone : PV → CS → Option Bool
  | .d .non, _ => some true
  | .d _, _ => some false
  | .obj k, s => match s[k]? with
    | some .dead => none
    | some _ => some false
    | none => none
  | .scr _, _ => some false

/-! ### operators, by data -/
inductive BO where | add | sub | mul | fdiv | mod | pow
inductive CO where | eq | ne | lt | le | gt | ge | mem | nmem | isb | nisb

def binop : BO → D → D → Option D
  | .add, .int a, .int b => some (.int (a + b))
  | .add, .str a, .str b => if a.length + b.length ≤ sizeLine then some (.str (a ++ b)) else none
  | .add, .lst a, .lst b => if a.length + b.length ≤ sizeLine then some (.lst (a ++ b)) else none
  | .add, .tup a, .tup b => if a.length + b.length ≤ sizeLine then some (.tup (a ++ b)) else none
  | .sub, .int a, .int b => some (.int (a - b))
  | .mul, .int a, .int b => if a.natAbs < 2 ^ 64 ∨ b.natAbs < 2 ^ 64 ∨ a.natAbs.log2 + b.natAbs.log2 < 1000000 then some (.int (a * b)) else none
  | .mul, .lst a, .int n => if -(2 ^ 63) ≤ n ∧ n < 2 ^ 63 ∧ a.length * n.toNat ≤ sizeLine then some (.lst (List.replicate n.toNat a).flatten) else none
  | .mul, .tup a, .int n => if a ≠ [] ∧ -1000 ≤ n ∧ n ≤ 1000 ∧ a.length ≤ 1000 then some (.tup (List.replicate n.toNat a).flatten) else none
  | .fdiv, .int a, .int b => if 0 < b ∧ b.natAbs.log2 < 9000 then some (.int (a / b)) else none
  | .mod, .int a, .int b => if 0 < b then some (.int (a % b)) else none
  | .pow, .int a, .int b => if 0 ≤ b ∧ b ≤ 1000000 ∧ a.natAbs < 2 ^ 64 then some (.int (a ^ b.toNat)) else none
  | _, _, _ => none
def strEq : D → D → Option Bool
  | .str x, .str y => some (x == y)
  | _, _ => none
def eqS (a b : D) : Option Bool := if SeqAt.shaped a.toP && SeqAt.shaped b.toP then some (PyData.eqv a.toP b.toP) else none
def eqD (a b : D) : Option Bool := (strEq a b).or (eqS a b)
def memD (a : D) : D → Option Bool
  | .lst l => if SeqAt.shaped a.toP && SeqAt.shaped (D.lst l).toP then some (l.any fun z => PyData.eqv z.toP a.toP) else none
  | _ => none
def cmpop : CO → D → D → Option D
  | .eq, a, b => (eqD a b).map .bl
  | .ne, a, b => (eqD a b).map fun c => .bl !c
  | .lt, .int a, .int b => some (.bl (decide (a < b)))
  | .le, .int a, .int b => some (.bl (decide (a ≤ b)))
  | .gt, .int a, .int b => some (.bl (decide (b < a)))
  | .ge, .int a, .int b => some (.bl (decide (b ≤ a)))
  | .mem, a, b => (memD a b).map .bl
  | .nmem, a, b => (memD a b).map fun c => .bl !c
  | .isb, .bl a, .bl b => some (.bl (decide (a = b)))
  | .nisb, .bl a, .bl b => some (.bl (!decide (a = b)))
  | _, _, _ => none
def truth : D → Option Bool
  | .non => some false
  | .bl b => some b
  | .int i => some (i != 0)
  | .str s => if s.length ≤ sizeLine then some (s.length != 0) else none
  | .lst l => some (!l.isEmpty)
  | .tup l => some (!l.isEmpty)
  | .dct _ _ => none
  | .ins _ _ _ => none
def ixD : D → D → Option D
  | .lst l, .int i => L2.atI l i
  | .tup l, .int i => L2.atI l i
  | _, _ => none
def cutL {α : Type} (l : List α) (lo hi : Option Int) : List α := (l.drop (HT.sIx l.length 0 lo)).take (HT.sIx l.length l.length hi - HT.sIx l.length 0 lo)
def sliD : D → Option Int → Option Int → Option D
  | .lst l, lo, hi => some (.lst (cutL l lo hi))
  | _, _, _ => none

/-! ### built-ins, by data -/
inductive BI where | len | int | abs | repr | min | max | list | tuple | all | any | str

/-- the text of data -/
def reprD (x : D) : Option Str :=
  if x.plain && x.toP.showable && decide (x.toP.shown.length ≤ sizeLine) && decide (x.toP.depth ≤ 60) then some x.toP.shown else none
def intsOf : List D → Option (List Int)
  | [] => some []
  | .int i :: r => (intsOf r).map (i :: ·)
  | _ :: _ => none
def blsOf : List D → Option (List Bool)
  | [] => some []
  | .bl b :: r => (blsOf r).map (b :: ·)
  | _ :: _ => none
def bestI (f : Int → Int → Int) (l : List D) : Option D := match intsOf l with
  | some (x :: r) => some (.int (r.foldl f x))
  | _ => none
def bi : BI → List D → Option D
  | .len, [.lst l] => some (.int l.length)
  | .len, [.tup l] => some (.int l.length)
  | .len, [.str z] => if z.length ≤ sizeLine then some (.int z.length) else none
  | .int, [.int i] => some (.int i)
  | .int, [.bl b] => some (.int (if b then 1 else 0))
  | .abs, [.int i] => some (.int (if i < 0 then -i else i))
  | .repr, [x] => (reprD x).map .str
  | .min, [.tup l] => bestI min l
  | .min, [.lst l] => bestI min l
  | .max, [.tup l] => bestI max l
  | .max, [.lst l] => bestI max l
  | .min, [.int a, .int b] => some (.int (if b < a then b else a))
  | .max, [.int a, .int b] => some (.int (if b > a then b else a))
  | .str, [.int i] => if i.natAbs.log2 < 1920 then some (.str (toString i)) else none
  | .str, [.str z] => some (.str z)
  | .all, [.lst l] => (blsOf l).map fun bs => .bl (bs.all id)
  | .any, [.lst l] => (blsOf l).map fun bs => .bl (bs.any id)
  | .list, [.lst l] => some (.lst l)
  | .list, [.tup l] => some (.lst l)
  | .tuple, [.lst l] => some (.tup l)
  | .tuple, [.tup l] => some (.tup l)
  | _, _ => none
/-- built-in kinds, for isinstance -/
inductive TK where | int | bool | str | list | tuple | dict
def isK : TK → D → Bool
  | .int, .int _ => true
  | .int, .bl _ => true
  | .bool, .bl _ => true
  | .str, .str _ => true
  | .list, .lst _ => true
  | .tuple, .tup _ => true
  | .dict, .dct _ _ => true
  | _, _ => false

/-! ### the syntax -/
mutual
inductive E where
  | lit (c : D) | var (i : Nat)
  | bin (o : BO) (a b : E) | neg (a : E) | cmp (o : CO) (a b : E) | isn (n : Bool) (a : E)
  | and (es : Es) | or (es : Es) | not (a : E) | ite (c a b : E)
  | tup (es : Es) | lst (es : Es) | new (e : E)
  | idx (a i : E) | sli (a : E) (lo hi : Eo)
  | call (f : Nat) (es : Es) | callk (f : Nat) (perm : List Nat) (es ks : Es) (ds : List D) | bi (b : BI) (es : Es) | isi (a : E) (k : TK) | isiT (a : E) (ks : List TK)
  | chain (o1 o2 : CO) (a b c : E) | slt (a : E) (lo hi : Eo) | rev (a : E) | revT (a : E)
  | lrg (e : E)
  | comp (e : E) (tg : List Nat) (many : Bool) (it : It) (ifs : Es) (own : List Nat)
  | fld (a : E) (f : String) | meth (m : String) (tab : List (String × Nat)) (a : E) (es : Es) | mk (c : String) (f : Nat) (es : Es) | mkM (c : String) (f : Nat) (es : Es) | isc (a : E) (t : String) (yes no : List String)
  | methk (m : String) (tab : List (String × Nat)) (perm : List Nat) (a : E) (es ks : Es) (ds : List D) | mkk (c : String) (f : Nat) (perm : List Nat) (es ks : Es) (ds : List D)
  | comp2 (e : E) (tg : List Nat) (many : Bool) (it : It) (ifs : Es) (tg1 : List Nat) (many1 : Bool) (it1 : It) (ifs1 : Es) (vs1 : List Nat) (own : List Nat)
inductive Es where
  | nil | cons (e : E) (es : Es) | spl (e : E) (es : Es)
inductive Eo where
  | none | some (e : E)
inductive It where
  | seq (e : E) | rng1 (e : E) | rng2 (a b : E) | enum (e : E)
end
mutual
inductive S where
  | asg (i : Nat) (e : E) | asgT (is : List Nat) (e : E) | asg2 (is : List Nat) (es : Es) | setI (o i v : E) | setF (cs : List String) (o : E) (f : String) (v : E) | expr (e : E) | app (o v : E) | ext (o v : E) | frz (i : Nat)
  | ret (e : E) | retN | ifs (c : E) (a b : Ss) | for (tg : List Nat) (many : Bool) (it : It) (b : Ss) | whl (n : Nat) (c : E) (b : Ss) | aug (i : Nat) (o : BO) (e : E) | pass | stop
inductive Ss where
  | nil | cons (s : S) (ss : Ss)
end

/-! ### the meaning -/
structure Cl where
  call : Nat → List PV → CS → R PV

def lift {α : Type} (o : Option α) (s : CS) : R α := match o with
  | some x => .ok x s
  | none => .bad
def ownAll : List PV → Option (List D)
  | [] => some []
  | .d x :: r => (ownAll r).map (x :: ·)
  | _ :: _ => none
def rdAll (s : CS) : List PV → Option (List D)
  | [] => some []
  | x :: r => (x.rd s).bind fun d => (rdAll s r).map (d :: ·)
def pickAll {α : Type} (xs : List α) : List Nat → Option (List α)
  | [] => some []
  | i :: r => xs[i]?.bind fun x => (pickAll xs r).map (x :: ·)
def setAll : Env → List Nat → List D → Option Env
  | ρ, [], [] => some ρ
  | ρ, i :: is, x :: xs => setAll (ρ.set i (some (.d x))) is xs
  | _, _, _ => none
def setAllP : Env → List Nat → List PV → Option Env
  | ρ, [], [] => some ρ
  | ρ, i :: is, x :: xs => setAllP (ρ.set i (some x)) is xs
  | _, _, _ => none
def bindT (many : Bool) (tg : List Nat) (x : D) (ρ : Env) : Option Env := match many, tg, x with
  | false, [i], x => some (ρ.set i (some (.d x)))
  | true, is, .tup l => setAll ρ is l
  | _, _, _ => none
def wipeE (ρ : Env) : List Nat → Env
  | [] => ρ
  | v :: vs => (wipeE ρ vs).set v none
/-- a list made item by item -/
def compGo (f : Env → CS → R PV) (t : Env → CS → R Bool) (many : Bool) (tg : List Nat) (ρ : Env) : List D → List D → CS → R (List D)
  | [], acc, s => .ok acc s
  | x :: xs, acc, s => match bindT many tg x ρ with
    | none => .bad
    | some ρ' => (t ρ' s).bind fun b s1 => if b then
        (f ρ' s1).bind fun v s2 => match v with
          | .d y => if acc.length < sizeLine then compGo f t many tg ρ xs (acc ++ [y]) s2 else .bad
          | _ => .bad
      else compGo f t many tg ρ xs acc s1
/-- of two clauses -/
def comp2Go (t : Env → CS → R Bool) (it1 : Env → CS → R (List D)) (inner : Env → List D → List D → CS → R (List D)) (many : Bool) (tg : List Nat) (ρ : Env) : List D → List D → CS → R (List D)
  | [], acc, s => .ok acc s
  | x :: xs, acc, s => match bindT many tg x ρ with
    | none => .bad
    | some ρ' => (t ρ' s).bind fun b s1 => if b then
        (it1 ρ' s1).bind fun ds s2 => (inner ρ' ds acc s2).bind fun acc' s3 => comp2Go t it1 inner many tg ρ xs acc' s3
      else comp2Go t it1 inner many tg ρ xs acc s1
/-- what follows a statement -/
inductive Fl where
  | nx (ρ : Env) | rt (v : PV)
def forGo (f : Env → CS → R Fl) (many : Bool) (tg : List Nat) : List D → Env → CS → R Fl
  | [], ρ, s => .ok (.nx ρ) s
  | x :: xs, ρ, s => match bindT many tg x ρ with
    | none => .bad
    | some ρ' => (f ρ' s).bind fun fl s1 => match fl with
      | .nx ρ2 => forGo f many tg xs ρ2 s1
      | .rt v => .ok (.rt v) s1
/-- at most n turns -/
def whlGo (t : Env → CS → R PV) (f : Env → CS → R Fl) : Nat → Env → CS → R Fl
  | 0, _, _ => .bad
  | n + 1, ρ, s => (t ρ s).bind fun x s1 => match (x.rd s1).bind truth with
    | some true => (f ρ s1).bind fun fl s2 => match fl with
      | .nx ρ2 => whlGo t f n ρ2 s2
      | .rt v => .ok (.rt v) s2
    | some false => .ok (.nx ρ) s1
    | none => .bad
def augD (o : BO) (a : Int) (y : PV) : Option Int := match o, y with
  | .add, .d (.int b) => some (a + b)
  | .sub, .d (.int b) => some (a - b)
  | _, _ => none
/-- a field of an instance -/
def fldN (f : String) : List String → List D → Option D
  | n :: ns, v :: vs => if n = f then some v else fldN f ns vs
  | _, _ => none
/-- a field is stored: its names, its values -/
def putN (f : String) (y : D) : List String → List D → List String × List D
  | n :: ns, v :: vs => if n = f then (n :: ns, y :: vs) else let r := putN f y ns vs; (n :: r.1, v :: r.2)
  | _, _ => ([f], [y])
def tabAt (c : String) : List (String × Nat) → Option Nat
  | [] => none
  | (k, f) :: r => if k = c then some f else tabAt c r
def iscD (yes no : List String) : D → Option Bool
  | .ins c _ _ => if c ∈ yes then some true else if c ∈ no then some false else none
  | _ => some false
def rngItems (lo : Int) (n : Nat) : List D := (List.range n).map fun (i : Nat) => D.int (lo + (i : Int))
def smallI (i : Int) : Bool := decide (-(2 ^ 62) ≤ i ∧ i < 2 ^ 62)
def enumItems (l : List D) : List D := l.zipIdx.map fun p => D.tup [.int (p.2 : Int), p.1]

mutual
def evE (C : Cl) : E → Env → CS → R PV
  | .lit c, _, s => .ok (.d c) s
  | .var i, ρ, s => match ρ[i]? with
    | some (some v) => .ok v s
    | _ => .bad
  | .bin o a b, ρ, s => (evE C a ρ s).bind fun x s1 => (evE C b ρ s1).bind fun y s2 => lift (match x.rd s2, y.rd s2 with
    | some x, some y => (binop o x y).map PV.d
    | _, _ => none) s2
  | .neg a, ρ, s => (evE C a ρ s).bind fun x s1 => match x with
    | .d (.int i) => .ok (.d (.int (-i))) s1
    | _ => .bad
  | .cmp o a b, ρ, s => (evE C a ρ s).bind fun x s1 => (evE C b ρ s1).bind fun y s2 => lift (match x.rd s2, y.rd s2 with
    | some x, some y => (cmpop o x y).map PV.d
    | _, _ => none) s2
  | .isn n a, ρ, s => (evE C a ρ s).bind fun x s1 => lift ((isNone x s1).map fun b => PV.d (.bl (b != n))) s1
  | .and es, ρ, s => evAnd C es ρ s
  | .or es, ρ, s => evOr C es ρ s
  | .not a, ρ, s => (evE C a ρ s).bind fun x s1 => lift ((x.rd s1).bind fun x => (truth x).map fun b => PV.d (.bl !b)) s1
  | .ite c a b, ρ, s => (evE C c ρ s).bind fun x s1 => match (x.rd s1).bind truth with
    | some true => evE C a ρ s1
    | some false => evE C b ρ s1
    | none => .bad
  | .tup es, ρ, s => (evEs C es ρ s).bind fun xs s1 => lift (if xs.length ≤ sizeLine then (ownAll xs).map fun l => PV.d (.tup l) else none) s1
  | .lst es, ρ, s => (evEs C es ρ s).bind fun xs s1 => lift (if xs.length ≤ sizeLine then (ownAll xs).map fun l => PV.d (.lst l) else none) s1
  | .new e, ρ, s => (evE C e ρ s).bind fun x s1 => match x with
    | .d (.lst l) => .ok (.obj s1.length) (s1 ++ [.lst l])
    | _ => .bad
  | .idx a i, ρ, s => (evE C a ρ s).bind fun x s1 => (evE C i ρ s1).bind fun y s2 => lift (match x.rd s2, y with
    | some x, .d y => (ixD x y).map PV.d
    | _, _ => none) s2
  | .sli a lo hi, ρ, s => (evE C a ρ s).bind fun x s1 => (evEo C lo ρ s1).bind fun l s2 => (evEo C hi ρ s2).bind fun h s3 => lift (match x with
    | .scr ns => some (PV.d (.lst ((cutL ns l h).map D.int)))
    | x => (x.rd s3).bind fun x => (sliD x l h).map PV.d) s3
  | .rev a, ρ, s => (evE C a ρ s).bind fun x s1 => lift (match x.rd s1 with
    | some (.lst l) => some (PV.d (.lst l.reverse))
    | _ => none) s1
  | .revT a, ρ, s => (evE C a ρ s).bind fun x s1 => match x with
    | .d (.tup l) => .ok (.d (.tup l.reverse)) s1
    | _ => .bad
  | .slt a lo hi, ρ, s => (evE C a ρ s).bind fun x s1 => (evEo C lo ρ s1).bind fun l s2 => (evEo C hi ρ s2).bind fun h s3 => match x with
    | .d (.tup xs) => .ok (.d (.tup (cutL xs l h))) s3
    | _ => .bad
  | .call f es, ρ, s => (evEs C es ρ s).bind fun xs s1 => C.call f xs s1
  | .callk f perm es ks ds, ρ, s => (evEs C es ρ s).bind fun xs s1 => (evEs C ks ρ s1).bind fun zs s2 => match pickAll (xs ++ zs ++ ds.map PV.d) perm with
    | some ys => C.call f ys s2
    | none => .bad
  | .fld a f, ρ, s => (evE C a ρ s).bind fun x s1 => lift (match x.rd s1 with
    | some (.ins _ ns vs) => (fldN f ns vs).map PV.d
    | _ => none) s1
  | .meth m tab a es, ρ, s => (evE C a ρ s).bind fun x s1 => match x.rd s1 with
    | some (.ins c ns _) => if m ∈ ns then .bad else match tabAt c tab with
      | some f => (evEs C es ρ s1).bind fun xs s2 => C.call f (x :: xs) s2
      | none => .bad
    | _ => .bad
  | .mk c f es, ρ, s => (evEs C es ρ s).bind fun xs s1 => (C.call f (.obj s1.length :: xs) (s1 ++ [.ins c [] []])).bind fun r s2 => match r, s2[s1.length]? with
    | .d .non, some (.ins c' ns vs) => .ok (.d (.ins c' ns vs)) (s2.take s1.length)
    | _, _ => .bad
  | .methk m tab perm a es ks ds, ρ, s => (evE C a ρ s).bind fun x s1 => match x.rd s1 with
    | some (.ins c ns _) => if m ∈ ns then .bad else match tabAt c tab with
      | some f => (evEs C es ρ s1).bind fun xs s2 => (evEs C ks ρ s2).bind fun zs s3 => match pickAll (x :: xs ++ zs ++ ds.map PV.d) perm with
        | some ys => C.call f ys s3
        | none => .bad
      | none => .bad
    | _ => .bad
  | .mkk c f perm es ks ds, ρ, s => (evEs C es ρ s).bind fun xs s1 => (evEs C ks ρ s1).bind fun zs s2 => match pickAll (.obj s2.length :: xs ++ zs ++ ds.map PV.d) perm with
    | some ys => (C.call f ys (s2 ++ [.ins c [] []])).bind fun r s3 => match r, s3[s2.length]? with
      | .d .non, some (.ins c' ns vs) => .ok (.d (.ins c' ns vs)) (s3.take s2.length)
      | _, _ => .bad
    | none => .bad
  | .mkM c f es, ρ, s => (evEs C es ρ s).bind fun xs s1 => (C.call f (.obj s1.length :: xs) (s1 ++ [.ins c [] []])).bind fun r s2 => match r with
    | .d .non => .ok (.obj s1.length) s2
    | _ => .bad
  | .isc a _ yes no, ρ, s => (evE C a ρ s).bind fun x s1 => lift ((x.rd s1).bind fun x => (iscD yes no x).map fun b => PV.d (.bl b)) s1
  | .bi b es, ρ, s => (evEs C es ρ s).bind fun xs s1 => lift ((rdAll s1 xs).bind fun l => (PD.bi b l).map PV.d) s1
  | .isi a k, ρ, s => (evE C a ρ s).bind fun x s1 => lift ((x.rd s1).map fun x => PV.d (.bl (isK k x))) s1
  | .isiT a ks, ρ, s => (evE C a ρ s).bind fun x s1 => lift ((x.rd s1).map fun x => PV.d (.bl (ks.any fun k => isK k x))) s1
  | .chain o1 o2 a b c, ρ, s => (evE C a ρ s).bind fun x s1 => (evE C b ρ s1).bind fun y s2 => match x.rd s2, y.rd s2 with
    | some dx, some dy => match cmpop o1 dx dy with
      | some (.bl true) => (evE C c ρ s2).bind fun z s3 => lift (match y.rd s3, z.rd s3 with
        | some dy, some dz => (cmpop o2 dy dz).map PV.d
        | _, _ => none) s3
      | some (.bl false) => .ok (.d (.bl false)) s2
      | _ => .bad
    | _, _ => .bad
  | .lrg e, ρ, s => (evE C e ρ s).bind fun x s1 => match x with
    | .d (.int j) => if 0 ≤ j ∧ j ≤ 16777216 then .ok (.d (.lst (rngItems 0 j.toNat))) s1 else .bad
    | _ => .bad
  | .comp e tg many it ifs own, ρ, s => (evIt C it ρ s).bind fun xs s1 =>
      (noX (compGo (fun ρ s => evE C e ρ s) (fun ρ s => evIfs C ifs ρ s) many tg (wipeE ρ own) xs [] s1)).bind fun l s2 => .ok (.d (.lst l)) s2
  | .comp2 e tg many it ifs tg1 many1 it1 ifs1 vs1 own, ρ, s => (evIt C it ρ s).bind fun xs s1 =>
      (noX (comp2Go (fun ρ s => evIfs C ifs ρ s) (fun ρ s => evIt C it1 ρ s) (fun ρ ds acc s => compGo (fun ρ s => evE C e ρ s) (fun ρ s => evIfs C ifs1 ρ s) many1 tg1 (wipeE ρ vs1) ds acc s) many tg (wipeE ρ own) xs [] s1)).bind fun l s2 => .ok (.d (.lst l)) s2
def evEs (C : Cl) : Es → Env → CS → R (List PV)
  | .nil, _, s => .ok [] s
  | .cons e es, ρ, s => (evE C e ρ s).bind fun x s1 => (evEs C es ρ s1).bind fun xs s2 => .ok (x :: xs) s2
  | .spl e es, ρ, s => (evE C e ρ s).bind fun x s1 => match x with
    | .d (.lst l) => (evEs C es ρ s1).bind fun xs s2 => .ok (l.map PV.d ++ xs) s2
    | .d (.tup l) => (evEs C es ρ s1).bind fun xs s2 => .ok (l.map PV.d ++ xs) s2
    | _ => .bad
def evEo (C : Cl) : Eo → Env → CS → R (Option Int)
  | .none, _, s => .ok none s
  | .some e, ρ, s => (evE C e ρ s).bind fun x s1 => match x with
    | .d (.int i) => .ok (some i) s1
    | _ => .bad
def evIt (C : Cl) : It → Env → CS → R (List D)
  | .seq e, ρ, s => (evE C e ρ s).bind fun x s1 => match x with
    | .d (.lst l) => .ok l s1
    | .d (.tup l) => .ok l s1
    | _ => .bad
  | .rng1 e, ρ, s => (evE C e ρ s).bind fun x s1 => match x with
    | .d (.int j) => if smallI j then .ok (rngItems 0 j.toNat) s1 else .bad
    | _ => .bad
  | .rng2 a b, ρ, s => (evE C a ρ s).bind fun x s1 => (evE C b ρ s1).bind fun y s2 => match x, y with
    | .d (.int i), .d (.int j) => if smallI i && smallI j then .ok (rngItems i (j - i).toNat) s2 else .bad
    | _, _ => .bad
  | .enum e, ρ, s => (evE C e ρ s).bind fun x s1 => match x with
    | .d (.lst l) => .ok (enumItems l) s1
    | _ => .bad
/-- and: the first that is false, or the last -/
def evAnd (C : Cl) : Es → Env → CS → R PV
  | .nil, _, _ => .bad
  | .spl _ _, _, _ => .bad
  | .cons _ (.spl _ _), _, _ => .bad
  | .cons e .nil, ρ, s => evE C e ρ s
  | .cons e (.cons e2 es), ρ, s => (evE C e ρ s).bind fun x s1 => match (x.rd s1).bind truth with
    | some true => evAnd C (.cons e2 es) ρ s1
    | some false => .ok x s1
    | none => .bad
def evOr (C : Cl) : Es → Env → CS → R PV
  | .nil, _, _ => .bad
  | .spl _ _, _, _ => .bad
  | .cons _ (.spl _ _), _, _ => .bad
  | .cons e .nil, ρ, s => evE C e ρ s
  | .cons e (.cons e2 es), ρ, s => (evE C e ρ s).bind fun x s1 => match (x.rd s1).bind truth with
    | some false => evOr C (.cons e2 es) ρ s1
    | some true => .ok x s1
    | none => .bad
/-- the tests of a clause -/
def evIfs (C : Cl) : Es → Env → CS → R Bool
  | .nil, _, s => .ok true s
  | .spl _ _, _, _ => .bad
  | .cons e es, ρ, s => (evE C e ρ s).bind fun x s1 => match (x.rd s1).bind truth with
    | some true => evIfs C es ρ s1
    | some false => .ok false s1
    | none => .bad
end
mutual
def exS (C : Cl) : S → Env → CS → R Fl
  | .asg i e, ρ, s => (evE C e ρ s).bind fun x s1 => .ok (.nx (ρ.set i (some x))) s1
  | .asgT is e, ρ, s => (evE C e ρ s).bind fun x s1 => match x with
    | .d (.tup l) => lift ((setAll ρ is l).map Fl.nx) s1
    | _ => .bad
  | .asg2 is es, ρ, s => (evEs C es ρ s).bind fun xs s1 => lift ((setAllP ρ is xs).map Fl.nx) s1
  | .setI o i v, ρ, s => (evE C v ρ s).bind fun y s1 => (evE C o ρ s1).bind fun x s2 => (evE C i ρ s2).bind fun j s3 => match x, j, y with
    | .obj k, .d (.int j), .d y => match s3[k]? with
      | some (.lst l) => match L2.ixN l.length j with
        | some n => .ok (.nx ρ) (s3.set k (.lst (l.set n y)))
        | none => .bad
      | _ => .bad
    | _, _, _ => .bad
  | .setF cs o f v, ρ, s => (evE C v ρ s).bind fun y s1 => (evE C o ρ s1).bind fun x s2 => match x, y with
    | .obj k, .d y => match s2[k]? with
      | some (.ins c ns vs) => if c ∈ cs ∧ ns.length < 1000 then .ok (.nx ρ) (s2.set k (.ins c (putN f y ns vs).1 (putN f y ns vs).2)) else .bad
      | _ => .bad
    | _, _ => .bad
  | .expr e, ρ, s => (evE C e ρ s).bind fun _ s1 => .ok (.nx ρ) s1
  | .app o v, ρ, s => (evE C o ρ s).bind fun x s1 => match x with
    | .obj k => match s1[k]? with
      | some (.lst _) => (evE C v ρ s1).bind fun y s2 => match y with
        | .d y => match s2[k]? with
          | some (.lst l) => if l.length < sizeLine then .ok (.nx ρ) (s2.set k (.lst (l ++ [y]))) else .bad
          | _ => .bad
        | _ => .bad
      | _ => .bad
    | _ => .bad
  | .ext o v, ρ, s => (evE C o ρ s).bind fun x s1 => match x with
    | .obj k => match s1[k]? with
      | some (.lst _) => (evE C v ρ s1).bind fun y s2 => match y with
        | .d (.lst ys) => match s2[k]? with
          | some (.lst l) => if l.length + ys.length ≤ sizeLine then .ok (.nx ρ) (s2.set k (.lst (l ++ ys))) else .bad
          | _ => .bad
        | _ => .bad
      | _ => .bad
    | _ => .bad
  | .frz i, ρ, s => match ρ[i]? with
    | some (some (.obj k)) => match s[k]? with
      | some (.lst l) => .ok (.nx (ρ.set i (some (.d (.lst l))))) (s.set k .dead)
      | _ => .bad
    | _ => .bad
  | .ret e, ρ, s => (evE C e ρ s).bind fun x s1 => .ok (.rt x) s1
  | .retN, _, s => .ok (.rt (.d .non)) s
  | .ifs c a b, ρ, s => (evE C c ρ s).bind fun x s1 => match (x.rd s1).bind truth with
    | some true => exSs C a ρ s1
    | some false => exSs C b ρ s1
    | none => .bad
  | .for tg many it b, ρ, s => (evIt C it ρ s).bind fun xs s1 => forGo (fun ρ s => exSs C b ρ s) many tg xs ρ s1
  | .whl n c b, ρ, s => whlGo (fun ρ s => evE C c ρ s) (fun ρ s => exSs C b ρ s) n ρ s
  | .aug i o e, ρ, s => match ρ[i]? with
    | some (some (.d (.int a))) => (evE C e ρ s).bind fun y s1 => lift ((augD o a y).map fun z => Fl.nx (ρ.set i (some (.d (.int z))))) s1
    | _ => .bad
  | .pass, ρ, s => .ok (.nx ρ) s
  | .stop, _, _ => .bad
def exSs (C : Cl) : Ss → Env → CS → R Fl
  | .nil, ρ, s => .ok (.nx ρ) s
  | .cons x xs, ρ, s => (exS C x ρ s).bind fun fl s1 => match fl with
    | .nx ρ2 => exSs C xs ρ2 s1
    | .rt v => .ok (.rt v) s1
end
/-- a def: how many parameters, how many names, its body -/
structure Fd where
  np : Nat
  nn : Nat
  body : Ss
/-- behind a call its own lists are gone, but one that it hands back -/
def leave (n : Nat) : PV → CS → R PV
  | .scr _, _ => .bad
  | .d x, s => .ok (.d x) (s.take n)
  | .obj k, s => if k < n then .ok (.obj k) (s.take n) else if k = n then .ok (.obj k) (s.take (n + 1)) else .bad
def runF (C : Cl) (f : Fd) (args : List PV) (s : CS) : R PV :=
  if args.length = f.np then
    match exSs C f.body (args.map some ++ List.replicate (f.nn - args.length) none) s with
    | .ok (.nx _) s1 => leave s.length (.d .non) s1
    | .ok (.rt v) s1 => leave s.length v s1
    | .exc c ns vs s1 => .exc c ns vs (s1.take s.length)
    | .bad => .bad
  else .bad
def callN (F : Nat → Option Fd) : Nat → Nat → List PV → CS → R PV
  | 0, _, _, _ => .bad
  | n + 1, f, args, s => match F f with
    | some fd => runF ⟨callN F n⟩ fd args s
    | none => .bad
end PD

set_option Elab.async false
set_option linter.all false
set_option autoImplicit false
set_option maxRecDepth 100000
/-! PdB: how the small language's data lie in the model's heap; what a step's rule asks. -/
namespace PD
open PySem PySem.Spec L2

/-- where the changeable lists lie (none: it is changed no more), and lists that are just being made -/
structure Plc where
  c : List (Option Addr)
  h : List Addr
def Plc.has (L : Plc) (a : Addr) : Prop := some a ∈ L.c ∨ a ∈ L.h
theorem oS_inj {a b : String} (h : Str.ofString a = Str.ofString b) : a = b := by
  rw [Str.ofString_eq_toList, Str.ofString_eq_toList] at h
  have h1 : (a.toList.map Char.toNat).toArray = (b.toList.map Char.toNat).toArray := congrArg Str.cps h
  have h2 : a.toList.map Char.toNat = b.toList.map Char.toNat := by simpa using congrArg Array.toList h1
  have key : ∀ {l m : List Char}, l.map Char.toNat = m.map Char.toNat → l = m := by
    intro l
    induction l with
    | nil => intro m h; cases m with
      | nil => rfl
      | cons _ _ => simp at h
    | cons x r ih =>
      intro m h
      cases m with
      | nil => simp at h
      | cons y t =>
        simp only [List.map_cons, List.cons.injEq] at h
        have e : x = y := Char.ext (UInt32.toNat_inj.mp h.1)
        rw [e, ih h.2]
  exact String.ext (key h2)
def tkName : TK → String
  | .int => "int" | .bool => "bool" | .str => "str" | .list => "list" | .tuple => "tuple" | .dict => "dict"
/-- what a class of plain instances must have -/
structure ClsT (K : PySem.W.Frag) (C : Addr) : Prop where
  cls : Cls K C
  ha : PySem.W.findIn K (.ref C) "__class__" = some (some (.builtin "object.__class__"))
  hn : PySem.W.specialIn K (.builtin "object.__class__") "__get__" = some (some (.builtin "getset_descriptor.__get__"))
  htk : PySem.W.takesIn K (.builtin "object.__class__") = some true
  hm : PySem.W.mroIn K C (.type "object") = some true
  kit : ∀ k : TK, PySem.W.kitOne K (.ref C) (.type (tkName k)) = some false
/-- the class of the name c stands at C; ns: fields that no class of it has -/
structure ClsAt (K : PySem.W.Frag) (c : String) (C : Addr) (ns : List String) : Prop where
  at_ : PySem.W.nsIn K mainGlobals (Str.ofString c) = some (some (.ref C))
  t : ClsT K C
  no : ∀ f ∈ ns, NoAttr K C (Str.ofString f)
/-- a key of a dict -/
def keyD : Key → D
  | .inl i => .int i
  | .inr x => .str x
def oSs (ns : List String) : List Str := ns.map Str.ofString
mutual
/-- a value stands for data; lists that may be changed (at L) are no part of it -/
inductive Rep (K : PySem.W.Frag) (L : Plc) (H : Hp) : D → V → Prop
  | non : Rep K L H .non .non
  | bl (b : Bool) : Rep K L H (.bl b) (.bl b)
  | int (i : Int) : Rep K L H (.int i) (.int i)
  | str (x : Str) : Rep K L H (.str x) (.str x)
  | lst {a : Addr} {l : List D} {vs : List V} : H a = some (.lst vs) → ¬ L.has a → Reps K L H l vs → Rep K L H (.lst l) (.ref a)
  | tup {a : Addr} {l : List D} {vs : List V} : H a = some (.tup vs) → ¬ L.has a → Reps K L H l vs → Rep K L H (.tup l) (.ref a)
  | tupK {a : Addr} {l : List D} {vs : List V} : SqT K (fun _ => none) a vs → Reps K L H l vs → Rep K L H (.tup l) (.ref a)
  | dct {a : Addr} {ks vs : List D} {kvs : List (Key × V)} : H a = some (.dK kvs) → ¬ L.has a → ks = kvs.map (fun p => keyD p.1) → Reps K L H vs (kvs.map (·.2)) → Rep K L H (.dct ks vs) (.ref a)
  | ins {a C dx : Addr} {c : String} {ns : List String} {vs : List D} {ws : List V} : ClsAt K c C ns → H a = some (.ins C dx ((oSs ns).zip ws)) → ¬ L.has a → ns.length = ws.length → Reps K L H vs ws → Rep K L H (.ins c ns vs) (.ref a)
inductive Reps (K : PySem.W.Frag) (L : Plc) (H : Hp) : List D → List V → Prop
  | nil : Reps K L H [] []
  | cons {d : D} {v : V} {ds : List D} {vs : List V} : Rep K L H d v → Reps K L H ds vs → Reps K L H (d :: ds) (v :: vs)
end

/-- what a step leaves as it was -/
structure Ev (L : Plc) (H : Hp) (L' : Plc) (H' : Hp) : Prop where
  len : L.c.length ≤ L'.c.length
  get : ∀ (k : Nat) (x : Option Addr), L.c[k]? = some x → L'.c[k]? = some x ∨ L'.c[k]? = some none
  keep : ∀ a o, H a = some o → some a ∉ L.c → H' a = some o
  new : ∀ a, some a ∈ L'.c → some a ∈ L.c ∨ H a = none
  hid : L'.h = L.h
theorem Ev.refl (L : Plc) (H : Hp) : Ev L H L H := ⟨Nat.le_refl _, fun _ _ h => .inl h, fun _ _ h _ => h, fun _ h => .inl h, rfl⟩
theorem Ev.trans {L L1 L2 : Plc} {H H1 H2 : Hp} (a : Ev L H L1 H1) (b : Ev L1 H1 L2 H2) : Ev L H L2 H2 where
  len := Nat.le_trans a.len b.len
  get := fun k x h => by
    rcases a.get k x h with e | e
    · exact b.get k x e
    · rcases b.get k none e with e | e <;> exact .inr e
  keep := fun c o h n => b.keep c o (a.keep c o h n) fun m => by
    rcases a.new c m with z | z
    · exact n z
    · rw [h] at z; cases z
  new := fun c m => by
    rcases b.new c m with z | z
    · exact a.new c z
    · by_cases hc : some c ∈ L.c
      · exact .inl hc
      · cases e : H c with
        | none => exact .inr rfl
        | some o => rw [a.keep c o e hc] at z; cases z
  hid := b.hid.trans a.hid
theorem Ev.same {L : Plc} {H H' : Hp} (s : Same H H') : Ev L H L H' := ⟨Nat.le_refl _, fun _ _ h => .inl h, fun a o h _ => s a o h, fun _ h => .inl h, rfl⟩
theorem same_upd {H : Hp} {p : Addr} {o : HO} (h : H p = none) : Same H (upd H p o) := fun a u e => by
  rw [upd_ne (ne_of_none e h)]; exact e

section
variable {K : PySem.W.Frag} {L L' : Plc} {H H' : Hp}
mutual
theorem Rep.map (hk : ∀ a o, H a = some o → ¬ L.has a → H' a = some o ∧ ¬ L'.has a) : ∀ {d : D} {v : V}, Rep K L H d v → Rep K L' H' d v
  | _, _, .non => .non
  | _, _, .bl b => .bl b
  | _, _, .int i => .int i
  | _, _, .str x => .str x
  | _, _, .lst e n r => .lst (hk _ _ e n).1 (hk _ _ e n).2 (Reps.map hk r)
  | _, _, .tup e n r => .tup (hk _ _ e n).1 (hk _ _ e n).2 (Reps.map hk r)
  | _, _, .tupK e r => .tupK e (Reps.map hk r)
  | _, _, .dct e n k r => .dct (hk _ _ e n).1 (hk _ _ e n).2 k (Reps.map hk r)
  | _, _, .ins c e n l r => .ins c (hk _ _ e n).1 (hk _ _ e n).2 l (Reps.map hk r)
theorem Reps.map (hk : ∀ a o, H a = some o → ¬ L.has a → H' a = some o ∧ ¬ L'.has a) : ∀ {l : List D} {vs : List V}, Reps K L H l vs → Reps K L' H' l vs
  | _, _, .nil => .nil
  | _, _, .cons r t => .cons (Rep.map hk r) (Reps.map hk t)
end
theorem Ev.stay (e : Ev L H L' H') : ∀ a o, H a = some o → ¬ L.has a → H' a = some o ∧ ¬ L'.has a := fun a o h n =>
  ⟨e.keep a o h fun m => n (.inl m), fun m => by
    rcases m with m | m
    · rcases e.new a m with z | z
      · exact n (.inl z)
      · rw [h] at z; cases z
    · exact n (.inr (e.hid ▸ m))⟩
theorem Rep.ev {d : D} {v : V} (r : Rep K L H d v) (e : Ev L H L' H') : Rep K L' H' d v := r.map e.stay
theorem Reps.ev {l : List D} {vs : List V} (r : Reps K L H l vs) (e : Ev L H L' H') : Reps K L' H' l vs := r.map e.stay
/-- fewer changeable lists -/
theorem Rep.sub {d : D} {v : V} (r : Rep K L H d v) (h : ∀ a, L'.has a → L.has a) : Rep K L' H d v := r.map fun a o e n => ⟨e, fun m => n (h a m)⟩
theorem Reps.sub {l : List D} {vs : List V} (r : Reps K L H l vs) (h : ∀ a, L'.has a → L.has a) : Reps K L' H l vs := r.map fun a o e n => ⟨e, fun m => n (h a m)⟩

theorem Reps.length : ∀ {l : List D} {vs : List V}, Reps K L H l vs → l.length = vs.length
  | _, _, .nil => rfl
  | _, _, .cons _ t => congrArg Nat.succ (Reps.length t)
theorem Reps.append : ∀ {l m : List D} {vs ws : List V}, Reps K L H l vs → Reps K L H m ws → Reps K L H (l ++ m) (vs ++ ws)
  | _, _, _, _, .nil, s => s
  | _, _, _, _, .cons r t, s => .cons r (Reps.append t s)
theorem Reps.take : ∀ {l : List D} {vs : List V} (n : Nat), Reps K L H l vs → Reps K L H (l.take n) (vs.take n)
  | _, _, 0, _ => .nil
  | _, _, _ + 1, .nil => .nil
  | _, _, n + 1, .cons r t => .cons r (Reps.take n t)
theorem Reps.drop : ∀ {l : List D} {vs : List V} (n : Nat), Reps K L H l vs → Reps K L H (l.drop n) (vs.drop n)
  | _, _, 0, r => r
  | _, _, _ + 1, .nil => .nil
  | _, _, n + 1, .cons _ t => Reps.drop n t
theorem Reps.set {d : D} {v : V} (r : Rep K L H d v) : ∀ {l : List D} {vs : List V} (n : Nat), Reps K L H l vs → Reps K L H (l.set n d) (vs.set n v)
  | _, _, _, .nil => .nil
  | _, _, 0, .cons _ t => .cons r t
  | _, _, n + 1, .cons q t => .cons q (Reps.set r n t)
theorem Reps.get : ∀ {l : List D} {vs : List V} {i : Nat} {d : D}, Reps K L H l vs → l[i]? = some d → ∃ v, vs[i]? = some v ∧ Rep K L H d v
  | _, _, _, _, .nil, e => by simp at e
  | _, _, 0, _, .cons r _, e => by simp at e; subst e; exact ⟨_, rfl, r⟩
  | _, _, i + 1, d, .cons _ t, e => by
    obtain ⟨v, h1, h2⟩ := Reps.get (i := i) (d := d) t (by simpa using e)
    exact ⟨v, by simpa using h1, h2⟩
theorem Reps.getV : ∀ {l : List D} {vs : List V} {i : Nat} {v : V}, Reps K L H l vs → vs[i]? = some v → ∃ d, l[i]? = some d ∧ Rep K L H d v
  | _, _, _, _, .nil, e => by simp at e
  | _, _, 0, _, .cons r _, e => by simp at e; subst e; exact ⟨_, rfl, r⟩
  | _, _, i + 1, d, .cons _ t, e => by
    obtain ⟨v, h1, h2⟩ := Reps.getV (i := i) (v := d) t (by simpa using e)
    exact ⟨v, by simpa using h1, h2⟩
theorem Reps.ints : ∀ ns : List Int, Reps K L H (ns.map D.int) (ns.map V.int)
  | [] => .nil
  | n :: r => .cons (.int n) (Reps.ints r)
theorem Reps.of_ints : ∀ {ns : List Int} {vs : List V}, Reps K L H (ns.map D.int) vs → vs = ns.map V.int
  | [], _, .nil => rfl
  | n :: r, _, .cons (.int _) t => by rw [Reps.of_ints t]; rfl
end

/-- a value of a step -/
def RepP (K : PySem.W.Frag) (L : Plc) (H : Hp) : PV → V → Prop
  | .d x, v => Rep K L H x v
  | .obj k, v => k < L.c.length ∧ ∀ a, L.c[k]? = some (some a) → v = .ref a
  | .scr ns, v => ∃ a, v = .ref a ∧ ((¬ L.has a ∧ Rd H a (.lst (ns.map V.int))) ∨ SqL K (fun _ => none) a (ns.map V.int))
def CellRel (K : PySem.W.Frag) (L : Plc) (H : Hp) : Cell → Option Addr → Prop
  | .lst l, some a => ∃ vs, H a = some (.lst vs) ∧ Reps K L H l vs
  | .ins c ns vs, some a => ∃ C dx ws, ClsAt K c C ns ∧ H a = some (.ins C dx ((oSs ns).zip ws)) ∧ ns.length = ws.length ∧ Reps K L H vs ws
  | .dead, none => True
  | _, _ => False
/-- the store of changeable lists -/
structure SRel (K : PySem.W.Frag) (L : Plc) (H : Hp) (st : CS) : Prop where
  len : st.length = L.c.length
  cell : ∀ (k : Nat) (c : Cell) (x : Option Addr), st[k]? = some c → L.c[k]? = some x → CellRel K L H c x
  inj : ∀ (i j : Nat) (a : Addr), L.c[i]? = some (some a) → L.c[j]? = some (some a) → i = j
  hid : ∀ a ∈ L.h, H a ≠ none ∧ some a ∉ L.c
/-- the names -/
structure ERel (K : PySem.W.Frag) (L : Plc) (H : Hp) (ρ : Env) (σ : St) : Prop where
  len : ρ.length = σ.length
  at_ : ∀ (i : Nat) (p : PV), ρ[i]? = some (some p) → ∃ v, σ[i]? = some (some v) ∧ RepP K L H p v
section
variable {K : PySem.W.Frag} {L L' : Plc} {H H' : Hp} {st : CS} {ρ : Env} {σ : St}
/-- values stay -/
structure Mv (L : Plc) (H : Hp) (L' : Plc) (H' : Hp) : Prop where
  len : L.c.length ≤ L'.c.length
  get : ∀ (k : Nat) (x : Option Addr), L.c[k]? = some x → L'.c[k]? = some x ∨ L'.c[k]? = some none
  stay : ∀ a o, H a = some o → ¬ L.has a → H' a = some o ∧ ¬ L'.has a
theorem Ev.mv (e : Ev L H L' H') : Mv L H L' H' := ⟨e.len, e.get, e.stay⟩
theorem RepP.mv {p : PV} {v : V} (r : RepP K L H p v) (e : Mv L H L' H') : RepP K L' H' p v := by
  cases p with
  | d x => exact Rep.map e.stay r
  | obj k =>
    obtain ⟨hk, h⟩ := r
    refine ⟨Nat.lt_of_lt_of_le hk e.len, fun a ha => ?_⟩
    rcases e.get k _ (List.getElem?_eq_getElem hk) with z | z
    · rw [ha] at z
      exact h a (by rw [List.getElem?_eq_getElem hk, ← z])
    · rw [ha] at z; cases z
  | scr ns =>
    obtain ⟨a, rfl, h⟩ := r
    refine ⟨a, rfl, ?_⟩
    rcases h with ⟨n, h⟩ | h
    · rcases h with h | ⟨o, h⟩
      · exact .inl ⟨(e.stay _ _ h n).2, .inl (e.stay _ _ h n).1⟩
      · exact .inl ⟨(e.stay _ _ h n).2, .inr ⟨o, (e.stay _ _ h n).1⟩⟩
    · exact .inr h
theorem RepP.ev {p : PV} {v : V} (r : RepP K L H p v) (e : Ev L H L' H') : RepP K L' H' p v := r.mv e.mv
theorem ERel.mv (r : ERel K L H ρ σ) (e : Mv L H L' H') : ERel K L' H' ρ σ := ⟨r.len, fun i p h => by
  obtain ⟨v, h1, h2⟩ := r.at_ i p h
  exact ⟨v, h1, h2.mv e⟩⟩
theorem ERel.ev (r : ERel K L H ρ σ) (e : Ev L H L' H') : ERel K L' H' ρ σ := r.mv e.mv
theorem CellRel.mv' {K : PySem.W.Frag} {L L' : Plc} {H H' : Hp} {c : Cell} {x : Option Addr} (r : CellRel K L H c x) (ht : ∀ a o, x = some a → H a = some o → H' a = some o) (hk : ∀ a o, H a = some o → ¬ L.has a → H' a = some o ∧ ¬ L'.has a) : CellRel K L' H' c x := by
  cases c with
  | lst l => cases x with
    | none => exact r
    | some a => obtain ⟨vs, e, q⟩ := r; exact ⟨vs, ht a _ rfl e, q.map hk⟩
  | ins c ns vs => cases x with
    | none => exact r
    | some a => obtain ⟨C, dx, ws, k, e, l, q⟩ := r; exact ⟨C, dx, ws, k, ht a _ rfl e, l, q.map hk⟩
  | dead => cases x <;> exact r
theorem CellRel.there {K : PySem.W.Frag} {L : Plc} {H : Hp} {c : Cell} {a : Addr} (r : CellRel K L H c (some a)) : H a ≠ none := by
  cases c with
  | lst l => obtain ⟨vs, e, _⟩ := r; rw [e]; exact fun z => nomatch z
  | ins c ns vs => obtain ⟨C, dx, ws, _, e, _⟩ := r; rw [e]; exact fun z => nomatch z
  | dead => exact r.elim
theorem SRel.at_ (r : SRel K L H st) {k : Nat} {l : List D} (h : st[k]? = some (.lst l)) : ∃ a vs, L.c[k]? = some (some a) ∧ H a = some (.lst vs) ∧ Reps K L H l vs := by
  have hk : k < L.c.length := by rw [← r.len]; exact (List.getElem?_eq_some_iff.mp h).1
  have c := r.cell k _ _ h (List.getElem?_eq_getElem hk)
  cases e : L.c[k] with
  | none => rw [e] at c; exact c.elim
  | some a =>
    rw [e] at c
    obtain ⟨vs, h1, h2⟩ := c
    exact ⟨a, vs, by rw [List.getElem?_eq_getElem hk, e], h1, h2⟩
theorem SRel.atI (r : SRel K L H st) {k : Nat} {c : String} {ns : List String} {vs : List D} (h : st[k]? = some (.ins c ns vs)) : ∃ a C dx ws, L.c[k]? = some (some a) ∧ ClsAt K c C ns ∧ H a = some (.ins C dx ((oSs ns).zip ws)) ∧ ns.length = ws.length ∧ Reps K L H vs ws := by
  have hk : k < L.c.length := by rw [← r.len]; exact (List.getElem?_eq_some_iff.mp h).1
  have z := r.cell k _ _ h (List.getElem?_eq_getElem hk)
  cases e : L.c[k] with
  | none => rw [e] at z; exact z.elim
  | some a =>
    rw [e] at z
    obtain ⟨C, dx, ws, h1, h2, h3, h4⟩ := z
    exact ⟨a, C, dx, ws, by rw [List.getElem?_eq_getElem hk, e], h1, h2, h3, h4⟩
/-- a changeable list's place is tracked -/
theorem SRel.mem (r : SRel K L H st) {a : Addr} (h : L.has a) : H a ≠ none := by
  rcases h with h | h
  · obtain ⟨k, hk, e⟩ := List.mem_iff_getElem.mp h
    have hk' : k < st.length := by rw [r.len]; exact hk
    have c := r.cell k _ _ (List.getElem?_eq_getElem hk') (List.getElem?_eq_getElem hk)
    rw [e] at c
    exact c.there
  · exact (r.hid a h).1
theorem SRel.free (r : SRel K L H st) {p : Addr} (h : H p = none) : ¬ L.has p := fun m => r.mem m h
theorem SRel.same (r : SRel K L H st) (s : Same H H') : SRel K L H' st := ⟨r.len, fun k c x h1 h2 => by
  exact (r.cell k c x h1 h2).mv' (fun a o _ e => s a o e) (Ev.same (L := L) s).stay, r.inj, fun a ha => ⟨fun z => (by
    cases e : H a with
    | none => exact (r.hid a ha).1 e
    | some o =>
      rw [s a o e] at z
      cases z), (r.hid a ha).2⟩⟩
end

/-! ### what a step's rule asks -/
/-- the text, and what is wished of an exception -/
structure Gx where
  K : PySem.W.Frag
  E : XK
/-- an exception's data -/
structure RepX (K : PySem.W.Frag) (L : Plc) (H : Hp) (c : String) (ns : List String) (vs : List D) (cls : Value) (d : Option Addr) : Prop where
  at_ : PySem.W.nsIn K mainGlobals (Str.ofString c) = some (some cls)
  dict : ∃ a ws, d = some a ∧ H a = some (.xd ((oSs ns).zip ws)) ∧ ¬ L.has a ∧ ns.length = ws.length ∧ Reps K L H vs ws
/-- behind an exception -/
def OutX (G : Gx) (L : Plc) (H : Hp) (c : String) (ns : List String) (vs : List D) (st' : CS) : Prop :=
  ∀ L' H' cls d, Ev L H L' H' → SRel G.K L' H' st' → RepX G.K L' H' c ns vs cls d → G.E cls d H'
theorem OutX.ev {G : Gx} {L L' : Plc} {H H' : Hp} {c : String} {ns : List String} {vs : List D} {s : CS} (o : OutX G L H c ns vs s) (e : Ev L H L' H') : OutX G L' H' c ns vs s := fun L2 H2 cls d e2 => o L2 H2 cls d (e.trans e2)
def Out (G : Gx) (L : Plc) (H : Hp) (Q : VK) : R PV → Prop
  | .ok p st' => ∀ L' H' v, Ev L H L' H' → SRel G.K L' H' st' → RepP G.K L' H' p v → Q v H'
  | .exc c ns vs st' => OutX G L H c ns vs st'
  | .bad => False
theorem Out.ev {G : Gx} {L L' : Plc} {H H' : Hp} {Q : VK} {r : R PV} (o : Out G L H Q r) (e : Ev L H L' H') : Out G L' H' Q r := by
  cases r with
  | ok p s => exact fun L2 H2 v e2 => o L2 H2 v (e.trans e2)
  | exc c ns vs s => exact OutX.ev o e
  | bad => exact o
def tM (G : Gx) (m : Env → CS → R PV) : TE := fun σ H Q => ∃ L ρ st, SRel G.K L H st ∧ ERel G.K L H ρ σ ∧ Out G L H Q (m ρ st)
/-- one step, then others -/
def Then (G : Gx) (σ : St) (Q : VK) (k : Env → PV → CS → R PV) : VK := fun v H => ∃ L ρ st p, SRel G.K L H st ∧ ERel G.K L H ρ σ ∧ RepP G.K L H p v ∧ Out G L H Q (k ρ p st)
section
variable {G : Gx} {L L' : Plc} {H H' : Hp} {st : CS} {ρ : Env} {σ : St} {Q : VK} {m : Env → CS → R PV}
theorem tM_seq {k : Env → PV → CS → R PV} (s : SRel G.K L H st) (e : ERel G.K L H ρ σ) (h : Out G L H Q ((m ρ st).bind fun p s1 => k ρ p s1)) : tM G m σ H (Then G σ Q k) := by
  refine ⟨L, ρ, st, s, e, ?_⟩
  cases r : m ρ st with
  | bad => rw [r] at h; exact h
  | exc c ns vs s1 => rw [r] at h; exact h
  | ok p s1 =>
    rw [r] at h
    exact fun L1 H1 v v1 s2 rp => ⟨L1, ρ, s1, p, s2, e.ev v1, rp, h.ev v1⟩
theorem Out.val {d : D} {v : V} (s : SRel G.K L H st) (o : Out G L H Q (.ok (.d d) st)) (r : Rep G.K L H d v) : Q v H := o L H v (.refl _ _) s r
/-- a new list -/
theorem Out.lst {l : List D} {vs : List V} (s : SRel G.K L H st) (o : Out G L H Q (.ok (.d (.lst l)) st)) (r : Reps G.K L H l vs) : ∀ p, H p = none → Q (.ref p) (upd H p (.lst vs)) := fun p hp =>
  o L _ _ (.same (same_upd hp)) (s.same (same_upd hp)) (Rep.lst upd_same (s.free hp) (r.ev (.same (same_upd hp))))
theorem Out.tup {l : List D} {vs : List V} (s : SRel G.K L H st) (o : Out G L H Q (.ok (.d (.tup l)) st)) (r : Reps G.K L H l vs) : ∀ p, H p = none → Q (.ref p) (upd H p (.tup vs)) := fun p hp =>
  o L _ _ (.same (same_upd hp)) (s.same (same_upd hp)) (Rep.tup upd_same (s.free hp) (r.ev (.same (same_upd hp))))
end
end PD

set_option Elab.async false
set_option linter.all false
set_option autoImplicit false
set_option maxRecDepth 100000
/-! PdC: the rules of expressions, led to the small language. -/
namespace L2
open PySem PySem.Spec PyProof.Rows
set_option maxHeartbeats 4000000
theorem tuple_mul1 (l : Addr) (items : Array Value) (n : Nat) (dd : Option Addr) (sl : Array (Option Value)) (u : Tok) :
    Meets (Builtin.«tuple.__mul__» ⟨[.ref l, .int 1 u], []⟩) (fun _ R s => s.heap.get? l = some { cls := .type "tuple", dict := dd, data := .seq items n, slots := sl } ∧ R (.ok (.ret (Value.ref l))) s) :=
  .of_wp fun prog w A R s h => by
    obtain ⟨hp, g, d, tk, os⟩ := s
    obtain ⟨hl, h⟩ := h
    have f1 := AutoSeq1.idx_int
    wp_walk using wpAny_loadPart' hl
    repeat (first
      | (refine wpAny_ite_false (decide_eq_false (by decide)) ?_; wp_walk using wpAny_loadPart' hl)
      | (refine wpAny_ite_true (decide_eq_true (by simp)) ?_; wp_walk using wpAny_loadPart' hl))
    exact ⟨_, rfl, h⟩
theorem tuple_mul0 (l : Addr) (items : Array Value) (n : Nat) (dd : Option Addr) (sl : Array (Option Value)) (x : Int) (u : Tok) (c0 : (decide (x < -(2 ^ 63)) || decide (x ≥ 2 ^ 63)) = false) (c1 : (items.isEmpty || x == 1) = false) (c2 : (decide (x ≤ 0) || items.isEmpty) = true) :
    Meets (Builtin.«tuple.__mul__» ⟨[.ref l, .int x u], []⟩) (fun _ R s => s.heap.get? l = some { cls := .type "tuple", dict := dd, data := .seq items n, slots := sl } ∧
      R (.ok (.ret (Value.ref s.heap.objs.size))) { s with heap := s.heap.push { cls := Value.type "tuple", data := Data.seq #[] }, toks := s.toks }) :=
  .of_wp fun prog w A R s h => by
    obtain ⟨hp, g, d, tk, os⟩ := s
    obtain ⟨hl, h⟩ := h
    have f1 := AutoSeq1.idx_int
    wp_walk using wpAny_loadPart' hl
    repeat (first
      | (refine wpAny_ite_false (decide_eq_false (by rw [c0]; exact Bool.false_ne_true)) ?_; wp_walk using wpAny_loadPart' hl)
      | (refine wpAny_ite_false (decide_eq_false (by rw [c1]; exact Bool.false_ne_true)) ?_; wp_walk using wpAny_loadPart' hl)
      | (refine wpAny_ite_true (decide_eq_true c2) ?_; wp_walk using wpAny_loadPart' hl))
    exact ⟨_, rfl, h⟩

def rRepT1 (K : PySem.W.Frag) : R2 := fun x y H Q => ∃ l xs, x = .ref l ∧ y = .int 1 ∧ SqT K H l xs ∧ Q (.ref l) H
def rRepT0 (K : PySem.W.Frag) : R2 := fun x y H Q => ∃ l k xs, x = .ref l ∧ y = .int k ∧ SqT K H l xs ∧ xs ≠ [] ∧ k ≤ 0 ∧ -1000 ≤ k ∧ ∀ p, H p = none → Q (.ref p) (upd H p (.tup []))
section
variable {X : L2.Cx}
theorem op_repT1 : OpR X (binaryOp .Mult) (rRepT1 X.K) := by
  intro pins s σ H x y v u Q I rx ry h
  obtain ⟨l, xs, rfl, rfl, hT, q⟩ := h
  cases rx
  obtain ⟨t, rfl⟩ := ry
  obtain ⟨its, r, ⟨⟨cls, dd, data, sl⟩, ho, hc, n, hd⟩, hs⟩ := I.tuple hT
  simp only at hc hd
  subst hc hd
  exact wpAny_binaryOp_repeat_ref (T := "tuple") (U := "int") (by decide) ⟨_, ho, rfl⟩ (fun s' => typeIs_int s' 1 t) noFill_tuple_mul F.fills_int_mul F.slot_int_rmul repeat_tuple F.slot_int_index.lookup
    (call_meets F.slot_int_rmul (typeIs_int s 1 t) F.entry_int_rmul (F.args_int_rmul_2 _ _) (int_rmul_tuple 1 t l its.toArray n dd sl)
      ⟨ho, rfl, ⟨_, ho, rfl⟩, call_meets F.slot_tuple_mul ⟨_, ho, rfl⟩ F.entry_tuple_mul (F.args_tuple_mul_2 _ _) (tuple_mul1 l its.toArray n dd sl t) ⟨ho, .ref l, _, I, rfl, q⟩⟩)
theorem op_repT0 : OpR X (binaryOp .Mult) (rRepT0 X.K) := by
  intro pins s σ H x y v u Q I rx ry h
  obtain ⟨l, k, xs, rfl, rfl, hT, hne, h1, h2, q⟩ := h
  cases rx
  obtain ⟨t, rfl⟩ := ry
  obtain ⟨its, r, ⟨⟨cls, dd, data, sl⟩, ho, hc, n, hd⟩, hs⟩ := I.tuple hT
  simp only at hc hd
  subst hc hd
  have hle : its.length = xs.length := r.length.symm
  have hn : its ≠ [] := fun e => hne (by
    rw [e] at hle
    exact List.eq_nil_of_length_eq_zero hle.symm)
  have hi : its.toArray.isEmpty = false := by
    cases its with
    | nil => exact absurd rfl hn
    | cons a b => rfl
  have c0 : (decide (k < -(2 ^ 63)) || decide (k ≥ 2 ^ 63)) = false := by
    rw [decide_eq_false (by omega), decide_eq_false (by omega)] <;> rfl
  have c1 : (its.toArray.isEmpty || k == 1) = false := by
    rw [hi, Bool.false_or]
    exact beq_eq_false_iff_ne.mpr (by omega)
  have c2 : (decide (k ≤ 0) || its.toArray.isEmpty) = true := by
    rw [decide_eq_true h1]; rfl
  refine wpAny_binaryOp_repeat_ref (T := "tuple") (U := "int") (by decide) ⟨_, ho, rfl⟩ (fun s' => typeIs_int s' k t) noFill_tuple_mul F.fills_int_mul F.slot_int_rmul repeat_tuple F.slot_int_index.lookup
    (call_meets F.slot_int_rmul (typeIs_int s k t) F.entry_int_rmul (F.args_int_rmul_2 _ _) (int_rmul_tuple k t l its.toArray n dd sl)
      ⟨ho, rfl, ⟨_, ho, rfl⟩, call_meets F.slot_tuple_mul ⟨_, ho, rfl⟩ F.entry_tuple_mul (F.args_tuple_mul_2 _ _) (tuple_mul0 l its.toArray n dd sl k t c0 c1 c2) ⟨ho, ?_⟩⟩)
  refine ⟨.ref s.heap.objs.size, _, I.laid (t' := s.toks) (o := .tup []) (fun b ob q => Heap.get?_push_of_some _ q) (Nat.le_refl _) ?_, rfl, q _ (I.hok.fresh (Nat.le_refl _))⟩
  exact ⟨by decide, [], .nil, IsTup.new _ _⟩
end
end L2
set_option maxHeartbeats 200000
namespace PD
open PySem PySem.Spec L2

theorem pe_imp {X : L2.Cx} {e : Expr} {t u : TE} (h : PE X e t) (i : ∀ (σ : St) (H : Hp) (Q : VK), u σ H Q → t σ H Q) : PE X e u :=
  ⟨fun pins s σ H Q I q => h.run pins s σ H Q I (i σ H Q q)⟩

/-- the weakest wish of an exception in a context -/
def Ex (X : L2.Cx) : XK := fun cls d H' => ∀ u s', XE X (fun c' d' _ H2 => c' = cls ∧ d' = d ∧ H2 = H') u s' → X.xe u s'
theorem takesEx (X : L2.Cx) : Takes X (fun cls d _ H => Ex X cls d H) := fun u s' ⟨a, B, sI, pins, σ, H, cls, d, e, I, nb, up, sky, na, os, ag, w⟩ => w u s' ⟨a, B, sI, pins, σ, H, cls, d, e, I, nb, up, sky, na, os, ag, rfl, rfl, rfl⟩
theorem Ex.of {X : L2.Cx} {W : WX} (t : Takes X W) {cls : Value} {d : Option Addr} {H : Hp} (h : ∀ σ, W cls d σ H) : Ex X cls d H := fun u s' ⟨a, B, sI, pins, σ, H', c', d', e, I, nb, up, sky, na, os, ag, h1, h2, h3⟩ => by
  subst h1 h2 h3
  exact t u s' ⟨a, B, sI, pins, σ, _, _, _, e, I, nb, up, sky, na, os, ag, h σ⟩
abbrev gx (X : L2.Cx) : Gx := ⟨X.K, Ex X⟩
/-- a value's data, lists as they stand now -/
def RepW (K : PySem.W.Frag) (L : Plc) (H : Hp) : D → V → Prop
  | .lst l, v => ∃ a vs, v = .ref a ∧ H a = some (.lst vs) ∧ Reps K L H l vs
  | .ins c ns vs, v => ∃ a C dx ws, v = .ref a ∧ ClsAt K c C ns ∧ H a = some (.ins C dx ((oSs ns).zip ws)) ∧ ns.length = ws.length ∧ Reps K L H vs ws
  | d, v => Rep K L H d v
theorem Rep.w {K : PySem.W.Frag} {L : Plc} {H : Hp} {d : D} {v : V} (r : Rep K L H d v) : RepW K L H d v := by
  cases r with
  | lst e n r => exact ⟨_, _, rfl, e, r⟩
  | non => exact .non
  | bl b => exact .bl b
  | int i => exact .int i
  | str x => exact .str x
  | tup e n r => exact .tup e n r
  | tupK e r => exact .tupK e r
  | dct e n k r => exact .dct e n k r
  | ins c e n l r => exact ⟨_, _, _, _, rfl, c, e, l, r⟩
theorem rd_w {K : PySem.W.Frag} {L : Plc} {H : Hp} {st : CS} {p : PV} {v : V} {d : D} (s : SRel K L H st) (r : RepP K L H p v) (e : p.rd st = some d) : RepW K L H d v := by
  cases p with
  | d x =>
    have e' : x = d := Option.some.inj e
    subst e'
    exact Rep.w r
  | obj k =>
    unfold PV.rd at e
    simp only at e
    split at e
    · rename_i l h
      have e' := Option.some.inj e
      subst e'
      obtain ⟨a, vs, h1, h2, h3⟩ := s.at_ h
      exact ⟨a, vs, r.2 a h1, h2, h3⟩
    · rename_i c ns vs h
      have e' := Option.some.inj e
      subst e'
      obtain ⟨a, C, dx, ws, h1, h2, h3, h4, h5⟩ := s.atI h
      exact ⟨a, C, dx, ws, r.2 a h1, h2, h3, h4, h5⟩
    · cases e
  | scr ns => cases e
theorem RepW.sqT {K : PySem.W.Frag} {L : Plc} {H : Hp} {l : List D} {v : V} (r : RepW K L H (.tup l) v) : ∃ a vs, v = .ref a ∧ SqT K H a vs ∧ Reps K L H l vs := by
  have r' : Rep K L H (.tup l) v := r
  cases r' with
  | tup e n q => exact ⟨_, _, rfl, .of e, q⟩
  | tupK e q =>
    refine ⟨_, _, rfl, ?_, q⟩
    rcases e with (e | ⟨o, e⟩) | e
    · cases e
    · cases e
    · exact .inr e

/-! ### data as PyData -/
mutual
theorem Rep.dp {K : PySem.W.Frag} {L : Plc} {H : Hp} : ∀ {d : D} {v : V}, d.plain = true → Rep K L H d v → Dp K H v d.toP
  | _, _, _, .non => .non
  | _, _, _, .bl b => .bl b
  | _, _, _, .int i => .int i
  | _, _, _, .str x => .str x
  | _, _, p, .lst e n r => by rw [D.toP]; exact .lst (.of e) (Reps.dp (by simpa [D.plain] using p) r)
  | _, _, p, .tup e n r => by rw [D.toP]; exact .tup (.of e) (Reps.dp (by simpa [D.plain] using p) r)
  | _, _, p, .tupK e r => by
    rw [D.toP]
    refine .tup ?_ (Reps.dp (by simpa [D.plain] using p) r)
    rcases e with (e | ⟨o, e⟩) | e
    · cases e
    · cases e
    · exact .inr e
  | _, _, p, .dct e n k r => by simp [D.plain] at p
  | _, _, p, .ins c e n l r => by simp [D.plain] at p
theorem Reps.dp {K : PySem.W.Frag} {L : Plc} {H : Hp} : ∀ {l : List D} {vs : List V}, D.plains l = true → Reps K L H l vs → DpAll K H vs (D.toPs l)
  | _, _, _, .nil => by rw [D.toPs]; exact .nil
  | _, _, p, .cons r t => by
    rw [D.plains, Bool.and_eq_true] at p
    rw [D.toPs]; exact .cons (Rep.dp p.1 r) (Reps.dp p.2 t)
end
theorem RepW.dp {K : PySem.W.Frag} {L : Plc} {H : Hp} {d : D} {v : V} (p : d.plain = true) (r : RepW K L H d v) : Dp K H v d.toP := by
  cases d with
  | lst l =>
    obtain ⟨a, vs, rfl, e, q⟩ := r
    rw [D.toP]
    exact .lst (.of e) (q.dp (by simpa [D.plain] using p))
  | non => exact Rep.dp p r
  | bl b => exact Rep.dp p r
  | int i => exact Rep.dp p r
  | str x => exact Rep.dp p r
  | tup l => exact Rep.dp p r
  | dct ks vs => simp [D.plain] at p
  | ins c ns vs => simp [D.plain] at p
mutual
theorem D.plain_of_lay : ∀ {d : D}, d.toP.canLay0 = true → d.plain = true
  | .non, _ => rfl
  | .bl _, _ => rfl
  | .int _, _ => rfl
  | .str _, _ => rfl
  | .lst l, h => by
    rw [D.toP, PyData.canLay0] at h
    rw [D.plain]; exact D.plains_of_lay h
  | .tup l, h => by
    rw [D.toP, PyData.canLay0] at h
    rw [D.plain]; exact D.plains_of_lay h
  | .dct _ _, h => by rw [D.toP, PyData.canLay0] at h; cases h
  | .ins _ _ _, h => by rw [D.toP, PyData.canLay0] at h; cases h
theorem D.plains_of_lay : ∀ {l : List D}, PyData.canLayAll0 (D.toPs l) = true → D.plains l = true
  | [], _ => rfl
  | x :: r, h => by
    rw [D.toPs, PyData.canLayAll0, Bool.and_eq_true] at h
    rw [D.plains, D.plain_of_lay h.1, D.plains_of_lay h.2]; rfl
end
theorem D.plain_of_shaped {d : D} (h : SeqAt.shaped d.toP = true) : d.plain = true := by
  have h' : d.toP.canLay0 = true := by
    simp only [SeqAt.shaped, Bool.and_eq_true] at h
    exact h.1
  exact D.plain_of_lay h'

/-! ### operators -/
def boOp : BO → Operator
  | .add => .Add | .sub => .Sub | .mul => .Mult | .fdiv => .FloorDiv | .mod => .Mod | .pow => .Pow
def coOp : CO → CmpOp
  | .eq => .Eq | .ne => .NotEq | .lt => .Lt | .le => .LtE | .gt => .Gt | .ge => .GtE | .mem => .In | .nmem => .NotIn | .isb => .Is | .nisb => .IsNot
def rB (G : Gx) (f : D → D → Option D) : R2 := fun x y H Q => ∃ L st dx dy, SRel G.K L H st ∧ RepW G.K L H dx x ∧ RepW G.K L H dy y ∧ Out G L H Q (lift ((f dx dy).map PV.d) st)
theorem Reps.flat {K : PySem.W.Frag} {L : Plc} {H : Hp} {l : List D} {vs : List V} (r : Reps K L H l vs) : ∀ n : Nat, Reps K L H (List.replicate n l).flatten (List.replicate n vs).flatten
  | 0 => .nil
  | n + 1 => by
    rw [List.replicate_succ, List.replicate_succ, List.flatten_cons, List.flatten_cons]
    exact r.append (Reps.flat r n)
theorem Reps.nil_iff {K : PySem.W.Frag} {L : Plc} {H : Hp} {l : List D} {vs : List V} (r : Reps K L H l vs) : vs = [] ↔ l = [] := by
  cases r <;> simp
section
variable {X : L2.Cx}
theorem op_bin (o : BO) : OpR X (binaryOp (boOp o)) (rB (gx X) (binop o)) := by
  intro pins s σ H x y v u Q I rx ry h
  obtain ⟨L, st, dx, dy, hs, wx, wy, h⟩ := h
  cases dx with
  | int a =>
    cases dy with
    | int b =>
      have wx' : Rep X.K L H (.int a) x := wx
      have wy' : Rep X.K L H (.int b) y := wy
      cases wx'
      cases wy'
      cases o with
      | add => exact op_add pins s σ H _ _ v u Q I rx ry ⟨a, b, rfl, rfl, h.val hs (.int _)⟩
      | sub => exact op_sub pins s σ H _ _ v u Q I rx ry ⟨a, b, rfl, rfl, h.val hs (.int _)⟩
      | mul =>
        by_cases c : a.natAbs < 2 ^ 64 ∨ b.natAbs < 2 ^ 64 ∨ a.natAbs.log2 + b.natAbs.log2 < 1000000
        · simp only [binop, if_pos c, Option.map, lift] at h
          rcases c with c | c | c
          · exact op_mul pins s σ H _ _ v u Q I rx ry ⟨a, b, rfl, rfl, .inl ⟨by omega, by omega⟩, h.val hs (.int _)⟩
          · exact op_mul pins s σ H _ _ v u Q I rx ry ⟨a, b, rfl, rfl, .inr ⟨by omega, by omega⟩, h.val hs (.int _)⟩
          · exact op_mulW pins s σ H _ _ v u Q I rx ry ⟨a, b, rfl, rfl, c, h.val hs (.int _)⟩
        · simp only [binop, if_neg c, Option.map, lift, Out] at h
      | fdiv =>
        by_cases c : 0 < b ∧ b.natAbs.log2 < 9000
        · simp only [binop, if_pos c, Option.map, lift] at h
          exact op_fdivW pins s σ H _ _ v u Q I rx ry ⟨a, b, rfl, rfl, c, h.val hs (.int _)⟩
        · simp only [binop, if_neg c, Option.map, lift, Out] at h
      | mod =>
        by_cases c : 0 < b
        · simp only [binop, if_pos c, Option.map, lift] at h
          exact op_mod pins s σ H _ _ v u Q I rx ry ⟨a, b, rfl, rfl, c, h.val hs (.int _)⟩
        · simp only [binop, if_neg c, Option.map, lift, Out] at h
      | pow =>
        by_cases c : 0 ≤ b ∧ b ≤ 1000000 ∧ a.natAbs < 2 ^ 64
        · simp only [binop, if_pos c, Option.map, lift] at h
          exact op_pow pins s σ H _ _ v u Q I rx ry ⟨a, b, rfl, rfl, c, h.val hs (.int _)⟩
        · simp only [binop, if_neg c, Option.map, lift, Out] at h
    | _ => cases o <;> exact h.elim
  | str a =>
    cases dy with
    | str b =>
      have wx' : Rep X.K L H (.str a) x := wx
      have wy' : Rep X.K L H (.str b) y := wy
      cases wx'
      cases wy'
      cases o with
      | add =>
        by_cases c : a.length + b.length ≤ sizeLine
        · simp only [binop, if_pos c, Option.map, lift] at h
          exact op_add_str pins s σ H _ _ v u Q I rx ry ⟨a, b, rfl, rfl, c, h.val hs (.str _)⟩
        · simp only [binop, if_neg c, Option.map, lift, Out] at h
      | _ => exact h.elim
    | _ => cases o <;> exact h.elim
  | lst a =>
    cases dy with
    | lst b =>
      obtain ⟨p, xs, rfl, hp, qx⟩ := wx
      obtain ⟨p2, ys, rfl, hp2, qy⟩ := wy
      cases o with
      | add =>
        by_cases c : a.length + b.length ≤ sizeLine
        · simp only [binop, if_pos c, Option.map, lift] at h
          exact op_cat pins s σ H _ _ v u Q I rx ry ⟨p, p2, xs, ys, rfl, rfl, hp, hp2, by rw [← qx.length, ← qy.length]; exact c, h.lst hs (qx.append qy)⟩
        · simp only [binop, if_neg c, Option.map, lift, Out] at h
      | _ => exact h.elim
    | int n =>
      obtain ⟨p, xs, rfl, hp, qx⟩ := wx
      have wy' : Rep X.K L H (.int n) y := wy
      cases wy'
      cases o with
      | mul =>
        by_cases c : -(2 ^ 63) ≤ n ∧ n < 2 ^ 63 ∧ a.length * n.toNat ≤ sizeLine
        · simp only [binop, if_pos c, Option.map, lift] at h
          exact op_rep pins s σ H _ _ v u Q I rx ry ⟨p, n, xs, rfl, rfl, hp, c.1, c.2.1, by rw [← qx.length]; exact c.2.2, h.lst hs (qx.flat _)⟩
        · simp only [binop, if_neg c, Option.map, lift, Out] at h
      | _ => exact h.elim
    | _ => cases o <;> exact h.elim
  | tup a =>
    cases dy with
    | tup b =>
      have rx0 : Rep X.K L H (.tup a) x := wx
      have ry0 : Rep X.K L H (.tup b) y := wy
      obtain ⟨p, xs, rfl, hp, qx⟩ := wx.sqT
      obtain ⟨p2, ys, rfl, hp2, qy⟩ := wy.sqT
      cases o with
      | add =>
        by_cases c : a.length + b.length ≤ sizeLine
        · simp only [binop, if_pos c, Option.map, lift] at h
          refine op_catA pins s σ H _ _ v u Q I rx ry ⟨p, p2, xs, ys, rfl, rfl, hp, hp2, by rw [← qx.length, ← qy.length]; exact c, fun e => ?_, fun _ e => ?_, fun _ _ => h.tup hs (qx.append qy)⟩
          · have e' := qx.nil_iff.mp e
            subst e'
            exact h.val hs ry0
          · have e' := qy.nil_iff.mp e
            subst e'
            rw [List.append_nil] at h
            exact h.val hs rx0
        · simp only [binop, if_neg c, Option.map, lift, Out] at h
      | _ => exact h.elim
    | int n =>
      obtain ⟨p, xs, rfl, hp, qx⟩ := wx.sqT
      have wy' : Rep X.K L H (.int n) y := wy
      cases wy'
      cases o with
      | mul =>
        have rx0 : Rep X.K L H (.tup a) (.ref p) := wx
        by_cases c : a ≠ [] ∧ -1000 ≤ n ∧ n ≤ 1000 ∧ a.length ≤ 1000
        · simp only [binop, if_pos c, Option.map, lift] at h
          by_cases n1 : n = 1
          · subst n1
            refine op_repT1 pins s σ H _ _ v u Q I rx ry ⟨p, xs, rfl, rfl, hp, ?_⟩
            have e : (List.replicate (1 : Int).toNat a).flatten = a := by simp
            rw [e] at h
            exact h.val hs rx0
          by_cases n0 : n ≤ 0
          · refine op_repT0 pins s σ H _ _ v u Q I rx ry ⟨p, n, xs, rfl, rfl, hp, fun e => c.1 (qx.nil_iff.mp e), n0, c.2.1, ?_⟩
            have e : (List.replicate n.toNat a).flatten = [] := by
              rw [Int.toNat_of_nonpos n0]; rfl
            rw [e] at h
            exact h.tup hs .nil
          have c : a ≠ [] ∧ 2 ≤ n ∧ n ≤ 1000 ∧ a.length ≤ 1000 := ⟨c.1, by omega, c.2.2⟩
          exact op_repT pins s σ H _ _ v u Q I rx ry ⟨p, n, xs, rfl, rfl, hp, fun e => c.1 (qx.nil_iff.mp e), c.2.1, c.2.2.1, by rw [← qx.length]; exact c.2.2.2, h.tup hs (qx.flat _)⟩
        · simp only [binop, if_neg c, Option.map, lift, Out] at h
      | _ => exact h.elim
    | _ => cases o <;> exact h.elim
  | _ => cases o <;> exact h.elim

theorem memOut {a : D} {l : List D} (c : (SeqAt.shaped a.toP && SeqAt.shaped (D.lst l).toP) = true) : memD a (.lst l) = some (l.any fun z => PyData.eqv z.toP a.toP) := by
  simp only [memD, if_pos c]
theorem toPs_any (f : PyData → Bool) : ∀ l : List D, (D.toPs l).any f = l.any fun z => f z.toP
  | [] => by simp [D.toPs]
  | x :: r => by simp [D.toPs, toPs_any f r]
theorem op_cmp (o : CO) (hu : X.A.units + 65 < cLine) : OpR X (compareOp (coOp o)) (rB (gx X) (cmpop o)) := by
  intro pins s σ H x y v u Q I rx ry h
  obtain ⟨L, st, dx, dy, hs, wx, wy, h⟩ := h
  have hu4 : X.A.units + 64 < cLine := by omega
  have viaI : ∀ (r : R2) (g : Int → Int → Bool) (a b : Int), dx = .int a → dy = .int b → (cmpop o (.int a) (.int b) = some (.bl (g a b))) → (OpR X (compareOp (coOp o)) (rI0 fun i j => .bl (g i j))) →
      wpAny (model X.prog X.w) X.A (compareOp (coOp o) v u) (EP X pins σ Q) X.xe s := by
    intro r g a b e1 e2 e3 ho
    subst e1 e2
    rw [e3] at h
    have wx' : Rep X.K L H (.int a) x := wx
    have wy' : Rep X.K L H (.int b) y := wy
    cases wx'
    cases wy'
    exact ho pins s σ H _ _ v u Q I rx ry ⟨a, b, rfl, rfl, h.val hs (.bl _)⟩
  have strsOk : ∀ {c : Bool}, strEq dx dy = some c → ∃ a b, dx = .str a ∧ dy = .str b ∧ c = (a == b) := fun {c} e => by
    cases dx <;> cases dy <;> first | (cases e; exact ⟨_, _, rfl, rfl, rfl⟩) | cases e
  cases o with
  | eq =>
    cases e : strEq dx dy with
    | some c =>
      obtain ⟨a, b, rfl, rfl, rfl⟩ := strsOk e
      have wx' : Rep X.K L H (.str a) x := wx
      have wy' : Rep X.K L H (.str b) y := wy
      cases wx'
      cases wy'
      refine op_eq pins s σ H _ _ v u Q I rx ry ⟨rfl, ?_⟩
      have := h.val hs (.bl _)
      have e2 : decide (V.str a = V.str b) = (a == b) := by
        rw [Bool.eq_iff_iff]
        simp
      rw [e2]
      exact this
    | none =>
      simp only [cmpop, eqD, e, Option.none_or] at h
      by_cases c : (SeqAt.shaped dx.toP && SeqAt.shaped dy.toP) = true
      · simp only [eqS, if_pos c, Option.map, lift] at h
        have c' := Bool.and_eq_true_iff.mp c
        exact op_eqD hu4 pins s σ H x y v u Q I rx ry ⟨_, _, wx.dp (D.plain_of_shaped c'.1), wy.dp (D.plain_of_shaped c'.2), c'.1, c'.2, h.val hs (.bl _)⟩
      · simp only [eqS, if_neg c, Option.map, lift, Out] at h
  | ne =>
    cases e : strEq dx dy with
    | some c =>
      obtain ⟨a, b, rfl, rfl, rfl⟩ := strsOk e
      have wx' : Rep X.K L H (.str a) x := wx
      have wy' : Rep X.K L H (.str b) y := wy
      cases wx'
      cases wy'
      refine op_ne pins s σ H _ _ v u Q I rx ry ⟨rfl, ?_⟩
      have := h.val hs (.bl _)
      have e2 : decide (V.str a = V.str b) = (a == b) := by
        rw [Bool.eq_iff_iff]
        simp
      rw [e2]
      exact this
    | none =>
      simp only [cmpop, eqD, e, Option.none_or] at h
      by_cases c : (SeqAt.shaped dx.toP && SeqAt.shaped dy.toP) = true
      · simp only [eqS, if_pos c, Option.map, lift] at h
        have c' := Bool.and_eq_true_iff.mp c
        exact op_neD hu4 pins s σ H x y v u Q I rx ry ⟨_, _, wx.dp (D.plain_of_shaped c'.1), wy.dp (D.plain_of_shaped c'.2), c'.1, c'.2, h.val hs (.bl _)⟩
      · simp only [eqS, if_neg c, Option.map, lift, Out] at h
  | lt =>
    cases dx with
    | int a => cases dy with
      | int b => exact viaI (fun _ _ _ _ => True) (fun i j => decide (i < j)) a b rfl rfl rfl op_lt
      | _ => exact h.elim
    | _ => exact h.elim
  | le =>
    cases dx with
    | int a => cases dy with
      | int b => exact viaI (fun _ _ _ _ => True) (fun i j => decide (i ≤ j)) a b rfl rfl rfl op_le
      | _ => exact h.elim
    | _ => exact h.elim
  | gt =>
    cases dx with
    | int a => cases dy with
      | int b => exact viaI (fun _ _ _ _ => True) (fun i j => decide (j < i)) a b rfl rfl rfl op_gt
      | _ => exact h.elim
    | _ => exact h.elim
  | ge =>
    cases dx with
    | int a => cases dy with
      | int b => exact viaI (fun _ _ _ _ => True) (fun i j => decide (j ≤ i)) a b rfl rfl rfl op_ge
      | _ => exact h.elim
    | _ => exact h.elim
  | mem =>
    cases dy with
    | lst l =>
      by_cases c : (SeqAt.shaped dx.toP && SeqAt.shaped (D.lst l).toP) = true
      · simp only [cmpop, memOut c, Option.map, lift] at h
        have c' := Bool.and_eq_true_iff.mp c
        have wd := RepW.dp (d := .lst l) (D.plain_of_shaped c'.2) wy
        rw [D.toP] at wd
        have c2 := c'.2
        rw [D.toP] at c2
        exact op_inD hu pins s σ H x y v u Q I rx ry ⟨_, _, wx.dp (D.plain_of_shaped c'.1), wd, c'.1, c2, by rw [toPs_any]; exact h.val hs (.bl _)⟩
      · simp only [cmpop, memD, if_neg c, Option.map, lift, Out] at h
    | _ => exact h.elim
  | isb =>
    cases dx with
    | bl a => cases dy with
      | bl b =>
        have wx' : Rep X.K L H (.bl a) x := wx
        have wy' : Rep X.K L H (.bl b) y := wy
        cases wx'
        cases wy'
        exact op_isBl pins s σ H _ _ v u Q I rx ry ⟨a, b, rfl, rfl, h.val hs (.bl _)⟩
      | _ => exact h.elim
    | _ => exact h.elim
  | nisb =>
    cases dx with
    | bl a => cases dy with
      | bl b =>
        have wx' : Rep X.K L H (.bl a) x := wx
        have wy' : Rep X.K L H (.bl b) y := wy
        cases wx'
        cases wy'
        exact op_notBl pins s σ H _ _ v u Q I rx ry ⟨a, b, rfl, rfl, h.val hs (.bl _)⟩
      | _ => exact h.elim
    | _ => exact h.elim
  | nmem =>
    cases dy with
    | lst l =>
      by_cases c : (SeqAt.shaped dx.toP && SeqAt.shaped (D.lst l).toP) = true
      · simp only [cmpop, memOut c, Option.map, lift] at h
        have c' := Bool.and_eq_true_iff.mp c
        have wd := RepW.dp (d := .lst l) (D.plain_of_shaped c'.2) wy
        rw [D.toP] at wd
        have c2 := c'.2
        rw [D.toP] at c2
        exact op_notInD hu pins s σ H x y v u Q I rx ry ⟨_, _, wx.dp (D.plain_of_shaped c'.1), wd, c'.1, c2, by rw [toPs_any]; exact h.val hs (.bl _)⟩
      · simp only [cmpop, memD, if_neg c, Option.map, lift, Out] at h
    | _ => exact h.elim
end
end PD

set_option Elab.async false
set_option linter.all false
set_option autoImplicit false
set_option maxRecDepth 100000
/-! PdD: expressions and tests. -/
namespace PD
open PySem PySem.Spec L2

/-- what a step comes to, asked of a place and a heap -/
structure Fam (G : Gx) {β : Type} (O : Plc → Hp → R β → Prop) : Prop where
  ev : ∀ {L L' : Plc} {H H' : Hp} {r : R β}, Ev L H L' H' → O L H r → O L' H' r
  exc : ∀ {L : Plc} {H : Hp} {c : String} {ns : List String} {vs : List D} {s : CS}, O L H (.exc c ns vs s) → OutX G L H c ns vs s
  bad : ∀ {L : Plc} {H : Hp}, ¬ O L H .bad
def OutG {β : Type} (G : Gx) (P : Plc → Hp → β → Prop) (L : Plc) (H : Hp) : R β → Prop
  | .ok b st' => ∀ L' H', Ev L H L' H' → SRel G.K L' H' st' → P L' H' b
  | .exc c ns vs s => OutX G L H c ns vs s
  | .bad => False
theorem OutG.fam {β : Type} {G : Gx} {P : Plc → Hp → β → Prop} : Fam G (OutG G P) where
  ev := fun {L L' H H' r} e o => by
    cases r with
    | ok b st => exact fun L2 H2 e2 => o L2 H2 (e.trans e2)
    | exc xc xn xv xs => exact OutX.ev o e
    | bad => exact o
  exc := fun o => o
  bad := fun o => o
theorem Out.fam {G : Gx} {Q : VK} : Fam G (fun L H r => Out G L H Q r) := ⟨fun e o => o.ev e, fun o => o, fun o => o⟩
/-- arguments -/
def RepPs (K : PySem.W.Frag) (L : Plc) (H : Hp) : List PV → List V → Prop := Paired (RepP K L H)
def OutA (G : Gx) (Q : List V → Hp → Prop) (L : Plc) (H : Hp) (r : R (List PV)) : Prop := OutG G (fun L' H' ps => ∀ vs, RepPs G.K L' H' ps vs → Q vs H') L H r
/-- a test's end: the value's truth -/
def OutT (G : Gx) (Q : Bool → Hp → Prop) (L : Plc) (H : Hp) : R PV → Prop
  | .ok p st' => match (p.rd st').bind truth with
    | some b => ∀ L' H', Ev L H L' H' → SRel G.K L' H' st' → Q b H'
    | none => False
  | .exc c ns vs s => OutX G L H c ns vs s
  | .bad => False
theorem OutT.fam {G : Gx} {Q : Bool → Hp → Prop} : Fam G (OutT G Q) where
  ev := fun {L L' H H' r} e o => by
    cases r with
    | ok p st =>
      unfold OutT at o ⊢
      cases h : (p.rd st).bind truth with
      | none => simp only [h] at o
      | some b => simp only [h] at o ⊢; exact fun L2 H2 e2 => o L2 H2 (e.trans e2)
    | exc xc xn xv xs => exact OutX.ev o e
    | bad => exact o
  exc := fun o => o
  bad := fun o => o
def OutB (G : Gx) (Q : Bool → Hp → Prop) (L : Plc) (H : Hp) (r : R Bool) : Prop := OutG G (fun _ H' b => Q b H') L H r

def tA (G : Gx) (m : Env → CS → R (List PV)) : TA := fun σ H Q => ∃ L ρ st, SRel G.K L H st ∧ ERel G.K L H ρ σ ∧ OutA G Q L H (m ρ st)
def tT (G : Gx) (m : Env → CS → R PV) : TT := fun σ H Q => ∃ L ρ st, SRel G.K L H st ∧ ERel G.K L H ρ σ ∧ OutT G Q L H (m ρ st)
section
variable {G : Gx} {L : Plc} {H : Hp} {st : CS} {ρ : Env} {σ : St} {m : Env → CS → R PV}
/-- one step, then the rest -/
theorem tM_bind {β : Type} {O : Plc → Hp → R β → Prop} {k : PV → CS → R β} {Q1 : VK} (F : Fam G O) (s : SRel G.K L H st) (e : ERel G.K L H ρ σ) (h : O L H ((m ρ st).bind k))
    (c : ∀ (v : V) (H1 : Hp) (L1 : Plc) (s1 : CS) (p : PV), Ev L H L1 H1 → SRel G.K L1 H1 s1 → ERel G.K L1 H1 ρ σ → RepP G.K L1 H1 p v → O L1 H1 (k p s1) → Q1 v H1) : tM G m σ H Q1 := by
  refine ⟨L, ρ, st, s, e, ?_⟩
  cases r : m ρ st with
  | exc xc xn xv xs => rw [r] at h; exact F.exc h
  | bad => rw [r] at h; exact (F.bad h).elim
  | ok p s1 =>
    rw [r] at h
    exact fun L1 H1 v v1 s2 rp => c v H1 L1 s1 p v1 s2 (e.ev v1) rp (F.ev v1 h)
theorem tA_bind {β : Type} {O : Plc → Hp → R β → Prop} {m : Env → CS → R (List PV)} {k : List PV → CS → R β} {Q1 : List V → Hp → Prop} (F : Fam G O) (s : SRel G.K L H st) (e : ERel G.K L H ρ σ) (h : O L H ((m ρ st).bind k))
    (c : ∀ (vs : List V) (H1 : Hp) (L1 : Plc) (s1 : CS) (ps : List PV), Ev L H L1 H1 → SRel G.K L1 H1 s1 → ERel G.K L1 H1 ρ σ → RepPs G.K L1 H1 ps vs → O L1 H1 (k ps s1) → Q1 vs H1) : tA G m σ H Q1 := by
  refine ⟨L, ρ, st, s, e, ?_⟩
  cases r : m ρ st with
  | exc xc xn xv xs => rw [r] at h; exact F.exc h
  | bad => rw [r] at h; exact (F.bad h).elim
  | ok p s1 =>
    rw [r] at h
    exact fun L1 H1 v1 s2 vs rp => c vs H1 L1 s1 p v1 s2 (e.ev v1) rp (F.ev v1 h)
end
theorem paired_ev {K : PySem.W.Frag} {L L' : Plc} {H H' : Hp} {ps : List PV} {vs : List V} (r : RepPs K L H ps vs) (e : Ev L H L' H') : RepPs K L' H' ps vs := Paired.mapP r fun _ _ z => z.ev e

abbrev SE (X : L2.Cx) (C : Cl) (x : Expr) (e : E) : Prop := PE X x (tM (gx X) (evE C e))
abbrev SA (X : L2.Cx) (C : Cl) (xs : List Expr) (es : Es) : Prop := PA X xs (tA (gx X) (evEs C es))
abbrev ST (X : L2.Cx) (C : Cl) (x : Expr) (e : E) : Prop := PT X x (tT (gx X) (evE C e))

section
variable {X : L2.Cx} {C : Cl} {a b c x : Expr} {xs : List Expr} {ea eb ec : E} {es : Es} {pos : Pos}

/-! ### constants, names -/
theorem sE_non {j : Nat} : SE X C (.Constant .none j pos) (.lit .non) := pe_imp pe_non fun σ H Q ⟨L, ρ, st, s, e, o⟩ => o.val s .non
theorem sE_bl {v : Bool} {j : Nat} : SE X C (.Constant (.bool v) j pos) (.lit (.bl v)) := pe_imp pe_bl fun σ H Q ⟨L, ρ, st, s, e, o⟩ => o.val s (.bl v)
theorem sE_int {i : Int} {j : Nat} : SE X C (.Constant (.int i) j pos) (.lit (.int i)) := pe_imp pe_int fun σ H Q ⟨L, ρ, st, s, e, o⟩ => o.val s (.int i)
theorem sE_str {z : Str} {j : Nat} : SE X C (.Constant (.str z) j pos) (.lit (.str z)) := pe_imp pe_str fun σ H Q ⟨L, ρ, st, s, e, o⟩ => o.val s (.str z)
theorem sE_var {i : Nat} {n : Str} (hN : X.N[i]? = some n) (hv : Vis X.env.scope n) (hd : (n == ("__debug__" : Str)) = false) (hcd : (n == ("__classdict__" : Str)) = false) : SE X C (.Name n pos) (.var i) :=
  pe_imp (pe_var hN hv hd hcd) fun σ H Q ⟨L, ρ, st, s, e, o⟩ => by
    simp only [evE] at o
    cases q : ρ[i]? with
    | none => rw [q] at o; exact o.elim
    | some z =>
      rw [q] at o
      cases z with
      | none => exact o.elim
      | some p =>
        obtain ⟨v, h1, h2⟩ := e.at_ i p q
        exact ⟨v, h1, o L H v (.refl _ _) s h2⟩

/-! ### operators -/
theorem sE_op {f : D → D → Option D} {g : Value → Value → Sem Value} {y : Expr} (ho : OpR X g (rB (gx X) f)) (hp : ∀ {ta tb : TE} {r : R2}, OpR X g r → PE X a ta → PE X b tb → PE X y (tOp r ta tb))
    (ha : SE X C a ea) (hb : SE X C b eb) : PE X y (tM (gx X) fun ρ s => (evE C ea ρ s).bind fun x s1 => (evE C eb ρ s1).bind fun y s2 => lift (match x.rd s2, y.rd s2 with
      | some x, some y => (f x y).map PV.d
      | _, _ => none) s2) :=
  pe_imp (hp ho ha hb) fun σ H Q ⟨L, ρ, st, s, e, o⟩ => tM_bind (O := fun L H r => Out (gx X) L H Q r) Out.fam s e o fun v H1 L1 s1 p v1 q1 e1 r1 o1 =>
    tM_bind (O := fun L H r => Out (gx X) L H Q r) Out.fam q1 e1 o1 fun w H2 L2 s2 p2 v2 q2 e2 r2 o2 => by
      have r1' := r1.ev v2
      cases h1 : p.rd s2 with
      | none => rw [h1] at o2; exact o2.elim
      | some x =>
        cases h2 : p2.rd s2 with
        | none => rw [h1, h2] at o2; exact o2.elim
        | some y =>
          rw [h1, h2] at o2
          exact ⟨L2, s2, x, y, q2, rd_w q2 r1' h1, rd_w q2 r2 h2, o2⟩
theorem sE_bin (o : BO) (ha : SE X C a ea) (hb : SE X C b eb) : SE X C (.BinOp a (boOp o) b pos) (.bin o ea eb) := by
  have h := sE_op (y := .BinOp a (boOp o) b pos) (op_bin o) (fun r p q => pe_op r p q) ha hb
  exact pe_imp h fun σ H Q ⟨L, ρ, st, s, e, o⟩ => ⟨L, ρ, st, s, e, by simp only [evE] at o; exact o⟩
theorem mark_in {o : CO} (h : ∀ es k p, b ≠ .Set es k p) (h2 : ∀ es p, b ≠ .List es p) : behindInMarks (coOp o) b = false := by
  cases o <;> cases b <;> first | rfl | exact absurd rfl (h _ _ _) | exact absurd rfl (h2 _ _)
theorem sE_cmp (o : CO) (hu : X.A.units + 65 < cLine) (hm : behindInMarks (coOp o) b = false) (ha : SE X C a ea) (hb : SE X C b eb) : SE X C (.Compare a [coOp o] [b] pos) (.cmp o ea eb) := by
  have h := sE_op (y := .Compare a [coOp o] [b] pos) (op_cmp o hu) (fun r p q => pe_cmpR r p q hm) ha hb
  exact pe_imp h fun σ H Q ⟨L, ρ, st, s, e, o⟩ => ⟨L, ρ, st, s, e, by simp only [evE] at o; exact o⟩
theorem sE_neg (ha : SE X C a ea) : SE X C (.UnaryOp .USub a pos) (.neg ea) :=
  pe_imp (pe_un un_neg ha) fun σ H Q ⟨L, ρ, st, s, e, o⟩ => by
    simp only [evE] at o
    refine tM_bind (O := fun L H r => Out (gx X) L H Q r) Out.fam s e o fun v H1 L1 s1 p v1 q1 e1 r1 o1 => ?_
    cases p with
    | d x => cases x with
      | int i =>
        have r1' : Rep X.K L1 H1 (.int i) v := r1
        cases r1'
        exact ⟨i, rfl, o1.val q1 (.int _)⟩
      | _ => exact o1.elim
    | _ => exact o1.elim
theorem RepP.isn {K : PySem.W.Frag} {L : Plc} {H : Hp} {p : PV} {v : V} {st : CS} {b : Bool} (s : SRel K L H st) (r : RepP K L H p v) (h : isNone p st = some b) : decide (v = .non) = b := by
  cases p with
  | d x =>
    have r' : Rep K L H x v := r
    cases r' <;> (cases h; simp)
  | obj k =>
    simp only [isNone] at h
    split at h
    · cases h
    · rename_i c hnd hl
      cases h
      cases c with
      | lst l =>
        obtain ⟨a, vs, h1, _, _⟩ := s.at_ hl
        have := r.2 a h1
        subst this
        simp
      | ins c ns vs =>
        obtain ⟨a, C, dx, ws, h1, _, _⟩ := s.atI hl
        have := r.2 a h1
        subst this
        simp
      | dead => exact absurd rfl hnd
    · cases h
  | scr ns =>
    obtain ⟨a, rfl, _⟩ := r
    cases h
    simp
theorem sE_isn (ha : SE X C a ea) {j : Nat} {p' : Pos} : SE X C (.Compare a [.Is] [.Constant .none j p'] pos) (.isn false ea) :=
  pe_imp (pe_cmp (pc_isN ha) rfl) fun σ H Q ⟨L, ρ, st, s, e, o⟩ => by
    simp only [evE] at o
    refine tM_bind (O := fun L H r => Out (gx X) L H Q r) Out.fam s e o fun v H1 L1 s1 p v1 q1 e1 r1 o1 => ?_
    cases h : isNone p s1 with
    | none => rw [h] at o1; exact o1.elim
    | some b =>
      rw [h] at o1
      rw [r1.isn q1 h]
      simp only [Option.map, lift, Bool.bne_false] at o1
      exact o1.val q1 (.bl b)
theorem sE_notn (ha : SE X C a ea) {j : Nat} {p' : Pos} : SE X C (.Compare a [.IsNot] [.Constant .none j p'] pos) (.isn true ea) :=
  pe_imp (pe_cmp (pc_notN ha) rfl) fun σ H Q ⟨L, ρ, st, s, e, o⟩ => by
    simp only [evE] at o
    refine tM_bind (O := fun L H r => Out (gx X) L H Q r) Out.fam s e o fun v H1 L1 s1 p v1 q1 e1 r1 o1 => ?_
    cases h : isNone p s1 with
    | none => rw [h] at o1; exact o1.elim
    | some b =>
      rw [h] at o1
      rw [r1.isn q1 h]
      simp only [Option.map, lift, Bool.bne_true] at o1
      exact o1.val q1 (.bl (!b))

/-! ### truth -/
theorem tru_w {K : PySem.W.Frag} {L : Plc} {H : Hp} {d : D} {v : V} {b : Bool} (r : RepW K L H d v) (h : truth d = some b) : TruV K v H b := by
  cases d with
  | lst l =>
    obtain ⟨a, vs, rfl, e, q⟩ := r
    cases h
    refine .inl ⟨vs, .of e, ?_⟩
    cases q <;> rfl
  | non =>
    have r' : Rep K L H .non v := r
    cases r'; cases h; rfl
  | bl c =>
    have r' : Rep K L H (.bl c) v := r
    cases r'; cases h; rfl
  | int i =>
    have r' : Rep K L H (.int i) v := r
    cases r'; cases h; rfl
  | str z =>
    have r' : Rep K L H (.str z) v := r
    cases r'
    by_cases c : z.length ≤ sizeLine
    · simp only [truth, if_pos c, Option.some.injEq] at h
      subst h
      refine ⟨c, ?_⟩
      cases e : (z.length != 0) <;> simp_all
    · simp only [truth, if_neg c] at h
      cases h
  | tup l =>
    obtain ⟨a, vs, rfl, e, q⟩ := r.sqT
    cases h
    refine .inr (.inl ⟨vs, e, ?_⟩)
    cases q <;> rfl
  | dct ks vs => cases h
  | ins c ns vs => cases h
theorem tru_p {K : PySem.W.Frag} {L : Plc} {H : Hp} {st : CS} {p : PV} {v : V} {b : Bool} (s : SRel K L H st) (r : RepP K L H p v) (h : (p.rd st).bind truth = some b) : TruV K v H b := by
  cases e : p.rd st with
  | none => rw [e] at h; cases h
  | some d =>
    rw [e] at h
    exact tru_w (rd_w s r e) h
/-- a plain test -/
theorem sT_plain (ha : SE X C a ea) (he : ∀ whole, isTrue a X.env whole = (do let v ← whole; standAt a.pos; holding [v] (truthy v))) : ST X C a ea :=
  ⟨fun pins s σ H Q I h => (pt_truth ha he).run pins s σ H Q I (by
    obtain ⟨L, ρ, st, q, e, o⟩ := h
    have o' : OutT (gx X) Q L H ((evE C ea ρ st).bind fun p s1 => .ok p s1) := by
      cases r : evE C ea ρ st with
      | exc xc xn xv xs => rw [r] at o; exact o
      | bad => rw [r] at o; exact o
      | ok p s1 => rw [r] at o; exact o
    refine tM_bind OutT.fam q e o' fun v H1 L1 s1 p v1 q1 e1 r1 o1 => ?_
    unfold OutT at o1
    cases h : (p.rd s1).bind truth with
    | none => simp only [h] at o1
    | some b =>
      simp only [h] at o1
      exact ⟨b, tru_p q1 r1 h, o1 L1 H1 (.refl _ _) q1⟩)⟩
theorem pt_imp {e : Expr} {t u : TT} (h : PT X e t) (i : ∀ (σ : St) (H : Hp) (Q : Bool → Hp → Prop), u σ H Q → t σ H Q) : PT X e u :=
  ⟨fun pins s σ H Q I q => h.run pins s σ H Q I (i σ H Q q)⟩
theorem tT_bind {G : Gx} {L : Plc} {H : Hp} {st : CS} {ρ : Env} {σ : St} {m : Env → CS → R PV} {β : Type} {O : Plc → Hp → R β → Prop} {k : Bool → CS → R β} {Q1 : Bool → Hp → Prop} (F : Fam G O) (s : SRel G.K L H st) (e : ERel G.K L H ρ σ)
    (h : O L H ((m ρ st).bind fun x s1 => match (x.rd s1).bind truth with
      | some b => k b s1
      | none => .bad))
    (c : ∀ (b : Bool) (H1 : Hp) (L1 : Plc) (s1 : CS), Ev L H L1 H1 → SRel G.K L1 H1 s1 → ERel G.K L1 H1 ρ σ → O L1 H1 (k b s1) → Q1 b H1) : tT G m σ H Q1 := by
  refine ⟨L, ρ, st, s, e, ?_⟩
  cases r : m ρ st with
  | exc xc xn xv xs => rw [r] at h; exact F.exc h
  | bad => rw [r] at h; exact (F.bad h).elim
  | ok p s1 =>
    rw [r] at h
    simp only [R.bind] at h
    cases hb : (p.rd s1).bind truth with
    | none => rw [hb] at h; exact (F.bad h).elim
    | some b =>
      rw [hb] at h
      simp only [OutT, hb]
      exact fun L1 H1 v1 s2 => c b H1 L1 s1 v1 s2 (e.ev v1) (F.ev v1 h)
/-! not, and, or, if else -/
theorem sE_not (ha : SE X C a ea) : SE X C (.UnaryOp .Not a pos) (.not ea) :=
  pe_imp (pe_notT ha) fun σ H Q ⟨L, ρ, st, s, e, o⟩ => by
    simp only [evE] at o
    refine tM_bind (O := fun L H r => Out (gx X) L H Q r) Out.fam s e o fun v H1 L1 s1 p v1 q1 e1 r1 o1 => ?_
    cases h : (p.rd s1).bind truth with
    | none =>
      cases h2 : p.rd s1 with
      | none => rw [h2] at o1; exact o1.elim
      | some d =>
        rw [h2] at h o1
        have h' : truth d = none := h
        simp only [Option.bind, h', Option.map, lift, Out] at o1
    | some b =>
      refine ⟨b, tru_p q1 r1 h, ?_⟩
      cases h2 : p.rd s1 with
      | none => rw [h2] at h; cases h
      | some d =>
        rw [h2] at h o1
        have h' : truth d = some b := h
        simp only [Option.bind, h', Option.map, lift] at o1
        exact o1.val q1 (.bl _)
theorem sT_not (ha : ST X C a ea) : ST X C (.UnaryOp .Not a pos) (.not ea) :=
  pt_imp (pt_not ha) fun σ H Q ⟨L, ρ, st, s, e, o⟩ => by
    simp only [evE] at o
    refine tT_bind (O := OutT (gx X) Q) (k := fun b s1 => .ok (.d (.bl !b)) s1) OutT.fam s e ?_ fun b H1 L1 s1 v1 q1 e1 o1 => ?_
    · cases r : evE C ea ρ st with
      | exc xc xn xv xs => rw [r] at o; exact o
      | bad => rw [r] at o; exact o
      | ok p s1 =>
        rw [r] at o
        simp only [R.bind] at o ⊢
        cases h2 : p.rd s1 with
        | none => rw [h2] at o; exact o
        | some d =>
          rw [h2] at o
          cases h3 : truth d with
          | none => simp only [Option.bind, h3, Option.map, lift] at o ⊢; exact o
          | some b => simp only [Option.bind, h3, Option.map, lift] at o ⊢; exact o
    · simp only [OutT, PV.rd, Option.bind, truth] at o1
      exact o1 L1 H1 (.refl _ _) q1
theorem sE_ite (hc : ST X C c ec) (ha : SE X C a ea) (hb : SE X C b eb) : SE X C (.IfExp c a b pos) (.ite ec ea eb) :=
  pe_imp (pe_ifExp hc ha hb) fun σ H Q ⟨L, ρ, st, s, e, o⟩ => by
    simp only [evE] at o
    refine tT_bind (O := fun L H r => Out (gx X) L H Q r) (k := fun b s1 => if b = true then evE C ea ρ s1 else evE C eb ρ s1) Out.fam s e ?_ fun d H1 L1 s1 v1 q1 e1 o1 => ?_
    · cases r : evE C ec ρ st with
      | exc xc xn xv xs => rw [r] at o; exact o
      | bad => rw [r] at o; exact o
      | ok p s1 =>
        rw [r] at o
        simp only [R.bind] at o ⊢
        cases h : (p.rd s1).bind truth with
        | none => rw [h] at o; exact o
        | some b => rw [h] at o; cases b <;> exact o
    · cases d with
      | true => exact ⟨L1, ρ, s1, q1, e1, o1⟩
      | false => exact ⟨L1, ρ, s1, q1, e1, o1⟩
theorem pt_ite {tc t u : TT} (hc : PT X c tc) (ha : PT X a t) (hb : PT X b u) : PT X (.IfExp c a b pos) (fun σ H Q => tc σ H fun d H1 => if d = true then t σ H1 Q else u σ H1 Q) := by
  refine ⟨fun pins s σ H Q I h => ?_⟩
  refine PyProof.Rows.isTrue_IfExp (thn (hc.run pins s σ H _ I h) fun d s1 ⟨H1, I1, q1⟩ => ?_)
  cases d with
  | true => exact ha.run pins s1 σ H1 Q I1 q1
  | false => exact hb.run pins s1 σ H1 Q I1 q1
theorem sT_ite (hc : ST X C c ec) (ha : ST X C a ea) (hb : ST X C b eb) : ST X C (.IfExp c a b pos) (.ite ec ea eb) :=
  pt_imp (pt_ite hc ha hb) fun σ H Q ⟨L, ρ, st, s, e, o⟩ => by
    simp only [evE] at o
    refine tT_bind (O := OutT (gx X) Q) (k := fun b s1 => if b = true then evE C ea ρ s1 else evE C eb ρ s1) OutT.fam s e ?_ fun d H1 L1 s1 v1 q1 e1 o1 => ?_
    · cases r : evE C ec ρ st with
      | exc xc xn xv xs => rw [r] at o; exact o
      | bad => rw [r] at o; exact o
      | ok p s1 =>
        rw [r] at o
        simp only [R.bind] at o ⊢
        cases h : (p.rd s1).bind truth with
        | none => rw [h] at o; exact o
        | some b => rw [h] at o; cases b <;> exact o
    · cases d with
      | true => exact ⟨L1, ρ, s1, q1, e1, o1⟩
      | false => exact ⟨L1, ρ, s1, q1, e1, o1⟩
/-! and, or as values -/
abbrev SAnd (X : L2.Cx) (C : Cl) (xs : List Expr) (es : Es) : Prop := ∀ pos, PE X (.BoolOp .And xs pos) (tM (gx X) (evAnd C es))
abbrev SOr (X : L2.Cx) (C : Cl) (xs : List Expr) (es : Es) : Prop := ∀ pos, PE X (.BoolOp .Or xs pos) (tM (gx X) (evOr C es))
theorem sAnd_one (ha : SE X C a ea) : SAnd X C [a] (.cons ea .nil) := fun pos => pe_imp (pe_one ha) fun σ H Q h => by simpa only [tM, evAnd] using h
theorem sOr_one (ha : SE X C a ea) : SOr X C [a] (.cons ea .nil) := fun pos => pe_imp (pe_one ha) fun σ H Q h => by simpa only [tM, evOr] using h
theorem sAnd_cons (ha : SE X C a ea) {e2 : E} (hr : SAnd X C (b :: xs) (.cons e2 es)) : SAnd X C (a :: b :: xs) (.cons ea (.cons e2 es)) := fun pos =>
  pe_imp (pe_andT ha (hr pos)) fun σ H Q ⟨L, ρ, st, s, e, o⟩ => by
    rw [evAnd] at o
    refine tM_bind (O := fun L H r => Out (gx X) L H Q r) Out.fam s e o fun v H1 L1 s1 p v1 q1 e1 r1 o1 => ?_
    cases h : (p.rd s1).bind truth with
    | none => rw [h] at o1; exact o1.elim
    | some d =>
      rw [h] at o1
      refine ⟨d, tru_p q1 r1 h, ?_⟩
      cases d with
      | true => exact ⟨L1, ρ, s1, q1, e1, o1⟩
      | false => exact o1 L1 H1 v (.refl _ _) q1 r1
theorem sOr_cons (ha : SE X C a ea) {e2 : E} (hr : SOr X C (b :: xs) (.cons e2 es)) : SOr X C (a :: b :: xs) (.cons ea (.cons e2 es)) := fun pos =>
  pe_imp (pe_orT ha (hr pos)) fun σ H Q ⟨L, ρ, st, s, e, o⟩ => by
    rw [evOr] at o
    refine tM_bind (O := fun L H r => Out (gx X) L H Q r) Out.fam s e o fun v H1 L1 s1 p v1 q1 e1 r1 o1 => ?_
    cases h : (p.rd s1).bind truth with
    | none => rw [h] at o1; exact o1.elim
    | some d =>
      rw [h] at o1
      refine ⟨d, tru_p q1 r1 h, ?_⟩
      cases d with
      | false => exact ⟨L1, ρ, s1, q1, e1, o1⟩
      | true => exact o1 L1 H1 v (.refl _ _) q1 r1
/-! .. as tests -/
abbrev WAnd (X : L2.Cx) (C : Cl) (xs : List Expr) (es : Es) : Prop := ∀ pos, PW X (.BoolOp .And xs pos) (tT (gx X) (evAnd C es))
abbrev WOr (X : L2.Cx) (C : Cl) (xs : List Expr) (es : Es) : Prop := ∀ pos, PW X (.BoolOp .Or xs pos) (tT (gx X) (evOr C es))
theorem pw_imp {e : Expr} {t u : TT} (h : PW X e t) (i : ∀ (σ : St) (H : Hp) (Q : Bool → Hp → Prop), u σ H Q → t σ H Q) : PW X e u :=
  ⟨fun w pins s σ H Q I q => h.run w pins s σ H Q I (i σ H Q q)⟩
theorem wAnd_one (ha : ST X C a ea) : WAnd X C [a] (.cons ea .nil) := fun pos => pw_imp (pw_and1 ha) fun σ H Q h => by simpa only [tT, evAnd] using h
theorem wOr_one (ha : ST X C a ea) : WOr X C [a] (.cons ea .nil) := fun pos => pw_imp (pw_or1 ha) fun σ H Q h => by simpa only [tT, evOr] using h
theorem outT_same {G : Gx} {Q : Bool → Hp → Prop} {L : Plc} {H : Hp} {p : PV} {s1 : CS} {b : Bool} (h : (p.rd s1).bind truth = some b) (o : OutT G Q L H (.ok p s1)) : OutT G Q L H (.ok (.d (.bl b)) s1) := by
  simp only [OutT, h] at o
  simpa only [OutT, PV.rd, Option.bind, truth] using o
theorem wAnd_cons (ha : ST X C a ea) {e2 : E} (hr : WAnd X C (b :: xs) (.cons e2 es)) : WAnd X C (a :: b :: xs) (.cons ea (.cons e2 es)) := fun pos =>
  pw_imp (pw_and ha (hr pos)) fun σ H Q ⟨L, ρ, st, s, e, o⟩ => by
    rw [evAnd] at o
    refine tT_bind (O := OutT (gx X) Q) (k := fun d s1 => if d = true then evAnd C (.cons e2 es) ρ s1 else .ok (.d (.bl false)) s1) OutT.fam s e ?_ fun d H1 L1 s1 v1 q1 e1 o1 => ?_
    · cases r : evE C ea ρ st with
      | exc xc xn xv xs => rw [r] at o; exact o
      | bad => rw [r] at o; exact o
      | ok p s1 =>
        rw [r] at o
        simp only [R.bind] at o ⊢
        cases h : (p.rd s1).bind truth with
        | none => rw [h] at o; exact o
        | some d =>
          rw [h] at o
          cases d with
          | true => exact o
          | false => exact outT_same h o
    · cases d with
      | true => exact ⟨L1, ρ, s1, q1, e1, o1⟩
      | false =>
        simp only [OutT, PV.rd, Option.bind, truth, Bool.false_eq_true, if_false] at o1
        exact o1 L1 H1 (.refl _ _) q1
theorem wOr_cons (ha : ST X C a ea) {e2 : E} (hr : WOr X C (b :: xs) (.cons e2 es)) : WOr X C (a :: b :: xs) (.cons ea (.cons e2 es)) := fun pos =>
  pw_imp (pw_or ha (hr pos)) fun σ H Q ⟨L, ρ, st, s, e, o⟩ => by
    rw [evOr] at o
    refine tT_bind (O := OutT (gx X) Q) (k := fun d s1 => if d = true then .ok (.d (.bl true)) s1 else evOr C (.cons e2 es) ρ s1) OutT.fam s e ?_ fun d H1 L1 s1 v1 q1 e1 o1 => ?_
    · cases r : evE C ea ρ st with
      | exc xc xn xv xs => rw [r] at o; exact o
      | bad => rw [r] at o; exact o
      | ok p s1 =>
        rw [r] at o
        simp only [R.bind] at o ⊢
        cases h : (p.rd s1).bind truth with
        | none => rw [h] at o; exact o
        | some d =>
          rw [h] at o
          cases d with
          | false => exact o
          | true => exact outT_same h o
    · cases d with
      | false => exact ⟨L1, ρ, s1, q1, e1, o1⟩
      | true =>
        simp only [OutT, PV.rd, Option.bind, truth, if_true] at o1
        exact o1 L1 H1 (.refl _ _) q1
end
end PD

set_option Elab.async false
set_option linter.all false
set_option maxRecDepth 100000
/-! PdX: t[::-1] of a tuple. -/
namespace HT
open PySem PySem.Spec PyProof.Rows
section
variable {prog : Program} {w : World} {A : Around} {E : Value → Shared → Prop} {s : Shared}
theorem applied_rev {sl : Addr} {vs : Value} {n : Nat} {Q : Int × Int × Nat → Shared → Prop} (hs : s.heap.IsSliceOf sl .none .none vs) (ps : IsPart vs (some (-1)))
    (h : Q ((n : Int) - 1, -1, n) s) : wpAny (model prog w) A (Builtin.Slice.sliceApplied (.ref sl) (pure (n : Int))) Q E s := by
  obtain ⟨os, hos, hcs, hds⟩ := id hs
  unfold Builtin.Slice.sliceApplied Builtin.Slice.sliceFields
  refine wpAny_bind (wpAny_bind (wpAny_field hos hds (x := .none) rfl (wpAny_bind (wpAny_field hos hds (x := .none) rfl (wpAny_bind (wpAny_field hos hds (x := vs) rfl (wpAny_pure ?_)))))))
  refine wpAny_bind (slicePart_ ps ?_)
  show wpAny _ _ (if ((-1 : Int) == 0) = true then _ else _) _ _ s
  rw [if_neg (by decide)]
  refine wpAny_bind (slicePart_ .none (wpAny_bind (slicePart_ .none (wpAny_bind (wpAny_pure ?_)))))
  have e1 : Builtin.Slice.sliceAdjust none none (-1) (n : Int) = ((n : Int) - 1, -1) := rfl
  have e2 : Builtin.Slice.slicePlaces ((n : Int) - 1) (-1) (-1) = n := by
    unfold Builtin.Slice.slicePlaces
    rw [if_neg (by decide)]
    by_cases c : (n : Int) - 1 > -1
    · rw [if_pos c, show -(-1 : Int) = 1 from rfl, Int.ediv_one]; omega
    · rw [if_neg c]; omega
  show wpAny _ _ (match Builtin.Slice.sliceAdjust none none (-1) (n : Int) with | (lo, hi) => pure (lo, (-1 : Int), Builtin.Slice.slicePlaces lo hi (-1))) _ _ s
  rw [e1]
  show wpAny _ _ (pure ((n : Int) - 1, (-1 : Int), Builtin.Slice.slicePlaces ((n : Int) - 1) (-1) (-1))) _ _ s
  rw [e2]
  exact wpAny_pure h
theorem fm_some {α β : Type} {f : α → Option β} {g : α → β} : ∀ (l : List α), (∀ x ∈ l, f x = some (g x)) → l.filterMap f = l.map g
  | [], _ => rfl
  | x :: r, h => by
    rw [List.filterMap_cons, h x List.mem_cons_self, List.map_cons, fm_some r fun y hy => h y (List.mem_cons_of_mem _ hy)]
theorem pick_rev (xs : List Value) : ((List.range xs.length).filterMap fun (m : Nat) => xs.toArray[(((xs.length : Int) - 1) + (m : Int) * -1).toNat]?) = xs.reverse := by
  refine List.ext_getElem? fun i => ?_
  have key : ∀ m ∈ List.range xs.length, xs.toArray[(((xs.length : Int) - 1) + (m : Int) * -1).toNat]? = some ((xs.reverse)[m]?.getD .none) := fun m hm => by
    have hm' := List.mem_range.mp hm
    have e : (((xs.length : Int) - 1) + (m : Int) * -1).toNat = xs.length - 1 - m := by omega
    rw [e, List.getElem?_toArray, List.getElem?_reverse hm']
    have h2 : xs.length - 1 - m < xs.length := by omega
    rw [List.getElem?_eq_getElem h2]; rfl
  have e2 : ((List.range xs.length).filterMap fun (m : Nat) => xs.toArray[(((xs.length : Int) - 1) + (m : Int) * -1).toNat]?) = (List.range xs.length).map fun m => (xs.reverse)[m]?.getD .none := by
    exact fm_some _ key
  rw [e2, List.getElem?_map]
  by_cases hi : i < xs.length
  · rw [List.getElem?_range hi]
    have h3 : i < xs.reverse.length := by rw [List.length_reverse]; exact hi
    show some ((xs.reverse)[i]?.getD .none) = _
    rw [List.getElem?_eq_getElem h3]; rfl
  · rw [List.getElem?_eq_none (by simpa using hi), List.getElem?_eq_none (by simpa using hi)]; rfl
theorem getItem_tuple_rev {t sl : Addr} {its : List Value} {vs : Value} {Q : Value → Shared → Prop} (ht : IsTup s.heap t its.toArray) (hs : s.heap.IsSliceOf sl .none .none vs) (ps : IsPart vs (some (-1)))
    (h : Q (.ref s.heap.objs.size) { s with heap := s.heap.push { cls := .type "tuple", data := .seq its.reverse.toArray } }) (hsz : its.length ≤ sizeLine) : wpAny (model prog w) A (getItem (.ref t) (.ref sl)) Q E s := by
  have htake : sizeOk (.seq its.reverse.toArray) := by
    show its.reverse.toArray.size ≤ sizeLine
    rw [List.size_toArray, List.length_reverse]; exact hsz
  obtain ⟨os, hos, hcs, hds⟩ := id hs
  have hTs : s.TypeIs (.ref sl) "slice" := ⟨os, hos, hcs⟩
  unfold getItem
  try with_reducible refine wpAny_holding ?_
  first | refine wpAny_bind (wpAny_pure ?_) | skip
  refine wpAny_bind (wpAny_sequenceKey ht.typeIs (by decide) ?_)
  refine wpAny_bind (wpAny_callSpecial?_slot (name := Str.ofString "__getitem__") ht.typeIs PyProof.Rows.slot_tuple_getitem
    (wpAny_call_entry PyProof.Rows.slot_tuple_getitem ht.typeIs entry_tuple_getitem ?_ (args_tuple_getitem _ _)))
  show wpAny _ _ (Builtin.Tuple.tupleItemsOf (.ref t) >>= _) _ _ s
  refine wpAny_bind (tupleItemsOf_ ht ?_)
  refine wpAny_bind (wpAny_typeOf hTs ?_)
  rw [if_pos (by decide)]
  refine wpAny_bind (applied_rev (n := its.toArray.size) hs ps ?_)
  have e : its.toArray.size = its.length := by rw [List.size_toArray]
  have hno : ¬ (((((its.toArray.size : Nat) : Int) - 1) == 0 && (-1 : Int) == 1 && its.toArray.size == its.toArray.size) = true) := by
    intro q
    rw [Bool.and_eq_true, Bool.and_eq_true] at q
    exact absurd q.1.2 (by decide)
  show wpAny _ _ (if ((((its.toArray.size : Nat) : Int) - 1) == 0 && (-1 : Int) == 1 && its.toArray.size == its.toArray.size) = true then _ else _) _ _ s
  rw [if_neg hno, e, pick_rev]
  first
    | exact wpAny_bind (m := Builtin.Tuple.tupleExact _) (wpAny_newObj_type (wpAny_pure ⟨_, rfl, wpAny_pure h⟩) htake)
    | exact wpAny_bind (m := Builtin.Tuple.tupleExact _) (wpAny_newObj_type (wpAny_bind (wpAny_pure (wpAny_pure ⟨_, rfl, wpAny_pure h⟩))) htake)
    | exact wpAny_bind (wpAny_bind (m := Builtin.Tuple.tupleExact _) (wpAny_newObj_type (wpAny_pure (wpAny_pure ⟨_, rfl, wpAny_pure h⟩)) htake))
    | exact wpAny_bind (wpAny_bind (m := Builtin.Tuple.tupleExact _) (wpAny_newObj_type (wpAny_pure ⟨_, rfl, wpAny_pure h⟩) htake))
end
end HT
namespace L2
open PySem PySem.Spec PyProof.Rows
section
variable {X : Cx}
def tRevT (K : PySem.W.Frag) (te : TE) : TE := fun σ H Q => te σ H fun x H1 => ∃ a xs, x = .ref a ∧ SqT K H1 a xs ∧ ∀ p, H1 p = none → Q (.ref p) (upd H1 p (.tup xs.reverse))
theorem pe_revT {e : Expr} {te : TE} {k : Nat} {p1 p2 p3 pos : Pos} (he : PE X e te) : PE X (.Subscript e (.Slice none none (some (.UnaryOp .USub (.Constant (.int 1) k p1) p2)) p3) pos) (tRevT X.K te) := by
  refine ⟨fun pins s σ H Q I h => ?_⟩
  refine Subscript_ (thn (he.run pins s σ H _ I h) fun v s1 ⟨x, H1, I1, r1, a, xs, ex, hx, q⟩ => ?_)
  subst ex
  cases r1
  have hst : PO X (some (.UnaryOp .USub (.Constant (.int 1) k p1) p2)) (tPart (tUn (rU fun i => .int (-i)) (tC (.int 1)))) := po_some (pe_un un_neg pe_int)
  refine wpAny_Slice (thn (po_none.run pins s1 σ H1 (fun o H2 => o = none ∧ H2 = H1) I1 ⟨rfl, rfl⟩) fun vl s2 ⟨l, H2, I2, pl, el, e2⟩ => ?_)
  subst el e2
  refine thn (po_none.run pins s2 σ H2 (fun o H3 => o = none ∧ H3 = H2) I2 ⟨rfl, rfl⟩) fun vu s3 ⟨u, H3, I3, pu, eu, e3⟩ => ?_
  subst eu e3
  refine thn (hst.run pins s3 σ H3 (fun o H4 => o = some (-1) ∧ H4 = H3) I3 ⟨1, rfl, -1, rfl, rfl, rfl⟩) fun vs s4 ⟨o, H4, I4, ps, eo, e4⟩ => ?_
  subst eo e4
  have I5 : Inv X pins σ H4 { s4 with heap := s4.heap.push { cls := .type "slice", data := .fields #[vl, vu, vs] } } := I4.kept (t' := s4.toks) fun b ob q => Heap.get?_push_of_some _ q
  obtain ⟨its, r, ht, hz⟩ := I5.tuple hx
  have hlen := r.length
  cases pl
  cases pu
  show wpAny (model X.prog X.w) X.A (subscriptTail e (.Slice none none (some (.UnaryOp .USub (.Constant (.int 1) k p1) p2)) p3) (.ref a) (.ref s4.heap.objs.size)) (EP X pins σ Q) X.xe { s4 with heap := s4.heap.push { cls := .type "slice", data := .fields #[.none, .none, vs] } }
  refine tail_any (ops := [.ref a, .ref s4.heap.objs.size]) ht.typeIs PyProof.Rows.slot_tuple_getitem.lookup ?_ (by with_unfolding_all rfl)
  refine HT.getItem_tuple_rev ht (Heap.IsSliceOf.new _ .none .none vs) ps ?_ (by omega)
  refine ⟨.ref _, _, I5.laid (t' := s4.toks) (o := .tup xs.reverse) (fun b ob q => Heap.get?_push_of_some _ q) (Nat.le_refl _) ?_, rfl, q _ (I5.hok.fresh (Nat.le_refl _))⟩
  exact ⟨by rw [List.length_reverse]; exact hz, _, r.reverse, PyProof.Rows.IsTup.new _ _⟩
end
end L2

set_option Elab.async false
set_option linter.all false
set_option autoImplicit false
set_option maxRecDepth 100000
/-! PdE: arguments, displays, items, slices, built-ins. -/
namespace PD
open PySem PySem.Spec L2

theorem pa_imp {X : L2.Cx} {es : List Expr} {t u : TA} (h : PA X es t) (i : ∀ (σ : St) (H : Hp) (Q : List V → Hp → Prop), u σ H Q → t σ H Q) : PA X es u :=
  ⟨fun pos pins s σ H Q I q => h.run pos pins s σ H Q I (i σ H Q q)⟩
/-- an expression that is neither starred nor a slice -/
def plainX : Expr → Bool
  | .Starred _ _ => false
  | .Slice _ _ _ _ => false
  | .Set _ _ _ => false
  | .NamedExpr _ _ _ => false
  | _ => true
theorem star_plain {e : Expr} (h : plainX e = true) (es : List Expr) (env : PySem.Env) : starEach (e :: es) env = (false, eval e env) :: starEach es env := by
  cases e <;> first | rfl | cases h
theorem ix_plain {e : Expr} (h : plainX e = true) : PlainIx e := fun o i => by
  cases e <;> first | rfl | cases h
theorem folded_plain {e : Expr} (h : plainX e = true) (env : PySem.Env) (x : Value) : foldedSetIterable e env x = pure x := by
  cases e <;> first | rfl | cases h
/-- one whose test is its value's truth -/
def plainT : Expr → Bool
  | .UnaryOp .Not _ _ => false
  | .BoolOp _ _ _ => false
  | .IfExp _ _ _ _ => false
  | .Compare _ _ _ _ => false
  | _ => true
theorem test_plain {e : Expr} (h : plainT e = true) (env : PySem.Env) (whole : Sem Value) : isTrue e env whole = (do let v ← whole; standAt e.pos; holding [v] (truthy v)) := by
  cases e with
  | UnaryOp op a p => cases op <;> first | rfl | cases h
  | _ => first | rfl | cases h

section
variable {X : L2.Cx} {C : Cl} {a b c x : Expr} {xs : List Expr} {ea eb ec : E} {es : Es} {pos : Pos}
theorem sA_nil : SA X C [] .nil := pa_imp pa_nil fun σ H Q ⟨L, ρ, st, s, e, o⟩ => by
  simp only [evEs] at o
  exact o L H (.refl _ _) s [] .nil
theorem sA_cons (ha : SE X C a ea) (hr : SA X C xs es) (hp : plainX a = true) : SA X C (a :: xs) (.cons ea es) :=
  pa_imp (pa_cons ha hr (star_plain hp xs X.env)) fun σ H Q ⟨L, ρ, st, s, e, o⟩ => by
    simp only [evEs] at o
    refine tM_bind (O := OutA (gx X) Q) OutG.fam s e o fun v H1 L1 s1 p v1 q1 e1 r1 o1 => ?_
    refine tA_bind (O := OutA (gx X) Q) OutG.fam q1 e1 o1 fun vs H2 L2 s2 ps v2 q2 e2 r2 o2 => ?_
    exact o2 L2 H2 (.refl _ _) q2 (v :: vs) (.cons (r1.ev v2) r2)

theorem Reps.ps {K : PySem.W.Frag} {L : Plc} {H : Hp} : ∀ {l : List D} {vs : List V}, Reps K L H l vs → RepPs K L H (l.map PV.d) vs
  | _, _, .nil => .nil
  | _, _, .cons r t => .cons r (Reps.ps t)
theorem reps_app {K : PySem.W.Frag} {L : Plc} {H : Hp} {a c : List PV} {b d : List V} (h : RepPs K L H a b) (g : RepPs K L H c d) : RepPs K L H (a ++ c) (b ++ d) := by
  induction h with
  | nil => exact g
  | cons x _ ih => exact .cons x ih
/-- one starred -/
theorem sA_spl {p : Pos} (ha : SE X C a ea) (hr : SA X C xs es) : SA X C (.Starred a p :: xs) (.spl ea es) :=
  pa_imp (StX.pa_star ha hr) fun σ H Q ⟨L, ρ, st, s, e, o⟩ => by
    simp only [evEs] at o
    refine tM_bind (O := OutA (gx X) Q) OutG.fam s e o fun v H1 L1 s1 p v1 q1 e1 r1 o1 => ?_
    have fin : ∀ {l : List D} {vs : List V}, Reps X.K L1 H1 l vs → OutA (gx X) Q L1 H1 ((evEs C es ρ s1).bind fun xs s2 => .ok (l.map PV.d ++ xs) s2) → tA (gx X) (evEs C es) σ H1 fun us H2 => Q (vs ++ us) H2 := fun {l vs} rl o => by
      refine tA_bind (O := OutA (gx X) Q) OutG.fam q1 e1 o fun us H2 L2 s2 ps v2 q2 e2 r2 o2 => ?_
      exact o2 L2 H2 (.refl _ _) q2 (vs ++ us) (reps_app (rl.ev v2).ps r2)
    cases p with
    | d x => cases x with
      | lst l =>
        have r1' : Rep X.K L1 H1 (.lst l) v := r1
        cases r1' with
        | lst e' n' q => exact ⟨_, _, rfl, .inr (.of e'), fin q o1⟩
      | tup l =>
        obtain ⟨a', vs, rfl, e', q⟩ := (Rep.w r1).sqT
        exact ⟨_, _, rfl, .inl e', fin q o1⟩
      | _ => exact o1.elim
    | _ => exact o1.elim

/-! ### displays -/
theorem ownAll_reps {K : PySem.W.Frag} {L : Plc} {H : Hp} : ∀ {ps : List PV} {vs : List V} {l : List D}, RepPs K L H ps vs → ownAll ps = some l → Reps K L H l vs
  | _, _, _, .nil, h => by cases h; exact .nil
  | p :: ps, _, l, .cons r t, h => by
    cases p with
    | d x =>
      simp only [ownAll] at h
      cases e : ownAll ps with
      | none => rw [e] at h; cases h
      | some m =>
        rw [e] at h
        cases h
        exact .cons r (ownAll_reps t e)
    | obj k => cases h
    | scr ns => cases h
theorem RepPs.len {K : PySem.W.Frag} {L : Plc} {H : Hp} {ps : List PV} {vs : List V} (r : RepPs K L H ps vs) : ps.length = vs.length := Paired.length r
theorem sE_tup (ha : SA X C xs es) {k : Nat} : SE X C (.Tuple xs k pos) (.tup es) :=
  pe_imp (pe_tup ha) fun σ H Q ⟨L, ρ, st, s, e, o⟩ => by
    simp only [evE] at o
    refine tA_bind (O := fun L H r => Out (gx X) L H Q r) Out.fam s e o fun vs H1 L1 s1 ps v1 q1 e1 r1 o1 => ?_
    by_cases c : ps.length ≤ sizeLine
    · rw [if_pos c] at o1
      cases h : ownAll ps with
      | none => rw [h] at o1; exact o1.elim
      | some l =>
        rw [h] at o1
        exact ⟨by rw [← r1.len]; exact c, o1.tup q1 (ownAll_reps r1 h)⟩
    · rw [if_neg c] at o1; exact o1.elim
/-- what asks for a new list -/
def OutN (G : Gx) (Q : VK) (L : Plc) (H : Hp) : R PV → Prop
  | .exc c ns vs s => OutX G L H c ns vs s
  | .ok (.d (.lst l)) st' => ∀ L' H' vs, Ev L H L' H' → SRel G.K L' H' st' → Reps G.K L' H' l vs → ∀ p, H' p = none → Q (.ref p) (upd H' p (.lst vs))
  | _ => False
theorem OutN.fam {G : Gx} {Q : VK} : Fam G (OutN G Q) where
  ev := fun {L L' H H' r} e o => by
    cases r with
    | ok p st => cases p with
      | d x => cases x with
        | lst l => exact fun L2 H2 vs e2 => o L2 H2 vs (e.trans e2)
        | _ => exact o
      | _ => exact o
    | exc xc xn xv xs => exact OutX.ev o e
    | bad => exact o
  exc := fun o => o
  bad := fun o => o
def tN (G : Gx) (m : Env → CS → R PV) : TE := fun σ H Q => ∃ L ρ st, SRel G.K L H st ∧ ERel G.K L H ρ σ ∧ OutN G Q L H (m ρ st)
abbrev SN (X : L2.Cx) (C : Cl) (x : Expr) (e : E) : Prop := PE X x (tN (gx X) (evE C e))
/-- its value is always a list -/
def IsL (r : R PV) : Prop := match r with
  | .ok (.d (.lst _)) _ => True
  | .exc _ _ _ _ => True
  | .bad => True
  | _ => False
theorem Out.toN {G : Gx} {L : Plc} {H : Hp} {Q : VK} {r : R PV} (o : Out G L H Q r) (h : IsL r) : OutN G Q L H r := by
  cases r with
  | ok p st => cases p with
    | d x => cases x with
      | lst l => exact fun L' H' vs e s rs => Out.lst s (fun L2 H2 v e2 s2 r2 => o L2 H2 v (e.trans e2) s2 r2) rs
      | _ => exact h
    | _ => exact h
  | exc xc xn xv xs => exact o
  | bad => exact o
theorem sE_of_new (hN : SN X C x ea) (h : ∀ ρ s, IsL (evE C ea ρ s)) : SE X C x ea :=
  pe_imp hN fun σ H Q ⟨L, ρ, st, s, e, o⟩ => ⟨L, ρ, st, s, e, o.toN (h ρ st)⟩
/-- a list that may be changed -/
theorem new_reads {σ : St} {H : Hp} {Q : VK} (h : tM (gx X) (evE C (.new ea)) σ H Q) : tN (gx X) (evE C ea) σ H Q := by
    obtain ⟨L, ρ, st, s, e, o⟩ := h
    refine ⟨L, ρ, st, s, e, ?_⟩
    simp only [evE] at o
    cases r : evE C ea ρ st with
    | exc xc xn xv xs => rw [r] at o; exact o
    | bad => rw [r] at o; exact o
    | ok p s1 =>
      rw [r] at o
      cases p with
      | d x => cases x with
        | lst l =>
          intro L' H' vs v1 q1 rs p hp
          have hp' : ¬ L'.has p := q1.free hp
          have v2 : Ev L' H' ⟨L'.c ++ [some p], L'.h⟩ (upd H' p (.lst vs)) := by
            refine ⟨by simp, fun k y hk => .inl ?_, fun a u ha _ => same_upd hp a u ha, fun a ha => ?_, rfl⟩
            · show (L'.c ++ [some p])[k]? = some y
              rw [List.getElem?_append_left (List.getElem?_eq_some_iff.mp hk).1]; exact hk
            · rcases List.mem_append.mp ha with z | z
              · exact .inl z
              · have z' : a = p := by simpa using z
                subst z'
                exact .inr hp
          have sz : L'.c.length = s1.length := q1.len.symm
          have o' := o ⟨L'.c ++ [some p], L'.h⟩ (upd H' p (.lst vs)) (.ref p) (v1.trans v2) ⟨by simp [q1.len], fun k c y h1 h2 => ?_, fun i j a hi hj => ?_, fun a ha => ⟨?_, fun m => ?_⟩⟩ ⟨by simp [sz], fun a ha => ?_⟩
          · exact o'
          · have h2 : (L'.c ++ [some p])[k]? = some y := h2
            by_cases hk : k < s1.length
            · rw [List.getElem?_append_left hk] at h1
              rw [List.getElem?_append_left (by omega)] at h2
              exact (q1.cell k c y h1 h2).mv' (fun b o _ e1 => same_upd hp _ _ e1) v2.stay
            · have hk' : k = s1.length := by
                have := (List.getElem?_eq_some_iff.mp h1).1
                simp at this
                omega
              subst hk'
              simp at h1
              subst h1
              rw [← sz] at h2
              simp at h2
              subst h2
              exact ⟨vs, upd_same, rs.ev v2⟩
          · have hi : (L'.c ++ [some p])[i]? = some (some a) := hi
            have hj : (L'.c ++ [some p])[j]? = some (some a) := hj
            by_cases h1 : i < L'.c.length
            · rw [List.getElem?_append_left h1] at hi
              by_cases h2 : j < L'.c.length
              · rw [List.getElem?_append_left h2] at hj
                exact q1.inj i j a hi hj
              · have hj' : j = L'.c.length := by
                  have := (List.getElem?_eq_some_iff.mp hj).1
                  simp at this
                  omega
                subst hj'
                simp at hj
                subst hj
                exact absurd (.inl (List.mem_of_getElem? hi)) hp'
            · have hi' : i = L'.c.length := by
                have := (List.getElem?_eq_some_iff.mp hi).1
                simp at this
                omega
              subst hi'
              simp at hi
              subst hi
              by_cases h2 : j < L'.c.length
              · rw [List.getElem?_append_left h2] at hj
                exact absurd (.inl (List.mem_of_getElem? hj)) hp'
              · have := (List.getElem?_eq_some_iff.mp hj).1
                simp at this
                omega
          · intro z
            have := (q1.hid a ha).1
            by_cases e : a = p
            · subst e; exact hp' (.inr ha)
            · rw [upd_ne e] at z; exact this z
          · rcases List.mem_append.mp m with z | z
            · exact (q1.hid a ha).2 z
            · have z' : a = p := by simpa using z
              subst z'
              exact hp' (.inr ha)
          · have ha : (L'.c ++ [some p])[s1.length]? = some (some a) := ha
            rw [← sz] at ha
            simp at ha
            rw [ha]
        | _ => exact o
      | _ => exact o
theorem sE_new (hN : SN X C x ea) : SE X C x (.new ea) := pe_imp hN fun σ H Q h => new_reads h
theorem list_reads (h : ∀ ρ s, IsL (evE C ea ρ s)) {σ : St} {H : Hp} {Q : VK} (q : tM (gx X) (evE C ea) σ H Q) : tN (gx X) (evE C ea) σ H Q := by
  obtain ⟨L, ρ, st, s, e, o⟩ := q
  exact ⟨L, ρ, st, s, e, o.toN (h ρ st)⟩
theorem sN_lst (ha : SA X C xs es) : SN X C (.List xs pos) (.lst es) :=
  pe_imp (pe_lst ha) fun σ H Q ⟨L, ρ, st, s, e, o⟩ => by
    simp only [evE] at o
    refine tA_bind (O := OutN (gx X) Q) OutN.fam s e o fun vs H1 L1 s1 ps v1 q1 e1 r1 o1 => ?_
    by_cases c : ps.length ≤ sizeLine
    · rw [if_pos c] at o1
      cases h : ownAll ps with
      | none => rw [h] at o1; exact o1.elim
      | some l =>
        rw [h] at o1
        exact ⟨by rw [← r1.len]; exact c, o1 L1 H1 vs (.refl _ _) q1 (ownAll_reps r1 h)⟩
    · rw [if_neg c] at o1; exact o1.elim
theorem isL_lst (ρ : Env) (s : CS) : IsL (evE C (.lst es) ρ s) := by
  simp only [evE]
  cases evEs C es ρ s with
  | exc xc xn xv xs => exact trivial
  | bad => exact trivial
  | ok ps s1 =>
    simp only [R.bind]
    split
    · cases ownAll ps <;> exact trivial
    · exact trivial
theorem sE_lst (ha : SA X C xs es) : SE X C (.List xs pos) (.lst es) := sE_of_new (sN_lst ha) isL_lst

/-! ### items, slices -/
theorem atI_reps {K : PySem.W.Frag} {L : Plc} {H : Hp} {l : List D} {vs : List V} {i : Int} {d : D} (r : Reps K L H l vs) (h : atI l i = some d) : ∃ v, atI vs i = some v ∧ Rep K L H d v := by
  unfold atI at h ⊢
  rw [← r.length]
  cases e : ixN l.length i with
  | none => rw [e] at h; cases h
  | some j =>
    rw [e] at h
    exact r.get h
theorem sE_idx (ha : SE X C a ea) (hb : SE X C b eb) (hp : plainX b = true) : SE X C (.Subscript a b pos) (.idx ea eb) :=
  pe_imp (pe_ix ix_seq ha hb (ix_plain hp)) fun σ H Q ⟨L, ρ, st, s, e, o⟩ => by
    simp only [evE] at o
    refine tM_bind (O := fun L H r => Out (gx X) L H Q r) Out.fam s e o fun v H1 L1 s1 p v1 q1 e1 r1 o1 => ?_
    refine tM_bind (O := fun L H r => Out (gx X) L H Q r) Out.fam q1 e1 o1 fun w H2 L2 s2 p2 v2 q2 e2 r2 o2 => ?_
    have r1' := r1.ev v2
    cases h1 : p.rd s2 with
    | none => rw [h1] at o2; exact o2.elim
    | some x =>
      rw [h1] at o2
      cases p2 with
      | d y =>
        cases x with
        | lst l => cases y with
          | int i =>
            have r2' : Rep X.K L2 H2 (.int i) w := r2
            cases r2'
            obtain ⟨a', vs, rfl, e', q⟩ := rd_w q2 r1' h1
            cases h : atI l i with
            | none => simp only [ixD, h, Option.map, lift, Out] at o2
            | some d =>
              simp only [ixD, h, Option.map, lift] at o2
              obtain ⟨z, hz, rz⟩ := atI_reps q h
              exact .inl ⟨a', vs, i, z, rfl, rfl, .of e', hz, o2.val q2 rz⟩
          | _ => exact o2.elim
        | tup l => cases y with
          | int i =>
            have r2' : Rep X.K L2 H2 (.int i) w := r2
            cases r2'
            obtain ⟨a', vs, rfl, e', q⟩ := (rd_w q2 r1' h1).sqT
            cases h : atI l i with
            | none => simp only [ixD, h, Option.map, lift, Out] at o2
            | some d =>
              simp only [ixD, h, Option.map, lift] at o2
              obtain ⟨z, hz, rz⟩ := atI_reps q h
              exact .inr (.inl ⟨a', vs, i, z, rfl, rfl, e', hz, o2.val q2 rz⟩)
          | _ => exact o2.elim
        | _ => cases y <;> exact o2.elim
      | _ => exact o2.elim
def OutO (G : Gx) (Q : Option Int → Hp → Prop) (L : Plc) (H : Hp) (r : R (Option Int)) : Prop := OutG G (fun _ H' b => Q b H') L H r
def tO (G : Gx) (m : Env → CS → R (Option Int)) : TO := fun σ H Q => ∃ L ρ st, SRel G.K L H st ∧ ERel G.K L H ρ σ ∧ OutO G Q L H (m ρ st)
abbrev SO (X : L2.Cx) (C : Cl) (x : Option Expr) (e : Eo) : Prop := PO X x (tO (gx X) (evEo C e))
theorem po_imp {e : Option Expr} {t u : TO} (h : PO X e t) (i : ∀ (σ : St) (H : Hp) (Q : Option Int → Hp → Prop), u σ H Q → t σ H Q) : PO X e u :=
  ⟨fun pins s σ H Q I q => h.run pins s σ H Q I (i σ H Q q)⟩
theorem sO_none : SO X C none .none := po_imp po_none fun σ H Q ⟨L, ρ, st, s, e, o⟩ => by
  simp only [evEo] at o
  exact o L H (.refl _ _) s
theorem sO_some (ha : SE X C a ea) : SO X C (some a) (.some ea) := po_imp (po_some ha) fun σ H Q ⟨L, ρ, st, s, e, o⟩ => by
  simp only [evEo] at o
  refine tM_bind (O := OutO (gx X) Q) OutG.fam s e o fun v H1 L1 s1 p v1 q1 e1 r1 o1 => ?_
  cases p with
  | d x => cases x with
    | int i =>
      have r1' : Rep X.K L1 H1 (.int i) v := r1
      cases r1'
      exact ⟨i, rfl, o1 L1 H1 (.refl _ _) q1⟩
    | _ => exact o1.elim
  | _ => exact o1.elim
theorem tO_bind {G : Gx} {L : Plc} {H : Hp} {st : CS} {ρ : Env} {σ : St} {β : Type} {O : Plc → Hp → R β → Prop} {m : Env → CS → R (Option Int)} {k : Option Int → CS → R β} {Q1 : Option Int → Hp → Prop} (F : Fam G O) (s : SRel G.K L H st) (e : ERel G.K L H ρ σ) (h : O L H ((m ρ st).bind k))
    (c : ∀ (i : Option Int) (H1 : Hp) (L1 : Plc) (s1 : CS), Ev L H L1 H1 → SRel G.K L1 H1 s1 → ERel G.K L1 H1 ρ σ → O L1 H1 (k i s1) → Q1 i H1) : tO G m σ H Q1 := by
  refine ⟨L, ρ, st, s, e, ?_⟩
  cases r : m ρ st with
  | exc xc xn xv xs => rw [r] at h; exact F.exc h
  | bad => rw [r] at h; exact (F.bad h).elim
  | ok p s1 =>
    rw [r] at h
    exact fun L1 H1 v1 s2 => c p H1 L1 s1 v1 s2 (e.ev v1) (F.ev v1 h)
theorem cut_reps {K : PySem.W.Frag} {L : Plc} {H : Hp} {l : List D} {vs : List V} (lo hi : Option Int) (r : Reps K L H l vs) : Reps K L H (cutL l lo hi) (cutV vs lo hi) := by
  unfold cutL cutV
  rw [r.length]
  exact (r.drop _).take _
theorem cut_ints (ns : List Int) (lo hi : Option Int) : cutV (ns.map V.int) lo hi = (cutL ns lo hi).map V.int := by
  unfold cutV cutL
  rw [List.length_map, List.map_take, List.map_drop]
theorem sN_sli {lo hi : Option Expr} {el eh : Eo} (ha : SE X C a ea) (hl : SO X C lo el) (hh : SO X C hi eh) {p2 : Pos} : SN X C (.Subscript a (.Slice lo hi none p2) pos) (.sli ea el eh) :=
  pe_imp (pe_slice sl_list ha hl hh) fun σ H Q ⟨L, ρ, st, s, e, o⟩ => by
    simp only [evE] at o
    refine tM_bind (O := OutN (gx X) Q) OutN.fam s e o fun v H1 L1 s1 p v1 q1 e1 r1 o1 => ?_
    refine tO_bind (O := OutN (gx X) Q) OutN.fam q1 e1 o1 fun i1 H2 L2 s2 v2 q2 e2 o2 => ?_
    refine tO_bind (O := OutN (gx X) Q) OutN.fam q2 e2 o2 fun i2 H3 L3 s3 v3 q3 e3 o3 => ?_
    have r3 := (r1.ev v2).ev v3
    cases p with
    | scr ns =>
      obtain ⟨a', rfl, h⟩ := r3
      have o3' : OutN (gx X) Q L3 H3 (.ok (.d (.lst ((cutL ns i1 i2).map D.int))) s3) := o3
      refine ⟨a', ns.map V.int, rfl, ?_, fun p hp => ?_⟩
      · rcases h with ⟨_, h⟩ | h
        · exact .inl h
        · rcases h with (h | ⟨o, h⟩) | h
          · cases h
          · cases h
          · exact .inr h
      · rw [cut_ints]
        exact o3' L3 H3 _ (.refl _ _) q3 (Reps.ints _) p hp
    | d x =>
      cases x with
      | lst l =>
        have r3' : Rep X.K L3 H3 (.lst l) v := r3
        cases r3' with
        | lst e' n' q =>
          exact ⟨_, _, rfl, .of e', fun p hp => o3 L3 H3 _ (.refl _ _) q3 (cut_reps i1 i2 q) p hp⟩
      | _ => exact o3.elim
    | obj k =>
      have o3' : OutN (gx X) Q L3 H3 (lift (((PV.obj k).rd s3).bind fun x => (sliD x i1 i2).map PV.d) s3) := o3
      cases h1 : (PV.obj k).rd s3 with
      | none => rw [h1] at o3'; exact o3'.elim
      | some y =>
        rw [h1] at o3'
        cases y with
        | lst l =>
          obtain ⟨a', vs, rfl, e', q⟩ := rd_w q3 r3 h1
          exact ⟨_, _, rfl, .of e', fun p hp => o3' L3 H3 _ (.refl _ _) q3 (cut_reps i1 i2 q) p hp⟩
        | _ => exact o3'.elim
theorem cut_all {α : Type} {l : List α} {lo hi : Option Int} (h1 : HT.sIx l.length 0 lo = 0) (h2 : HT.sIx l.length l.length hi = l.length) : cutL l lo hi = l := by
  unfold cutL
  rw [h1, h2, List.drop_zero, Nat.sub_zero, List.take_length]
theorem sE_slt {lo hi : Option Expr} {el eh : Eo} (ha : SE X C a ea) (hl : SO X C lo el) (hh : SO X C hi eh) {p2 : Pos} : SE X C (.Subscript a (.Slice lo hi none p2) pos) (.slt ea el eh) :=
  pe_imp (pe_slice sl_tupA ha hl hh) fun σ H Q ⟨L, ρ, st, s, e, o⟩ => by
    simp only [evE] at o
    refine tM_bind (O := fun L H r => Out (gx X) L H Q r) Out.fam s e o fun v H1 L1 s1 p v1 q1 e1 r1 o1 => ?_
    refine tO_bind (O := fun L H r => Out (gx X) L H Q r) Out.fam q1 e1 o1 fun i1 H2 L2 s2 v2 q2 e2 o2 => ?_
    refine tO_bind (O := fun L H r => Out (gx X) L H Q r) Out.fam q2 e2 o2 fun i2 H3 L3 s3 v3 q3 e3 o3 => ?_
    have r3 := (r1.ev v2).ev v3
    cases p with
    | d x => cases x with
      | tup l =>
        have r3' : Rep X.K L3 H3 (.tup l) v := r3
        obtain ⟨a', vs, rfl, e', q⟩ := (Rep.w r3').sqT
        refine ⟨a', vs, rfl, e', fun hw => ?_, fun _ => o3.tup q3 (cut_reps i1 i2 q)⟩
        rw [← q.length] at hw
        have o3' : Out (gx X) L3 H3 Q (.ok (.d (.tup (cutL l i1 i2))) s3) := o3
        rw [cut_all hw.1 hw.2] at o3'
        exact o3'.val q3 r3'
      | _ => exact o3.elim
    | _ => exact o3.elim
theorem Reps.reverse {K : PySem.W.Frag} {L : Plc} {H : Hp} : ∀ {l : List D} {vs : List V}, Reps K L H l vs → Reps K L H l.reverse vs.reverse
  | _, _, .nil => .nil
  | _, _, .cons r t => by
    rw [List.reverse_cons, List.reverse_cons]
    exact (Reps.reverse t).append (.cons r .nil)
theorem sN_rev {k : Nat} {p1 p2 p3 : Pos} (ha : SE X C a ea) : SN X C (.Subscript a (.Slice none none (some (.UnaryOp .USub (.Constant (.int 1) k p1) p2)) p3) pos) (.rev ea) :=
  pe_imp (pe_revL ha) fun σ H Q ⟨L, ρ, st, s, e, o⟩ => by
    simp only [evE] at o
    refine tM_bind (O := OutN (gx X) Q) OutN.fam s e o fun v H1 L1 s1 p v1 q1 e1 r1 o1 => ?_
    cases h : p.rd s1 with
    | none => rw [h] at o1; exact o1.elim
    | some d =>
      rw [h] at o1
      cases d with
      | lst l =>
        obtain ⟨a', vs, rfl, e', q⟩ := rd_w q1 r1 h
        exact ⟨a', vs, rfl, .of e', fun p hp => o1 L1 H1 _ (.refl _ _) q1 q.reverse p hp⟩
      | _ => exact o1.elim
theorem isL_rev (ρ : Env) (s : CS) : IsL (evE C (.rev ea) ρ s) := by
  simp only [evE]
  cases evE C ea ρ s with
  | exc xc xn xv xs => exact trivial
  | bad => exact trivial
  | ok p s1 =>
    simp only [R.bind]
    cases p.rd s1 with
    | none => exact trivial
    | some d => cases d <;> exact trivial
theorem sE_revT {k : Nat} {p1 p2 p3 : Pos} (ha : SE X C a ea) : SE X C (.Subscript a (.Slice none none (some (.UnaryOp .USub (.Constant (.int 1) k p1) p2)) p3) pos) (.revT ea) :=
  pe_imp (pe_revT ha) fun σ H Q ⟨L, ρ, st, s, e, o⟩ => by
    simp only [evE] at o
    refine tM_bind (O := fun L H r => Out (gx X) L H Q r) Out.fam s e o fun v H1 L1 s1 p v1 q1 e1 r1 o1 => ?_
    cases p with
    | d x => cases x with
      | tup l =>
        obtain ⟨a', vs, rfl, e', q⟩ := (Rep.w r1).sqT
        exact ⟨a', vs, rfl, e', Out.tup q1 o1 q.reverse⟩
      | _ => exact o1.elim
    | _ => exact o1.elim
end
end PD

set_option Elab.async false
set_option linter.all false
set_option autoImplicit false
set_option maxRecDepth 100000
/-! PdF: built-ins. -/
namespace PD
open PySem PySem.Spec L2

def fnV : BI → Value
  | .len => .builtin "len" | .int => .type "int" | .abs => .builtin "abs" | .repr => .builtin "repr" | .min => .builtin "min" | .max => .builtin "max" | .list => .type "list" | .tuple => .type "tuple" | .all => .builtin "all" | .any => .builtin "any" | .str => .type "str"
def rBi (G : Gx) (b : BI) : List V → Hp → VK → Prop := fun vs H Q => ∃ L st ps l, SRel G.K L H st ∧ RepPs G.K L H ps vs ∧ rdAll st ps = some l ∧ Out G L H Q (lift ((bi b l).map PV.d) st)
/-- data of arguments, lists as they stand now -/
inductive RepWs (K : PySem.W.Frag) (L : Plc) (H : Hp) : List D → List V → Prop
  | nil : RepWs K L H [] []
  | cons {d : D} {v : V} {l : List D} {vs : List V} : RepW K L H d v → RepWs K L H l vs → RepWs K L H (d :: l) (v :: vs)
theorem rdAll_w {K : PySem.W.Frag} {L : Plc} {H : Hp} {st : CS} (s : SRel K L H st) : ∀ {ps : List PV} {vs : List V} {l : List D}, RepPs K L H ps vs → rdAll st ps = some l → RepWs K L H l vs
  | _, _, _, .nil, h => by cases h; exact .nil
  | p :: ps, _, l, .cons r t, h => by
    simp only [rdAll] at h
    cases e : p.rd st with
    | none => rw [e] at h; cases h
    | some d =>
      rw [e] at h
      cases e2 : rdAll st ps with
      | none => rw [e2] at h; cases h
      | some m =>
        rw [e2] at h
        cases h
        exact .cons (rd_w s r e) (rdAll_w s t e2)
/-- a list or tuple, as it is read -/
inductive IsSq : D → List D → Prop
  | lst (l : List D) : IsSq (.lst l) l
  | tup (l : List D) : IsSq (.tup l) l
theorem RepW.sq {K : PySem.W.Frag} {L : Plc} {H : Hp} {d : D} {l : List D} {v : V} (q : IsSq d l) (r : RepW K L H d v) : ∃ a vs, v = .ref a ∧ (SqL K H a vs ∨ SqT K H a vs) ∧ Reps K L H l vs := by
  cases q with
  | lst =>
    obtain ⟨a, vs, rfl, e, q⟩ := r
    exact ⟨a, vs, rfl, .inl (.of e), q⟩
  | tup =>
    obtain ⟨a, vs, rfl, e, q⟩ := r.sqT
    exact ⟨a, vs, rfl, .inr e, q⟩
theorem intsOf_eq : ∀ {l : List D} {ns : List Int}, intsOf l = some ns → l = ns.map D.int
  | [], _, h => by cases h; rfl
  | .int i :: r, ns, h => by
    simp only [intsOf] at h
    cases e : intsOf r with
    | none => rw [e] at h; cases h
    | some m => rw [e] at h; cases h; rw [intsOf_eq e]; rfl
  | .non :: _, _, h => by cases h
  | .bl _ :: _, _, h => by cases h
  | .str _ :: _, _, h => by cases h
  | .lst _ :: _, _, h => by cases h
  | .tup _ :: _, _, h => by cases h
  | .dct _ _ :: _, _, h => by cases h
  | .ins _ _ _ :: _, _, h => by cases h
theorem toPs_ints : ∀ ns : List Int, D.toPs (ns.map D.int) = ns.map PyData.int
  | [] => rfl
  | n :: r => by
    have h := toPs_ints r
    simp only [List.map_cons, D.toPs, D.toP, h]
theorem depth_ints : ∀ ns : List Int, PyData.depthAll (ns.map PyData.int) ≤ 1
  | [] => by simp [PyData.depthAll]
  | n :: r => by
    have h := depth_ints r
    simp only [List.map_cons, PyData.depthAll, PyData.depth]
    omega
theorem alike_ints (ns : List Int) : PySem.W.AlikeAll (ns.map PyData.int) := by
  refine ⟨fun x hx y hy => ?_, fun x hx => ?_⟩
  · obtain ⟨i, _, rfl⟩ := List.mem_map.mp hx
    obtain ⟨j, _, rfl⟩ := List.mem_map.mp hy
    rfl
  · obtain ⟨i, _, rfl⟩ := List.mem_map.mp hx
    exact fun h => nomatch h
section
variable {X : L2.Cx}
theorem vals_reads {pins : List (Addr × Obj)} {s : Shared} {σ : St} {H : Hp} (I : Inv X pins σ H s) {L : Plc} {l : List D} {vs : List V} {us : List Value} (p : D.plains l = true) (r : Reps X.K L H l vs) (rv : Vals vs us) : ∃ as, ReadsAll s.heap us (D.toPs l) as := Dp.readsAll I _ _ _ (r.dp p) rv
theorem seq_reads {pins : List (Addr × Obj)} {s : Shared} {σ : St} {H : Hp} (I : Inv X pins σ H s) {L : Plc} {d : D} {v : V} {u : Value} (p : d.plain = true) (r : RepW X.K L H d v) (rv : RelV v u) : ∃ as, Reads s.heap u d.toP as := Dp.reads I _ _ _ (r.dp p) rv
theorem blsOf_eq : ∀ {l : List D} {bs : List Bool}, blsOf l = some bs → l = bs.map D.bl
  | [], _, h => by cases h; rfl
  | .bl i :: r, ns, h => by
    simp only [blsOf] at h
    cases e : blsOf r with
    | none => rw [e] at h; cases h
    | some m => rw [e] at h; cases h; rw [blsOf_eq e]; rfl
  | .non :: _, _, h => by cases h
  | .int _ :: _, _, h => by cases h
  | .str _ :: _, _, h => by cases h
  | .lst _ :: _, _, h => by cases h
  | .tup _ :: _, _, h => by cases h
  | .dct _ _ :: _, _, h => by cases h
  | .ins _ _ _ :: _, _, h => by cases h
theorem Reps.of_bls {K : PySem.W.Frag} {L : Plc} {H : Hp} : ∀ {bs : List Bool} {vs : List V}, Reps K L H (bs.map D.bl) vs → vs = bs.map V.bl
  | [], _, .nil => rfl
  | n :: r, _, .cons (.bl _) t => by rw [Reps.of_bls t]; rfl
mutual
theorem D.noDict : ∀ {d : D}, d.plain = true → d.toP.hasDict = false
  | .non, _ => by simp [D.toP, PyData.hasDict]
  | .bl _, _ => by simp [D.toP, PyData.hasDict]
  | .int _, _ => by simp [D.toP, PyData.hasDict]
  | .str _, _ => by simp [D.toP, PyData.hasDict]
  | .lst l, h => by
    rw [D.plain] at h
    rw [D.toP, PyData.hasDict]; exact D.noDicts h
  | .tup l, h => by
    rw [D.plain] at h
    rw [D.toP, PyData.hasDict]; exact D.noDicts h
  | .dct _ _, h => by simp [D.plain] at h
  | .ins _ _ _, h => by simp [D.plain] at h
theorem D.noDicts : ∀ {l : List D}, D.plains l = true → PyData.hasDictAll (D.toPs l) = false
  | [], _ => by simp [D.toPs, PyData.hasDictAll]
  | x :: r, h => by
    rw [D.plains, Bool.and_eq_true] at h
    rw [D.toPs, PyData.hasDictAll, D.noDict h.1, D.noDicts h.2]; rfl
end
theorem plains_ints : ∀ ns : List Int, D.plains (ns.map D.int) = true
  | [] => rfl
  | n :: r => by rw [List.map_cons, D.plains, plains_ints r]; rfl
theorem cr_bi (b : BI) (hc : X.calm = true) (hu : X.A.units + 200 < cLine) (hg : X.A.guards = some []) : CallR X (fnV b) (rBi (gx X) b) := by
  intro pins s σ H vs us Q I r h
  obtain ⟨L, st, ps, l, hs, rp, hl, h⟩ := h
  have w := rdAll_w hs rp hl
  have noh : X.A.handled = none := I.ok.hd hc
  cases b with
  | len =>
    cases w with
    | nil => exact h.elim
    | @cons d v m ws w1 w2 =>
      cases w2 with
      | cons _ _ => cases d <;> exact h.elim
      | nil =>
        have sq : ∀ m : List D, IsSq d m → Out (gx X) L H Q (.ok (.d (.int m.length)) st) → wpAny (model X.prog X.w) X.A (call (fnV .len) us) (EP X pins σ Q) X.xe s := fun m q o => by
          obtain ⟨a, xs, rfl, e, rs⟩ := w1.sq q
          exact call_len_seq pins s σ H _ us Q I r ⟨a, xs, rfl, e, by rw [← rs.length]; exact o.val hs (.int _)⟩
        cases d with
        | lst m => exact sq m (.lst m) h
        | tup m => exact sq m (.tup m) h
        | str z =>
          have w1' : Rep X.K L H (.str z) v := w1
          cases w1'
          by_cases c : z.length ≤ sizeLine
          · simp only [bi, if_pos c, Option.map, lift] at h
            exact call_len_str pins s σ H _ us Q I r ⟨z, rfl, c, h.val hs (.int _)⟩
          · simp only [bi, if_neg c, Option.map, lift, Out] at h
        | _ => exact h.elim
  | int =>
    cases w with
    | nil => exact h.elim
    | @cons d v m ws w1 w2 =>
      cases w2 with
      | cons _ _ => cases d <;> exact h.elim
      | nil =>
        cases d with
        | int i =>
          have w1' : Rep X.K L H (.int i) v := w1
          cases w1'
          exact call_int1 pins s σ H _ us Q I r (.inl ⟨i, rfl, h.val hs (.int _)⟩)
        | bl k =>
          have w1' : Rep X.K L H (.bl k) v := w1
          cases w1'
          exact call_int1 pins s σ H _ us Q I r (.inr ⟨k, rfl, h.val hs (.int _)⟩)
        | _ => exact h.elim
  | abs =>
    cases w with
    | nil => exact h.elim
    | @cons d v m ws w1 w2 =>
      cases w2 with
      | cons _ _ => cases d <;> exact h.elim
      | nil =>
        cases d with
        | int i =>
          have w1' : Rep X.K L H (.int i) v := w1
          cases w1'
          exact call_abs pins s σ H _ us Q I r ⟨i, rfl, h.val hs (.int _)⟩
        | _ => exact h.elim
  | repr =>
    cases w with
    | nil => exact h.elim
    | @cons d v m ws w1 w2 =>
      cases w2 with
      | cons _ _ => exact h.elim
      | nil =>
        by_cases c : (d.plain && d.toP.showable && decide (d.toP.shown.length ≤ sizeLine) && decide (d.toP.depth ≤ 60)) = true
        · simp only [bi, reprD, if_pos c, Option.map, lift] at h
          simp only [Bool.and_eq_true, decide_eq_true_eq] at c
          obtain ⟨⟨⟨cp, c1⟩, c2⟩, c3⟩ := c
          have fin : ∀ t' tk, EP X pins σ Q (.str d.toP.shown t') { s with toks := tk } := fun t' tk => ⟨.str _, H, I.tok _, ⟨_, rfl⟩, h.val hs (.str _)⟩
          obtain ⟨u, rfl, ru⟩ := vals1 r
          obtain ⟨as, rd⟩ := seq_reads I cp w1 ru
          have big : ∀ a', u = .ref a' → wpAny (model X.prog X.w) X.A (call (.builtin "repr") [u]) (EP X pins σ Q) X.xe s := fun a' e => by
            subst e
            have nd : d.toP.hasDict = false := D.noDict cp
            refine repr_of_reads' rd c1 (fun z => by rw [nd] at z; cases z) hg (by omega) (fun _ _ z => z) (fun h' t' tk hk => ?_) c2
            exact ⟨.str _, H, I.kept hk, ⟨_, rfl⟩, h.val hs (.str _)⟩
          cases d with
          | non =>
            have w1' : Rep X.K L H .non v := w1
            cases w1'
            cases ru
            refine PySem.P.repr_of_none ?_
            have := fin s.toks (s.toks + 1)
            rw [D.toP, PyData.shown_none] at this
            exact this
          | bl k =>
            have w1' : Rep X.K L H (.bl k) v := w1
            cases w1'
            cases ru
            refine PySem.P.repr_of_bool ?_
            have := fin s.toks (s.toks + 1)
            rw [D.toP, PyData.shown_bool] at this
            cases k <;> exact this
          | int i =>
            have w1' : Rep X.K L H (.int i) v := w1
            cases w1'
            obtain ⟨t, rfl⟩ := ru
            refine PySem.P.repr_of_int (by simpa [D.toP, PyData.showable] using c1) ?_
            have := fin s.toks (s.toks + 1)
            rw [D.toP, PyData.shown_int] at this
            exact this
          | str z =>
            have w1' : Rep X.K L H (.str z) v := w1
            cases w1'
            obtain ⟨t, rfl⟩ := ru
            have c2' := c2
            rw [D.toP, PyData.shown_str] at c2'
            refine PySem.P.repr_of_str ?_ c2'
            have := fin s.toks (s.toks + 1)
            rw [D.toP, PyData.shown_str] at this
            exact this
          | lst m =>
            obtain ⟨a', _, rfl, _, _⟩ := w1.sq (.lst m)
            exact big a' ru
          | tup m =>
            obtain ⟨a', _, rfl, _, _⟩ := w1.sq (.tup m)
            exact big a' ru
          | dct ks vs => simp [D.plain] at cp
          | ins c ns vs => simp [D.plain] at cp
        · simp only [bi, reprD, if_neg c, Option.map, lift, Out] at h
  | str =>
    cases w with
    | nil => exact h.elim
    | @cons d v m ws w1 w2 =>
      cases w2 with
      | cons _ _ => cases d <;> exact h.elim
      | nil =>
        cases d with
        | int i =>
          have w1' : Rep X.K L H (.int i) v := w1
          cases w1'
          by_cases c : i.natAbs.log2 < 1920
          · simp only [bi, if_pos c, Option.map, lift] at h
            exact call_str_int pins s σ H _ us Q I r ⟨i, rfl, c, h.val hs (.str _)⟩
          · simp only [bi, if_neg c, Option.map, lift, Out] at h
        | str z =>
          have w1' : Rep X.K L H (.str z) v := w1
          cases w1'
          exact SkE.call_str_str pins s σ H _ us Q I r ⟨z, rfl, h.val hs (.str _)⟩
        | _ => exact h.elim
  | all =>
    cases w with
    | nil => exact h.elim
    | @cons d v m ws w1 w2 =>
      cases w2 with
      | cons _ _ => cases d <;> exact h.elim
      | nil =>
        cases d with
        | lst m =>
          obtain ⟨a, xs, rfl, e, rs⟩ := w1
          cases hb : blsOf m with
          | none => simp only [bi, hb, Option.map, lift, Out] at h
          | some bs =>
            simp only [bi, hb, Option.map, lift] at h
            have e2 := blsOf_eq hb
            subst e2
            have e3 := Reps.of_bls rs
            subst e3
            exact cr_all hc pins s σ H _ us Q I r ⟨a, bs, rfl, .of e, h.val hs (.bl _)⟩
        | _ => exact h.elim
  | any =>
    cases w with
    | nil => exact h.elim
    | @cons d v m ws w1 w2 =>
      cases w2 with
      | cons _ _ => cases d <;> exact h.elim
      | nil =>
        cases d with
        | lst m =>
          obtain ⟨a, xs, rfl, e, rs⟩ := w1
          cases hb : blsOf m with
          | none => simp only [bi, hb, Option.map, lift, Out] at h
          | some bs =>
            simp only [bi, hb, Option.map, lift] at h
            have e2 := blsOf_eq hb
            subst e2
            have e3 := Reps.of_bls rs
            subst e3
            exact cr_any hc pins s σ H _ us Q I r ⟨a, bs, rfl, .of e, h.val hs (.bl _)⟩
        | _ => exact h.elim
  | list =>
    cases w with
    | nil => exact h.elim
    | @cons d v m ws w1 w2 =>
      cases w2 with
      | cons _ _ => cases d <;> exact h.elim
      | nil =>
        have sq : ∀ m : List D, IsSq d m → Out (gx X) L H Q (.ok (.d (.lst m)) st) → wpAny (model X.prog X.w) X.A (call (fnV .list) us) (EP X pins σ Q) X.xe s := fun m q o => by
          obtain ⟨a, xs, rfl, e, rs⟩ := w1.sq q
          exact call_list_of pins s σ H _ us Q I r ⟨a, xs, rfl, e, o.lst hs rs⟩
        cases d with
        | lst m => exact sq m (.lst m) h
        | tup m => exact sq m (.tup m) h
        | _ => exact h.elim
  | tuple =>
    cases w with
    | nil => exact h.elim
    | @cons d v m ws w1 w2 =>
      cases w2 with
      | cons _ _ => cases d <;> exact h.elim
      | nil =>
        cases d with
        | lst m =>
          obtain ⟨a, xs, rfl, e, rs⟩ := w1
          exact call_tuple_of pins s σ H _ us Q I r ⟨a, xs, rfl, .inl ⟨.of e, Out.tup hs h rs⟩⟩
        | tup m =>
          have w1' : Rep X.K L H (.tup m) v := w1
          obtain ⟨a, xs, rfl, e, rs⟩ := w1.sqT
          exact call_tuple_of pins s σ H _ us Q I r ⟨a, xs, rfl, .inr ⟨e, h.val hs w1'⟩⟩
        | _ => exact h.elim
  | min =>
    cases w with
    | nil => exact h.elim
    | @cons d v m ws w1 w2 =>
      cases w2 with
      | @cons d2 v2 m2 ws2 w3 w4 =>
        cases w4 with
        | cons _ _ => cases d <;> cases d2 <;> exact h.elim
        | nil =>
          cases d with
          | int i => cases d2 with
            | int j =>
              have w1' : Rep X.K L H (.int i) v := w1
              have w3' : Rep X.K L H (.int j) v2 := w3
              cases w1'; cases w3'
              exact call_min2 hc pins s σ H _ us Q I r ⟨i, j, rfl, h.val hs (.int _)⟩
            | _ => exact h.elim
          | _ => cases d2 <;> exact h.elim
      | nil =>
        have fin : ∀ (xs : List D) (a : Addr) (its : List Value) (x : Int) (rest : List Int), intsOf xs = some (x :: rest) → bi .min [d] = bestI min xs → ∀ (i : Nat) (u : Value) (h' : Heap) (tk : Nat) (bs : List Addr), its.toArray[i]? = some u → Reads h' u (PySem.W.minD (.int x) (rest.map .int)) bs → (∀ b o, s.heap.get? b = some o → h'.get? b = some o) → EP X pins σ Q u { s with heap := h', toks := tk } :=
          fun xs a its x rest e1 e2 i u h' tk bs hi hr hk => by
            rw [PySem.W.minD_ints] at hr
            cases hr
            rw [e2] at h
            simp only [bestI, e1, Option.map, lift] at h
            exact ⟨.int _, H, I.kept hk, ⟨_, rfl⟩, h.val hs (.int _)⟩
        cases d with
        | lst xs =>
          cases e : intsOf xs with
          | none => simp only [bi, bestI, e, Option.map, lift, Out] at h
          | some ns =>
            cases ns with
            | nil => simp only [bi, bestI, e, Option.map, lift, Out] at h
            | cons x rest =>
              obtain ⟨a, zs, rfl, eh, rs⟩ := w1
              obtain ⟨its, rv, pl, _⟩ := I.list (SqL.of eh)
              obtain ⟨as, ra⟩ := vals_reads I (by rw [intsOf_eq e]; exact plains_ints _) rs rv
              rw [intsOf_eq e, toPs_ints] at ra
              rw [Vals.ref1 r]
              exact PySem.W.min_list_data noh pl.isList (by simpa using ra) (alike_ints (x :: rest)) (by have := depth_ints (x :: rest); simp only [List.map_cons] at this; omega) (fin xs a its x rest e rfl)
        | tup xs =>
          cases e : intsOf xs with
          | none => simp only [bi, bestI, e, Option.map, lift, Out] at h
          | some ns =>
            cases ns with
            | nil => simp only [bi, bestI, e, Option.map, lift, Out] at h
            | cons x rest =>
              obtain ⟨a, zs, rfl, eh, rs⟩ := w1.sqT
              obtain ⟨its, rv, pl, _⟩ := I.tuple eh
              obtain ⟨as, ra⟩ := vals_reads I (by rw [intsOf_eq e]; exact plains_ints _) rs rv
              rw [intsOf_eq e, toPs_ints] at ra
              rw [Vals.ref1 r]
              exact PySem.W.min_tuple_data noh (show s.heap.IsTuple a its.toArray from pl) (by simpa using ra) (alike_ints (x :: rest)) (by have := depth_ints (x :: rest); simp only [List.map_cons] at this; omega) (fin xs a its x rest e rfl)
        | _ => exact h.elim
  | max =>
    cases w with
    | nil => exact h.elim
    | @cons d v m ws w1 w2 =>
      cases w2 with
      | @cons d2 v2 m2 ws2 w3 w4 =>
        cases w4 with
        | cons _ _ => cases d <;> cases d2 <;> exact h.elim
        | nil =>
          cases d with
          | int i => cases d2 with
            | int j =>
              have w1' : Rep X.K L H (.int i) v := w1
              have w3' : Rep X.K L H (.int j) v2 := w3
              cases w1'; cases w3'
              exact call_max2 hc pins s σ H _ us Q I r ⟨i, j, rfl, h.val hs (.int _)⟩
            | _ => exact h.elim
          | _ => cases d2 <;> exact h.elim
      | nil =>
        have fin : ∀ (xs : List D) (a : Addr) (its : List Value) (x : Int) (rest : List Int), intsOf xs = some (x :: rest) → bi .max [d] = bestI max xs → ∀ (i : Nat) (u : Value) (h' : Heap) (tk : Nat) (bs : List Addr), its.toArray[i]? = some u → Reads h' u (PySem.W.maxD (.int x) (rest.map .int)) bs → (∀ b o, s.heap.get? b = some o → h'.get? b = some o) → EP X pins σ Q u { s with heap := h', toks := tk } :=
          fun xs a its x rest e1 e2 i u h' tk bs hi hr hk => by
            rw [PySem.W.maxD_ints] at hr
            cases hr
            rw [e2] at h
            simp only [bestI, e1, Option.map, lift] at h
            exact ⟨.int _, H, I.kept hk, ⟨_, rfl⟩, h.val hs (.int _)⟩
        cases d with
        | lst xs =>
          cases e : intsOf xs with
          | none => simp only [bi, bestI, e, Option.map, lift, Out] at h
          | some ns =>
            cases ns with
            | nil => simp only [bi, bestI, e, Option.map, lift, Out] at h
            | cons x rest =>
              obtain ⟨a, zs, rfl, eh, rs⟩ := w1
              obtain ⟨its, rv, pl, _⟩ := I.list (SqL.of eh)
              obtain ⟨as, ra⟩ := vals_reads I (by rw [intsOf_eq e]; exact plains_ints _) rs rv
              rw [intsOf_eq e, toPs_ints] at ra
              rw [Vals.ref1 r]
              exact PySem.W.max_list_data noh pl.isList (by simpa using ra) (alike_ints (x :: rest)) (by have := depth_ints (x :: rest); simp only [List.map_cons] at this; omega) (fin xs a its x rest e rfl)
        | tup xs =>
          cases e : intsOf xs with
          | none => simp only [bi, bestI, e, Option.map, lift, Out] at h
          | some ns =>
            cases ns with
            | nil => simp only [bi, bestI, e, Option.map, lift, Out] at h
            | cons x rest =>
              obtain ⟨a, zs, rfl, eh, rs⟩ := w1.sqT
              obtain ⟨its, rv, pl, _⟩ := I.tuple eh
              obtain ⟨as, ra⟩ := vals_reads I (by rw [intsOf_eq e]; exact plains_ints _) rs rv
              rw [intsOf_eq e, toPs_ints] at ra
              rw [Vals.ref1 r]
              exact PySem.W.max_tuple_data noh (show s.heap.IsTuple a its.toArray from pl) (by simpa using ra) (alike_ints (x :: rest)) (by have := depth_ints (x :: rest); simp only [List.map_cons] at this; omega) (fin xs a its x rest e rfl)
        | _ => exact h.elim
end
/-- list(x): a list that may be changed -/
def rLi (G : Gx) : List V → Hp → VK → Prop := fun vs H Q => ∃ L st ps l, SRel G.K L H st ∧ RepPs G.K L H ps vs ∧ rdAll st ps = some l ∧ OutN G Q L H (lift ((bi .list l).map PV.d) st)
theorem cr_listN {X : L2.Cx} : CallR X (.type "list") (rLi (gx X)) := by
  intro pins s σ H xs us Q I r h
  obtain ⟨L, st, ps, l, hs, rp, hl, o⟩ := h
  have w := rdAll_w hs rp hl
  cases w with
  | nil => exact o.elim
  | @cons d v m ws w1 w2 =>
    cases w2 with
    | cons _ _ => cases d <;> exact o.elim
    | nil =>
      have sq : ∀ m : List D, IsSq d m → OutN (gx X) Q L H (.ok (.d (.lst m)) st) → wpAny (model X.prog X.w) X.A (call (.type "list") us) (EP X pins σ Q) X.xe s := fun m q o => by
        obtain ⟨a, xs, rfl, e, rs⟩ := w1.sq q
        exact call_list_of pins s σ H _ us Q I r ⟨a, xs, rfl, e, o L H xs (.refl _ _) hs rs⟩
      cases d with
      | lst m => exact sq m (.lst m) o
      | tup m => exact sq m (.tup m) o
      | _ => exact o.elim
end PD

set_option Elab.async false
set_option linter.all false
set_option autoImplicit false
set_option maxRecDepth 100000
/-! PdG: calls of built-ins, what is walked, lists made item by item. -/
namespace PD
open PySem PySem.Spec L2

theorem any_plain {es : List Expr} (h : es.all plainX = true) (pos : Pos) (env : PySem.Env) : (backTo pos (starEach es env)).any (·.1) = false := by
  induction es with
  | nil => rfl
  | cons e r ih =>
    simp only [List.all_cons, Bool.and_eq_true] at h
    rw [star_plain h.1]
    show (false || (backTo pos (starEach r env)).any (·.1)) = false
    rw [ih h.2]; rfl
def biName : BI → Str
  | .len => "len" | .int => "int" | .abs => "abs" | .repr => "repr" | .min => "min" | .max => "max" | .list => "list" | .tuple => "tuple" | .all => "all" | .any => "any" | .str => "str"
theorem bi_boot (b : BI) : bootBuiltins (biName b) = some (fnV b) := by
  cases b
  · exact boot_len
  · exact PyProof.Rows.boot_int
  · decide +kernel
  · decide +kernel
  · decide +kernel
  · decide +kernel
  · exact PyProof.Rows.boot_list
  · decide +kernel
  · decide +kernel
  · decide +kernel
  · decide +kernel
theorem bi_dd (b : BI) : biName b ≠ "__name__" ∧ (biName b == ("__debug__" : Str)) = false := by
  cases b <;> exact ⟨by decide, by decide⟩
section
variable {X : L2.Cx} {C : Cl} {a b c x : Expr} {xs : List Expr} {ea eb ec : E} {es : Es} {pos p : Pos}
theorem sE_bi (b : BI) (hc : X.calm = true) (hu : X.A.units + 200 < cLine) (hg : X.A.guards = some []) (gl : Gl X (biName b)) (hm : X.mg (biName b) = none) (hp : (a :: xs).all plainX = true) (ha : SA X C (a :: xs) es) : SE X C (.Call (.Name (biName b) p) (a :: xs) [] pos) (.bi b es) := by
  have hp' := hp
  simp only [List.all_cons, Bool.and_eq_true] at hp'
  have h : PE X (.Call (.Name (biName b) p) (a :: xs) [] pos) (tCB (rBi (gx X) b) (tA (gx X) (evEs C es))) := by
    have c := cr_bi (X := X) b hc hu hg
    have d := bi_dd b
    have bt := bi_boot b
    cases e : fnV b with
    | builtin id => rw [e] at c bt; exact pe_callB c gl hm bt ha d.1 d.2 (star_plain hp'.1 _ _) (any_plain hp'.2 _ _)
    | type T => rw [e] at c bt; exact pe_callTy c gl hm bt ha d.1 d.2 (star_plain hp'.1 _ _) (any_plain hp'.2 _ _)
    | _ => cases b <;> cases e
  exact pe_imp h fun σ H Q ⟨L, ρ, st, s, e, o⟩ => by
    simp only [evE] at o
    refine tA_bind (O := fun L H r => Out (gx X) L H Q r) Out.fam s e o fun vs H1 L1 s1 ps v1 q1 e1 r1 o1 => ?_
    cases h : rdAll s1 ps with
    | none => rw [h] at o1; exact o1.elim
    | some l =>
      rw [h] at o1
      exact ⟨L1, s1, ps, l, q1, r1, h, o1⟩
theorem sN_biL (gl : Gl X "list") (hm : X.mg "list" = none) (hp : (a :: xs).all plainX = true) (ha : SA X C (a :: xs) es) : SN X C (.Call (.Name "list" p) (a :: xs) [] pos) (.bi .list es) := by
  have hp' := hp
  simp only [List.all_cons, Bool.and_eq_true] at hp'
  exact pe_imp (pe_callTy cr_listN gl hm PyProof.Rows.boot_list ha (by decide) (by decide) (star_plain hp'.1 _ _) (any_plain hp'.2 _ _)) fun σ H Q ⟨L, ρ, st, s, e, o⟩ => by
    simp only [evE] at o
    refine tA_bind (O := OutN (gx X) Q) OutN.fam s e o fun vs H1 L1 s1 ps v1 q1 e1 r1 o1 => ?_
    cases h : rdAll s1 ps with
    | none => rw [h] at o1; exact o1.elim
    | some l =>
      rw [h] at o1
      exact ⟨L1, s1, ps, l, q1, r1, h, o1⟩
/-! isinstance -/
theorem ClsAt.ty {K : PySem.W.Frag} {H : Hp} {c : String} {C a dx : Addr} {ns : List String} {fs : List (Str × V)} (k : ClsAt K c C ns) (e : H a = some (.ins C dx fs)) : TyX K H (.ref a) (.ref C) := .base (.ins e k.t.cls k.t.ha k.t.hn k.t.htk k.t.hm)
theorem tk_boot (k : TK) : bootBuiltins (Str.ofString (tkName k)) = some (.type (tkName k)) := by
  cases k <;> decide +kernel
theorem tk_dd (k : TK) : Str.ofString (tkName k) ≠ "__name__" ∧ (Str.ofString (tkName k) == ("__debug__" : Str)) = false := by
  cases k <;> exact ⟨by decide, by decide⟩
theorem kit_one {K : PySem.W.Frag} {L : Plc} {H : Hp} {d : D} {v : V} (k : TK) (r : RepW K L H d v) : ∃ t, TyX K H v t ∧ PySem.W.kitOne K t (.type (tkName k)) = some (isK k d) := by
  cases d with
  | lst l =>
    obtain ⟨a, vs, rfl, e, q⟩ := r
    exact ⟨.type "list", .base (.lst e), kit_ty (by cases k <;> (simp only [isK]; decide +kernel))⟩
  | non =>
    have r' : Rep K L H .non v := r
    cases r'
    exact ⟨_, .base .non, kit_ty (by cases k <;> decide +kernel)⟩
  | bl c =>
    have r' : Rep K L H (.bl c) v := r
    cases r'
    exact ⟨_, .base (.bl c), kit_ty (by cases k <;> (simp only [isK]; decide +kernel))⟩
  | int i =>
    have r' : Rep K L H (.int i) v := r
    cases r'
    exact ⟨_, .base (.int i), kit_ty (by cases k <;> (simp only [isK]; decide +kernel))⟩
  | str z =>
    have r' : Rep K L H (.str z) v := r
    cases r'
    exact ⟨_, .base (.str z), kit_ty (by cases k <;> (simp only [isK]; decide +kernel))⟩
  | tup l =>
    have r' : Rep K L H (.tup l) v := r
    cases r' with
    | tup e n q => exact ⟨.type "tuple", .base (.tup e), kit_ty (by cases k <;> (simp only [isK]; decide +kernel))⟩
    | tupK e q =>
      rcases e with (e | ⟨o, e⟩) | ⟨o, its, n, e, c, _⟩
      · cases e
      · cases e
      · exact ⟨.type "tuple", .kTuple e c, kit_ty (by cases k <;> (simp only [isK]; decide +kernel))⟩
  | dct ks vs =>
    have r' : Rep K L H (.dct ks vs) v := r
    cases r' with
    | dct e n kk q => exact ⟨_, .base (.dK e), kit_ty (by cases k <;> (simp only [isK]; decide +kernel))⟩
  | ins c ns vs =>
    obtain ⟨a, C, dx, ws, rfl, k1, e, _, _⟩ := r
    exact ⟨_, k1.ty e, by rw [k1.t.kit k]; cases k <;> rfl⟩
theorem sE_isi (k : TK) (gl : Gl X "isinstance") (hm : X.mg "isinstance" = none) (gk : Gl X (Str.ofString (tkName k))) (mk : X.mg (Str.ofString (tkName k)) = none) (hp : plainX a = true) (ha : SE X C a ea) {p2 : Pos} :
    SE X C (.Call (.Name "isinstance" p) [a, .Name (Str.ofString (tkName k)) p2] [] pos) (.isi ea k) := by
  have d := tk_dd k
  have hb : PE X (.Name (Str.ofString (tkName k)) p2) (tC (.ty (tkName k))) := pe_bltn gk mk (tk_boot k) rfl d.1 d.2
  have h := pe_callB (pos := pos) (p := p) call_isi gl hm (by decide +kernel) (pa_cons ha (pa_cons hb pa_nil) (star_plain hp _ _)) (by decide) (by decide) (star_plain hp _ _) rfl
  exact pe_imp h fun σ H Q ⟨L, ρ, st, s, e, o⟩ => by
    simp only [evE] at o
    refine tM_bind (O := fun L H r => Out (gx X) L H Q r) Out.fam s e o fun v H1 L1 s1 p v1 q1 e1 r1 o1 => ?_
    cases h : p.rd s1 with
    | none => rw [h] at o1; exact o1.elim
    | some d =>
      rw [h] at o1
      obtain ⟨t, ty, kk⟩ := kit_one k (rd_w q1 r1 h)
      exact ⟨v, .ty (tkName k), t, .type (tkName k), isK k d, rfl, .ty _, ty, kk, o1.val q1 (.bl _)⟩
/-! isinstance with several kinds -/
theorem kit_anyOf {K : PySem.W.Frag} {L : Plc} {H : Hp} {d : D} {v t : Value} {x : V} (ks : List TK) (h : ∀ k : TK, PySem.W.kitOne K t (.type (tkName k)) = some (isK k d)) : PySem.W.kitAny K t (ks.map fun k => .type (tkName k)) = some (ks.any fun k => isK k d) := by
  induction ks with
  | nil => rfl
  | cons k r ih =>
    rw [List.map_cons, PySem.W.kitAny, h k, List.any_cons]
    cases isK k d with
    | true => rfl
    | false => exact ih
/-- the kinds, written out -/
inductive KdX (X : L2.Cx) : List Expr → List TK → Prop
  | nil : KdX X [] []
  | cons {k : TK} {p : Pos} {xs : List Expr} {ks : List TK} : Gl X (Str.ofString (tkName k)) → X.mg (Str.ofString (tkName k)) = none → KdX X xs ks → KdX X (.Name (Str.ofString (tkName k)) p :: xs) (k :: ks)
theorem kdx_reads {xs : List Expr} {ks : List TK} (h : KdX X xs ks) : PA X xs (fun _ H Q => Q (ks.map fun k => V.ty (tkName k)) H) := by
  induction h with
  | nil => exact pa_nil
  | @cons k p xs ks g m t ih =>
    have d := tk_dd k
    have hb : PE X (.Name (Str.ofString (tkName k)) p) (tC (.ty (tkName k))) := pe_bltn g m (tk_boot k) rfl d.1 d.2
    exact ⟨fun pos pins s σ H Q I q => (pa_cons hb ih).run pos pins s σ H Q I q⟩
theorem kdx_all : ∀ ks : List TK, Paired ClsV (ks.map fun k => V.ty (tkName k)) (ks.map fun k => Value.type (tkName k))
  | [] => .nil
  | k :: r => .cons (.ty _) (kdx_all r)
theorem kit_all {K : PySem.W.Frag} {L : Plc} {H : Hp} {d : D} {v : V} (r : RepW K L H d v) : ∃ t, TyX K H v t ∧ ∀ k : TK, PySem.W.kitOne K t (.type (tkName k)) = some (isK k d) := by
  have one := fun k => kit_one (d := d) (v := v) k r
  cases d with
  | lst l =>
    obtain ⟨a, vs, rfl, e, q⟩ := r
    exact ⟨.type "list", .base (.lst e), fun k => kit_ty (by cases k <;> (simp only [isK]; decide +kernel))⟩
  | non =>
    have r' : Rep K L H .non v := r
    cases r'
    exact ⟨_, .base .non, fun k => kit_ty (by cases k <;> decide +kernel)⟩
  | bl c =>
    have r' : Rep K L H (.bl c) v := r
    cases r'
    exact ⟨_, .base (.bl c), fun k => kit_ty (by cases k <;> (simp only [isK]; decide +kernel))⟩
  | int i =>
    have r' : Rep K L H (.int i) v := r
    cases r'
    exact ⟨_, .base (.int i), fun k => kit_ty (by cases k <;> (simp only [isK]; decide +kernel))⟩
  | str z =>
    have r' : Rep K L H (.str z) v := r
    cases r'
    exact ⟨_, .base (.str z), fun k => kit_ty (by cases k <;> (simp only [isK]; decide +kernel))⟩
  | tup l =>
    have r' : Rep K L H (.tup l) v := r
    cases r' with
    | tup e n q => exact ⟨.type "tuple", .base (.tup e), fun k => kit_ty (by cases k <;> (simp only [isK]; decide +kernel))⟩
    | tupK e q =>
      rcases e with (e | ⟨o, e⟩) | ⟨o, its, n, e, c, _⟩
      · cases e
      · cases e
      · exact ⟨.type "tuple", .kTuple e c, fun k => kit_ty (by cases k <;> (simp only [isK]; decide +kernel))⟩
  | dct ks vs =>
    have r' : Rep K L H (.dct ks vs) v := r
    cases r' with
    | dct e n kk q => exact ⟨_, .base (.dK e), fun k => kit_ty (by cases k <;> (simp only [isK]; decide +kernel))⟩
  | ins c ns vs =>
    obtain ⟨a, C, dx, ws, rfl, k1, e, _, _⟩ := r
    exact ⟨_, k1.ty e, fun k => by rw [k1.t.kit k]; cases k <;> rfl⟩
theorem RepW.same {K : PySem.W.Frag} {L : Plc} {H H' : Hp} {d : D} {v : V} (r : RepW K L H d v) (s : Same H H') : RepW K L H' d v := by
  cases d with
  | lst l =>
    obtain ⟨a, vs, rfl, e, q⟩ := r
    exact ⟨a, vs, rfl, s _ _ e, q.ev (.same s)⟩
  | ins c ns vs =>
    obtain ⟨a, C, dx, ws, rfl, k, e, l, q⟩ := r
    exact ⟨a, C, dx, ws, rfl, k, s _ _ e, l, q.ev (.same s)⟩
  | dct ks vs => exact Rep.ev r (.same s)
  | non => exact Rep.ev r (.same s)
  | bl b => exact Rep.ev r (.same s)
  | int i => exact Rep.ev r (.same s)
  | str z => exact Rep.ev r (.same s)
  | tup l => exact Rep.ev r (.same s)
theorem sE_isiT {ks : List TK} (gl : Gl X "isinstance") (hm : X.mg "isinstance" = none) (kx : KdX X xs ks) (hl : ks.length ≤ 100) (hp : plainX a = true) (ha : SE X C a ea) {j : Nat} {p2 : Pos} :
    SE X C (.Call (.Name "isinstance" p) [a, .Tuple xs j p2] [] pos) (.isiT ea ks) := by
  have h := pe_callB (pos := pos) (p := p) call_isiT gl hm (by decide +kernel) (pa_cons ha (pa_cons (pe_tup (pos := p2) (x1 := j) (kdx_reads kx)) pa_nil) (star_plain hp _ _)) (by decide) (by decide) (star_plain hp _ _) rfl
  exact pe_imp h fun σ H Q ⟨L, ρ, st, s, e, o⟩ => by
    simp only [evE] at o
    refine tM_bind (O := fun L H r => Out (gx X) L H Q r) Out.fam s e o fun v H1 L1 s1 p v1 q1 e1 r1 o1 => ?_
    cases h : p.rd s1 with
    | none => rw [h] at o1; exact o1.elim
    | some d =>
      rw [h] at o1
      refine ⟨by rw [List.length_map]; exact Nat.le_trans hl (by decide), fun tp htp => ?_⟩
      have sm := same_upd (o := HO.tup (ks.map fun k => V.ty (tkName k))) htp
      obtain ⟨t, ty, kk⟩ := kit_all ((rd_w q1 r1 h).same sm)
      exact ⟨v, tp, _, t, _, ks.any fun k => isK k d, rfl, upd_same, kdx_all ks, ty, kit_anyOf (L := L1) (H := H1) (v := .none) (x := v) ks kk, (o1.ev (.same sm)).val (q1.same sm) (.bl _)⟩
/-! list(range(..)) -/
theorem reps_rng {K : PySem.W.Frag} {L : Plc} {H : Hp} (n : Int) (h : 0 ≤ n) : Reps K L H (rngItems 0 n.toNat) (rgV 0 n) := by
  have e : rgV 0 n = ((List.range n.toNat).map fun (i : Nat) => (0 + (i : Int))).map V.int := by
    unfold rgV
    rw [List.map_map, Int.sub_zero]; rfl
  have e2 : rngItems 0 n.toNat = ((List.range n.toNat).map fun (i : Nat) => (0 + (i : Int))).map D.int := by
    unfold rngItems
    rw [List.map_map]; rfl
  rw [e, e2]
  exact Reps.ints _
theorem isL_lrg (ρ : Env) (s : CS) : IsL (evE C (.lrg ea) ρ s) := by
  simp only [evE]
  cases evE C ea ρ s with
  | exc xc xn xv xs => exact trivial
  | bad => exact trivial
  | ok p s1 =>
    simp only [R.bind]
    cases p with
    | d x => cases x with
      | int j =>
        show IsL (if 0 ≤ j ∧ j ≤ 16777216 then _ else _)
        split <;> exact trivial
      | _ => exact trivial
    | _ => exact trivial
theorem sN_lrg (hc : X.calm = true) (gl : Gl X "list") (hm : X.mg "list" = none) (gr : Gl X "range") (mr : X.mg "range" = none) (hp : plainX a = true) (ha : SE X C a ea) {p2 p3 : Pos} :
    SN X C (.Call (.Name "list" p) [.Call (.Name "range" p2) [a] [] p3] [] pos) (.lrg ea) :=
  pe_imp (pe_listRg hc gl hm (prg_1 gr mr ha (star_plain hp _ _)) rfl) fun σ H Q ⟨L, ρ, st, s, e, o⟩ => by
    simp only [evE] at o
    refine tM_bind (O := OutN (gx X) Q) OutN.fam s e o fun v H1 L1 s1 p v1 q1 e1 r1 o1 => ?_
    cases p with
    | d x => cases x with
      | int j =>
        have r1' : Rep X.K L1 H1 (.int j) v := r1
        cases r1'
        by_cases c : 0 ≤ j ∧ j ≤ 16777216
        · simp only [if_pos c] at o1
          exact ⟨j, rfl, .of_le (by omega) (by omega) (by omega) (by omega), fun q hq => o1 L1 H1 _ (.refl _ _) q1 (reps_rng j c.1) q hq⟩
        · simp only [if_neg c] at o1; exact o1.elim
      | _ => exact o1.elim
    | _ => exact o1.elim
end

/-! ### what is walked -/
structure Walk (K : PySem.W.Frag) (J : L2.It) (L : Plc) (H : Hp) (ds : List D) : Prop where
  go : ∀ (L1 : Plc) (H1 : Hp) (s1 : CS) (i : Nat) (d : D), Mv L H L1 H1 → SRel K L1 H1 s1 → ds[i]? = some d → J.go i H1 ∧ ∀ x H2, J.yld i H1 x H2 → Same H1 H2 ∧ Rep K L1 H2 d x
  stop : ∀ (L1 : Plc) (H1 : Hp) (i : Nat), Mv L H L1 H1 → ds.length ≤ i → J.stop i H1
def OutI (G : Gx) (Rr : L2.It → Hp → Prop) (L : Plc) (H : Hp) (r : R (List D)) : Prop := OutG G (fun L' H' ds => ∀ J, Walk G.K J L' H' ds → Rr J H') L H r
def tI (G : Gx) (m : Env → CS → R (List D)) : TI := fun σ H Rr => ∃ L ρ st, SRel G.K L H st ∧ ERel G.K L H ρ σ ∧ OutI G Rr L H (m ρ st)
abbrev SI (X : L2.Cx) (C : Cl) (tg x : Expr) (e : It) : Prop := PI X tg x (tI (gx X) (evIt C e))
theorem pi_imp {X : L2.Cx} {tg x : Expr} {t u : TI} (h : PI X tg x t) (i : ∀ (σ : St) (H : Hp) (Q : L2.It → Hp → Prop), u σ H Q → t σ H Q) : PI X tg x u :=
  ⟨fun pins s σ H Q I q => h.run pins s σ H Q I (i σ H Q q)⟩
theorem Mv.trans {L L1 L2 : Plc} {H H1 H2 : Hp} (a : Mv L H L1 H1) (b : Mv L1 H1 L2 H2) : Mv L H L2 H2 where
  len := Nat.le_trans a.len b.len
  get := fun k x h => by
    rcases a.get k x h with e | e
    · exact b.get k x e
    · rcases b.get k none e with e | e <;> exact .inr e
  stay := fun c o h n => b.stay c o (a.stay c o h n).1 (a.stay c o h n).2
theorem Walk.lst {K : PySem.W.Frag} {L : Plc} {H : Hp} {a : Addr} {l : List D} (r : Rep K L H (.lst l) (.ref a)) : Walk K (Itl K a) L H l := by
  cases r with
  | lst e n q =>
    refine ⟨fun L1 H1 s1 i d m s h => ?_, fun L1 H1 i m h => ?_⟩
    · have e1 := (m.stay _ _ e n).1
      obtain ⟨v, hv, rv⟩ := q.get h
      refine ⟨⟨_, v, .of e1, hv⟩, fun x H2 y => ?_⟩
      obtain ⟨rfl, y⟩ := y
      have := y _ (.of e1)
      rw [hv] at this
      cases this
      exact ⟨Same.refl _, rv.map m.stay⟩
    · exact ⟨_, .of (m.stay _ _ e n).1, by rw [← q.length]; exact h⟩
theorem Walk.tup {K : PySem.W.Frag} {L : Plc} {H : Hp} {a : Addr} {l : List D} (r : Rep K L H (.tup l) (.ref a)) : Walk K (Itt K a) L H l := by
  have key : ∀ (vs : List V), (∀ L1 H1, Mv L H L1 H1 → SqT K H1 a vs) → Reps K L H l vs → Walk K (Itt K a) L H l := fun vs hq q => by
    refine ⟨fun L1 H1 s1 i d m s h => ?_, fun L1 H1 i m h => ?_⟩
    · obtain ⟨v, hv, rv⟩ := q.get h
      refine ⟨⟨_, v, hq L1 H1 m, hv⟩, fun x H2 y => ?_⟩
      obtain ⟨rfl, y⟩ := y
      have := y _ (hq L1 _ m)
      rw [hv] at this
      cases this
      exact ⟨Same.refl _, rv.map m.stay⟩
    · exact ⟨_, hq L1 H1 m, by rw [← q.length]; exact h⟩
  cases r with
  | tup e n q => exact key _ (fun L1 H1 m => .of (m.stay _ _ e n).1) q
  | tupK e q =>
    refine key _ (fun L1 H1 m => ?_) q
    rcases e with (e | ⟨o, e⟩) | e
    · cases e
    · cases e
    · exact .inr e
theorem Walk.rng {K : PySem.W.Frag} {L : Plc} {H : Hp} (lo : Int) (n : Nat) : Walk K (Itr lo n) L H (rngItems lo n) := by
  refine ⟨fun L1 H1 s1 i d m s h => ?_, fun L1 H1 i m h => ?_⟩
  · unfold rngItems at h
    rw [List.getElem?_map] at h
    by_cases hi : i < n
    · rw [List.getElem?_range hi] at h
      cases h
      refine ⟨hi, fun x H2 y => ?_⟩
      obtain ⟨rfl, rfl⟩ := y
      exact ⟨Same.refl _, .int _⟩
    · rw [List.getElem?_eq_none (by simpa using hi)] at h
      cases h
  · unfold rngItems at h
    have h' : n ≤ i := by simpa using h
    exact h'
theorem Walk.enum {K : PySem.W.Frag} {L : Plc} {H : Hp} {a : Addr} {l : List D} (r : Rep K L H (.lst l) (.ref a)) : Walk K (Ite K a) L H (enumItems l) := by
  cases r with
  | lst e n q =>
    refine ⟨fun L1 H1 s1 i d m s h => ?_, fun L1 H1 i m h => ?_⟩
    · have e1 := (m.stay _ _ e n).1
      unfold enumItems at h
      rw [List.getElem?_map, List.getElem?_zipIdx] at h
      cases hd : l[i]? with
      | none => rw [hd] at h; cases h
      | some z =>
        rw [hd] at h
        cases h
        obtain ⟨v, hv, rv⟩ := q.get hd
        refine ⟨⟨_, v, .of e1, hv⟩, fun x H2 y => ?_⟩
        obtain ⟨T, z', rfl, hT, rfl, hz⟩ := y
        have := hz _ (SqL.of e1)
        rw [hv] at this
        cases this
        refine ⟨same_upd hT, ?_⟩
        refine .tup upd_same (s.free hT) (.cons ?_ (.cons ?_ .nil))
        · rw [Nat.zero_add]; exact .int _
        · exact (rv.map m.stay).ev (.same (same_upd hT))
    · unfold enumItems at h
      rw [List.length_map, List.length_zipIdx] at h
      exact ⟨_, .of (m.stay _ _ e n).1, by rw [← q.length]; exact h⟩
section
variable {X : L2.Cx} {C : Cl} {a b tg : Expr} {ea eb : E} {pos p : Pos}
theorem sI_seq (ha : SE X C a ea) : SI X C tg a (.seq ea) :=
  ⟨fun pins s σ H Rr I h => by
    obtain ⟨L, ρ, st, q, e, o⟩ := h
    simp only [evIt] at o
    cases r : evE C ea ρ st with
    | exc xc xn xv xs =>
      rw [r] at o
      exact (pi_list ha).run pins s σ H Rr I ⟨L, ρ, st, q, e, by rw [r]; exact o⟩
    | bad => rw [r] at o; exact o.elim
    | ok pv s1 =>
      rw [r] at o
      cases pv with
      | d x => cases x with
        | lst l =>
          refine (pi_list ha).run pins s σ H Rr I ⟨L, ρ, st, q, e, ?_⟩
          rw [r]
          intro L' H' v v1 q1 r1
          have r1' : Rep X.K L' H' (.lst l) v := r1
          cases r1' with
          | lst e1 n1 z => exact ⟨_, rfl, ⟨_, .of e1⟩, o L' H' v1 q1 _ (Walk.lst (.lst e1 n1 z))⟩
        | tup l =>
          refine (pi_tup ha).run pins s σ H Rr I ⟨L, ρ, st, q, e, ?_⟩
          rw [r]
          intro L' H' v v1 q1 r1
          obtain ⟨a', vs, rfl, e1, z⟩ := (Rep.w r1).sqT
          exact ⟨_, rfl, ⟨_, e1⟩, o L' H' v1 q1 _ (Walk.tup r1)⟩
        | _ => exact o.elim
      | _ => exact o.elim⟩
theorem smallI_ok {j : Int} (h : smallI j = true) : -(2 ^ 62) ≤ j ∧ j < 2 ^ 62 := of_decide_eq_true h
theorem sI_rng1 (gr : Gl X "range") (mr : X.mg "range" = none) (hp : plainX a = true) (ha : SE X C a ea) : SI X C tg (.Call (.Name "range" p) [a] [] pos) (.rng1 ea) :=
  pi_imp (pi_range1 gr mr (sA_cons ha sA_nil hp) (star_plain hp _ _)) fun σ H Q ⟨L, ρ, st, s, e, o⟩ => by
    simp only [evIt] at o
    have o' : OutI (gx X) Q L H ((evEs C (.cons ea .nil) ρ st).bind fun ps s1 => match ps with
      | [.d (.int j)] => if smallI j then .ok (rngItems 0 j.toNat) s1 else .bad
      | _ => .bad) := by
      simp only [evEs]
      cases r : evE C ea ρ st with
      | exc xc xn xv xs => rw [r] at o; exact o
      | bad => rw [r] at o; exact o
      | ok pv s1 =>
        rw [r] at o
        simp only [R.bind] at o ⊢
        cases pv with
        | d x => cases x <;> exact o
        | _ => exact o
    refine tA_bind (O := OutI (gx X) Q) OutG.fam s e o' fun vs H1 L1 s1 ps v1 q1 e1 r1 o1 => ?_
    cases r1 with
    | nil => exact o1.elim
    | @cons pv v ps' vs' z1 z2 =>
      cases z2 with
      | cons _ _ => cases pv with
        | d x => cases x <;> exact o1.elim
        | _ => exact o1.elim
      | nil =>
        cases pv with
        | d x => cases x with
          | int j =>
            have z1' : Rep X.K L1 H1 (.int j) v := z1
            cases z1'
            by_cases c : smallI j = true
            · simp only [if_pos c] at o1
              exact ⟨j, rfl, (smallI_ok c).1, (smallI_ok c).2, o1 L1 H1 (.refl _ _) q1 _ (Walk.rng 0 _)⟩
            · simp only [if_neg c] at o1; exact o1.elim
          | _ => exact o1.elim
        | _ => exact o1.elim
theorem sI_rng2 (gr : Gl X "range") (mr : X.mg "range" = none) (hp : plainX a = true) (hp2 : plainX b = true) (ha : SE X C a ea) (hb : SE X C b eb) : SI X C tg (.Call (.Name "range" p) [a, b] [] pos) (.rng2 ea eb) :=
  pi_imp (pi_range2 gr mr (sA_cons ha (sA_cons hb sA_nil hp2) hp) (by rw [star_plain hp, star_plain hp2]; rfl) (star_plain hp2 _ _)) fun σ H Q ⟨L, ρ, st, s, e, o⟩ => by
    simp only [evIt] at o
    have o' : OutI (gx X) Q L H ((evEs C (.cons ea (.cons eb .nil)) ρ st).bind fun ps s1 => match ps with
      | [.d (.int i), .d (.int j)] => if smallI i && smallI j then .ok (rngItems i (j - i).toNat) s1 else .bad
      | _ => .bad) := by
      simp only [evEs]
      cases r : evE C ea ρ st with
      | exc xc xn xv xs => rw [r] at o; exact o
      | bad => rw [r] at o; exact o
      | ok pv s1 =>
        rw [r] at o
        simp only [R.bind] at o ⊢
        cases r2 : evE C eb ρ s1 with
        | exc xc xn xv xs => rw [r2] at o; exact o
        | bad => rw [r2] at o; exact o
        | ok pv2 s2 =>
          rw [r2] at o
          simp only [R.bind] at o ⊢
          cases pv with
          | d x =>
            cases pv2 with
            | d y => cases x <;> cases y <;> exact o
            | _ => cases x <;> exact o
          | _ => exact o
    refine tA_bind (O := OutI (gx X) Q) OutG.fam s e o' fun vs H1 L1 s1 ps v1 q1 e1 r1 o1 => ?_
    have bad : ∀ {l : List PV}, ps = l → (∀ i j : Int, l ≠ [.d (.int i), .d (.int j)]) → False := fun {l} e n => by
      subst e
      revert o1
      split
      · rename_i i j; exact fun _ => n i j rfl
      · exact fun o => o
    cases r1 with
    | nil => exact (bad rfl fun i j z => by cases z).elim
    | @cons pv v ps' vs' z1 z2 =>
      cases z2 with
      | nil => exact (bad rfl fun i j z => by cases z).elim
      | @cons pv2 w ps2 vs2 z3 z4 =>
        cases z4 with
        | cons _ _ => exact (bad rfl fun i j z => by cases z).elim
        | nil =>
          cases pv with
          | d x => cases x with
            | int i => cases pv2 with
              | d y => cases y with
                | int j =>
                  have z1' : Rep X.K L1 H1 (.int i) v := z1
                  have z3' : Rep X.K L1 H1 (.int j) w := z3
                  cases z1'
                  cases z3'
                  by_cases c : (smallI i && smallI j) = true
                  · simp only [if_pos c] at o1
                    have c' := Bool.and_eq_true_iff.mp c
                    exact ⟨i, j, rfl, ⟨(smallI_ok c'.1).1, (smallI_ok c'.1).2, (smallI_ok c'.2).1, (smallI_ok c'.2).2⟩, o1 L1 H1 (.refl _ _) q1 _ (Walk.rng i _)⟩
                  · simp only [if_neg c] at o1; exact o1.elim
                | _ => exact (bad rfl fun i j z => by cases z).elim
              | _ => exact (bad rfl fun i j z => by cases z).elim
            | _ => exact (bad rfl fun i j z => by cases z).elim
          | _ => exact (bad rfl fun i j z => by cases z).elim
theorem sI_enum (gr : Gl X "enumerate") (mr : X.mg "enumerate" = none) (hp : plainX a = true) (ha : SE X C a ea) {elts : List Expr} {kk : Nat} {tpos : Pos} : SI X C (.Tuple elts kk tpos) (.Call (.Name "enumerate" p) [a] [] pos) (.enum ea) :=
  pi_imp (pi_enum gr mr (sA_cons ha sA_nil hp) (star_plain hp _ _)) fun σ H Q ⟨L, ρ, st, s, e, o⟩ => by
    simp only [evIt] at o
    have o' : OutI (gx X) Q L H ((evEs C (.cons ea .nil) ρ st).bind fun ps s1 => match ps with
      | [.d (.lst l)] => .ok (enumItems l) s1
      | _ => .bad) := by
      simp only [evEs]
      cases r : evE C ea ρ st with
      | exc xc xn xv xs => rw [r] at o; exact o
      | bad => rw [r] at o; exact o
      | ok pv s1 =>
        rw [r] at o
        simp only [R.bind] at o ⊢
        cases pv with
        | d x => cases x <;> exact o
        | _ => exact o
    refine tA_bind (O := OutI (gx X) Q) OutG.fam s e o' fun vs H1 L1 s1 ps v1 q1 e1 r1 o1 => ?_
    cases r1 with
    | nil => exact o1.elim
    | @cons pv v ps' vs' z1 z2 =>
      cases z2 with
      | cons _ _ => cases pv with
        | d x => cases x <;> exact o1.elim
        | _ => exact o1.elim
      | nil =>
        cases pv with
        | d x => cases x with
          | lst l =>
            have z1' : Rep X.K L1 H1 (.lst l) v := z1
            cases z1' with
            | lst e' n' z => exact ⟨_, _, rfl, .of e', o1 L1 H1 (.refl _ _) q1 _ (Walk.enum (.lst e' n' z))⟩
          | _ => exact o1.elim
        | _ => exact o1.elim
end
end PD

set_option Elab.async false
set_option linter.all false
set_option autoImplicit false
set_option maxRecDepth 100000
/-! PdH: targets, comprehensions. -/
namespace PD
open PySem PySem.Spec L2

/-! ### targets -/
def gNames : List Nat → TGs
  | [] => gNil
  | i :: is => gCons (gName i) (gNames is)
def tgOf (K : PySem.W.Frag) (many : Bool) (tg : List Nat) : TG := match many, tg with
  | false, [i] => gName i
  | true, is => gTup K is.length (gNames is)
  | _, _ => fun _ _ _ _ => False
theorem wipe_at (σ : St) (j : Nat) : ∀ own : List Nat, (wipe σ own)[j]? = if j ∈ own ∧ j < σ.length then some none else σ[j]?
  | [] => by simp [wipe]
  | v :: vs => by
    unfold wipe
    by_cases h : v = j
    · subst h
      by_cases hl : v < σ.length
      · rw [List.getElem?_set_self (by rw [wipe_length]; exact hl)]
        simp [hl]
      · rw [List.getElem?_eq_none (by rw [List.length_set, wipe_length]; omega)]
        simp [hl]
    · rw [List.getElem?_set_ne h, wipe_at σ j vs]
      by_cases hl : j < σ.length
      · simp [hl, Ne.symm h]
      · simp [hl]
theorem wipe_set {σ : St} {i : Nat} {v : Option V} {own : List Nat} (h : i ∈ own) : wipe (σ.set i v) own = wipe σ own := by
  refine List.ext_getElem? fun j => ?_
  rw [wipe_at, wipe_at, List.length_set]
  by_cases hj : j ∈ own ∧ j < σ.length
  · rw [if_pos hj, if_pos hj]
  · rw [if_neg hj, if_neg hj]
    by_cases e : i = j
    · subst e
      have : ¬ i < σ.length := fun z => hj ⟨h, z⟩
      rw [List.getElem?_eq_none (by rw [List.length_set]; omega), List.getElem?_eq_none (by omega)]
    · rw [List.getElem?_set_ne e]
section
variable {K : PySem.W.Frag} {L : Plc} {H : Hp} {ρ ρ' : Env} {σ : St}
theorem ERel.set {p : PV} {v : V} (e : ERel K L H ρ σ) (i : Nat) (r : RepP K L H p v) : ERel K L H (ρ.set i (some p)) (σ.set i (some v)) := by
  refine ⟨by simp [e.len], fun j q hq => ?_⟩
  by_cases h : i = j
  · subst h
    by_cases hl : i < ρ.length
    · rw [List.getElem?_set_self hl] at hq
      cases hq
      exact ⟨v, by rw [List.getElem?_set_self (by rw [← e.len]; exact hl)], r⟩
    · rw [List.getElem?_eq_none (by rw [List.length_set]; omega)] at hq
      cases hq
  · rw [List.getElem?_set_ne h] at hq
    obtain ⟨w, h1, h2⟩ := e.at_ j q hq
    exact ⟨w, by rw [List.getElem?_set_ne h]; exact h1, h2⟩
theorem wipeE_at (j : Nat) (p : PV) : ∀ (own : List Nat), (wipeE ρ own)[j]? = some (some p) → ρ[j]? = some (some p) ∧ j ∉ own
  | [], h => ⟨h, by simp⟩
  | v :: vs, h => by
    unfold wipeE at h
    by_cases e : v = j
    · subst e
      by_cases hl : v < (wipeE ρ vs).length
      · rw [List.getElem?_set_self hl] at h; cases h
      · rw [List.getElem?_eq_none (by rw [List.length_set]; omega)] at h; cases h
    · rw [List.getElem?_set_ne e] at h
      obtain ⟨h1, h2⟩ := wipeE_at j p vs h
      exact ⟨h1, by simp only [List.mem_cons, not_or]; exact ⟨fun z => e z.symm, h2⟩⟩
theorem wipeE_len : ∀ own : List Nat, (wipeE ρ own).length = ρ.length
  | [] => rfl
  | v :: vs => by unfold wipeE; rw [List.length_set, wipeE_len vs]
theorem ERel.wipe (e : ERel K L H ρ σ) (own : List Nat) : ERel K L H (wipeE ρ own) (wipe σ own) := by
  refine ⟨by rw [wipeE_len, wipe_length, e.len], fun j p h => ?_⟩
  obtain ⟨h1, h2⟩ := wipeE_at j p own h
  obtain ⟨v, h3, h4⟩ := e.at_ j p h1
  exact ⟨v, by rw [wipe_at, if_neg fun z => h2 z.1]; exact h3, h4⟩
theorem names_ok : ∀ {is : List Nat} {l : List D} {vs : List V} {ρ : Env} {σ : St} {Q : St → Hp → Prop}, setAll ρ is l = some ρ' → Reps K L H l vs → ERel K L H ρ σ →
    (∀ σ', ERel K L H ρ' σ' → (∀ own : List Nat, (∀ i ∈ is, i ∈ own) → L2.wipe σ' own = L2.wipe σ own) → Q σ' H) → gNames is vs σ H Q
  | [], [], _, ρ, σ, Q, h, .nil, e, c => by
    cases h
    exact ⟨rfl, c σ e fun _ _ => rfl⟩
  | [], _ :: _, _, _, _, _, h, _, _, _ => by cases h
  | i :: is, [], _, _, _, _, h, _, _, _ => by cases h
  | i :: is, x :: xs, _, ρ, σ, Q, h, .cons r t, e, c => by
    refine ⟨_, _, rfl, ?_⟩
    exact names_ok (is := is) h t (e.set i r) fun σ' e' w => c σ' e' fun own ho => by
      rw [w own fun j hj => ho j (List.mem_cons_of_mem _ hj)]
      exact wipe_set (ho i List.mem_cons_self)
theorem tg_ok {many : Bool} {tg : List Nat} {x : D} {v : V} {Q : St → Hp → Prop} (h : bindT many tg x ρ = some ρ') (r : Rep K L H x v) (e : ERel K L H ρ σ)
    (c : ∀ σ', ERel K L H ρ' σ' → (∀ own : List Nat, (∀ i ∈ tg, i ∈ own) → L2.wipe σ' own = L2.wipe σ own) → Q σ' H) : tgOf K many tg v σ H Q := by
  cases many with
  | false =>
    cases tg with
    | nil => cases h
    | cons i is =>
      cases is with
      | cons _ _ => cases h
      | nil =>
        have h' : some (ρ.set i (some (.d x))) = some ρ' := h
        cases h'
        exact c _ (e.set i (p := .d x) r) fun own ho => wipe_set (ho i List.mem_cons_self)
  | true =>
    cases x with
    | tup l =>
      have h' : setAll ρ tg l = some ρ' := h
      obtain ⟨a, vs, rfl, q, z⟩ := (Rep.w r).sqT
      have len : ∀ {is : List Nat} {l : List D} {ρ : Env}, setAll ρ is l = some ρ' → is.length = l.length := fun {is} => by
        induction is with
        | nil => intro l ρ h; cases l <;> first | rfl | cases h
        | cons i is ih => intro l ρ h; cases l with
          | nil => cases h
          | cons x xs => exact congrArg Nat.succ (ih h)
      exact ⟨a, vs, rfl, q, by rw [← z.length]; exact (len h').symm, names_ok h' z e c⟩
    | _ => cases h
end

/-! ### a list made item by item -/
/-- the list D is just being made: it is known by its place -/
structure EvD (D : Addr) (L : Plc) (H : Hp) (L' : Plc) (H' : Hp) : Prop where
  len : L.c.length ≤ L'.c.length
  get : ∀ (k : Nat) (x : Option Addr), L.c[k]? = some x → L'.c[k]? = some x ∨ L'.c[k]? = some none
  keep : ∀ a o, H a = some o → some a ∉ L.c → H' a = some o
  new : ∀ a, some a ∈ L'.c → some a ∈ L.c ∨ H a = none
  hid : L'.h = D :: L.h
def rm (H : Hp) (D : Addr) : Hp := fun a => if a = D then none else H a
theorem rm_ne {H : Hp} {D a : Addr} (h : a ≠ D) : rm H D a = H a := by unfold rm; rw [if_neg h]
theorem rm_same {H : Hp} {D : Addr} : rm H D D = none := by unfold rm; rw [if_pos rfl]
theorem upd_rm {H : Hp} {D : Addr} {o : HO} (h : H D = some o) : upd (rm H D) D o = H := by
  funext a
  by_cases e : a = D
  · subst e; rw [upd_same, h]
  · rw [upd_ne e, rm_ne e]
section
variable {K : PySem.W.Frag} {L L1 L2 : Plc} {H H1 H2 : Hp} {D : Addr} {s1 s2 : CS}
theorem EvD.start (h : H D = none) (o : HO) : EvD D L H ⟨L.c, D :: L.h⟩ (upd H D o) :=
  ⟨Nat.le_refl _, fun _ _ z => .inl z, fun a u e _ => same_upd h a u e, fun _ z => .inl z, rfl⟩
theorem EvD.ev (a : EvD D L H L1 H1) (b : Ev L1 H1 L2 H2) : EvD D L H L2 H2 where
  len := Nat.le_trans a.len b.len
  get := fun k x h => by
    rcases a.get k x h with e | e
    · exact b.get k x e
    · rcases b.get k none e with e | e <;> exact .inr e
  keep := fun c o h n => b.keep c o (a.keep c o h n) fun m => by
    rcases a.new c m with z | z
    · exact n z
    · rw [h] at z; cases z
  new := fun c m => by
    rcases b.new c m with z | z
    · exact a.new c z
    · by_cases hc : some c ∈ L.c
      · exact .inl hc
      · cases e : H c with
        | none => exact .inr rfl
        | some o => rw [a.keep c o e hc] at z; cases z
  hid := b.hid.trans a.hid
theorem EvD.grow (a : EvD D L H L1 H1) (hD : H D = none) (o : HO) : EvD D L H L1 (upd H1 D o) :=
  ⟨a.len, a.get, fun c u h n => by rw [upd_ne (ne_of_none h hD)]; exact a.keep c u h n, a.new, a.hid⟩
theorem EvD.mv (a : EvD D L H L1 H1) (hD : H D = none) : Mv L H L1 H1 := ⟨a.len, a.get, fun c o h n => ⟨a.keep c o h fun z => n (.inl z), fun m => by
  rcases m with m | m
  · rcases a.new c m with z | z
    · exact n (.inl z)
    · rw [h] at z; cases z
  · rw [a.hid] at m
    rcases List.mem_cons.mp m with z | z
    · subst z; rw [hD] at h; cases h
    · exact n (.inr z)⟩⟩
theorem EvD.out (a : EvD D L H L1 H1) (hD : H D = none) : Ev L H ⟨L1.c, L.h⟩ (rm H1 D) :=
  ⟨a.len, a.get, fun c o h n => by rw [rm_ne (ne_of_none h hD)]; exact a.keep c o h n, a.new, rfl⟩
theorem rm_stay (a : EvD D L H L1 H1) : ∀ b o, H1 b = some o → ¬ L1.has b → rm H1 D b = some o ∧ ¬ Plc.has ⟨L1.c, L.h⟩ b := fun b o e n => by
  have hb : b ≠ D := fun z => n (.inr (by rw [a.hid, z]; exact List.mem_cons_self))
  refine ⟨by rw [rm_ne hb]; exact e, fun m => n ?_⟩
  rcases m with m | m
  · exact .inl m
  · exact .inr (by rw [a.hid]; exact List.mem_cons_of_mem _ m)
theorem EvD.srel (a : EvD D L H L1 H1) (hD : H D = none) (s : SRel K L H s1) (q : SRel K L1 H1 s2) : SRel K ⟨L1.c, L.h⟩ (rm H1 D) s2 := by
  refine ⟨q.len, fun k c x h1 h2 => ?_, q.inj, fun b hb => ⟨?_, ?_⟩⟩
  · refine (q.cell k c x h1 h2).mv' (fun p o hx e => ?_) (rm_stay a)
    subst hx
    have hp : p ≠ D := fun w => by
      have m := (q.hid D (by rw [a.hid]; exact List.mem_cons_self)).2
      have h2' : L1.c[k]? = some (some p) := h2
      rw [w] at h2'
      exact m (List.mem_of_getElem? h2')
    rw [rm_ne hp]; exact e
  · have n := (s.hid b hb).1
    have hbD : b ≠ D := fun z => n (by rw [z]; exact hD)
    rw [rm_ne hbD]
    exact (q.hid b (by rw [a.hid]; exact List.mem_cons_of_mem _ hb)).1
  · exact (q.hid b (by rw [a.hid]; exact List.mem_cons_of_mem _ hb)).2
/-- the list grows -/
theorem EvD.srel_grow (a : EvD D L H L1 H1) (q : SRel K L1 H1 s2) (o : HO) : SRel K L1 (upd H1 D o) s2 := by
  have mD : D ∈ L1.h := by rw [a.hid]; exact List.mem_cons_self
  refine ⟨q.len, fun k c x h1 h2 => ?_, q.inj, fun b hb => ⟨?_, (q.hid b hb).2⟩⟩
  · refine (q.cell k c x h1 h2).mv' (fun p u hx e => ?_) (fun b u e n => ⟨by rw [upd_ne fun w => n (.inr (by rw [w]; exact mD))]; exact e, n⟩)
    subst hx
    have hp : p ≠ D := fun w => by
      have h2' : L1.c[k]? = some (some p) := h2
      rw [w] at h2'
      exact (q.hid D mD).2 (List.mem_of_getElem? h2')
    rw [upd_ne hp]; exact e
  · by_cases e : b = D
    · rw [e, upd_same]; exact fun z => nomatch z
    · rw [upd_ne e]; exact (q.hid b hb).1
theorem grow_stay (mD : D ∈ L1.h) (o : HO) : ∀ b u, H1 b = some u → ¬ L1.has b → upd H1 D o b = some u ∧ ¬ L1.has b := fun b u e n =>
  ⟨by rw [upd_ne fun w => n (.inr (by rw [w]; exact mD))]; exact e, n⟩
end
theorem tI_bind {G : Gx} {L : Plc} {H : Hp} {st : CS} {ρ : Env} {σ : St} {β : Type} {O : Plc → Hp → R β → Prop} {m : Env → CS → R (List D)} {k : List D → CS → R β} {Q1 : L2.It → Hp → Prop} (F : Fam G O) (s : SRel G.K L H st) (e : ERel G.K L H ρ σ) (h : O L H ((m ρ st).bind k))
    (c : ∀ (J : L2.It) (H1 : Hp) (L1 : Plc) (s1 : CS) (ds : List D), Ev L H L1 H1 → SRel G.K L1 H1 s1 → ERel G.K L1 H1 ρ σ → Walk G.K J L1 H1 ds → O L1 H1 (k ds s1) → Q1 J H1) : tI G m σ H Q1 := by
  refine ⟨L, ρ, st, s, e, ?_⟩
  cases r : m ρ st with
  | exc xc xn xv xs => rw [r] at h; exact F.exc h
  | bad => rw [r] at h; exact (F.bad h).elim
  | ok p s1 =>
    rw [r] at h
    exact fun L1 H1 v1 s2 J w => c J H1 L1 s1 p v1 s2 (e.ev v1) w (F.ev v1 h)
/-- tests of a clause -/
def tIfs (G : Gx) (m : Env → CS → R Bool) : TT := fun σ H Q => ∃ L ρ st, SRel G.K L H st ∧ ERel G.K L H ρ σ ∧ OutB G Q L H (m ρ st)
theorem tB_bind {G : Gx} {L : Plc} {H : Hp} {st : CS} {ρ : Env} {σ : St} {β : Type} {O : Plc → Hp → R β → Prop} {m : Env → CS → R Bool} {k : Bool → CS → R β} {Q1 : Bool → Hp → Prop} (F : Fam G O) (s : SRel G.K L H st) (e : ERel G.K L H ρ σ) (h : O L H ((m ρ st).bind k))
    (c : ∀ (b : Bool) (H1 : Hp) (L1 : Plc) (s1 : CS), Ev L H L1 H1 → SRel G.K L1 H1 s1 → ERel G.K L1 H1 ρ σ → O L1 H1 (k b s1) → Q1 b H1) : tIfs G m σ H Q1 := by
  refine ⟨L, ρ, st, s, e, ?_⟩
  cases r : m ρ st with
  | exc xc xn xv xs => rw [r] at h; exact F.exc h
  | bad => rw [r] at h; exact (F.bad h).elim
  | ok p s1 =>
    rw [r] at h
    exact fun L1 H1 v1 s2 => c p H1 L1 s1 v1 s2 (e.ev v1) (F.ev v1 h)
abbrev SIfs (X : L2.Cx) (C : Cl) (xs : List Expr) (es : Es) : Prop := PTs X xs (tIfs (gx X) (evIfs C es))
section
variable {X : L2.Cx} {C : Cl} {c : Expr} {ec : E}
theorem sIfs_nil : SIfs X C [] .nil := ⟨fun pins s σ H Q I h => pts_nil.run pins s σ H Q I (by
  obtain ⟨L, ρ, st, q, e, o⟩ := h
  simp only [evIfs] at o
  exact o L H (.refl _ _) q)⟩
theorem sIfs_one (hc : ST X C c ec) : SIfs X C [c] (.cons ec .nil) := ⟨fun pins s σ H Q I h => (pts_one hc).run pins s σ H Q I (by
  obtain ⟨L, ρ, st, q, e, o⟩ := h
  simp only [evIfs] at o
  refine tT_bind (O := OutB (gx X) Q) (k := fun b s1 => .ok b s1) OutG.fam q e ?_ fun b H1 L1 s1 v1 q1 e1 o1 => o1 L1 H1 (.refl _ _) q1
  cases r : evE C ec ρ st with
  | exc xc xn xv xs => rw [r] at o; exact o
  | bad => rw [r] at o; exact o
  | ok p s1 =>
    rw [r] at o
    simp only [R.bind] at o ⊢
    cases h : (p.rd s1).bind truth with
    | none => rw [h] at o; exact o
    | some b => rw [h] at o; cases b <;> exact o)⟩
end
/-- where nothing may be raised -/
abbrev g0 (K : PySem.W.Frag) : Gx := ⟨K, fun _ _ _ => False⟩
theorem OutX.of0 {K : PySem.W.Frag} {E : XK} {L : Plc} {H : Hp} {c : String} {ns : List String} {vs : List PD.D} {s : CS} (o : OutX (g0 K) L H c ns vs s) : OutX ⟨K, E⟩ L H c ns vs s := fun L' H' cls d e q r => (o L' H' cls d e q r).elim
theorem OutG.of0 {K : PySem.W.Frag} {E : XK} {β : Type} {P : Plc → Hp → β → Prop} {L : Plc} {H : Hp} {r : R β} (o : OutG (g0 K) P L H r) : OutG ⟨K, E⟩ P L H r := by
  cases r with
  | ok b s => exact o
  | exc c ns vs s => exact OutX.of0 o
  | bad => exact o
theorem Out.of0 {K : PySem.W.Frag} {E : XK} {L : Plc} {H : Hp} {Q : VK} {r : R PV} (o : Out (g0 K) L H Q r) : Out ⟨K, E⟩ L H Q r := by
  cases r with
  | ok b s => exact o
  | exc c ns vs s => exact OutX.of0 o
  | bad => exact o
section
variable {X : L2.Cx} {C : Cl}
theorem sE0 {x : Expr} {e : E} (h : SE X C x e) : PE X x (tM (g0 X.K) (evE C e)) := pe_imp h fun σ H Q ⟨L, ρ, st, s, e, o⟩ => ⟨L, ρ, st, s, e, Out.of0 o⟩
theorem pts_imp {xs : List Expr} {t u : TT} (h : PTs X xs t) (i : ∀ (σ : St) (H : Hp) (Q : Bool → Hp → Prop), u σ H Q → t σ H Q) : PTs X xs u :=
  ⟨fun pins s σ H Q I q => h.run pins s σ H Q I (i σ H Q q)⟩
theorem sIfs0 {xs : List Expr} {es : Es} (h : SIfs X C xs es) : PTs X xs (tIfs (g0 X.K) (evIfs C es)) := pts_imp h fun σ H Q ⟨L, ρ, st, s, e, o⟩ => ⟨L, ρ, st, s, e, OutG.of0 o⟩
theorem sI0 {tg x : Expr} {e : It} (h : SI X C tg x e) : PI X tg x (tI (g0 X.K) (evIt C e)) := pi_imp h fun σ H Q ⟨L, ρ, st, s, e, o⟩ => ⟨L, ρ, st, s, e, OutG.of0 o⟩
end
/-- the end of a list being made at D, from the place L and the heap H -/
def OutC (K : PySem.W.Frag) (D : Addr) (Q : VK) (L : Plc) (H : Hp) : R (List PD.D) → Prop
  | .ok l s' => ∀ L' H' vs, EvD D L H L' H' → SRel K L' H' s' → H' D = some (.lst vs) → Reps K L' H' l vs → Q (.ref D) H'
  | _ => False
theorem OutC.fam {G : Gx} {K : PySem.W.Frag} {D : Addr} {Q : VK} {L : Plc} {H : Hp} : Fam G (fun (_ : Plc) (_ : Hp) (r : R (List PD.D)) => OutC K D Q L H r) := ⟨fun _ o => o, fun o => o.elim, fun o => o⟩
theorem OutC.of_new {K : PySem.W.Frag} {E : XK} {D : Addr} {Q : VK} {L : Plc} {H : Hp} {st : CS} {r : R (List PD.D)} (hD : H D = none) (s : SRel K L H st) (o : OutN ⟨K, E⟩ Q L H ((noX r).bind fun l s2 => .ok (.d (.lst l)) s2)) : OutC K D Q L H r := by
  cases r with
  | exc xc xn xv xs => exact o
  | bad => exact o
  | ok l s' =>
    intro L' H' vs e q h rs
    have o' := o ⟨L'.c, L.h⟩ (rm H' D) vs (e.out hD) (e.srel hD s q) (rs.map (rm_stay e)) D rm_same
    rw [upd_rm h] at o'
    exact o'
theorem isL_comp {C : Cl} {ee : E} {it : It} {many : Bool} {tgs : List Nat} {ies : Es} {own : List Nat} (ρ : Env) (s : CS) : IsL (evE C (.comp ee tgs many it ies own) ρ s) := by
  simp only [evE]
  cases evIt C it ρ s with
  | exc xc xn xv xs => exact trivial
  | bad => exact trivial
  | ok ds s1 =>
    simp only [R.bind]
    cases (compGo (fun ρ s => evE C ee ρ s) (fun ρ s => evIfs C ies ρ s) many tgs (wipeE ρ own) ds [] s1) <;> exact trivial
theorem comp_reads {X : L2.Cx} {C : Cl} {own : List (Str × Nat)} {ee : E} {it : It} {many : Bool} {tgs : List Nat} {ies : Es} (hsub : ∀ i ∈ tgs, i ∈ own.map (·.2)) {σ : St} {H : Hp} {Q : VK}
    (h : tN (gx X) (evE C (.comp ee tgs many it ies (own.map (·.2)))) σ H Q) : tLc (tI (gx X) (evIt C it)) (tgOf X.K many tgs) (tIfs (g0 X.K) (evIfs C ies)) (tM (g0 X.K) (evE C ee)) (own.map (·.2)) σ H Q := by
    obtain ⟨L, ρ, st, s, e, o⟩ := h
    simp only [evE] at o
    refine tI_bind (O := OutN (gx X) Q) OutN.fam s e o fun J H1 L1 s1 ds v1 q1 e1 w1 o1 => ?_
    intro D hD
    have o2 := OutC.of_new hD q1 o1
    refine ⟨fun i m H2 => m = ds.length - i ∧ i ≤ ds.length ∧ ∃ L2 s2 acc vs, EvD D L1 H1 L2 H2 ∧ SRel X.K L2 H2 s2 ∧ H2 D = some (.lst vs) ∧ Reps X.K L2 H2 acc vs ∧
      OutC X.K D Q L1 H1 (compGo (fun ρ s => evE C ee ρ s) (fun ρ s => evIfs C ies ρ s) many tgs (wipeE ρ (own.map (·.2))) (ds.drop i) acc s2), ⟨ds.length, by simp, Nat.zero_le _, ⟨L1.c, D :: L1.h⟩, s1, [], [], EvD.start hD _, ?_, upd_same, .nil, o2⟩, ?_⟩
    · refine ⟨q1.len, fun k c x h1 h2 => ?_, q1.inj, fun b hb => ⟨?_, ?_⟩⟩
      · refine (q1.cell k c x h1 h2).mv' (fun p o _ e => same_upd hD _ _ e) (fun b u eb nb => ⟨same_upd hD _ _ eb, fun m => ?_⟩)
        rcases m with m | m
        · exact nb (.inl m)
        · rcases List.mem_cons.mp m with z | z
          · rw [z, hD] at eb; cases eb
          · exact nb (.inr z)
      · rcases List.mem_cons.mp hb with z | z
        · rw [z, upd_same]; exact fun z => nomatch z
        · have n := (q1.hid b z).1
          rw [upd_ne fun w => n (by rw [w]; exact hD)]
          exact n
      · rcases List.mem_cons.mp hb with z | z
        · rw [z]
          exact fun m => q1.free hD (.inl m)
        · exact (q1.hid b z).2
    · rintro i m H2 ⟨rfl, hi2, L2, s2, acc, vs, ev, q2, hDl, ra, o3⟩
      by_cases hlt : i < ds.length
      · right
        have hd : ds[i]? = some ds[i] := by simp [hlt]
        obtain ⟨go, yl⟩ := w1.go L2 H2 s2 i _ (ev.mv hD) q2 hd
        refine ⟨go, fun H3 => i < ds.length ∧ ∃ L3 s3 acc vs, EvD D L1 H1 L3 H3 ∧ SRel X.K L3 H3 s3 ∧ H3 D = some (.lst vs) ∧ Reps X.K L3 H3 acc vs ∧
          OutC X.K D Q L1 H1 (compGo (fun ρ s => evE C ee ρ s) (fun ρ s => evIfs C ies ρ s) many tgs (wipeE ρ (own.map (·.2))) (ds.drop (i + 1)) acc s3), fun H3 h3 => ⟨ds.length - (i + 1), by omega, rfl, hlt, h3.2⟩, fun x H3 hy => ?_⟩
        obtain ⟨sm, rx⟩ := yl x H3 hy
        have q3 := q2.same sm
        have ev3 := ev.ev (Ev.same (L := L2) sm)
        have hD3 := sm _ _ hDl
        have ra3 := ra.ev (Ev.same (L := L2) sm)
        rw [List.drop_eq_getElem_cons hlt] at o3
        simp only [compGo] at o3
        cases hb : bindT many tgs ds[i] (wipeE ρ (own.map (·.2))) with
        | none => rw [hb] at o3; exact o3.elim
        | some ρ' =>
          rw [hb] at o3
          have e3 : ERel X.K L2 H3 (wipeE ρ (own.map (·.2))) (wipe σ (own.map (·.2))) := (e1.mv ((ev3.mv hD))).wipe _
          refine tg_ok hb rx e3 fun σ' e' w' => ?_
          refine ⟨?_, ?_⟩
          · rw [w' (own.map (·.2)) hsub]
            refine List.ext_getElem? fun j => ?_
            rw [wipe_at, wipe_at, wipe_length]
            by_cases hj : j ∈ own.map (·.2) ∧ j < σ.length
            · rw [if_pos hj, if_pos hj]
            · rw [if_neg hj]
          · refine tB_bind (O := fun _ _ r => OutC X.K D Q L1 H1 r) OutC.fam q3 e' o3 fun b H4 L4 s4 v4 q4 e4 o4 => ?_
            cases b with
            | false =>
              simp only [Bool.false_eq_true, if_false] at o4 ⊢
              exact ⟨hlt, L4, s4, acc, vs, ev3.ev v4, q4, v4.keep _ _ hD3 (fun z => (q3.hid D (by rw [ev3.hid]; exact List.mem_cons_self)).2 z), ra3.ev v4, o4⟩
            | true =>
              simp only [if_true] at o4 ⊢
              refine tM_bind (O := fun _ _ r => OutC X.K D Q L1 H1 r) OutC.fam q4 e4 o4 fun y H5 L5 s5 p v5 q5 e5 r5 o5 => ?_
              have ev5 := (ev3.ev v4).ev v5
              have mD5 : D ∈ L5.h := by rw [ev5.hid]; exact List.mem_cons_self
              have mD4 : D ∈ L4.h := by rw [(ev3.ev v4).hid]; exact List.mem_cons_self
              have mD3 : D ∈ L2.h := by rw [ev3.hid]; exact List.mem_cons_self
              have hD4 := v4.keep _ _ hD3 (fun z => (q3.hid D mD3).2 z)
              have hD5 := v5.keep _ _ hD4 (fun z => (q4.hid D mD4).2 z)
              have ra5 := (ra3.ev v4).ev v5
              cases p with
              | d z =>
                by_cases hz : acc.length < sizeLine
                · simp only [if_pos hz] at o5
                  refine ⟨vs, hD5, by rw [← ra5.length]; exact hz, hlt, L5, s5, acc ++ [z], vs ++ [y], ev5.grow hD _, ev5.srel_grow q5 _, upd_same, ?_, o5⟩
                  exact (ra5.append (.cons r5 .nil)).map (grow_stay mD5 _)
                · simp only [if_neg hz] at o5; exact o5.elim
              | _ => exact o5.elim
      · left
        have hi' : i = ds.length := by omega
        refine ⟨w1.stop L2 H2 i (ev.mv hD) (by omega), ?_⟩
        subst hi'
        rw [List.drop_length] at o3
        exact o3 L2 H2 vs ev q2 hDl ra
theorem grow_mv {K : PySem.W.Frag} {L : Plc} {H : Hp} {D : Addr} (mD : D ∈ L.h) (o : HO) : Mv L H L (upd H D o) := ⟨Nat.le_refl _, fun _ _ h => .inl h, grow_stay mD o⟩
theorem isL_comp2 {C : Cl} {ee : E} {it it1 : It} {many many1 : Bool} {tgs tgs1 vs1 : List Nat} {ies ies1 : Es} {own : List Nat} (ρ : Env) (s : CS) : IsL (evE C (.comp2 ee tgs many it ies tgs1 many1 it1 ies1 vs1 own) ρ s) := by
  simp only [evE]
  cases evIt C it ρ s with
  | exc xc xn xv xs => exact trivial
  | bad => exact trivial
  | ok ds s1 =>
    simp only [R.bind]
    cases (comp2Go (fun ρ s => evIfs C ies ρ s) (fun ρ s => evIt C it1 ρ s) (fun ρ ds acc s => compGo (fun ρ s => evE C ee ρ s) (fun ρ s => evIfs C ies1 ρ s) many1 tgs1 (wipeE ρ vs1) ds acc s) many tgs (wipeE ρ own) ds [] s1) <;> exact trivial
theorem wipe_of {σ σ' : St} {vs : List Nat} (h : ∀ own : List Nat, (∀ i ∈ vs, i ∈ own) → L2.wipe σ' own = L2.wipe σ own) {tgs : List Nat} : True := trivial
theorem wipe_wipe (σ : St) (vs : List Nat) : wipe (wipe σ vs) vs = wipe σ vs := by
  refine List.ext_getElem? fun j => ?_
  rw [wipe_at, wipe_at, wipe_length]
  by_cases hj : j ∈ vs ∧ j < σ.length
  · rw [if_pos hj, if_pos hj]
  · rw [if_neg hj, if_neg hj]
theorem comp2_reads {X : L2.Cx} {C : Cl} {own : List (Str × Nat)} {ee : E} {it it1 : It} {many many1 : Bool} {tgs tgs1 vs1 : List Nat} {ies ies1 : Es} (hsub : ∀ i ∈ tgs, i ∈ own.map (·.2)) (hsub1 : ∀ i ∈ tgs1, i ∈ vs1) {σ : St} {H : Hp} {Q : VK}
    (h : tN (gx X) (evE C (.comp2 ee tgs many it ies tgs1 many1 it1 ies1 vs1 (own.map (·.2)))) σ H Q) :
    tLc2 (tI (gx X) (evIt C it)) (tgOf X.K many tgs) (tIfs (g0 X.K) (evIfs C ies)) (tI (g0 X.K) (evIt C it1)) (tgOf X.K many1 tgs1) (tIfs (g0 X.K) (evIfs C ies1)) (tM (g0 X.K) (evE C ee)) (own.map (·.2)) vs1 σ H Q := by
  obtain ⟨L, ρ, st, s, e, o⟩ := h
  simp only [evE] at o
  refine tI_bind (O := OutN (gx X) Q) OutN.fam s e o fun J H1 L1 s1 ds v1 q1 e1 w1 o1 => ?_
  intro D hD
  have o2 := OutC.of_new hD q1 o1
  generalize hinner : (fun (ρ : Env) (ds acc : List PD.D) (s : CS) => compGo (fun ρ s => evE C ee ρ s) (fun ρ s => evIfs C ies1 ρ s) many1 tgs1 (wipeE ρ vs1) ds acc s) = inner at o2
  refine ⟨fun i m H2 => m = ds.length - i ∧ i ≤ ds.length ∧ ∃ L2 s2 acc vs, EvD D L1 H1 L2 H2 ∧ SRel X.K L2 H2 s2 ∧ H2 D = some (.lst vs) ∧ Reps X.K L2 H2 acc vs ∧
    OutC X.K D Q L1 H1 (comp2Go (fun ρ s => evIfs C ies ρ s) (fun ρ s => evIt C it1 ρ s) inner many tgs (wipeE ρ (own.map (·.2))) (ds.drop i) acc s2), ⟨ds.length, by simp, Nat.zero_le _, ⟨L1.c, D :: L1.h⟩, s1, [], [], EvD.start hD _, ?_, upd_same, .nil, o2⟩, ?_⟩
  · refine ⟨q1.len, fun k c x h1 h2 => ?_, q1.inj, fun b hb => ⟨?_, ?_⟩⟩
    · refine (q1.cell k c x h1 h2).mv' (fun p o _ e => same_upd hD _ _ e) (fun b u eb nb => ⟨same_upd hD _ _ eb, fun m => ?_⟩)
      rcases m with m | m
      · exact nb (.inl m)
      · rcases List.mem_cons.mp m with z | z
        · rw [z, hD] at eb; cases eb
        · exact nb (.inr z)
    · rcases List.mem_cons.mp hb with z | z
      · rw [z, upd_same]; exact fun z => nomatch z
      · have n := (q1.hid b z).1
        rw [upd_ne fun w => n (by rw [w]; exact hD)]
        exact n
    · rcases List.mem_cons.mp hb with z | z
      · rw [z]
        exact fun m => q1.free hD (.inl m)
      · exact (q1.hid b z).2
  · rintro i m H2 ⟨rfl, hi2, L2, s2, acc, vs, ev, q2, hDl, ra, o3⟩
    by_cases hlt : i < ds.length
    · right
      have hd : ds[i]? = some ds[i] := by simp [hlt]
      obtain ⟨go, yl⟩ := w1.go L2 H2 s2 i _ (ev.mv hD) q2 hd
      refine ⟨go, fun H3 => i < ds.length ∧ ∃ L3 s3 acc vs, EvD D L1 H1 L3 H3 ∧ SRel X.K L3 H3 s3 ∧ H3 D = some (.lst vs) ∧ Reps X.K L3 H3 acc vs ∧
        OutC X.K D Q L1 H1 (comp2Go (fun ρ s => evIfs C ies ρ s) (fun ρ s => evIt C it1 ρ s) inner many tgs (wipeE ρ (own.map (·.2))) (ds.drop (i + 1)) acc s3), fun H3 h3 => ⟨ds.length - (i + 1), by omega, rfl, hlt, h3.2⟩, fun x H3 hy => ?_⟩
      obtain ⟨sm, rx⟩ := yl x H3 hy
      have q3 := q2.same sm
      have ev3 := ev.ev (Ev.same (L := L2) sm)
      have hD3 := sm _ _ hDl
      have ra3 := ra.ev (Ev.same (L := L2) sm)
      rw [List.drop_eq_getElem_cons hlt] at o3
      simp only [comp2Go] at o3
      cases hb : bindT many tgs ds[i] (wipeE ρ (own.map (·.2))) with
      | none => rw [hb] at o3; exact o3.elim
      | some ρ' =>
        rw [hb] at o3
        have e3 : ERel X.K L2 H3 (wipeE ρ (own.map (·.2))) (wipe σ (own.map (·.2))) := (e1.mv ((ev3.mv hD))).wipe _
        refine tg_ok hb rx e3 fun σ' e' w' => ⟨?_, ?_⟩
        · rw [w' (own.map (·.2)) hsub]
          exact wipe_wipe _ _
        · refine tB_bind (O := fun _ _ r => OutC X.K D Q L1 H1 r) OutC.fam q3 e' o3 fun b H4 L4 s4 v4 q4 e4 o4 => ?_
          have mD3 : D ∈ L2.h := by rw [ev3.hid]; exact List.mem_cons_self
          have hD4 := v4.keep _ _ hD3 (fun z => (q3.hid D mD3).2 z)
          have ev4 := ev3.ev v4
          have mD4 : D ∈ L4.h := by rw [ev4.hid]; exact List.mem_cons_self
          have ra4 := ra3.ev v4
          cases b with
          | false =>
            simp only [Bool.false_eq_true, if_false] at o4 ⊢
            exact ⟨hlt, L4, s4, acc, vs, ev4, q4, hD4, ra4, o4⟩
          | true =>
            simp only [if_true] at o4 ⊢
            refine tI_bind (O := fun _ _ r => OutC X.K D Q L1 H1 r) OutC.fam q4 e4 o4 fun J1 H5 L5 s5 ds1 v5 q5 e5 w5 o5 => ?_
            have hD5 := v5.keep _ _ hD4 (fun z => (q4.hid D mD4).2 z)
            have ev5 := ev4.ev v5
            have ra5 := ra4.ev v5
            subst hinner
            refine ⟨fun j k H6 => k = ds1.length - j ∧ j ≤ ds1.length ∧ ∃ L6 s6 acc vs, Mv L5 H5 L6 H6 ∧ EvD D L1 H1 L6 H6 ∧ SRel X.K L6 H6 s6 ∧ H6 D = some (.lst vs) ∧ Reps X.K L6 H6 acc vs ∧
              OutC X.K D Q L1 H1 ((compGo (fun ρ s => evE C ee ρ s) (fun ρ s => evIfs C ies1 ρ s) many1 tgs1 (wipeE ρ' vs1) (ds1.drop j) acc s6).bind fun acc' s7 => comp2Go (fun ρ s => evIfs C ies ρ s) (fun ρ s => evIt C it1 ρ s) (fun (ρ : Env) (ds acc : List PD.D) (s : CS) => compGo (fun ρ s => evE C ee ρ s) (fun ρ s => evIfs C ies1 ρ s) many1 tgs1 (wipeE ρ vs1) ds acc s) many tgs (wipeE ρ (own.map (·.2))) (ds.drop (i + 1)) acc' s7), ⟨ds1.length, by simp, Nat.zero_le _, L5, s5, acc, vs, (Ev.refl _ _).mv, ev5, q5, hD5, ra5, o5⟩, ?_⟩
            rintro j k H6 ⟨rfl, hj2, L6, s6, acc6, vs6, m6, ev6, q6, hD6, ra6, o6⟩
            by_cases hlt1 : j < ds1.length
            · right
              have hd1 : ds1[j]? = some ds1[j] := by simp [hlt1]
              obtain ⟨go1, yl1⟩ := w5.go L6 H6 s6 j _ m6 q6 hd1
              refine ⟨go1, fun H7 => j < ds1.length ∧ ∃ L7 s7 acc vs, Mv L5 H5 L7 H7 ∧ EvD D L1 H1 L7 H7 ∧ SRel X.K L7 H7 s7 ∧ H7 D = some (.lst vs) ∧ Reps X.K L7 H7 acc vs ∧
                OutC X.K D Q L1 H1 ((compGo (fun ρ s => evE C ee ρ s) (fun ρ s => evIfs C ies1 ρ s) many1 tgs1 (wipeE ρ' vs1) (ds1.drop (j + 1)) acc s7).bind fun acc' s8 => comp2Go (fun ρ s => evIfs C ies ρ s) (fun ρ s => evIt C it1 ρ s) (fun (ρ : Env) (ds acc : List PD.D) (s : CS) => compGo (fun ρ s => evE C ee ρ s) (fun ρ s => evIfs C ies1 ρ s) many1 tgs1 (wipeE ρ vs1) ds acc s) many tgs (wipeE ρ (own.map (·.2))) (ds.drop (i + 1)) acc' s8), fun H7 h7 => ⟨ds1.length - (j + 1), by omega, rfl, hlt1, h7.2⟩, fun y H7 hy1 => ?_⟩
              obtain ⟨sm1, ry⟩ := yl1 y H7 hy1
              have q7 := q6.same sm1
              have ev7 := ev6.ev (Ev.same (L := L6) sm1)
              have m7 := m6.trans (Ev.same (L := L6) sm1).mv
              have hD7 := sm1 _ _ hD6
              have ra7 := ra6.ev (Ev.same (L := L6) sm1)
              rw [List.drop_eq_getElem_cons hlt1] at o6
              simp only [compGo] at o6
              cases hb1 : bindT many1 tgs1 ds1[j] (wipeE ρ' vs1) with
              | none => rw [hb1] at o6; exact o6.elim
              | some ρ2 =>
                rw [hb1] at o6
                dsimp only at o6
                have e7 : ERel X.K L6 H7 (wipeE ρ' vs1) (wipe σ' vs1) := (e5.mv m7).wipe _
                refine tg_ok hb1 ry e7 fun σ2 e8 w8 => ⟨?_, ?_⟩
                · rw [w8 vs1 hsub1]
                  exact wipe_wipe _ _
                · have o7 : OutC X.K D Q L1 H1 ((evIfs C ies1 ρ2 s6).bind fun b s1 => (if b = true then (evE C ee ρ2 s1).bind fun v s2 => match v with
                      | .d y => if acc6.length < sizeLine then compGo (fun ρ s => evE C ee ρ s) (fun ρ s => evIfs C ies1 ρ s) many1 tgs1 (wipeE ρ' vs1) (ds1.drop (j + 1)) (acc6 ++ [y]) s2 else .bad
                      | _ => .bad
                    else compGo (fun ρ s => evE C ee ρ s) (fun ρ s => evIfs C ies1 ρ s) many1 tgs1 (wipeE ρ' vs1) (ds1.drop (j + 1)) acc6 s1).bind fun acc' s8 => comp2Go (fun ρ s => evIfs C ies ρ s) (fun ρ s => evIt C it1 ρ s) (fun (ρ : Env) (ds acc : List PD.D) (s : CS) => compGo (fun ρ s => evE C ee ρ s) (fun ρ s => evIfs C ies1 ρ s) many1 tgs1 (wipeE ρ vs1) ds acc s) many tgs (wipeE ρ (own.map (·.2))) (ds.drop (i + 1)) acc' s8) := by
                    cases r : evIfs C ies1 ρ2 s6 with
                    | exc xc xn xv xs => rw [r] at o6; exact o6
                    | bad => rw [r] at o6; exact o6
                    | ok b s1 => rw [r] at o6; exact o6
                  refine tB_bind (O := fun _ _ r => OutC X.K D Q L1 H1 r) OutC.fam q7 e8 o7 fun b H8 L8 s8 v8 q8 e9 o8 => ?_
                  have mD6 : D ∈ L6.h := by rw [ev7.hid]; exact List.mem_cons_self
                  have hD8 := v8.keep _ _ hD7 (fun z => (q7.hid D mD6).2 z)
                  have ev8 := ev7.ev v8
                  have m8 := m7.trans v8.mv
                  have mD8 : D ∈ L8.h := by rw [ev8.hid]; exact List.mem_cons_self
                  have ra8 := ra7.ev v8
                  cases b with
                  | false =>
                    simp only [Bool.false_eq_true, if_false] at o8 ⊢
                    exact ⟨hlt1, L8, s8, acc6, vs6, m8, ev8, q8, hD8, ra8, o8⟩
                  | true =>
                    simp only [if_true] at o8 ⊢
                    have o9 : OutC X.K D Q L1 H1 ((evE C ee ρ2 s8).bind fun v s2 => ((match v with
                      | .d y => if acc6.length < sizeLine then compGo (fun ρ s => evE C ee ρ s) (fun ρ s => evIfs C ies1 ρ s) many1 tgs1 (wipeE ρ' vs1) (ds1.drop (j + 1)) (acc6 ++ [y]) s2 else .bad
                      | _ => .bad : R (List PD.D))).bind fun acc' s8 => comp2Go (fun ρ s => evIfs C ies ρ s) (fun ρ s => evIt C it1 ρ s) (fun (ρ : Env) (ds acc : List PD.D) (s : CS) => compGo (fun ρ s => evE C ee ρ s) (fun ρ s => evIfs C ies1 ρ s) many1 tgs1 (wipeE ρ vs1) ds acc s) many tgs (wipeE ρ (own.map (·.2))) (ds.drop (i + 1)) acc' s8) := by
                      cases r : evE C ee ρ2 s8 with
                      | exc xc xn xv xs => rw [r] at o8; exact o8
                      | bad => rw [r] at o8; exact o8
                      | ok b s1 => rw [r] at o8; exact o8
                    refine tM_bind (O := fun _ _ r => OutC X.K D Q L1 H1 r) OutC.fam q8 e9 o9 fun y H9 L9 s9 p v9 q9 e10 r9 o10 => ?_
                    have hD9 := v9.keep _ _ hD8 (fun z => (q8.hid D mD8).2 z)
                    have ev9 := ev8.ev v9
                    have m9 := m8.trans v9.mv
                    have mD9 : D ∈ L9.h := by rw [ev9.hid]; exact List.mem_cons_self
                    have ra9 := ra8.ev v9
                    cases p with
                    | d z =>
                      by_cases hz : acc6.length < sizeLine
                      · simp only [if_pos hz] at o10
                        refine ⟨vs6, hD9, by rw [← ra9.length]; exact hz, hlt1, L9, s9, acc6 ++ [z], vs6 ++ [y], m9.trans (grow_mv (K := X.K) mD9 _), ev9.grow hD _, ev9.srel_grow q9 _, upd_same, ?_, o10⟩
                        exact (ra9.append (.cons r9 .nil)).map (grow_stay mD9 _)
                      · simp only [if_neg hz] at o10; exact o10.elim
                    | _ => exact o10.elim
            · left
              have hj' : j = ds1.length := by omega
              subst hj'
              refine ⟨w5.stop L6 H6 _ m6 (Nat.le_refl _), hlt, L6, s6, acc6, vs6, ev6, q6, hD6, ra6, ?_⟩
              rw [List.drop_length] at o6
              exact o6
    · left
      have hi' : i = ds.length := by omega
      refine ⟨w1.stop L2 H2 i (ev.mv hD) (by omega), ?_⟩
      subst hi'
      rw [List.drop_length] at o3
      exact o3 L2 H2 vs ev q2 hDl ra
section
variable {X : L2.Cx} {C : Cl} {elt tg iter : Expr} {ifs : List Expr} {scope : Scope} {own : List (Str × Nat)} {pos : Pos} {ee : E} {it : It} {many : Bool} {tgs : List Nat} {ies : Es}
theorem sN_comp (hc : X.calm = true) (hN : X.N.Nodup) (hi : SI X C tg iter it) (ok : BlkOk X.N X.env.scope scope own) (hsub : ∀ i ∈ tgs, i ∈ own.map (·.2))
    (hg : ∀ (s : Shared) (H : Hp) (Ca : Addr) (cl : List (Str × Addr)) (fp : List Addr), PG (X.blk s H scope (compEnvC scope cl Ca X.env) fp) tg (tgOf X.K many tgs))
    (ht : ∀ (s : Shared) (H : Hp) (Ca : Addr) (cl : List (Str × Addr)) (fp : List Addr), SIfs (X.blk s H scope (compEnvC scope cl Ca X.env) fp) C ifs ies)
    (he : ∀ (s : Shared) (H : Hp) (Ca : Addr) (cl : List (Str × Addr)) (fp : List Addr), SE (X.blk s H scope (compEnvC scope cl Ca X.env) fp) C elt ee)
    (hs : plainX iter = true) : SN X C (.ListComp elt [⟨tg, iter, ifs, 0⟩] scope pos) (.comp ee tgs many it ies (own.map (·.2))) :=
  pe_imp (pe_lc hc hN hi ok hg (fun s H Ca cl fp => sIfs0 (ht s H Ca cl fp)) (fun s H Ca cl fp => sE0 (he s H Ca cl fp)) (folded_plain hs X.env)) fun σ H Q h => comp_reads hsub h
/-- name = [..] on one line -/
theorem ps_comp {i : Nat} {y : Str} {py spos : Pos} (hc : X.calm = true) (hN : X.N.Nodup) (hy : X.N[i]? = some y) (hyl : X.env.scope.names.lookup y = some .local)
    (hsw : swapsWith (.ListComp elt [⟨tg, iter, ifs, 0⟩] scope pos) (some (.Name y py)) spos.line X.env = pure true) (hi : SI X C tg iter it) (ok : BlkOk X.N X.env.scope scope own) (hsub : ∀ i ∈ tgs, i ∈ own.map (·.2))
    (hg : ∀ (s : Shared) (H : Hp) (Ca : Addr) (cl : List (Str × Addr)) (fp : List Addr), PG (X.blk s H scope (compEnvC scope cl Ca X.env) fp) tg (tgOf X.K many tgs))
    (ht : ∀ (s : Shared) (H : Hp) (Ca : Addr) (cl : List (Str × Addr)) (fp : List Addr), SIfs (X.blk s H scope (compEnvC scope cl Ca X.env) fp) C ifs ies)
    (he : ∀ (s : Shared) (H : Hp) (Ca : Addr) (cl : List (Str × Addr)) (fp : List Addr), SE (X.blk s H scope (compEnvC scope cl Ca X.env) fp) C elt ee)
    (hs : plainX iter = true) : PS X (.Assign [.Name y py] (.ListComp elt [⟨tg, iter, ifs, 0⟩] scope pos) spos) (tAsg (tN (gx X) (evE C (.comp ee tgs many it ies (own.map (·.2))))) (gName i)) :=
  ⟨fun pins s σ H D I h => (ps_setLc hc hN hy hyl hsw hi ok hg (fun s H Ca cl fp => sIfs0 (ht s H Ca cl fp)) (fun s H Ca cl fp => sE0 (he s H Ca cl fp)) (folded_plain hs X.env)).run pins s σ H D I (comp_reads (X := X) hsub h)⟩
/-- the parts of a comprehension of two clauses -/
structure Two (X : L2.Cx) (C : Cl) (elt tg iter : Expr) (ifs : List Expr) (tg1 iter1 : Expr) (ifs1 : List Expr) (scope : Scope) (own : List (Str × Nat)) (ee : E) (tgs : List Nat) (many : Bool) (it : It) (ies : Es) (tgs1 : List Nat) (many1 : Bool) (it1 : It) (ies1 : Es) (vs1 : List Nat) : Prop where
  ok : BlkOk X.N X.env.scope scope own
  sub : ∀ i ∈ tgs, i ∈ own.map (·.2)
  sub1 : ∀ i ∈ tgs1, i ∈ vs1
  in1 : ∀ i ∈ vs1, i ∈ own.map (·.2)
  hi : SI X C tg iter it
  pl : plainX iter = true
  pl1 : plainX iter1 = true
  hg : ∀ (s : Shared) (H : Hp) (Ca : Addr) (cl : List (Str × Addr)) (fp : List Addr), PG (X.blk s H scope (compEnvC scope cl Ca X.env) fp) tg (tgOf X.K many tgs)
  ht : ∀ (s : Shared) (H : Hp) (Ca : Addr) (cl : List (Str × Addr)) (fp : List Addr), SIfs (X.blk s H scope (compEnvC scope cl Ca X.env) fp) C ifs ies
  hi1 : ∀ (s : Shared) (H : Hp) (Ca : Addr) (cl : List (Str × Addr)) (fp : List Addr), SI (X.blk s H scope (compEnvC scope cl Ca X.env) fp) C tg1 iter1 it1
  hg1 : ∀ (s : Shared) (H : Hp) (Ca : Addr) (cl : List (Str × Addr)) (fp : List Addr), PG (X.blk s H scope (compEnvC scope cl Ca X.env) fp) tg1 (tgOf X.K many1 tgs1)
  ht1 : ∀ (s : Shared) (H : Hp) (Ca : Addr) (cl : List (Str × Addr)) (fp : List Addr), SIfs (X.blk s H scope (compEnvC scope cl Ca X.env) fp) C ifs1 ies1
  he : ∀ (s : Shared) (H : Hp) (Ca : Addr) (cl : List (Str × Addr)) (fp : List Addr), SE (X.blk s H scope (compEnvC scope cl Ca X.env) fp) C elt ee
section
variable {tg1 iter1 : Expr} {ifs1 : List Expr} {it1 : It} {many1 : Bool} {tgs1 vs1 : List Nat} {ies1 : Es}
theorem sN_comp2 (c : Two X C elt tg iter ifs tg1 iter1 ifs1 scope own ee tgs many it ies tgs1 many1 it1 ies1 vs1) (hc : X.calm = true) (hN : X.N.Nodup) :
    SN X C (.ListComp elt [⟨tg, iter, ifs, 0⟩, ⟨tg1, iter1, ifs1, 0⟩] scope pos) (.comp2 ee tgs many it ies tgs1 many1 it1 ies1 vs1 (own.map (·.2))) :=
  pe_imp (pe_lc2 hc hN c.hi c.ok c.in1 c.hg (fun s H Ca cl fp => sIfs0 (c.ht s H Ca cl fp)) (fun s H Ca cl fp => sI0 (c.hi1 s H Ca cl fp)) c.hg1 (fun s H Ca cl fp => sIfs0 (c.ht1 s H Ca cl fp)) (fun s H Ca cl fp => sE0 (c.he s H Ca cl fp)) (folded_plain c.pl X.env) (fun env => folded_plain c.pl1 env)) fun σ H Q h => comp2_reads c.sub c.sub1 h
theorem ps_comp2 {i : Nat} {y : Str} {py spos : Pos} (c : Two X C elt tg iter ifs tg1 iter1 ifs1 scope own ee tgs many it ies tgs1 many1 it1 ies1 vs1) (hc : X.calm = true) (hN : X.N.Nodup) (hy : X.N[i]? = some y) (hyl : X.env.scope.names.lookup y = some .local)
    (hsw : swapsWith (.ListComp elt [⟨tg, iter, ifs, 0⟩, ⟨tg1, iter1, ifs1, 0⟩] scope pos) (some (.Name y py)) spos.line X.env = pure true) :
    PS X (.Assign [.Name y py] (.ListComp elt [⟨tg, iter, ifs, 0⟩, ⟨tg1, iter1, ifs1, 0⟩] scope pos) spos) (tAsg (tN (gx X) (evE C (.comp2 ee tgs many it ies tgs1 many1 it1 ies1 vs1 (own.map (·.2))))) (gName i)) :=
  ⟨fun pins s σ H D I h => (ps_setLc2 hc hN hy hyl hsw c.hi c.ok c.in1 c.hg (fun s H Ca cl fp => sIfs0 (c.ht s H Ca cl fp)) (fun s H Ca cl fp => sI0 (c.hi1 s H Ca cl fp)) c.hg1 (fun s H Ca cl fp => sIfs0 (c.ht1 s H Ca cl fp)) (fun s H Ca cl fp => sE0 (c.he s H Ca cl fp)) (folded_plain c.pl X.env) (fun env => folded_plain c.pl1 env)).run pins s σ H D I (comp2_reads (X := X) c.sub c.sub1 h)⟩
end
end
end PD

set_option Elab.async false
set_option linter.all false
set_option autoImplicit false
set_option maxRecDepth 100000
/-! PdI: statements. -/
namespace PD
open PySem PySem.Spec L2

def OutS (G : Gx) (D : Ends) (L : Plc) (H : Hp) : R Fl → Prop
  | .ok (.nx ρ) st' => ∀ L' H' σ', Ev L H L' H' → SRel G.K L' H' st' → ERel G.K L' H' ρ σ' → D.nx σ' H'
  | .ok (.rt p) st' => ∀ L' H' v, Ev L H L' H' → SRel G.K L' H' st' → RepP G.K L' H' p v → D.rt v H'
  | .exc c ns vs s => OutX G L H c ns vs s
  | .bad => False
theorem OutS.fam {G : Gx} {D : Ends} : Fam G (OutS G D) where
  ev := fun {L L' H H' r} e o => by
    cases r with
    | ok f st => cases f with
      | nx ρ => exact fun L2 H2 σ' e2 => o L2 H2 σ' (e.trans e2)
      | rt p => exact fun L2 H2 v e2 => o L2 H2 v (e.trans e2)
    | exc xc xn xv xs => exact OutX.ev o e
    | bad => exact o
  exc := fun o => o
  bad := fun o => o
def tS (G : Gx) (m : Env → CS → R Fl) : TS := fun D σ H => ∃ L ρ st, SRel G.K L H st ∧ ERel G.K L H ρ σ ∧ OutS G D L H (m ρ st)
abbrev SS (X : L2.Cx) (C : Cl) (x : Stmt) (s : S) : Prop := PS X x (tS (gx X) (exS C s))
abbrev SSs (X : L2.Cx) (C : Cl) (x : List Stmt) (s : Ss) : Prop := PSs X x (tS (gx X) (exSs C s))
theorem ps_imp {X : L2.Cx} {x : Stmt} {t u : TS} (h : PS X x t) (i : ∀ (D : Ends) (σ : St) (H : Hp), u D σ H → t D σ H) : PS X x u :=
  ⟨fun pins s σ H D I q => h.run pins s σ H D I (i D σ H q)⟩
theorem pss_imp {X : L2.Cx} {x : List Stmt} {t u : TS} (h : PSs X x t) (i : ∀ (D : Ends) (σ : St) (H : Hp), u D σ H → t D σ H) : PSs X x u :=
  ⟨fun pins s σ H D I q => h.run pins s σ H D I (i D σ H q)⟩

/-- a changeable list is changed -/
theorem SRel.put {K : PySem.W.Frag} {L : Plc} {H : Hp} {st : CS} {k : Nat} {l l' : List D} {p : Addr} {vs ws : List V} (s : SRel K L H st) (hk : st[k]? = some (.lst l)) (hp : L.c[k]? = some (some p)) (hv : H p = some (.lst vs)) (r : Reps K L H l' ws) :
    Ev L H L (upd H p (.lst ws)) ∧ SRel K L (upd H p (.lst ws)) (st.set k (.lst l')) := by
  have mp : some p ∈ L.c := List.mem_of_getElem? hp
  have stay : ∀ b u, H b = some u → ¬ L.has b → upd H p (.lst ws) b = some u ∧ ¬ L.has b := fun b u e n => ⟨by rw [upd_ne fun z => n (.inl (by rw [z]; exact mp))]; exact e, n⟩
  refine ⟨⟨Nat.le_refl _, fun _ _ z => .inl z, fun a u e n => by rw [upd_ne fun z => n (by rw [z]; exact mp)]; exact e, fun _ z => .inl z, rfl⟩, by rw [List.length_set]; exact s.len, fun j c x h1 h2 => ?_, s.inj, fun a ha => ⟨?_, (s.hid a ha).2⟩⟩
  · by_cases e : k = j
    · subst e
      rw [hp] at h2
      cases h2
      rw [List.getElem?_set_self (List.getElem?_eq_some_iff.mp hk).1] at h1
      cases h1
      exact ⟨ws, upd_same, r.map stay⟩
    · rw [List.getElem?_set_ne e] at h1
      refine (s.cell j c x h1 h2).mv' (fun q u hx e1 => ?_) stay
      subst hx
      have hq : q ≠ p := fun w => by
        subst w
        exact e (s.inj _ _ _ hp h2)
      rw [upd_ne hq]; exact e1
  · by_cases e : a = p
    · rw [e, upd_same]; exact fun z => nomatch z
    · rw [upd_ne e]; exact (s.hid a ha).1

def notComp : Expr → Bool
  | .ListComp _ _ _ _ => false
  | .SetComp _ _ _ _ => false
  | .DictComp _ _ _ _ _ => false
  | _ => true
theorem swaps_plain {e : Expr} (h : notComp e = true) (t : Option Expr) (l : Nat) (env : PySem.Env) : swapsWith e t l env = pure false := by
  cases e <;> first | rfl | cases h
section
variable {X : L2.Cx} {C : Cl} {a b c x : Expr} {ea eb ec : E} {pos p : Pos} {n : Str} {i : Nat}

theorem asg_reads {t : TE} (imp : ∀ (σ : St) (H : Hp) (Q : VK), tM (gx X) (evE C ea) σ H Q → t σ H Q) {D : Ends} {σ : St} {H : Hp} (h : tS (gx X) (exS C (.asg i ea)) D σ H) : tAsg t (gName i) D σ H := by
  obtain ⟨L, ρ, st, s, e, o⟩ := h
  simp only [exS] at o
  exact imp _ _ _ (tM_bind (O := OutS (gx X) D) OutS.fam s e o fun v H1 L1 s1 p v1 q1 e1 r1 o1 => o1 L1 H1 _ (.refl _ _) q1 (e1.set i r1))
theorem sS_asg (hN : X.N.Nodup) (hi : X.N[i]? = some n) (hx : Loc X.env.scope n) (hf : X.fn n = true ∨ X.env.scope.names.lookup n = some .local) (hc : notComp a = true) (ha : SE X C a ea) : SS X C (.Assign [.Name n p] a pos) (.asg i ea) :=
  ps_imp (ps_set hN hi hx ha (swaps_plain hc _ _ _) hf) fun D σ H h => asg_reads (fun _ _ _ h => h) h
/-- a comprehension that is stored by the way -/
theorem sS_asgC {t : TE} (h : PS X (.Assign [.Name n p] a pos) (tAsg t (gName i))) (imp : ∀ (σ : St) (H : Hp) (Q : VK), tM (gx X) (evE C ea) σ H Q → t σ H Q) : SS X C (.Assign [.Name n p] a pos) (.asg i ea) :=
  ps_imp h fun D σ H h => asg_reads imp h

/-! ### several names -/
theorem names_okP {K : PySem.W.Frag} {L : Plc} {H : Hp} {ρ' : Env} : ∀ {is : List Nat} {ps : List PV} {vs : List V} {ρ : Env} {σ : St} {Q : St → Hp → Prop}, setAllP ρ is ps = some ρ' → RepPs K L H ps vs → ERel K L H ρ σ →
    (∀ σ', ERel K L H ρ' σ' → Q σ' H) → gNames is vs σ H Q
  | [], [], _, ρ, σ, Q, h, .nil, e, c => by
    cases h
    exact ⟨rfl, c σ e⟩
  | [], _ :: _, _, _, _, _, h, _, _, _ => by cases h
  | i :: is, [], _, _, _, _, h, _, _, _ => by cases h
  | i :: is, x :: xs, _, ρ, σ, Q, h, .cons r t, e, c => ⟨_, _, rfl, names_okP (is := is) h t (e.set i r) c⟩
theorem setAllP_len : ∀ {is : List Nat} {ps : List PV} {ρ ρ' : Env}, setAllP ρ is ps = some ρ' → is.length = ps.length
  | [], [], _, _, _ => rfl
  | [], _ :: _, _, _, h => by cases h
  | _ :: _, [], _, _, h => by cases h
  | _ :: is, _ :: xs, _, _, h => congrArg Nat.succ (setAllP_len (is := is) (ps := xs) h)
theorem setAll_P : ∀ {is : List Nat} {l : List D} {ρ : Env}, setAll ρ is l = setAllP ρ is (l.map PV.d)
  | [], [], _ => rfl
  | [], _ :: _, _ => rfl
  | _ :: _, [], _ => rfl
  | i :: is, x :: xs, ρ => setAll_P (is := is) (l := xs)
/-- a target of names, a value of any kind that is a tuple of data -/
theorem sS_asgT {tg : Expr} {is : List Nat} (hg : PG X tg (gTup X.K is.length (gNames is))) (hc : notComp a = true) (hw : swappedStores [tg] a X.env = pure none) (h1 : (assignEach [tg] X.env).map (·.2) = [assign tg X.env]) (ha : SE X C a ea) : SS X C (.Assign [tg] a pos) (.asgT is ea) :=
  ps_imp (ps_asg ha hg (swaps_plain hc _ _ _) hw h1) fun D σ H ⟨L, ρ, st, s, e, o⟩ => by
    simp only [exS] at o
    refine tM_bind (O := OutS (gx X) D) OutS.fam s e o fun v H1 L1 s1 p v1 q1 e1 r1 o1 => ?_
    cases p with
    | d x => cases x with
      | tup l =>
        simp only at o1
        cases h : setAll ρ is l with
        | none => rw [h] at o1; exact o1.elim
        | some ρ' =>
          rw [h] at o1
          obtain ⟨a', vs, rfl, e2, z⟩ := (Rep.w r1).sqT
          have h' := h
          rw [setAll_P] at h'
          refine ⟨a', vs, rfl, e2, by rw [← z.length, setAllP_len h', List.length_map], ?_⟩
          exact names_ok h z e1 fun σ' e' _ => o1 L1 H1 σ' (.refl _ _) q1 e'
      | _ => exact o1.elim
    | _ => exact o1.elim
/-- a, b = x, y: by way of a tuple -/
theorem sS_asg2 {tg : Expr} {is : List Nat} {xs : List Expr} {es : Es} {k : Nat} {p2 : Pos} (hg : PG X tg (gTup X.K is.length (gNames is))) (hz : is.length ≤ 100) (hw : swappedStores [tg] (.Tuple xs k p2) X.env = pure none) (h1 : (assignEach [tg] X.env).map (·.2) = [assign tg X.env]) (ha : SA X C xs es) :
    SS X C (.Assign [tg] (.Tuple xs k p2) pos) (.asg2 is es) :=
  ps_imp (ps_asg (pe_tup ha) hg rfl hw h1) fun D σ H ⟨L, ρ, st, s, e, o⟩ => by
    simp only [exS] at o
    refine tA_bind (O := OutS (gx X) D) OutS.fam s e o fun vs H1 L1 s1 ps v1 q1 e1 r1 o1 => ?_
    cases h : setAllP ρ is ps with
    | none => rw [h] at o1; exact o1.elim
    | some ρ' =>
      rw [h] at o1
      have hl := setAllP_len h
      refine ⟨by rw [← r1.len, ← hl]; exact Nat.le_trans hz (by decide), fun q hq => ⟨q, vs, rfl, .of upd_same, by rw [← r1.len, hl], ?_⟩⟩
      exact names_okP h (paired_ev r1 (.same (same_upd hq))) (e1.ev (.same (same_upd hq))) fun σ' e' => o1 L1 _ σ' (.same (same_upd hq)) (q1.same (same_upd hq)) e'
/-- a, b = x, y: plain local names -/
theorem sS_asg2P {j : Nat} {y m : Str} {px py pt pt2 : Pos} {kt k2 : Nat} {es : Es} (hc : X.calm = true) (hN : X.N.Nodup) (hi : X.N[i]? = some n) (hj : X.N[j]? = some m) (hij : i ≠ j) (hx : X.env.scope.names.lookup n = some .local) (hy : X.env.scope.names.lookup m = some .local)
    (hw : swappedStores [.Tuple [.Name n px, .Name m py] kt pt] (.Tuple [a, b] k2 pt2) X.env = pure (some [n, m])) (ha : SA X C [a, b] es) : SS X C (.Assign [.Tuple [.Name n px, .Name m py] kt pt] (.Tuple [a, b] k2 pt2) pos) (.asg2 [i, j] es) :=
  ps_imp (ps_par hc hN hi hj hij hx hy ha hw) fun D σ H ⟨L, ρ, st, s, e, o⟩ => by
    simp only [exS] at o
    refine tA_bind (O := OutS (gx X) D) OutS.fam s e o fun vs H1 L1 s1 ps v1 q1 e1 r1 o1 => ?_
    cases r1 with
    | nil => exact o1.elim
    | @cons p1 w1 ps1 ws1 z1 z2 =>
      cases z2 with
      | nil => exact o1.elim
      | @cons p2 w2 ps2 ws2 z3 z4 =>
        cases z4 with
        | cons _ _ => exact o1.elim
        | nil => exact ⟨w1, w2, rfl, o1 L1 H1 _ (.refl _ _) q1 ((e1.set i z1).set j z3)⟩

/-! ### lists that are changed -/
theorem assign_sub {o i : Expr} (h : plainX i = true) (p : Pos) (env : PySem.Env) (v : Value) : assign (.Subscript o i p) env v = (do
      let ov ← holding [v] (eval o env)
      let iv ← holding [v, ov] (eval i env)
      standAt p
      holding [v, ov, iv] (setItem ov iv v)
      release [v, ov, iv] []) := by
  cases i <;> first | rfl | cases h
theorem sS_setI (hc : notComp x = true) (hp : plainX b = true) (ha : SE X C a ea) (hb : SE X C b eb) (hx : SE X C x ec) {tp : Pos} : SS X C (.Assign [.Subscript a b tp] x pos) (.setI ea eb ec) :=
  ps_imp (ps_asg hx (pg_sub ha hb set_list (fun v => assign_sub hp tp X.env v)) (swaps_plain hc (some (.Subscript a b tp)) pos.line X.env) (by cases x <;> rfl) rfl) fun D σ H ⟨L, ρ, st, s, e, o⟩ => by
    simp only [exS] at o
    refine tM_bind (O := OutS (gx X) D) OutS.fam s e o fun y H1 L1 s1 py v1 q1 e1 r1 o1 => ?_
    refine tM_bind (O := OutS (gx X) D) OutS.fam q1 e1 o1 fun w H2 L2 s2 pw v2 q2 e2 r2 o2 => ?_
    refine tM_bind (O := OutS (gx X) D) OutS.fam q2 e2 o2 fun z H3 L3 s3 pz v3 q3 e3 r3 o3 => ?_
    have ry := (r1.ev v2).ev v3
    have rw' := r2.ev v3
    cases pw with
    | obj k =>
      cases pz with
      | d zj => cases zj with
        | int j =>
          cases py with
          | d dy =>
            have r3' : Rep X.K L3 H3 (.int j) z := r3
            cases r3'
            simp only at o3
            cases h : s3[k]? with
            | none => rw [h] at o3; exact o3.elim
            | some cl =>
              rw [h] at o3
              cases cl with
              | ins _ _ _ => exact o3.elim
              | dead => exact o3.elim
              | lst l =>
                simp only at o3
                cases hj : ixN l.length j with
                | none => rw [hj] at o3; exact o3.elim
                | some m =>
                  rw [hj] at o3
                  obtain ⟨p, vs, h1, h2, h3⟩ := q3.at_ h
                  obtain ⟨ev, sr⟩ := q3.put h h1 h2 (Reps.set ry m h3)
                  exact ⟨p, vs, j, m, rw'.2 p h1, rfl, h2, by rw [← h3.length]; exact hj, o3 L3 _ σ ev sr (e3.ev ev)⟩
          | _ => exact o3.elim
        | _ => exact o3.elim
      | _ => exact o3.elim
    | _ => exact o3.elim
theorem base_plain {o : Expr} (h : ∀ id p p2, o ≠ .Call (.Name id p) [] [] p2) (m : Str) (env : PySem.Env) : attributeBase o m env (eval o env) = eval o env := by
  unfold attributeBase
  cases o with
  | Call f xs ks p => cases f with
    | Name id q => cases xs with
      | nil => cases ks with
        | nil => exact absurd rfl (h id q p)
        | cons _ _ => rfl
      | cons _ _ => rfl
    | _ => rfl
  | _ => rfl
theorem few_one {e : Expr} (h : plainX e = true) (cpos : Pos) (env : PySem.Env) : ((backTo cpos (starEach [e] env)).all (fun x => !x.1) && (backToKw cpos (keywordEach [] env)).all (fun x => x.1.isSome)
      && decide (([e] : List Expr).length + ([] : List Keyword).length + (if ([] : List Keyword).isEmpty then 0 else 1) < 30)) = true := by
  rw [star_plain h]; rfl
theorem pe_mt1 {T id : String} {name : Str} {r : V → List V → Hp → VK → Prop} {to te : TE} {apos cpos : Pos} (pa : PlainAttrs T) (slot : Slot T name id) (hty : typeOf (.builtin id) = pure (.type "method_descriptor")) (hm : MtR X id r) (ho : PE X a to) (hb : PE X b te)
    (hbase : ∀ id p p2, a ≠ .Call (.Name id p) [] [] p2) (hline : (apos.endLine == cpos.line) = true) (hp : plainX b = true) : PE X (.Call (.Attribute a name apos) [b] [] cpos) (tBM X.K T r to (tCons te tNil)) :=
  pe_bm pa slot hty hm ho (pa_cons hb pa_nil (star_plain hp _ _)) (base_plain hbase _ _) (few_one hp _ _) hline (star_plain hp _ _) rfl
theorem sS_app {apos cpos : Pos} (ha : SE X C a ea) (hb : SE X C b eb) (hbase : ∀ id p p2, a ≠ .Call (.Name id p) [] [] p2) (hline : (apos.endLine == cpos.line) = true) (hp : plainX b = true) : SS X C (.Expr (.Call (.Attribute a "append" apos) [b] [] cpos) pos) (.app ea eb) :=
  ps_imp (ps_expr (pe_mt1 PySem.F.plainAttrs_list PySem.F.slot_list_append PySem.F.type_list_append mt_append ha hb hbase hline hp) rfl) fun D σ H ⟨L, ρ, st, s, e, o⟩ => by
    simp only [exS] at o
    refine tM_bind (O := OutS (gx X) D) OutS.fam s e o fun y H1 L1 s1 py v1 q1 e1 r1 o1 => ?_
    cases py with
    | obj k =>
      simp only at o1
      cases h : s1[k]? with
      | none => rw [h] at o1; exact o1.elim
      | some cl =>
        rw [h] at o1
        cases cl with
        | ins _ _ _ => exact o1.elim
        | dead => exact o1.elim
        | lst l0 =>
          obtain ⟨p, vs, h1, h2, h3⟩ := q1.at_ h
          refine ⟨by rw [r1.2 p h1]; exact .inl ⟨rfl, vs, .of h2⟩, ?_⟩
          refine tM_bind (O := OutS (gx X) D) OutS.fam q1 e1 o1 fun w H2 L2 s2 pw v2 q2 e2 r2 o2 => ?_
          have r1' := r1.ev v2
          cases pw with
          | d dw =>
            simp only at o2
            cases h' : s2[k]? with
            | none => rw [h'] at o2; exact o2.elim
            | some cl =>
              rw [h'] at o2
              cases cl with
              | ins _ _ _ => exact o2.elim
              | dead => exact o2.elim
              | lst l =>
                simp only at o2
                obtain ⟨p2, vs2, g1, g2, g3⟩ := q2.at_ h'
                by_cases hz : l.length < sizeLine
                · simp only [if_pos hz] at o2
                  obtain ⟨ev, sr⟩ := q2.put h' g1 g2 (g3.append (.cons r2 .nil))
                  exact ⟨p2, vs2, w, r1'.2 p2 g1, rfl, g2, by rw [← g3.length]; exact hz, o2 L2 _ σ ev sr (e2.ev ev)⟩
                · simp only [if_neg hz] at o2; exact o2.elim
          | _ => exact o2.elim
    | _ => exact o1.elim
theorem sS_ext {apos cpos : Pos} (ha : SE X C a ea) (hb : SE X C b eb) (hbase : ∀ id p p2, a ≠ .Call (.Name id p) [] [] p2) (hline : (apos.endLine == cpos.line) = true) (hp : plainX b = true) : SS X C (.Expr (.Call (.Attribute a "extend" apos) [b] [] cpos) pos) (.ext ea eb) :=
  ps_imp (ps_expr (pe_mt1 PySem.F.plainAttrs_list PySem.F.slot_list_extend PySem.F.type_list_extend mt_extend ha hb hbase hline hp) rfl) fun D σ H ⟨L, ρ, st, s, e, o⟩ => by
    simp only [exS] at o
    refine tM_bind (O := OutS (gx X) D) OutS.fam s e o fun y H1 L1 s1 py v1 q1 e1 r1 o1 => ?_
    cases py with
    | obj k =>
      simp only at o1
      cases h : s1[k]? with
      | none => rw [h] at o1; exact o1.elim
      | some cl =>
        rw [h] at o1
        cases cl with
        | ins _ _ _ => exact o1.elim
        | dead => exact o1.elim
        | lst l0 =>
          obtain ⟨p, vs, h1, h2, h3⟩ := q1.at_ h
          refine ⟨by rw [r1.2 p h1]; exact .inl ⟨rfl, vs, .of h2⟩, ?_⟩
          refine tM_bind (O := OutS (gx X) D) OutS.fam q1 e1 o1 fun w H2 L2 s2 pw v2 q2 e2 r2 o2 => ?_
          have r1' := r1.ev v2
          cases pw with
          | d dw => cases dw with
            | lst ys =>
              simp only at o2
              cases h' : s2[k]? with
              | none => rw [h'] at o2; exact o2.elim
              | some cl =>
                rw [h'] at o2
                cases cl with
                | ins _ _ _ => exact o2.elim
                | dead => exact o2.elim
                | lst l =>
                  simp only at o2
                  obtain ⟨p2, vs2, g1, g2, g3⟩ := q2.at_ h'
                  by_cases hz : l.length + ys.length ≤ sizeLine
                  · simp only [if_pos hz] at o2
                    have r2' : Rep X.K L2 H2 (.lst ys) w := r2
                    cases r2' with
                    | lst e' n' z =>
                      obtain ⟨ev, sr⟩ := q2.put h' g1 g2 (g3.append z)
                      exact ⟨p2, _, vs2, _, r1'.2 p2 g1, rfl, g2, e', by rw [← g3.length, ← z.length]; exact hz, o2 L2 _ σ ev sr (e2.ev ev)⟩
                  · simp only [if_neg hz] at o2; exact o2.elim
            | _ => exact o2.elim
          | _ => exact o2.elim
    | _ => exact o1.elim

/-! ### the plain statements -/
theorem sS_expr (hc : notComp a = true) (ha : SE X C a ea) : SS X C (.Expr a pos) (.expr ea) :=
  ps_imp (ps_expr ha (swaps_plain hc _ _ _)) fun D σ H ⟨L, ρ, st, s, e, o⟩ => by
    simp only [exS] at o
    exact tM_bind (O := OutS (gx X) D) OutS.fam s e o fun y H1 L1 s1 py v1 q1 e1 r1 o1 => o1 L1 H1 σ (.refl _ _) q1 e1
theorem sS_ret (ha : SE X C a ea) : SS X C (.Return (some a) pos) (.ret ea) :=
  ps_imp (ps_ret ha) fun D σ H ⟨L, ρ, st, s, e, o⟩ => by
    simp only [exS] at o
    exact tM_bind (O := OutS (gx X) D) OutS.fam s e o fun y H1 L1 s1 py v1 q1 e1 r1 o1 => o1 L1 H1 y (.refl _ _) q1 r1
theorem sS_retN : SS X C (.Return none pos) .retN :=
  ps_imp ps_retN fun D σ H ⟨L, ρ, st, s, e, o⟩ => by
    simp only [exS] at o
    exact o L H .non (.refl _ _) s .non
theorem sS_pass : SS X C (.Pass pos) .pass :=
  ps_imp ps_pass fun D σ H ⟨L, ρ, st, s, e, o⟩ => by
    simp only [exS] at o
    exact o L H σ (.refl _ _) s e
theorem sS_ifs {xa xb : List Stmt} {sa sb : Ss} (hc : ST X C c ec) (ha : SSs X C xa sa) (hb : SSs X C xb sb) : SS X C (.If c xa xb pos) (.ifs ec sa sb) :=
  ps_imp (ps_if hc ha hb) fun D σ H ⟨L, ρ, st, s, e, o⟩ => by
    simp only [exS] at o
    refine tT_bind (O := OutS (gx X) D) (k := fun b s1 => if b = true then exSs C sa ρ s1 else exSs C sb ρ s1) OutS.fam s e ?_ fun d H1 L1 s1 v1 q1 e1 o1 => ?_
    · cases r : evE C ec ρ st with
      | exc xc xn xv xs => rw [r] at o; exact o
      | bad => rw [r] at o; exact o
      | ok p s1 =>
        rw [r] at o
        simp only [R.bind] at o ⊢
        cases h : (p.rd s1).bind truth with
        | none => rw [h] at o; exact o
        | some b => rw [h] at o; cases b <;> exact o
    · cases d with
      | true => exact ⟨L1, ρ, s1, q1, e1, o1⟩
      | false => exact ⟨L1, ρ, s1, q1, e1, o1⟩
theorem sSs_nil : SSs X C [] .nil := pss_imp pss_nil fun D σ H ⟨L, ρ, st, s, e, o⟩ => by
  simp only [exSs] at o
  exact o L H σ (.refl _ _) s e
theorem seq_reads' {m : Env → CS → R Fl} {sb : Ss} {D : Ends} {σ : St} {H : Hp} {L : Plc} {ρ : Env} {st : CS} (s : SRel X.K L H st) (e : ERel X.K L H ρ σ) (o : OutS (gx X) D L H ((m ρ st).bind fun fl s1 => match fl with
    | .nx ρ2 => exSs C sb ρ2 s1
    | .rt v => .ok (.rt v) s1)) : tS (gx X) m { D with nx := tS (gx X) (exSs C sb) D } σ H := by
  refine ⟨L, ρ, st, s, e, ?_⟩
  cases r : m ρ st with
  | exc xc xn xv xs => rw [r] at o; exact o
  | bad => rw [r] at o; exact o
  | ok fl s1 =>
    rw [r] at o
    simp only [R.bind] at o
    cases fl with
    | nx ρ2 => exact fun L1 H1 σ1 v1 q1 e1 => ⟨L1, ρ2, s1, q1, e1, OutS.fam.ev v1 o⟩
    | rt p => exact o
theorem sSs_cons {x : Stmt} {xs : List Stmt} {sa : S} {sb : Ss} (ha : SS X C x sa) (hb : SSs X C xs sb) : SSs X C (x :: xs) (.cons sa sb) :=
  pss_imp (pss_cons ha hb) fun D σ H ⟨L, ρ, st, s, e, o⟩ => by
    simp only [exSs] at o
    exact seq_reads' s e o
/-- a list that is changed no more -/
theorem sSs_frz {xs : List Stmt} {sb : Ss} (hb : SSs X C xs sb) : SSs X C xs (.cons (.frz i) sb) :=
  pss_imp hb fun D σ H ⟨L, ρ, st, s, e, o⟩ => by
    simp only [exSs, exS] at o
    cases h1 : ρ[i]? with
    | none => rw [h1] at o; exact o.elim
    | some pv =>
      rw [h1] at o
      cases pv with
      | none => exact o.elim
      | some p =>
        cases p with
        | obj k =>
          simp only at o
          cases h : st[k]? with
          | none => rw [h] at o; exact o.elim
          | some cl =>
            rw [h] at o
            cases cl with
            | ins _ _ _ => exact o.elim
            | dead => exact o.elim
            | lst l =>
              simp only [R.bind] at o
              obtain ⟨p, vs, g1, g2, g3⟩ := s.at_ h
              obtain ⟨v, hv, rv⟩ := e.at_ i _ h1
              have ev' : v = .ref p := rv.2 p g1
              subst ev'
              have hk : k < L.c.length := (List.getElem?_eq_some_iff.mp g1).1
              have sub : ∀ a, some a ∈ L.c.set k none → some a ∈ L.c := fun a m => by
                rcases List.mem_or_eq_of_mem_set m with z | z
                · exact z
                · cases z
              have np : some p ∉ L.c.set k none := fun m => by
                obtain ⟨j, hj, ej⟩ := List.mem_iff_getElem.mp m
                by_cases ejk : k = j
                · subst ejk
                  simp at ej
                · rw [List.getElem_set_ne ejk] at ej
                  have hj' : j < L.c.length := by simpa using hj
                  exact ejk (s.inj _ _ p g1 (by rw [List.getElem?_eq_getElem hj', ej]))
              have ev : Ev L H ⟨L.c.set k none, L.h⟩ H := by
                refine ⟨by simp, fun j y hj => ?_, fun a u ha _ => ha, fun a m => .inl (sub a m), rfl⟩
                by_cases ejk : k = j
                · subst ejk
                  exact .inr (List.getElem?_set_self hk)
                · exact .inl (by show (L.c.set k none)[j]? = some y; rw [List.getElem?_set_ne ejk]; exact hj)
              have nh : p ∉ L.h := fun m => (s.hid p m).2 (List.mem_of_getElem? g1)
              refine ⟨⟨L.c.set k none, L.h⟩, ρ.set i (some (.d (.lst l))), st.set k .dead, ⟨by simp [s.len], fun j c x h1 h2 => ?_, fun a b z h1 h2 => ?_, fun a ha => ⟨(s.hid a ha).1, fun m => (s.hid a ha).2 (sub a m)⟩⟩, ?_, OutS.fam.ev ev o⟩
              · have h2 : (L.c.set k none)[j]? = some x := h2
                by_cases ejk : k = j
                · subst ejk
                  rw [List.getElem?_set_self hk] at h2
                  rw [List.getElem?_set_self (by rw [s.len]; exact hk)] at h1
                  cases h1; cases h2
                  exact trivial
                · rw [List.getElem?_set_ne ejk] at h1 h2
                  exact (s.cell j c x h1 h2).mv' (fun _ _ _ e1 => e1) ev.stay
              · have h1 : (L.c.set k none)[a]? = some (some z) := h1
                have h2 : (L.c.set k none)[b]? = some (some z) := h2
                have ka : k ≠ a := fun w => by subst w; rw [List.getElem?_set_self hk] at h1; cases h1
                have kb : k ≠ b := fun w => by subst w; rw [List.getElem?_set_self hk] at h2; cases h2
                rw [List.getElem?_set_ne ka] at h1
                rw [List.getElem?_set_ne kb] at h2
                exact s.inj a b z h1 h2
              · have e' := (e.ev ev).set i (p := .d (.lst l)) (v := .ref p) (Rep.lst g2 (fun m => m.elim np nh) (g3.ev ev))
                have same : σ.set i (some (V.ref p)) = σ := by
                  refine List.ext_getElem? fun j => ?_
                  by_cases ej : i = j
                  · subst ej
                    rw [List.getElem?_set_self (List.getElem?_eq_some_iff.mp hv).1, hv]
                  · rw [List.getElem?_set_ne ej]
                rw [same] at e'
                exact e'
        | _ => exact o.elim

/-! ### loops -/
theorem sS_for {tg iter : Expr} {xb : List Stmt} {it : It} {many : Bool} {tgs : List Nat} {sb : Ss} (hp : PassesOwn (model X.prog X.w) X.A X.env X.xe) (hc : X.calm = true) (hi : SI X C tg iter it) (hg : PG X tg (tgOf X.K many tgs)) (hb : SSs X C xb sb) (hs : plainX iter = true) :
    SS X C (.For tg iter xb [] pos) (.for tgs many it sb) :=
  ps_imp (ps_for hp hc hi hg hb (folded_plain hs X.env)) fun D σ H ⟨L, ρ, st, s, e, o⟩ => by
    simp only [exS] at o
    refine tI_bind (O := OutS (gx X) D) OutS.fam s e o fun J H1 L1 s1 ds v1 q1 e1 w1 o1 => ?_
    refine ⟨fun i m σ2 H2 => m = ds.length - i ∧ i ≤ ds.length ∧ ∃ L2 s2 ρ2, Ev L1 H1 L2 H2 ∧ SRel X.K L2 H2 s2 ∧ ERel X.K L2 H2 ρ2 σ2 ∧ OutS (gx X) D L2 H2 (forGo (fun ρ s => exSs C sb ρ s) many tgs (ds.drop i) ρ2 s2), ⟨ds.length, by simp, Nat.zero_le _, L1, s1, ρ, .refl _ _, q1, e1, o1⟩, ?_⟩
    rintro i m σ2 H2 ⟨rfl, hi2, L2, s2, ρ2, ev, q2, e2, o3⟩
    by_cases hlt : i < ds.length
    · right
      have hd : ds[i]? = some ds[i] := by simp [hlt]
      obtain ⟨go, yl⟩ := w1.go L2 H2 s2 i _ ev.mv q2 hd
      refine ⟨go, fun σ3 H3 => i < ds.length ∧ ∃ L3 s3 ρ3, Ev L1 H1 L3 H3 ∧ SRel X.K L3 H3 s3 ∧ ERel X.K L3 H3 ρ3 σ3 ∧ OutS (gx X) D L3 H3 (forGo (fun ρ s => exSs C sb ρ s) many tgs (ds.drop (i + 1)) ρ3 s3), fun σ3 H3 h3 => ⟨ds.length - (i + 1), by omega, rfl, hlt, h3.2⟩, fun x H3 hy => ?_⟩
      obtain ⟨sm, rx⟩ := yl x H3 hy
      rw [List.drop_eq_getElem_cons hlt] at o3
      simp only [forGo] at o3
      cases hb : bindT many tgs ds[i] ρ2 with
      | none => rw [hb] at o3; exact o3.elim
      | some ρ' =>
        rw [hb] at o3
        refine tg_ok hb rx (e2.ev (.same sm)) fun σ' e' _ => ?_
        have o4 := OutS.fam.ev (Ev.same (L := L2) sm) o3
        simp only at o4
        refine ⟨L2, ρ', s2, q2.same sm, e', ?_⟩
        cases r : exSs C sb ρ' s2 with
        | exc xc xn xv xs => rw [r] at o4; exact o4
        | bad => rw [r] at o4; exact o4
        | ok fl s3 =>
          rw [r] at o4
          simp only [R.bind] at o4
          cases fl with
          | nx ρ3 => exact fun L3 H4 σ3 v3 q3 e3 => ⟨hlt, L3, s3, ρ3, (ev.trans (.same sm)).trans v3, q3, e3, OutS.fam.ev v3 o4⟩
          | rt p => exact o4
    · left
      have hi' : i = ds.length := by omega
      subst hi'
      rw [List.drop_length] at o3
      exact ⟨w1.stop L2 H2 _ ev.mv (Nat.le_refl _), o3 L2 H2 σ2 (.refl _ _) q2 e2⟩
theorem sS_whl {n : Nat} {xb : List Stmt} {sb : Ss} (hp : PassesOwn (model X.prog X.w) X.A X.env X.xe) (hc : ST X C c ec) (hb : SSs X C xb sb) : SS X C (.While c xb [] pos) (.whl n ec sb) :=
  ps_imp (ps_while hp hc hb) fun D σ H ⟨L, ρ, st, s, e, o⟩ => by
    simp only [exS] at o
    refine ⟨fun m σ H => ∃ L ρ st, SRel X.K L H st ∧ ERel X.K L H ρ σ ∧ OutS (gx X) D L H (whlGo (fun ρ s => evE C ec ρ s) (fun ρ s => exSs C sb ρ s) m ρ st), ⟨n, L, ρ, st, s, e, o⟩, ?_⟩
    rintro m σ H ⟨L, ρ, st, s, e, o⟩
    cases m with
    | zero => exact o.elim
    | succ m =>
      simp only [whlGo] at o
      refine tT_bind (O := OutS (gx X) D) (k := fun b s1 => if b = true then (exSs C sb ρ s1).bind fun fl s2 => match fl with
          | .nx ρ2 => whlGo (fun ρ s => evE C ec ρ s) (fun ρ s => exSs C sb ρ s) m ρ2 s2
          | .rt v => .ok (.rt v) s2
        else .ok (.nx ρ) s1) OutS.fam s e ?_ fun d H1 L1 s1 v1 q1 e1 o1 => ?_
      · cases r : evE C ec ρ st with
        | exc xc xn xv xs => rw [r] at o; exact o
        | bad => rw [r] at o; exact o
        | ok p s1 =>
          rw [r] at o
          simp only [R.bind] at o ⊢
          cases h : (p.rd s1).bind truth with
          | none => rw [h] at o; exact o
          | some b => rw [h] at o; cases b <;> exact o
      · cases d with
        | true =>
          simp only [if_true] at o1 ⊢
          refine ⟨fun σ' H' => ∃ L ρ st, SRel X.K L H' st ∧ ERel X.K L H' ρ σ' ∧ OutS (gx X) D L H' (whlGo (fun ρ s => evE C ec ρ s) (fun ρ s => exSs C sb ρ s) m ρ st), fun σ' H' w => ⟨m, Nat.lt_succ_self m, w⟩, L1, ρ, s1, q1, e1, ?_⟩
          cases r : exSs C sb ρ s1 with
          | exc xc xn xv xs => rw [r] at o1; exact o1
          | bad => rw [r] at o1; exact o1
          | ok fl s2 =>
            rw [r] at o1
            cases fl with
            | nx ρ2 => exact fun L2 H2 σ2 v2 q2 e2 => ⟨L2, ρ2, s2, q2, e2, OutS.fam.ev v2 o1⟩
            | rt p => exact o1
        | false =>
          simp only [Bool.false_eq_true, if_false] at o1 ⊢
          exact o1 L1 H1 σ (.refl _ _) q1 e1
theorem sS_aug (o : BO) {pos' : Pos} (hN : X.N.Nodup) (hi : X.N[i]? = some n) (hx : Loc X.env.scope n) (hf : X.fn n = true ∨ X.env.scope.names.lookup n = some .local) (ho : o = .add ∨ o = .sub) (ha : SE X C a ea) : SS X C (.AugAssign (.Name n pos') (boOp o) a pos) (.aug i o ea) := by
  have key : ∀ (g : Int → Int → Int) (D : Ends) (σ : L2.St) (H : Hp), (∀ x y : Int, augD o x (.d (.int y)) = some (g x y)) → tS (gx X) (exS C (.aug i o ea)) D σ H → tAug i (tM (gx X) (evE C ea)) (ipI g) D σ H := by
    rintro g D σ H hg ⟨L, ρ, st, s, e, o1⟩
    simp only [exS] at o1
    cases h1 : ρ[i]? with
    | none => rw [h1] at o1; exact o1.elim
    | some pv => rw [h1] at o1; cases pv with
      | none => exact o1.elim
      | some p => cases p with
        | d x => cases x with
          | int x =>
            obtain ⟨v, hv, rv⟩ := e.at_ i _ h1
            have rv' : Rep X.K L H (.int x) v := rv
            cases rv'
            refine ⟨.int x, hv, ?_⟩
            refine tM_bind (O := OutS (gx X) D) OutS.fam s e o1 fun y H1 L1 s1 py v1 q1 e1 r1 o2 => ?_
            cases py with
            | d z => cases z with
              | int b =>
                have r1' : Rep X.K L1 H1 (.int b) y := r1
                cases r1'
                rw [hg x b] at o2
                exact ⟨x, b, rfl, rfl, o2 L1 H1 _ (.refl _ _) q1 (e1.set i (p := .d (.int (g x b))) (Rep.int _))⟩
              | _ => cases o <;> exact o2.elim
            | _ => cases o <;> exact o2.elim
          | _ => exact o1.elim
        | _ => exact o1.elim
  rcases ho with rfl | rfl
  · exact ps_imp (ps_aug hN hi hx ha ip_add hf) fun D σ H h => key _ D σ H (fun _ _ => rfl) h
  · exact ps_imp (ps_aug hN hi hx ha ip_sub hf) fun D σ H h => key _ D σ H (fun _ _ => rfl) h
end
end PD

set_option Elab.async false
set_option linter.all false
set_option autoImplicit false
set_option maxRecDepth 100000
/-! PdJ: defs and calls. -/
namespace PD
open PySem PySem.Spec L2

/-! ### behind a call -/
theorem SRel.cut {K : PySem.W.Frag} {L : Plc} {H : Hp} {st : CS} (m : Nat) (s : SRel K L H st) : SRel K ⟨L.c.take m, L.h⟩ H (st.take m) := by
  have sub : ∀ a, Plc.has ⟨L.c.take m, L.h⟩ a → L.has a := fun a h => h.elim (fun z => .inl (List.mem_of_mem_take z)) .inr
  have at_ : ∀ {α : Type} {l : List α} {k : Nat} {x : α}, (l.take m)[k]? = some x → l[k]? = some x := fun {α l k x} h => by
    rw [List.getElem?_take] at h
    split at h
    · exact h
    · cases h
  refine ⟨by simp [s.len], fun k c x h1 h2 => ?_, fun i j a h1 h2 => s.inj i j a (at_ h1) (at_ h2), fun a ha => ⟨(s.hid a ha).1, fun z => (s.hid a ha).2 (List.mem_of_mem_take z)⟩⟩
  exact (s.cell k c x (at_ h1) (at_ h2)).mv' (fun _ _ _ e => e) fun a o e n => ⟨e, fun m => n (sub a m)⟩
theorem cutEv {K : PySem.W.Frag} {L L1 : Plc} {H H1 : Hp} {st : CS} (s : SRel K L H st) (e : Ev L H L1 H1) (m : Nat) (hm : st.length ≤ m) : Ev L H ⟨L1.c.take m, L1.h⟩ H1 := by
  refine ⟨?_, fun k x h => ?_, e.keep, fun a h => e.new a (List.mem_of_mem_take h), e.hid⟩
  · have := e.len
    rw [s.len] at hm
    show L.c.length ≤ (L1.c.take m).length
    rw [List.length_take]; omega
  · have hk := (List.getElem?_eq_some_iff.mp h).1
    have : k < m := by rw [s.len] at hm; omega
    show (L1.c.take m)[k]? = _ ∨ (L1.c.take m)[k]? = _
    rw [List.getElem?_take_of_lt this]
    exact e.get k x h
theorem RepX.sub {K : PySem.W.Frag} {L L' : Plc} {H : Hp} {c : String} {ns : List String} {vs : List D} {cls : Value} {d : Option Addr} (r : RepX K L H c ns vs cls d) (h : ∀ a, L'.has a → L.has a) : RepX K L' H c ns vs cls d := by
  obtain ⟨h1, a, ws, h2, h3, h4, h5, h6⟩ := r
  exact ⟨h1, a, ws, h2, h3, fun m => h4 (h a m), h5, h6.sub h⟩
theorem leave_exc {G : Gx} {L L1 : Plc} {H H1 : Hp} {st s1 : CS} {c : String} {ns : List String} {vs : List D} {cls : Value} {d : Option Addr} (s : SRel G.K L H st) (e : Ev L H L1 H1) (s' : SRel G.K L1 H1 s1) (r : RepX G.K L1 H1 c ns vs cls d) (o : OutX G L H c ns vs (s1.take st.length)) : G.E cls d H1 :=
  o _ H1 cls d (cutEv s e _ (Nat.le_refl _)) (s'.cut _) (r.sub fun a h => h.elim (fun z => .inl (List.mem_of_mem_take z)) .inr)
theorem leave_out {G : Gx} {L L1 : Plc} {H H1 : Hp} {st s1 : CS} {Q : VK} {p : PV} {v : V} (s : SRel G.K L H st) (e : Ev L H L1 H1) (s' : SRel G.K L1 H1 s1) (r : RepP G.K L1 H1 p v) (o : Out G L H Q (leave st.length p s1)) : Q v H1 := by
  have cutEv : ∀ m, st.length ≤ m → Ev L H ⟨L1.c.take m, L1.h⟩ H1 := fun m hm => cutEv s e m hm
  have sub : ∀ m a, Plc.has ⟨L1.c.take m, L1.h⟩ a → L1.has a := fun m a h => h.elim (fun z => .inl (List.mem_of_mem_take z)) .inr
  cases p with
  | scr ns => exact o.elim
  | d x => exact o _ H1 v (cutEv _ (Nat.le_refl _)) (s'.cut _) (Rep.sub r (sub _))
  | obj k =>
    have o : Out G L H Q (if k < st.length then .ok (.obj k) (s1.take st.length) else if k = st.length then .ok (.obj k) (s1.take (st.length + 1)) else .bad) := o
    have rep : ∀ m, k < m → RepP G.K ⟨L1.c.take m, L1.h⟩ H1 (.obj k) v := fun m hm => by
      refine ⟨?_, fun a ha => r.2 a ?_⟩
      · have := r.1
        show k < (L1.c.take m).length
        rw [List.length_take]; omega
      · have ha : (L1.c.take m)[k]? = _ := ha
        rw [List.getElem?_take_of_lt hm] at ha
        exact ha
    by_cases h1 : k < st.length
    · rw [if_pos h1] at o
      exact o _ H1 v (cutEv _ (Nat.le_refl _)) (s'.cut _) (rep _ h1)
    · rw [if_neg h1] at o
      by_cases h2 : k = st.length
      · rw [if_pos h2] at o
        exact o _ H1 v (cutEv _ (Nat.le_succ _)) (s'.cut _) (rep _ (by omega))
      · rw [if_neg h2] at o
        exact o.elim

/-- a def's defaults as they stand -/
def DflD (K : PySem.W.Frag) (dV : Value) (ds : List D) : Prop := (ds = [] ∧ dV = .none) ∨ (ds ≠ [] ∧ ∃ (T : Addr) (o : Obj) (its : List Value) (n : Nat), dV = .ref T ∧ K.lookup T = some o ∧ o.data = .seq its.toArray n ∧ its.length = ds.length ∧ ∀ L H, ∃ vs, Vals vs its ∧ Reps K L H ds vs)
/-- a def of the text, ds its defaults -/
structure FunW (K : PySem.W.Frag) (x qual : Str) (st : Stmt) (ds : List D) (f : Addr) (fd : FuncData) : Prop where
  ex : ∃ (oc : Value) (od : Option Addr) (dV kV doc pm : Value) (an : Option Addr) (cdv ct : Value) (osl : Array (Option Value)),
    fd = PySem.W.fnOf x qual (defArgs st) (defBody st) (defScope st) dV kV doc pm an cdv ct ∧ K.lookup f = some ⟨oc, od, .func fd, osl⟩ ∧ PySem.W.codeIn K cdv qual = true ∧ DflD K dV ds
  kp : PySem.W.keepIn K (.ref f) = true
/-- a def's promise -/
structure FnG (P : Program) (w : World) (K : PySem.W.Frag) (mg : Str → Option Value) (base : Heap) (k : Nat) (f : Addr) (fd : FuncData) (ps : List Str) (sem : List PV → CS → R PV) : Prop where
  run : ∀ (A : Around) (outer : List PySem.Env) (s : Shared) (H : Hp) (args : Args) (us : List Value) (vs : List V) (Q : VK) (E : XK) (L : Plc) (ds : List PV) (st : CS), Room k A → A.guards = some [] → Env0 P w K mg base A outer s H →
    BindsTo s fd args (ps.zip us) → Vals vs us → SRel K L H st → RepPs K L H ds vs → ds.length = ps.length → Out ⟨K, E⟩ L H Q (sem ds st) → codeAny (model P w) A (.call (.ref f) args) (CR (L2.CX P w) outer P w H s Q E) s

theorem start_rel {K : PySem.W.Frag} {L : Plc} {H : Hp} {ds : List PV} {vs : List V} (r : RepPs K L H ds vs) (N : List Str) : ERel K L H (ds.map some ++ List.replicate (N.length - ds.length) none) (L2.start N vs) := by
  refine ⟨by unfold L2.start; simp [r.len], fun i p h => ?_⟩
  have hi : i < ds.length := by
    by_cases hi : i < ds.length
    · exact hi
    · rw [List.getElem?_append_right (by simpa using hi), List.getElem?_replicate] at h
      split at h <;> cases h
  rw [List.getElem?_append_left (by simpa using hi), List.getElem?_map] at h
  obtain ⟨q, e1, e2⟩ := Option.map_eq_some_iff.mp h
  cases e2
  have key : ∀ {ds : List PV} {vs : List V} {i : Nat} {p : PV}, RepPs K L H ds vs → ds[i]? = some p → ∃ v, vs[i]? = some v ∧ RepP K L H p v := by
    intro ds vs i p r
    induction r generalizing i with
    | nil => intro h; simp at h
    | cons a b ih =>
      cases i with
      | zero => intro h; simp at h; subst h; exact ⟨_, rfl, a⟩
      | succ i => intro h; exact ih (by simpa using h)
  obtain ⟨v, hv, rv⟩ := key r e1
  refine ⟨v, ?_, rv⟩
  unfold L2.start
  have hiv : i < vs.length := (List.getElem?_eq_some_iff.mp hv).1
  rw [List.getElem?_append_left (by simpa using hiv), List.getElem?_map, hv]
  rfl

section
variable {P : Program} {w : World} {K : PySem.W.Frag} {mg : Str → Option Value} {base : Heap}
/-- a body keeps its def's promise -/
theorem fnG_of {x qual : Str} {st : Stmt} {f : Addr} {fd : FuncData} {N ps : List Str} {k : Nat} {C : Cl} {g : Fd} {dfs : List D} (F : FunW K x qual st dfs f fd) (S : FnScope N ps (defScope st)) (hnp : g.np = ps.length) (hnn : g.nn = N.length)
    (hbody : ∀ (cdv : Value) (A : Around) (outer : List PySem.Env) (s : Shared) (H : Hp) (E : XK), Room k (A.deeper (PyProof.Rows.envOfC qual (defScope st) s.heap.objs.size f cdv)) → (A.deeper (PyProof.Rows.envOfC qual (defScope st) s.heap.objs.size f cdv)).guards = some [] → Mod K mg base →
      SSs (cxOf (L2.CX P w) P w K mg base N qual (defScope st) f cdv A outer s H E) C (defBody st) g.body) : FnG P w K mg base (k + 1) f fd ps (runF C g) := by
  obtain ⟨oc, od, dV, kV, doc, pm, an, cdv, ct, osl, rfl, lk, hcd, _⟩ := F.ex
  refine ⟨fun A outer s H args us vs Q E L ds cs hr hg e0 hb rv q rd hl o => ?_⟩
  have KX : K.In s.heap := e0.mod.kin.keeps fun b o e => (e0.bs b o e).1
  have lim : s.heap.NoLimit := e0.mod.nolimit.keeps fun b o e => (e0.bs b o e).1
  have hlv : vs.length = ps.length := by rw [← rd.len]; exact hl
  have hkinds : ∀ y ∈ ps.zip us, (defScope st).names.lookup y.1 = some .local ∨ (defScope st).names.lookup y.1 = some .cell := fun ⟨n, v⟩ hy => S.par n (List.of_mem_zip hy).1
  refine Att.call_fn KX lim lk hcd hr.depth hb (List.all_eq_true.mpr fun y hy => ?_) (fun s1 ic => ?_) S.co S.gen S.kind
  · rcases hkinds y hy with z | z <;> rw [z] <;> rfl
  have I : Inv (cxOf (L2.CX P w) P w K mg base N qual (defScope st) f cdv A outer s H E) [] (L2.start N vs) H s1 := inv_start S hr.hd e0 hlv rv ic
  have B := hbody cdv A outer s H E (hr.deeper _) hg e0.mod
  have tk : Takes (cxOf (L2.CX P w) P w K mg base N qual (defScope st) f cdv A outer s H E) (fun cls d _ H' => E cls d H') := takes_of rfl rfl rfl rfl
  unfold runF at o
  rw [if_pos (by rw [hnp]; exact hl)] at o
  have body : tS (gx (cxOf (L2.CX P w) P w K mg base N qual (defScope st) f cdv A outer s H E)) (exSs C g.body) { nx := fun _ H' => Q .non H', rt := Q } (L2.start N vs) H := by
    refine ⟨L, _, cs, q, start_rel rd N, ?_⟩
    rw [← hnn]
    cases r : exSs C g.body (ds.map some ++ List.replicate (g.nn - ds.length) none) cs with
    | bad => rw [r] at o; exact o
    | exc c ns ws s2 =>
      rw [r] at o
      exact fun L1 H1 cls d e1 q1 r1 => Ex.of tk fun _ => leave_exc (G := ⟨K, E⟩) q e1 q1 r1 o
    | ok fl s2 =>
      rw [r] at o
      cases fl with
      | nx ρ => exact fun L1 H1 σ1 e1 q1 r1 => leave_out (G := ⟨K, E⟩) q e1 q1 (p := .d .non) .non o
      | rt p => exact fun L1 H1 v e1 q1 r1 => leave_out (G := ⟨K, E⟩) q e1 q1 r1 o
  refine wpAny_mono (B.run [] s1 _ H _ I body) (fun fl s' hs => ?_) fun e s' hs => hs
  have fin : ∀ {σ' : L2.St} {H' : Hp} {v : V} {u : Value}, Inv (cxOf (L2.CX P w) P w K mg base N qual (defScope st) f cdv A outer s H E) [] σ' H' s' → RelV v u → Q v H' → CE outer P w H s Q u s' :=
    fun {σ' H' v u} J rv q => ⟨v, H', J.os, J.bare, J.base, J.hok, rv, q⟩
  cases fl with
  | ret u =>
    obtain ⟨v, σ', H', J, rv, q⟩ := hs
    exact fin J rv q
  | next =>
    obtain ⟨σ', H', J, q⟩ := hs
    exact fin (v := V.non) (u := Value.none) J rfl q
  | brk =>
    obtain ⟨_, _, _, q⟩ := hs
    exact False.elim q
  | cont =>
    obtain ⟨_, _, _, q⟩ := hs
    exact False.elim q
theorem fnG_bad {k : Nat} {f : Addr} {fd : FuncData} {ps : List Str} {sem : List PV → CS → R PV} (h : ∀ ds st, sem ds st = .bad) : FnG P w K mg base k f fd ps sem :=
  ⟨fun A outer s H args us vs Q E L ds cs hr hg e0 hb rv q rd hl o => by rw [h] at o; exact o.elim⟩
end

/-! ### calls -/
section
variable {X : L2.Cx} {C : Cl} {k f : Nat} {fa : Addr} {fd : FuncData} {ps : List Str} {a : Expr} {x : Str} {xs : List Expr} {es : Es} {p pos : Pos}
theorem runG {pins : List (Addr × Obj)} {σ : L2.St} {H : Hp} {s : Shared} {Q : VK} {us : List Value} {vs : List V} {L : Plc} {ds : List PV} {st : CS} {sem : List PV → CS → R PV} (F : FnG X.prog X.w X.K X.mg X.base k fa fd ps sem) (hr : Room k X.A) (hg : X.A.guards = some []) (hb : Binds X.K fd ps [])
    (I : Inv X pins σ H s) (r : Vals vs us) (q : SRel X.K L H st) (rd : RepPs X.K L H ds vs) (hl : ds.length = ps.length) (o : Out (gx X) L H Q (sem ds st)) : wpAny (model X.prog X.w) X.A (call (.ref fa) us) (EP X pins σ Q) X.xe s := by
  have hu : us.length = ps.length := by rw [← r.length, ← rd.len]; exact hl
  have hbt := hb s us I.kIn (by rw [List.append_nil]; exact hu)
  rw [List.append_nil] at hbt
  refine wpAny_call (codeAny_mono (F.run X.A X.stack s H ⟨us, []⟩ us vs Q (Ex X) L ds st hr hg I.env0 hbt r q rd hl o) fun r s' hq => ?_)
  cases r with
  | error e => exact passes_call (takesEx X) (fun _ _ _ _ h => h) pins σ H s e s' I hq
  | ok fl =>
    cases fl with
    | ret u => exact I.after hq
    | next => exact False.elim hq
    | brk => exact False.elim hq
    | cont => exact False.elim hq
/-- the promise says nothing of another number of arguments -/
theorem sE_call (F : FnG X.prog X.w X.K X.mg X.base k fa fd ps (C.call f)) (hbad : ∀ ds st, ds.length ≠ ps.length → C.call f ds st = .bad) (hr : Room k X.A) (hg : X.A.guards = some []) (hb : Binds X.K fd ps []) (gl : Gl X x) (hm : X.mg x = some (.ref fa)) (hk : PySem.W.keepIn X.K (.ref fa) = true)
    (hdb : (x == ("__debug__" : Str)) = false) (hp : (a :: xs).all plainX = true) (ha : SA X C (a :: xs) es) : SE X C (.Call (.Name x p) (a :: xs) [] pos) (.call f es) := by
  have hp' := hp
  simp only [List.all_cons, Bool.and_eq_true] at hp'
  refine ⟨fun pins s σ H Q I h => ?_⟩
  obtain ⟨L, ρ, st, q, e, o⟩ := h
  simp only [evE] at o
  refine wpAny_Call_Name_kw (ld_glob I gl hm ?_ hdb)
  have h := tA_bind (O := fun L H r => Out (gx X) L H Q r) (Q1 := fun vs H1 => ∃ L1 s1 ds, SRel X.K L1 H1 s1 ∧ RepPs X.K L1 H1 ds vs ∧ Out (gx X) L1 H1 Q (C.call f ds s1)) Out.fam q e o fun vs H1 L1 s1 ds v1 q1 e1 r1 o1 => ⟨L1, s1, ds, q1, r1, o1⟩
  refine PySem.W.callWith_K (h₀ := X.base) I.ok.mod.kin hk (thn (ha.run pos pins s σ H _ I h) fun us s1 ⟨vs, H1, I1, r, L1, c1, ds, q1, r1, o1⟩ => ⟨I1.kIn, ?_⟩) (star_plain hp'.1 _ _) (any_plain hp'.2 _ _)
  by_cases hl : ds.length = ps.length
  · exact runG F hr hg hb I1 r q1 r1 hl o1
  · rw [hbad ds c1 hl] at o1; exact o1.elim
theorem sE_call0 (F : FnG X.prog X.w X.K X.mg X.base k fa fd ps (C.call f)) (hbad : ∀ ds st, ds.length ≠ ps.length → C.call f ds st = .bad) (hr : Room k X.A) (hg : X.A.guards = some []) (hb : Binds X.K fd ps []) (gl : Gl X x) (hm : X.mg x = some (.ref fa)) (hk : PySem.W.keepIn X.K (.ref fa) = true)
    (hdb : (x == ("__debug__" : Str)) = false) : SE X C (.Call (.Name x p) [] [] pos) (.call f .nil) := by
  refine ⟨fun pins s σ H Q I h => ?_⟩
  obtain ⟨L, ρ, st, q, e, o⟩ := h
  simp only [evE, evEs, R.bind] at o
  refine wpAny_Call_Name_kw (ld_glob I gl hm ?_ hdb)
  refine PySem.W.callWith_K0 I.kIn hk ?_
  by_cases hl : ([] : List PV).length = ps.length
  · exact runG (us := []) F hr hg hb I .nil q .nil hl o
  · rw [hbad [] st hl] at o; exact o.elim
end
end PD

set_option Elab.async false
set_option linter.all false
set_option autoImplicit false
set_option maxRecDepth 100000
/-! PdK: more rules: keywords, compares as tests, swapped stores, constants of the text. -/
namespace PD
open PySem PySem.Spec L2

section
variable {X : L2.Cx} {C : Cl} {k f : Nat} {fa : Addr} {fd : FuncData} {ps ks : List Str} {a b c : Expr} {x : Str} {xs : List Expr} {kws : List Keyword} {es es2 : Es} {ea eb ec : E} {p pos : Pos} {perm : List Nat} {n : Nat}

/-! ### keywords -/
abbrev SK (X : L2.Cx) (C : Cl) (kws : List Keyword) (es : Es) : Prop := PK X kws (tA (gx X) (evEs C es))
theorem pk_imp {t u : TA} (h : PK X kws t) (i : ∀ (σ : L2.St) (H : Hp) (Q : List V → Hp → Prop), u σ H Q → t σ H Q) : PK X kws u :=
  ⟨fun pos pins s σ H Q I q => h.run pos pins s σ H Q I (i σ H Q q)⟩
theorem sK_nil : SK X C [] .nil := pk_imp pk_nil fun σ H Q ⟨L, ρ, st, s, e, o⟩ => by
  simp only [evEs] at o
  exact o L H (.refl _ _) s [] .nil
theorem sK_cons {nm : Option Str} {kpos : Pos} (ha : SE X C a ea) (hr : SK X C kws es) : SK X C (⟨nm, a, kpos⟩ :: kws) (.cons ea es) :=
  pk_imp (pk_cons ha hr) fun σ H Q ⟨L, ρ, st, s, e, o⟩ => by
    simp only [evEs] at o
    refine tM_bind (O := OutA (gx X) Q) OutG.fam s e o fun v H1 L1 s1 p v1 q1 e1 r1 o1 => ?_
    refine tA_bind (O := OutA (gx X) Q) OutG.fam q1 e1 o1 fun vs H2 L2 s2 ps v2 q2 e2 r2 o2 => ?_
    exact o2 L2 H2 (.refl _ _) q2 (v :: vs) (.cons (r1.ev v2) r2)
/-- how a call with keywords and defaults binds: n values by place, ks the keywords' names, ds all defaults -/
def KB (K : PySem.W.Frag) (fd : FuncData) (ps : List Str) (n : Nat) (ks : List Str) (perm : List Nat) (ds : List D) : Prop :=
  ∃ dus : List Value, (∀ L H, ∃ vs, Vals vs dus ∧ Reps K L H ds vs) ∧ ∀ (s : Shared) (us ws ys : List Value), K.In s.heap → us.length = n → ws.length = ks.length → pickAll (us ++ ws ++ dus) perm = some ys → BindsTo s fd ⟨us, ks.zip ws⟩ (ps.zip ys)
theorem pick_rel {R S : Type} {r : R → S → Prop} : ∀ {perm : List Nat} {xs : List R} {ys : List S} {zs : List R}, Paired r xs ys → pickAll xs perm = some zs → ∃ ws, pickAll ys perm = some ws ∧ Paired r zs ws
  | [], _, _, _, _, h => by cases h; exact ⟨[], rfl, .nil⟩
  | i :: perm, xs, ys, zs, q, h => by
    have get : ∀ {xs : List R} {ys : List S} {i : Nat} {x : R}, Paired r xs ys → xs[i]? = some x → ∃ y, ys[i]? = some y ∧ r x y := by
      intro xs ys i x q
      induction q generalizing i with
      | nil => intro h; simp at h
      | cons a b ih =>
        cases i with
        | zero => intro h; simp at h; subst h; exact ⟨_, rfl, a⟩
        | succ i => intro h; exact ih (by simpa using h)
    simp only [pickAll] at h ⊢
    cases h1 : xs[i]? with
    | none => rw [h1] at h; cases h
    | some x =>
      rw [h1] at h
      cases h2 : pickAll xs perm with
      | none => rw [h2] at h; cases h
      | some l =>
        rw [h2] at h
        cases h
        obtain ⟨y, e1, e2⟩ := get q h1
        obtain ⟨ws, e3, e4⟩ := pick_rel q h2
        exact ⟨y :: ws, by rw [e1, e3]; rfl, .cons e2 e4⟩
theorem pick_len {R : Type} : ∀ {perm : List Nat} {xs zs : List R}, pickAll xs perm = some zs → zs.length = perm.length
  | [], _, _, h => by cases h; rfl
  | i :: perm, xs, zs, h => by
    simp only [pickAll] at h
    cases h1 : xs[i]? with
    | none => rw [h1] at h; cases h
    | some x =>
      rw [h1] at h
      cases h2 : pickAll xs perm with
      | none => rw [h2] at h; cases h
      | some l => rw [h2] at h; cases h; exact congrArg Nat.succ (pick_len h2)
theorem paired_app {R S : Type} {r : R → S → Prop} {a c : List R} {b d : List S} (h : Paired r a b) (g : Paired r c d) : Paired r (a ++ c) (b ++ d) := by
  induction h with
  | nil => exact g
  | cons x _ ih => exact .cons x ih
/-! ### compares as tests -/
theorem pc_op {op : CmpOp} {r : R2} {ta tb : TE} (ho : OpR X (compareOp op) r) (ha : PE X a ta) (hb : PE X b tb) : PC X op a b (tOp r ta tb) :=
  ⟨fun pins s σ H Q I h => binT ha hb I h fun v u s2 x y H2 I2 rx ry q => ho pins s2 σ H2 x y v u Q I2 rx ry q⟩
/-- a step whose value is always a truth value -/
def IsB (r : R PV) : Prop := match r with
  | .ok (.d (.bl _)) _ => True
  | .exc _ _ _ _ => True
  | .bad => True
  | _ => False
theorem tB_of {σ : L2.St} {H : Hp} {Q : Bool → Hp → Prop} (hb : ∀ ρ s, IsB (evE C ea ρ s)) (h : tT (gx X) (evE C ea) σ H Q) : tB (tM (gx X) (evE C ea)) σ H Q := by
  obtain ⟨L, ρ, st, q, e, o⟩ := h
  refine ⟨L, ρ, st, q, e, ?_⟩
  have z := hb ρ st
  cases r : evE C ea ρ st with
  | exc xc xn xv xs => rw [r] at o; exact o
  | bad => rw [r] at o; exact o
  | ok p s1 =>
    rw [r] at o z
    cases p with
    | d x => cases x with
      | bl b =>
        intro L1 H1 v v1 q1 r1
        have r1' : Rep X.K L1 H1 (.bl b) v := r1
        cases r1'
        simp only [OutT, PV.rd, Option.bind, truth] at o
        exact ⟨b, rfl, o L1 H1 v1 q1⟩
      | _ => exact z.elim
    | _ => exact z.elim
theorem cmpop_bl {o : CO} {dx dy d : D} (h : cmpop o dx dy = some d) : ∃ b, d = .bl b := by
  cases o with
  | eq => obtain ⟨c, _, e⟩ := Option.map_eq_some_iff.mp h; exact ⟨_, e.symm⟩
  | ne => obtain ⟨c, _, e⟩ := Option.map_eq_some_iff.mp h; exact ⟨_, e.symm⟩
  | mem => obtain ⟨c, _, e⟩ := Option.map_eq_some_iff.mp h; exact ⟨_, e.symm⟩
  | nmem => obtain ⟨c, _, e⟩ := Option.map_eq_some_iff.mp h; exact ⟨_, e.symm⟩
  | _ => cases dx <;> cases dy <;> first | (cases h; exact ⟨_, rfl⟩) | cases h
theorem isB_cmp (o : CO) (ρ : Env) (s : CS) : IsB (evE C (.cmp o ea eb) ρ s) := by
  simp only [evE]
  cases evE C ea ρ s with
  | exc xc xn xv xs => exact trivial
  | bad => exact trivial
  | ok x s1 =>
    simp only [R.bind]
    cases evE C eb ρ s1 with
    | exc xc xn xv xs => exact trivial
    | bad => exact trivial
    | ok y s2 =>
      simp only
      cases x.rd s2 with
      | none => exact trivial
      | some dx => cases y.rd s2 with
        | none => exact trivial
        | some dy =>
          simp only
          have : ∀ d, cmpop o dx dy = some d → ∃ b, d = .bl b := by
            intro d h
            cases o with
            | eq => obtain ⟨c, _, e⟩ := Option.map_eq_some_iff.mp h; exact ⟨_, e.symm⟩
            | ne => obtain ⟨c, _, e⟩ := Option.map_eq_some_iff.mp h; exact ⟨_, e.symm⟩
            | mem => obtain ⟨c, _, e⟩ := Option.map_eq_some_iff.mp h; exact ⟨_, e.symm⟩
            | nmem => obtain ⟨c, _, e⟩ := Option.map_eq_some_iff.mp h; exact ⟨_, e.symm⟩
            | _ => cases dx <;> cases dy <;> first | (cases h; exact ⟨_, rfl⟩) | cases h
          cases h : cmpop o dx dy with
          | none => exact trivial
          | some d =>
            obtain ⟨b, rfl⟩ := this d h
            exact trivial
theorem isB_isn (n : Bool) (ρ : Env) (s : CS) : IsB (evE C (.isn n ea) ρ s) := by
  simp only [evE]
  cases evE C ea ρ s with
  | exc xc xn xv xs => exact trivial
  | bad => exact trivial
  | ok x s1 =>
    simp only [R.bind]
    cases isNone x s1 <;> exact trivial
theorem tOp_reads {o : CO} {σ : L2.St} {H : Hp} {Q : VK} (h : tM (gx X) (evE C (.cmp o ea eb)) σ H Q) : tOp (rB (gx X) (cmpop o)) (tM (gx X) (evE C ea)) (tM (gx X) (evE C eb)) σ H Q := by
  obtain ⟨L, ρ, st, s, e, o1⟩ := h
  simp only [evE] at o1
  refine tM_bind (O := fun L H r => Out (gx X) L H Q r) Out.fam s e o1 fun v H1 L1 s1 p v1 q1 e1 r1 o1 => ?_
  refine tM_bind (O := fun L H r => Out (gx X) L H Q r) Out.fam q1 e1 o1 fun u H2 L2 s2 p2 v2 q2 e2 r2 o2 => ?_
  have r1' := r1.ev v2
  cases h1 : p.rd s2 with
  | none => rw [h1] at o2; exact o2.elim
  | some x =>
    cases h2 : p2.rd s2 with
    | none => rw [h1, h2] at o2; exact o2.elim
    | some y =>
      rw [h1, h2] at o2
      exact ⟨L2, s2, x, y, q2, rd_w q2 r1' h1, rd_w q2 r2 h2, o2⟩
theorem sT_cmp (o : CO) (hu : X.A.units + 65 < cLine) (hm : behindInMarks (coOp o) b = false) (ha : SE X C a ea) (hb : SE X C b eb) : ST X C (.Compare a [coOp o] [b] pos) (.cmp o ea eb) :=
  pt_imp (pt_cmp (pc_op (op_cmp o hu) ha hb) hm) fun σ H Q h => tOp_reads (tB_of (isB_cmp o) h)
theorem isn_reads (n : Bool) {σ : L2.St} {H : Hp} {Q : VK} (h : tM (gx X) (evE C (.isn n ea)) σ H Q) : tM (gx X) (evE C ea) σ H fun v H1 => Q (.bl (decide (v = .non) != n)) H1 := by
  obtain ⟨L, ρ, st, s, e, o⟩ := h
  simp only [evE] at o
  refine tM_bind (O := fun L H r => Out (gx X) L H Q r) Out.fam s e o fun v H1 L1 s1 p v1 q1 e1 r1 o1 => ?_
  cases h : isNone p s1 with
  | none => rw [h] at o1; exact o1.elim
  | some b =>
    rw [h] at o1
    rw [r1.isn q1 h]
    exact o1.val q1 (.bl _)
theorem sT_isn (ha : SE X C a ea) {j : Nat} {p' : Pos} : ST X C (.Compare a [.Is] [.Constant .none j p'] pos) (.isn false ea) :=
  pt_imp (pt_cmp (pc_isN ha) rfl) fun σ H Q h => by
    have z := isn_reads false (tB_of (isB_isn false) h)
    simp only [Bool.bne_false] at z
    exact z
theorem sT_notn (ha : SE X C a ea) {j : Nat} {p' : Pos} : ST X C (.Compare a [.IsNot] [.Constant .none j p'] pos) (.isn true ea) :=
  pt_imp (pt_cmp (pc_notN ha) rfl) fun σ H Q h => by
    have z := isn_reads true (tB_of (isB_isn true) h)
    simp only [Bool.bne_true] at z
    exact z

/-! ### compares of three -/
theorem chain_reads {c1 c2 : CO} {σ : L2.St} {H : Hp} {Q : VK} (h : tM (gx X) (evE C (.chain c1 c2 ea eb ec)) σ H Q) : tChain (rB (gx X) (cmpop c1)) (rB (gx X) (cmpop c2)) (tM (gx X) (evE C ea)) (tM (gx X) (evE C eb)) (tM (gx X) (evE C ec)) σ H Q := by
  obtain ⟨L, ρ, st, s, e, o⟩ := h
  simp only [evE] at o
  refine tM_bind (O := fun L H r => Out (gx X) L H Q r) Out.fam s e o fun v H1 L1 s1 p v1 q1 e1 r1 o1 => ?_
  refine tM_bind (O := fun L H r => Out (gx X) L H Q r) Out.fam q1 e1 o1 fun u H2 L2 s2 p2 v2 q2 e2 r2 o2 => ?_
  have r1' := r1.ev v2
  cases h1 : p.rd s2 with
  | none => rw [h1] at o2; exact o2.elim
  | some x =>
    cases h2 : p2.rd s2 with
    | none => rw [h1, h2] at o2; exact o2.elim
    | some y =>
      rw [h1, h2] at o2
      simp only at o2
      refine ⟨L2, s2, x, y, q2, rd_w q2 r1' h1, rd_w q2 r2 h2, ?_⟩
      cases hc : cmpop c1 x y with
      | none => rw [hc] at o2; exact o2.elim
      | some d =>
        rw [hc] at o2
        cases d with
        | bl k =>
          intro L3 H3 z v3 q3 rz
          have rz' : Rep X.K L3 H3 (.bl k) z := rz
          cases rz'
          refine ⟨k, rfl, ?_⟩
          cases k with
          | false =>
            simp only [Bool.false_eq_true, if_false]
            exact (Out.ev o2 v3).val q3 (.bl false)
          | true =>
            simp only [if_true]
            refine tM_bind (O := fun L H r => Out (gx X) L H Q r) Out.fam q3 (e2.ev v3) (Out.fam.ev v3 o2) fun w' H4 L4 s4 p4 v4 q4 e4 r4 o4 => ?_
            have r2' := (r2.ev v3).ev v4
            cases h3 : p2.rd s4 with
            | none => rw [h3] at o4; exact o4.elim
            | some dy =>
              cases h4 : p4.rd s4 with
              | none => rw [h3, h4] at o4; exact o4.elim
              | some dz =>
                rw [h3, h4] at o4
                exact ⟨L4, s4, dy, dz, q4, rd_w q4 r2' h3, rd_w q4 r4 h4, o4⟩
        | _ => exact o2.elim
theorem sE_chain (o1 o2 : CO) (hu : X.A.units + 65 < cLine) (hm : lastMarks [coOp o1, coOp o2] [b, c] = false) (ha : SE X C a ea) (hb : SE X C b eb) (hc : SE X C c ec) : SE X C (.Compare a [coOp o1, coOp o2] [b, c] pos) (.chain o1 o2 ea eb ec) :=
  pe_imp (pe_chain (op_cmp o1 hu) (op_cmp o2 hu) ha hb hc hm) fun σ H Q h => chain_reads h
theorem isB_chain (o1 o2 : CO) (ρ : Env) (s : CS) : IsB (evE C (.chain o1 o2 ea eb ec) ρ s) := by
  simp only [evE]
  cases evE C ea ρ s with
  | exc xc xn xv xs => exact trivial
  | bad => exact trivial
  | ok x s1 =>
    simp only [R.bind]
    cases evE C eb ρ s1 with
    | exc xc xn xv xs => exact trivial
    | bad => exact trivial
    | ok y s2 =>
      simp only
      cases x.rd s2 with
      | none => exact trivial
      | some dx => cases y.rd s2 with
        | none => exact trivial
        | some dy =>
          simp only
          cases cmpop o1 dx dy with
          | none => exact trivial
          | some d => cases d with
            | bl k => cases k with
              | false => exact trivial
              | true =>
                simp only
                cases evE C ec ρ s2 with
                | exc xc xn xv xs => exact trivial
                | bad => exact trivial
                | ok w s3 =>
                  simp only
                  cases y.rd s3 with
                  | none => exact trivial
                  | some dy' => cases w.rd s3 with
                    | none => exact trivial
                    | some dz =>
                      simp only
                      cases hd : cmpop o2 dy' dz with
                      | none => exact trivial
                      | some d =>
                        obtain ⟨b, rfl⟩ := cmpop_bl hd
                        exact trivial
            | _ => exact trivial
theorem sT_chain (o1 o2 : CO) (hu : X.A.units + 65 < cLine) (hm : lastMarks [coOp o1, coOp o2] [b, c] = false) (ha : SE X C a ea) (hb : SE X C b eb) (hc : SE X C c ec) : ST X C (.Compare a [coOp o1, coOp o2] [b, c] pos) (.chain o1 o2 ea eb ec) :=
  pt_imp (pt_chain (op_cmp o1 hu) (op_cmp o2 hu) ha hb hc hm) fun σ H Q h => chain_reads (tB_of (isB_chain o1 o2) h)

/-! ### constants of the text -/
theorem sE_glob {d : D} {v : V} {u : Value} (gl : Gl X x) (hm : X.mg x = some u) (rv : RelV v u) (rd : ∀ L H, Rep X.K L H d v) (hdb : (x == ("__debug__" : Str)) = false) : SE X C (.Name x pos) (.lit d) :=
  pe_imp (pe_glob gl hm rv hdb) fun σ H Q ⟨L, ρ, st, s, e, o⟩ => o.val s (rd L H)

/-! ### statements -/
theorem sS_stop {x : Stmt} : SS X C x .stop := ⟨fun pins s σ H D I h => by
  obtain ⟨L, ρ, st, q, e, o⟩ := h
  simp only [exS] at o
  exact o.elim⟩
theorem sS_asgW {n : Str} {i : Nat} (hN : X.N.Nodup) (hi : X.N[i]? = some n) (hx : Loc X.env.scope n) (hf : X.fn n = true ∨ X.env.scope.names.lookup n = some .local) (hw : swapsWith a (some (.Name n p)) pos.line X.env = pure false) (ha : SE X C a ea) : SS X C (.Assign [.Name n p] a pos) (.asg i ea) :=
  ps_imp (ps_set hN hi hx ha hw hf) fun D σ H h => asg_reads (fun _ _ _ h => h) h
theorem sS_asg3P {i j l : Nat} {y m z : Str} {px py pz pt pt2 : Pos} {kt k2 : Nat} {es : Es} (hc : X.calm = true) (hN : X.N.Nodup) (hi : X.N[i]? = some y) (hj : X.N[j]? = some m) (hl : X.N[l]? = some z) (hij : i ≠ j) (hil : i ≠ l) (hjl : j ≠ l) (hx : X.env.scope.names.lookup y = some .local) (hy : X.env.scope.names.lookup m = some .local) (hz : X.env.scope.names.lookup z = some .local)
    (hw : swappedStores [.Tuple [.Name y px, .Name m py, .Name z pz] kt pt] (.Tuple [a, b, c] k2 pt2) X.env = pure (some [y, m, z])) (ha : SA X C [a, b, c] es) : SS X C (.Assign [.Tuple [.Name y px, .Name m py, .Name z pz] kt pt] (.Tuple [a, b, c] k2 pt2) pos) (.asg2 [i, j, l] es) :=
  ps_imp (ps_par3 hc hN hi hj hl hij hil hjl hx hy hz ha hw) fun D σ H ⟨L, ρ, st, s, e, o⟩ => by
    simp only [exS] at o
    refine tA_bind (O := OutS (gx X) D) OutS.fam s e o fun vs H1 L1 s1 ps v1 q1 e1 r1 o1 => ?_
    cases r1 with
    | nil => exact o1.elim
    | cons z1 z2 => cases z2 with
      | nil => exact o1.elim
      | cons z3 z4 => cases z4 with
        | nil => exact o1.elim
        | cons z5 z6 => cases z6 with
          | cons _ _ => exact o1.elim
          | nil => exact ⟨_, _, _, rfl, o1 L1 H1 _ (.refl _ _) q1 (((e1.set i z1).set j z3).set l z5)⟩
/-- the stores of a written tuple: none where they go by way of a tuple, the names where they are swapped -/
def swS (sc : Scope) (ts vs : List Expr) : Option (Option (List Str)) :=
  if !(ts.length == 2 || ts.length == 3) || vs.length != ts.length then some none
  else if !(vs.all plainX) then none
  else
    let line := (ts.head?.map (·.pos.line)).getD 0
    let names := ts.filterMap fun
      | .Name id pos => if sc.names.lookup id == some .local && pos.line == line then some id else none
      | _ => none
    if names.length != ts.length || names.eraseDups.length != names.length then some none
    else if vs.all (foldedForSure 8) then some none
    else if vs.all (constantsAlone 8) then none
    else some (some names)
theorem swS_ok {ts vs : List Expr} {r : Option (List Str)} {kt k2 : Nat} {pt pt2 : Pos} {env : PySem.Env} (hk : env.scope.kind = .function) (h : swS env.scope ts vs = some r) : swappedStores [.Tuple ts kt pt] (.Tuple vs k2 pt2) env = pure r := by
  have hbk : env.blockKind = .function := by
    unfold Env.blockKind
    rw [hk]; rfl
  have nostar : vs.all plainX = true → (vs.any fun | .Starred .. => true | _ => false) = false := fun q => by
    rw [List.any_eq_false]
    intro e he
    have := List.all_eq_true.mp q e he
    cases e <;> first | exact absurd this Bool.false_ne_true | (intro z; cases z)
  unfold swS at h
  unfold swappedStores
  simp only [pure_bind]
  by_cases c1 : (!(ts.length == 2 || ts.length == 3) || vs.length != ts.length) = true
  · rw [if_pos c1] at h
    cases h
    rw [if_pos (by rw [c1]; rfl)]
  · rw [if_neg c1] at h
    rw [if_neg (by rw [hbk]; simpa using c1)]
    by_cases c2 : (!(vs.all plainX)) = true
    · rw [if_pos c2] at h; cases h
    · rw [if_neg c2] at h
      have c2' : vs.all plainX = true := by simpa using c2
      split
      · rename_i z
        exact Bool.noConfusion ((nostar c2').symm.trans z)
      · generalize hn : (ts.filterMap fun
            | .Name id pos => if env.scope.names.lookup id == some .local && pos.line == (ts.head?.map (·.pos.line)).getD 0 then some id else none
            | _ => none) = nm
        have h' : (if (nm.length != ts.length || nm.eraseDups.length != nm.length) = true then some none else if vs.all (foldedForSure 8) = true then some none else if vs.all (constantsAlone 8) = true then none else some (some nm)) = some r := by
          rw [← hn]
          exact h
        have g : (if (nm.length != ts.length || nm.eraseDups.length != nm.length) = true then (pure none : Sem (Option (List Str))) else if vs.all (foldedForSure 8) = true then pure none else if vs.all (constantsAlone 8) = true then (unsupported "assign.tuple-of-constant-expressions:order-of-the-stores" >>= fun (_ : Unit) => pure (some nm)) else pure (some nm)) = pure r := by
          by_cases d1 : (nm.length != ts.length || nm.eraseDups.length != nm.length) = true
          · rw [if_pos d1] at h' ⊢; cases h'; rfl
          · rw [if_neg d1] at h' ⊢
            by_cases d2 : vs.all (foldedForSure 8) = true
            · rw [if_pos d2] at h' ⊢; cases h'; rfl
            · rw [if_neg d2] at h' ⊢
              by_cases d3 : vs.all (constantsAlone 8) = true
              · rw [if_pos d3] at h'; cases h'
              · rw [if_neg d3] at h' ⊢; cases h'; rfl
        rw [← hn] at g
        exact g
end
end PD

set_option Elab.async false
set_option linter.all false
set_option autoImplicit false
set_option maxRecDepth 100000
/-! PdY: instances: fields, methods, making, isinstance of own classes; defaults. -/
namespace PD
open PySem PySem.Spec L2

/-- a def of the text: ways: how it is called with keywords or defaults; dfs: its defaults; top: whether it is a name of the module -/
structure Fn where
  name : Str
  qual : Str
  st : Stmt
  N : List Str
  ps : List Str
  g : Fd
  ways : List (Nat × List Str × List Nat)
  dfs : List D := []
  top : Bool := true
/-! ### fields in a list of pairs -/
section
variable {K : PySem.W.Frag} {L : Plc} {H : Hp}
theorem oS_beq {a b : String} : (Str.ofString a == Str.ofString b) = decide (a = b) := by
  by_cases h : a = b
  · subst h; simp
  · rw [decide_eq_false h]
    exact beq_eq_false_iff_ne.mpr fun z => h (oS_inj z)
theorem fld_look {f : String} {d : D} : ∀ {ns : List String} {vs : List D} {ws : List V}, Reps K L H vs ws → fldN f ns vs = some d → ∃ w, ((oSs ns).zip ws).lookup (Str.ofString f) = some w ∧ Rep K L H d w ∧ f ∈ ns
  | [], _, _, _, h => by cases h
  | n :: ns, [], _, _, h => by cases h
  | n :: ns, v :: vs, _, .cons (v := w) (vs := ws) r t, h => by
    unfold fldN at h
    show ∃ w', List.lookup (Str.ofString f) ((Str.ofString n, w) :: (oSs ns).zip ws) = some w' ∧ _
    rw [List.lookup_cons, oS_beq]
    by_cases e : n = f
    · subst e
      rw [if_pos rfl] at h
      cases h
      exact ⟨w, by simp, r, List.mem_cons_self⟩
    · rw [if_neg e] at h
      obtain ⟨w', h1, h2, h3⟩ := fld_look t h
      exact ⟨w', by rw [decide_eq_false (fun z => e z.symm)]; exact h1, h2, List.mem_cons_of_mem _ h3⟩
theorem look_no {m : String} : ∀ {ns : List String} {ws : List V}, m ∉ ns → ((oSs ns).zip ws).lookup (Str.ofString m) = none
  | [], _, _ => rfl
  | n :: ns, [], _ => rfl
  | n :: ns, w :: ws, h => by
    show List.lookup (Str.ofString m) ((Str.ofString n, w) :: (oSs ns).zip ws) = none
    rw [List.lookup_cons, oS_beq, decide_eq_false fun z => h (by rw [z]; exact List.mem_cons_self)]
    exact look_no fun z => h (List.mem_cons_of_mem _ z)
theorem put_zip {f : String} {d : D} {w : V} (r : Rep K L H d w) : ∀ {ns : List String} {vs : List D} {ws : List V}, ns.length = ws.length → Reps K L H vs ws →
    ∃ ws', putF (Str.ofString f) w ((oSs ns).zip ws) = (oSs (putN f d ns vs).1).zip ws' ∧ (putN f d ns vs).1.length = ws'.length ∧ Reps K L H (putN f d ns vs).2 ws' ∧ ∀ g ∈ (putN f d ns vs).1, g = f ∨ g ∈ ns
  | [], [], [], _, .nil => ⟨[w], rfl, rfl, .cons r .nil, fun g h => .inl (by simpa [putN] using h)⟩
  | [], _ :: _, _ :: _, l, _ => by simp at l
  | n :: ns, [], [], l, _ => by simp at l
  | n :: ns, v :: vs, u :: ws, l, .cons q t => by
    show ∃ ws', (if Str.ofString n = Str.ofString f then _ else _) = _ ∧ _
    unfold putN
    by_cases e : n = f
    · subst e
      rw [if_pos rfl, if_pos rfl]
      exact ⟨w :: ws, rfl, by simpa using l, .cons r t, fun g h => .inr h⟩
    · rw [if_neg fun z => e (oS_inj z), if_neg e]
      obtain ⟨ws', h1, h2, h3, h4⟩ := put_zip r (ns := ns) (vs := vs) (ws := ws) (by simpa using l) t
      refine ⟨u :: ws', ?_, by simpa using h2, .cons q h3, fun g h => ?_⟩
      · exact congrArg (fun z => (Str.ofString n, u) :: z) h1
      · rcases List.mem_cons.mp h with z | z
        · exact .inr (by rw [z]; exact List.mem_cons_self)
        · rcases h4 g z with z | z
          · exact .inl z
          · exact .inr (List.mem_cons_of_mem _ z)
theorem oSs_len (ns : List String) : (oSs ns).length = ns.length := by simp [oSs]
theorem tab_mem {c : String} {g : Nat} : ∀ {tab : List (String × Nat)}, tabAt c tab = some g → (c, g) ∈ tab
  | [], h => by cases h
  | (k, f) :: r, h => by
    unfold tabAt at h
    by_cases e : k = c
    · rw [if_pos e] at h; cases h; subst e; exact List.mem_cons_self
    · rw [if_neg e] at h; exact List.mem_cons_of_mem _ (tab_mem h)
end

/-! ### the store -/
section
variable {K : PySem.W.Frag} {L : Plc} {H : Hp} {st : CS}
theorem SRel.putC {k : Nat} {p : Addr} {o : HO} {c : Cell} (s : SRel K L H st) (hk : k < st.length) (hp : L.c[k]? = some (some p)) (new : CellRel K L (upd H p o) c (some p)) :
    Ev L H L (upd H p o) ∧ SRel K L (upd H p o) (st.set k c) := by
  have mp : some p ∈ L.c := List.mem_of_getElem? hp
  have stay : ∀ b u, H b = some u → ¬ L.has b → upd H p o b = some u ∧ ¬ L.has b := fun b u e n => ⟨by rw [upd_ne fun z => n (.inl (by rw [z]; exact mp))]; exact e, n⟩
  refine ⟨⟨Nat.le_refl _, fun _ _ z => .inl z, fun a u e n => by rw [upd_ne fun z => n (by rw [z]; exact mp)]; exact e, fun _ z => .inl z, rfl⟩, by rw [List.length_set]; exact s.len, fun j c' x h1 h2 => ?_, s.inj, fun a ha => ⟨?_, (s.hid a ha).2⟩⟩
  · by_cases e : k = j
    · subst e
      rw [hp] at h2
      cases h2
      rw [List.getElem?_set_self hk] at h1
      cases h1
      exact new
    · rw [List.getElem?_set_ne e] at h1
      refine (s.cell j c' x h1 h2).mv' (fun q u hx e1 => ?_) stay
      subst hx
      have hq : q ≠ p := fun w => by
        subst w
        exact e (s.inj _ _ _ hp h2)
      rw [upd_ne hq]; exact e1
  · by_cases e : a = p
    · rw [e, upd_same]; exact fun z => nomatch z
    · rw [upd_ne e]; exact (s.hid a ha).1
/-- a new cell at x -/
theorem SRel.push {x : Addr} {H' : Hp} {c : Cell} (s : SRel K L H st) (hx : H x = none) (grow : ∀ a o, H a = some o → H' a = some o) (new : CellRel K ⟨L.c ++ [some x], L.h⟩ H' c (some x)) :
    Ev L H ⟨L.c ++ [some x], L.h⟩ H' ∧ SRel K ⟨L.c ++ [some x], L.h⟩ H' (st ++ [c]) := by
  have hx' : ¬ L.has x := s.free hx
  have v2 : Ev L H ⟨L.c ++ [some x], L.h⟩ H' := by
    refine ⟨by simp, fun k y hk => .inl ?_, fun a u ha _ => grow a u ha, fun a ha => ?_, rfl⟩
    · show (L.c ++ [some x])[k]? = some y
      rw [List.getElem?_append_left (List.getElem?_eq_some_iff.mp hk).1]; exact hk
    · rcases List.mem_append.mp ha with z | z
      · exact .inl z
      · have z' : a = x := by simpa using z
        subst z'
        exact .inr hx
  have sz : L.c.length = st.length := s.len.symm
  refine ⟨v2, by simp [s.len], fun k c' y h1 h2 => ?_, fun i j a hi hj => ?_, fun a ha => ⟨?_, fun m => ?_⟩⟩
  · have h2 : (L.c ++ [some x])[k]? = some y := h2
    by_cases hk : k < st.length
    · rw [List.getElem?_append_left hk] at h1
      rw [List.getElem?_append_left (by omega)] at h2
      exact (s.cell k c' y h1 h2).mv' (fun b o _ e1 => grow _ _ e1) v2.stay
    · have hk' : k = st.length := by
        have := (List.getElem?_eq_some_iff.mp h1).1
        simp at this
        omega
      subst hk'
      simp at h1
      subst h1
      rw [← sz] at h2
      simp at h2
      subst h2
      exact new
  · have hi : (L.c ++ [some x])[i]? = some (some a) := hi
    have hj : (L.c ++ [some x])[j]? = some (some a) := hj
    by_cases h1 : i < L.c.length
    · rw [List.getElem?_append_left h1] at hi
      by_cases h2 : j < L.c.length
      · rw [List.getElem?_append_left h2] at hj
        exact s.inj i j a hi hj
      · have hj' : j = L.c.length := by
          have := (List.getElem?_eq_some_iff.mp hj).1
          simp at this
          omega
        subst hj'
        simp at hj
        subst hj
        exact absurd (.inl (List.mem_of_getElem? hi)) hx'
    · have hi' : i = L.c.length := by
        have := (List.getElem?_eq_some_iff.mp hi).1
        simp at this
        omega
      subst hi'
      simp at hi
      subst hi
      by_cases h2 : j < L.c.length
      · rw [List.getElem?_append_left h2] at hj
        exact absurd (.inl (List.mem_of_getElem? hj)) hx'
      · have := (List.getElem?_eq_some_iff.mp hj).1
        simp at this
        omega
  · have n := (s.hid a ha).1
    cases e : H a with
    | none => exact absurd e n
    | some o => rw [grow a o e]; exact fun z => nomatch z
  · rcases List.mem_append.mp m with z | z
    · exact (s.hid a ha).2 z
    · have z' : a = x := by simpa using z
      subst z'
      exact hx' (.inr ha)
end

def baseB : Expr → Bool
  | .Call (.Name _ _) [] [] _ => false
  | _ => true
/-! ### a call by its address -/
/-- a call is good -/
def RunOk (X : L2.Cx) (u : Value) (vs : List V) (H : Hp) (Q : VK) : Prop := ∀ (pins : List (Addr × Obj)) (σ : L2.St) (s : Shared) (us : List Value), Inv X pins σ H s → Vals vs us → wpAny (model X.prog X.w) X.A (call u us) (EP X pins σ Q) X.xe s
section
variable {X : L2.Cx} {C : Cl} {a b c : Expr} {x : Str} {xs : List Expr} {es : Es} {ea eb ec : E} {p pos apos : Pos} {m f : String}
theorem kw_facts : ∀ (kws : List Keyword) (ks : List Str), kws.map (·.arg) = ks.map some → ∀ (pos : Pos) (env : PySem.Env), (backToKw pos (keywordEach kws env)).all (·.1.isSome) = true ∧ (backToKw pos (keywordEach kws env)).filterMap (·.1) = ks ∧ (backToKw pos (keywordEach kws env)).any (·.1.isNone) = false := by
  intro kws
  induction kws with
  | nil => intro ks h pos env; cases ks with
    | nil => exact ⟨rfl, rfl, rfl⟩
    | cons _ _ => cases h
  | cons kw r ih => intro ks h pos env; cases ks with
    | nil => cases h
    | cons kn kr =>
      obtain ⟨nm, e, kp⟩ := kw
      simp only [List.map_cons, List.cons.injEq] at h
      obtain ⟨h1, h2⟩ := h
      subst h1
      obtain ⟨g1, g2, g3⟩ := ih kr h2 pos env
      refine ⟨?_, ?_, ?_⟩
      · show (true && (backToKw pos (keywordEach r env)).all _) = true
        rw [g1]; rfl
      · show kn :: (backToKw pos (keywordEach r env)).filterMap _ = _
        rw [g2]
      · show (false || (backToKw pos (keywordEach r env)).any _) = false
        rw [g3]; rfl
theorem eval_meth {o : Expr} {n : Str} {kws : List Keyword} {ks : List Str} (hks : kws.map (·.arg) = ks.map some) (hbase : baseB o = true) (hp : xs.all plainX = true) (hfew : xs.length + kws.length < 29) (hline : (apos.endLine == pos.line) = true) (env : PySem.Env) : eval (.Call (.Attribute o n apos) xs kws pos) env = (do
      let ov ← eval o env
      standAt apos.atName
      let (f, first) ← holding [ov] (getMethod ov n (do return (← importBound o env).getD true))
      callWith pos f first (backTo pos (starEach xs env)) (backToKw pos (keywordEach kws env))) := by
  have h1 : attributeBase o n env (eval o env) = eval o env := base_plain (fun id p p2 z => by subst z; cases hbase) n env
  have hall : ∀ l : List Expr, l.all plainX = true → (backTo pos (starEach l env)).all (fun x => !x.1) = true := by
    intro l
    induction l with
    | nil => intro _; rfl
    | cons e r ih =>
      intro h
      simp only [List.all_cons, Bool.and_eq_true] at h
      rw [star_plain h.1]
      show (true && (backTo pos (starEach r env)).all (fun x => !x.1)) = true
      rw [ih h.2]; rfl
  obtain ⟨k1, k2, k3⟩ := kw_facts kws ks hks pos env
  have hform : methodCallForm (xs.length + kws.length) (backTo pos (starEach xs env)) (backToKw pos (keywordEach kws env)) = true := by
    unfold methodCallForm
    rw [hall xs hp, k1]
    simp only [Bool.true_and, Bool.and_true, decide_eq_true_eq]
    split <;> omega
  have hpos : methodCallPos true o env apos pos = pure pos := by
    unfold methodCallPos
    simp [hline]
  show (do
    let ov ← attributeBase o n env (eval o env)
    standAt apos.atName
    methodCall o n apos pos env ov (xs.length + kws.length) (backTo pos (starEach xs env)) (backToKw pos (keywordEach kws env))) = _
  rw [h1]
  unfold methodCall
  rw [hform, hpos]
  simp only [calleeOf, if_true, pure_bind]
/-- a call with keywords is good -/
def RunOkK (X : L2.Cx) (u : Value) (first : List Value) (ks : List Str) (vs zs : List V) (H : Hp) (Q : VK) : Prop :=
  ∀ (pins : List (Addr × Obj)) (σ : L2.St) (s : Shared) (us ws : List Value), Inv X pins σ H s → Vals vs us → Vals zs ws → wpAny (model X.prog X.w) X.A (call u (first ++ us) (ks.zip ws)) (EP X pins σ Q) X.xe s
theorem cw_run {kws : List Keyword} {ks : List Str} {first : List Value} {u : Value} {t t2 : TA} {pins : List (Addr × Obj)} {σ : L2.St} {H : Hp} {s : Shared} {Q : VK} (I : Inv X pins σ H s) (hk : PySem.W.keepIn X.K u = true) (hks : kws.map (·.arg) = ks.map some) (hp : xs.all plainX = true) (ha : PA X xs t) (hkw : PK X kws t2) (hnil : xs = [] → ∀ σ H Q, t σ H Q → Q [] H)
    (h : t σ H fun vs H1 => t2 σ H1 fun zs H2 => RunOkK X u first ks vs zs H2 Q) : wpAny (model X.prog X.w) X.A (callWith pos u first (backTo pos (starEach xs X.env)) (backToKw pos (keywordEach kws X.env))) (EP X pins σ Q) X.xe s := by
  obtain ⟨k1, k2, k3⟩ := kw_facts kws ks hks pos X.env
  cases xs with
  | nil =>
    refine PySem.W.callWith_KW0 (h₀ := X.base) I.ok.mod.kin hk k1 ?_ (by rw [k3]; rfl)
    refine thn (hkw.run pos pins s σ H _ I (hnil rfl _ _ _ h)) fun ws s2 ⟨zs, H2, I2, rz, q2⟩ => ⟨I2.kIn, ?_⟩
    rw [k2]
    exact q2 pins σ s2 [] ws I2 .nil rz
  | cons xa xr =>
    have hp' := hp
    simp only [List.all_cons, Bool.and_eq_true] at hp'
    have pl : ((backTo pos (starEach (xa :: xr) X.env)).any (·.1) || (backToKw pos (keywordEach kws X.env)).any (·.1.isNone)) = false := by
      rw [any_plain (es := xa :: xr) hp, k3]; rfl
    refine PySem.W.callWith_KW (h₀ := X.base) I.ok.mod.kin hk k1 (thn (ha.run pos pins s σ H _ I h) fun us s1 ⟨vs, H1, I1, rv, q1⟩ => ?_) pl (star_plain hp'.1 _ _)
    refine thn (hkw.run pos pins s1 σ H1 _ I1 q1) fun ws s2 ⟨zs, H2, I2, rz, q2⟩ => ⟨I2.kIn, ?_⟩
    rw [k2]
    exact q2 pins σ s2 us ws I2 rv rz

/-- the callee that a value leads to -/
def tMethD (X : L2.Cx) (m : Str) (ta : TE) (t : TA) : TE := fun σ H Q => ta σ H fun x H1 => ∃ a C dx fs g, x = .ref a ∧ H1 a = some (.ins C dx fs) ∧ Cls X.K C ∧ Meth X.K C m g ∧ fs.lookup m = none ∧
  t σ H1 fun vs H2 => RunOk X (.ref g) (x :: vs) H2 Q
theorem pe_methD {o : Expr} {n : Str} {ta : TE} {t : TA} (he : PE X o ta) (ha : PA X xs t) (hbase : baseB o = true) (hp : xs.all plainX = true) (hfew : xs.length < 29) (hline : (apos.endLine == pos.line) = true) (hnil : xs = [] → ∀ σ H Q, t σ H Q → Q [] H) :
    PE X (.Call (.Attribute o n apos) xs [] pos) (tMethD X n ta t) := by
  refine ⟨fun pins s σ H Q I h => ?_⟩
  refine PySem.W.methodCall_KW (thn (he.run pins s σ H _ I h) fun u s1 ⟨x, H1, I1, rx, a, C, dx, fs, g, ex, ea, c, hm, l, q⟩ => ?_) (eval_meth (kws := []) (ks := []) rfl hbase hp hfew hline X.env)
  subst ex
  obtain rfl : u = Value.ref a := rx
  refine getmeth_ok I1 ea c hm l ?_
  cases xs with
  | nil => exact PySem.W.callWith_K0 (first := [.ref a]) I1.kIn hm.kp (hnil rfl _ _ _ q pins σ s1 [.ref a] I1 (.cons rfl .nil))
  | cons xa xr =>
    simp only [List.all_cons, Bool.and_eq_true] at hp
    exact PySem.W.callWith_K (first := [.ref a]) (h₀ := X.base) I1.ok.mod.kin hm.kp (thn (ha.run pos pins s1 σ H1 _ I1 q) fun us s2 ⟨vs, H2, I2, r, q2⟩ => ⟨I2.kIn, q2 pins σ s2 (.ref a :: us) I2 (.cons rfl r)⟩) (star_plain hp.1 _ _) (any_plain hp.2 _ _)
/-- what is known of a def by its place -/
structure FnOkD (X : L2.Cx) (C : Cl) (f : Nat) (fn : Fn) (k : Nat) (fa : Addr) (fd : FuncData) : Prop where
  run : FnG X.prog X.w X.K X.mg X.base k fa fd fn.ps (C.call f)
  bad : ∀ ds st, ds.length ≠ fn.ps.length → C.call f ds st = .bad
  binds : fn.dfs = [] → Binds X.K fd fn.ps []
  ways : ∀ q ∈ fn.ways, KB X.K fd fn.ps q.1 q.2.1 q.2.2 fn.dfs
  room : Room (k + 1) X.A
/-- what is known of a method -/
structure MetOk (X : L2.Cx) (C : Cl) (c : String) (m : String) (f : Nat) (fn : Fn) : Prop where
  ex : ∀ (Ca : Addr), PySem.W.nsIn X.K mainGlobals (Str.ofString c) = some (some (.ref Ca)) → ∃ k fa fd, Meth X.K Ca (Str.ofString m) fa ∧ FnOkD X C f fn k fa fd
theorem fn_runOk {k f : Nat} {fa : Addr} {fd : FuncData} {ps : List Str} {L : Plc} {H : Hp} {st : CS} {ds : List PV} {vs : List V} {Q : VK} (F : FnG X.prog X.w X.K X.mg X.base k fa fd ps (C.call f)) (hbad : ∀ ds st, ds.length ≠ ps.length → C.call f ds st = .bad) (hb : Binds X.K fd ps []) (hr : Room k X.A) (hg : X.A.guards = some [])
    (q : SRel X.K L H st) (rd : RepPs X.K L H ds vs) (o : Out (gx X) L H Q (C.call f ds st)) : RunOk X (.ref fa) vs H Q := fun pins σ s us I r => by
  by_cases hl : ds.length = ps.length
  · exact runG F hr hg hb I r q rd hl o
  · rw [hbad ds st hl] at o; exact o.elim
theorem fn_runOkK {k f : Nat} {fa : Addr} {fd : FuncData} {fn : Fn} {n : Nat} {ks : List Str} {perm : List Nat} {L : Plc} {H : Hp} {st : CS} {ds gs : List PV} {vs zs : List V} {us0 : List Value} {vs0 : List V} {Q : VK} (F : FnOkD X C f fn k fa fd) (hq : (n, ks, perm) ∈ fn.ways) (hpl : perm.length = fn.ps.length) (hg : X.A.guards = some [])
    (r0 : Vals vs0 us0) (q : SRel X.K L H st) (rd : RepPs X.K L H ds (vs0 ++ vs)) (rg : RepPs X.K L H gs zs) (hn : ds.length = n) (hk : gs.length = ks.length)
    (o : Out (gx X) L H Q (match pickAll (ds ++ gs ++ fn.dfs.map PV.d) perm with
      | some ys => C.call f ys st
      | none => .bad)) : RunOkK X (.ref fa) us0 ks vs zs H Q := fun pins σ s us ws I rv rz => by
  obtain ⟨dus, hd, hb⟩ := F.ways _ hq
  obtain ⟨dvs, d1, d2⟩ := hd L H
  cases hpk : pickAll (ds ++ gs ++ fn.dfs.map PV.d) perm with
  | none => rw [hpk] at o; exact o.elim
  | some ys =>
    rw [hpk] at o
    obtain ⟨vy, e1, e2⟩ := pick_rel (paired_app (paired_app rd rg) d2.ps) hpk
    have rvs : Vals (vs0 ++ vs) (us0 ++ us) := r0.append rv
    obtain ⟨uy, e3, e4⟩ := pick_rel (paired_app (paired_app rvs rz) d1) e1
    have hu : (us0 ++ us).length = n := by rw [← rvs.length, ← rd.len]; exact hn
    have hw : ws.length = ks.length := by rw [← rz.length, ← rg.len]; exact hk
    have hyl : ys.length = fn.ps.length := by rw [pick_len hpk]; exact hpl
    refine wpAny_call (codeAny_mono (F.run.run X.A X.stack s H ⟨us0 ++ us, ks.zip ws⟩ uy vy Q (Ex X) L ys st (F.room.mono (Nat.le_succ _)) hg I.env0 (hb s (us0 ++ us) ws uy I.kIn hu hw e3) e4 q e2 hyl o) fun r s' hq => ?_)
    cases r with
    | error e => exact passes_call (takesEx X) (fun _ _ _ _ h => h) pins σ H s e s' I hq
    | ok fl =>
      cases fl with
      | ret u => exact I.after hq
      | next => exact False.elim hq
      | brk => exact False.elim hq
      | cont => exact False.elim hq
/-- the values by place, then those of keywords -/
theorem two_args {β : Type} {O : Plc → Hp → R β → Prop} {G : Gx} {L : Plc} {H : Hp} {st : CS} {ρ : Env} {σ : L2.St} {m1 m2 : Env → CS → R (List PV)} {kk : List PV → List PV → CS → R β} {Q1 : List V → List V → Hp → Prop} {n1 n2 : Nat} (F : Fam G O) (s : SRel G.K L H st) (e : ERel G.K L H ρ σ)
    (h : O L H ((m1 ρ st).bind fun xs s1 => (m2 ρ s1).bind fun zs s2 => kk xs zs s2)) (hl1 : ∀ ρ st l st', m1 ρ st = .ok l st' → l.length = n1) (hl2 : ∀ ρ st l st', m2 ρ st = .ok l st' → l.length = n2)
    (c : ∀ (vs zs : List V) (H2 : Hp) (L2 : Plc) (s2 : CS) (ds gs : List PV), Ev L H L2 H2 → SRel G.K L2 H2 s2 → RepPs G.K L2 H2 ds vs → RepPs G.K L2 H2 gs zs → ds.length = n1 → gs.length = n2 → O L2 H2 (kk ds gs s2) → Q1 vs zs H2) :
    tA G m1 σ H fun vs H1 => tA G m2 σ H1 fun zs H2 => Q1 vs zs H2 := by
  refine ⟨L, ρ, st, s, e, ?_⟩
  cases r : m1 ρ st with
  | bad => rw [r] at h; exact (F.bad h).elim
  | exc xc xn xv xs => rw [r] at h; exact F.exc h
  | ok ds s1 =>
    rw [r] at h
    intro L1 H1 v1 q1 vs rd
    refine ⟨L1, ρ, s1, q1, e.ev v1, ?_⟩
    have h1 := F.ev v1 h
    simp only [R.bind] at h1
    cases r2 : m2 ρ s1 with
    | bad => rw [r2] at h1; exact (F.bad h1).elim
    | exc xc xn xv xs => rw [r2] at h1; exact F.exc h1
    | ok gs s2 =>
      rw [r2] at h1
      exact fun L2 H2 v2 q2 zs rz => c vs zs H2 L2 s2 ds gs (v1.trans v2) q2 (paired_ev rd v2) rz (hl1 _ _ _ _ r) (hl2 _ _ _ _ r2) (F.ev v2 h1)
theorem tA_nil0 {es : Es} (hnil : xs = [] → es = .nil) (e : xs = []) : ∀ σ H Q, tA (gx X) (evEs C es) σ H Q → Q [] H := fun σ H Q h => by
  have e2 := hnil e
  subst e2
  obtain ⟨L, ρ, st, s, e, o⟩ := h
  simp only [evEs] at o
  exact o L H (.refl _ _) s [] .nil
/-- f(.., k = ..) -/
theorem sE_callk {k f : Nat} {fa : Addr} {fd : FuncData} {fn : Fn} {ks : List Str} {perm : List Nat} {kws : List Keyword} {es2 : Es} (F : FnOkD X C f fn k fa fd) (hq : (xs.length, ks, perm) ∈ fn.ways) (hpl : perm.length = fn.ps.length) (hg : X.A.guards = some []) (gl : Gl X x) (hm : X.mg x = some (.ref fa)) (hk : PySem.W.keepIn X.K (.ref fa) = true)
    (hdb : (x == ("__debug__" : Str)) = false) (hp : xs.all plainX = true) (hks : kws.map (·.arg) = ks.map some) (ha : SA X C xs es) (hkw : SK X C kws es2) (hnil : xs = [] → es = .nil) (hl1 : ∀ ρ st l st', evEs C es ρ st = .ok l st' → l.length = xs.length) (hl2 : ∀ ρ st l st', evEs C es2 ρ st = .ok l st' → l.length = ks.length) :
    SE X C (.Call (.Name x p) xs kws pos) (.callk f perm es es2 fn.dfs) := by
  refine ⟨fun pins s σ H Q I h => ?_⟩
  obtain ⟨L, ρ, st, q, e, o⟩ := h
  simp only [evE] at o
  refine wpAny_Call_Name_kw (ld_glob I gl hm ?_ hdb)
  refine cw_run (first := []) I hk hks hp ha hkw (fun e σ H Q h => by
    have e2 := hnil e
    subst e2
    obtain ⟨L, ρ, st, s, e, o⟩ := h
    simp only [evEs] at o
    exact o L H (.refl _ _) s [] .nil) ?_
  exact two_args (O := fun L H r => Out (gx X) L H Q r) Out.fam q e o hl1 hl2 fun vs zs H2 L2 s2 ds gs v2 q2 rd rg n1 n2 o2 => fn_runOkK F hq hpl hg (us0 := []) (vs0 := []) .nil q2 rd rg n1 n2 o2
theorem sE_meth {tab : List (String × Nat)} (hg : X.A.guards = some []) (ht : ∀ q ∈ tab, ∃ fn, MetOk X C q.1 m q.2 fn ∧ fn.dfs = []) (ha : SE X C a ea) (hs : SA X C xs es) (hbase : baseB a = true) (hp : xs.all plainX = true) (hfew : xs.length < 29) (hline : (apos.endLine == pos.line) = true) (hnil : xs = [] → es = .nil) :
    SE X C (.Call (.Attribute a (Str.ofString m) apos) xs [] pos) (.meth m tab ea es) :=
  pe_imp (pe_methD ha hs hbase hp hfew hline (fun e σ H Q h => by
    have e2 := hnil e
    subst e2
    obtain ⟨L, ρ, st, s, e, o⟩ := h
    simp only [evEs] at o
    exact o L H (.refl _ _) s [] .nil)) fun σ H Q ⟨L, ρ, st, s, e, o⟩ => by
    simp only [evE] at o
    refine tM_bind (O := fun L H r => Out (gx X) L H Q r) Out.fam s e o fun v H1 L1 s1 p v1 q1 e1 r1 o1 => ?_
    cases h : p.rd s1 with
    | none => rw [h] at o1; exact o1.elim
    | some d =>
      rw [h] at o1
      cases d with
      | ins c ns vs =>
        simp only at o1
        obtain ⟨a', Ca, dx, ws, rfl, k1, ea', hl, rs⟩ := rd_w q1 r1 h
        by_cases hm : m ∈ ns
        · rw [if_pos hm] at o1; exact o1.elim
        · rw [if_neg hm] at o1
          cases hf : tabAt c tab with
          | none => rw [hf] at o1; exact o1.elim
          | some g =>
            rw [hf] at o1
            obtain ⟨fn, mk, hd⟩ := ht (c, g) (tab_mem hf)
            obtain ⟨k, fa, fd, me, F⟩ := mk.ex Ca k1.at_
            refine ⟨a', Ca, dx, _, fa, rfl, ea', k1.t.cls, me, look_no hm, ?_⟩
            refine tA_bind (O := fun L H r => Out (gx X) L H Q r) Out.fam q1 e1 o1 fun us H2 L2 s2 ps' v2 q2 e2 r2 o2 => ?_
            exact fn_runOk F.run F.bad (F.binds hd) (F.room.mono (Nat.le_succ _)) hg q2 (.cons (r1.ev v2) r2) o2
      | _ => exact o1.elim
/-- o.m(.., k = ..) -/
theorem sE_methk {tab : List (String × Nat)} {kws : List Keyword} {ks : List Str} {perm : List Nat} {es2 : Es} {dd : List D} (hg : X.A.guards = some []) (ht : ∀ q ∈ tab, ∃ fn, MetOk X C q.1 m q.2 fn ∧ (xs.length + 1, ks, perm) ∈ fn.ways ∧ perm.length = fn.ps.length ∧ fn.dfs = dd) (ha : SE X C a ea) (hs : SA X C xs es) (hkw : SK X C kws es2) (hbase : baseB a = true) (hp : xs.all plainX = true)
    (hks : kws.map (·.arg) = ks.map some) (hfew : xs.length + kws.length < 29) (hline : (apos.endLine == pos.line) = true) (hnil : xs = [] → es = .nil) (hl1 : ∀ ρ st l st', evEs C es ρ st = .ok l st' → l.length = xs.length) (hl2 : ∀ ρ st l st', evEs C es2 ρ st = .ok l st' → l.length = ks.length) :
    SE X C (.Call (.Attribute a (Str.ofString m) apos) xs kws pos) (.methk m tab perm ea es es2 dd) := by
  refine ⟨fun pins s σ H Q I h => ?_⟩
  refine PySem.W.methodCall_KW (thn (ha.run pins s σ H (fun v H1 => ∃ L1 s1 p, SRel X.K L1 H1 s1 ∧ (∃ ρ, ERel X.K L1 H1 ρ σ ∧ RepP X.K L1 H1 p v ∧ Out (gx X) L1 H1 Q (match p.rd s1 with
    | some (.ins c ns _) => if m ∈ ns then .bad else match tabAt c tab with
      | some f => (evEs C es ρ s1).bind fun xs s2 => (evEs C es2 ρ s2).bind fun zs s3 => match pickAll (p :: xs ++ zs ++ dd.map PV.d) perm with
        | some ys => C.call f ys s3
        | none => .bad
      | none => .bad
    | _ => .bad))) I ?_) fun u s1 ⟨v, H1, I1, rv, L1, c1, p, q1, ρ, e1, r1, o1⟩ => ?_) (eval_meth hks hbase hp hfew hline X.env)
  · obtain ⟨L, ρ, st, s, e, o⟩ := h
    simp only [evE] at o
    exact tM_bind (O := fun L H r => Out (gx X) L H Q r) Out.fam s e o fun v H1 L1 s1 p v1 q1 e1 r1 o1 => ⟨L1, s1, p, q1, ρ, e1, r1, o1⟩
  · cases h : p.rd c1 with
    | none => rw [h] at o1; exact o1.elim
    | some d =>
      rw [h] at o1
      cases d with
      | ins c ns vs =>
        simp only at o1
        obtain ⟨a', Ca, dx, ws, rfl, k1, ea', hl, rs⟩ := rd_w q1 r1 h
        obtain rfl : u = Value.ref a' := rv
        by_cases hm : m ∈ ns
        · rw [if_pos hm] at o1; exact o1.elim
        · rw [if_neg hm] at o1
          cases hf : tabAt c tab with
          | none => rw [hf] at o1; exact o1.elim
          | some g =>
            rw [hf] at o1
            obtain ⟨fn, mk, hq, hpl, hd⟩ := ht (c, g) (tab_mem hf)
            subst hd
            obtain ⟨k, fa, fd, me, F⟩ := mk.ex Ca k1.at_
            refine getmeth_ok I1 ea' k1.t.cls me (look_no hm) ?_
            refine cw_run (first := [.ref a']) I1 me.kp hks hp hs hkw (tA_nil0 hnil) ?_
            have z := two_args (Q1 := fun vs zs H2 => RunOkK X (.ref fa) [.ref a'] ks vs zs H2 Q) (O := fun L H r => RepP X.K L H p (.ref a') ∧ Out (gx X) L H Q r) (m1 := evEs C es) (m2 := evEs C es2) (G := gx X) (σ := σ) ⟨fun e o => ⟨o.1.ev e, o.2.ev e⟩, fun o => o.2, fun o => o.2⟩ q1 e1 ⟨r1, o1⟩ hl1 hl2 fun vs zs H2 L2 s2 ds gs v2 q2 rd rg n1 n2 o2 =>
              fn_runOkK F hq hpl hg (us0 := [.ref a']) (vs0 := [.ref a']) (.cons rfl .nil) q2 (.cons o2.1 rd) rg (by rw [List.length_cons, n1]) n2 o2.2
            exact z
      | _ => exact o1.elim
theorem sE_fld (hbase : baseB a = true) (ha : SE X C a ea) : SE X C (.Attribute a (Str.ofString f) pos) (.fld ea f) :=
  pe_imp (pe_fld ha (base_plain (fun id p p2 z => by subst z; cases hbase) _ X.env)) fun σ H Q ⟨L, ρ, st, s, e, o⟩ => by
    simp only [evE] at o
    refine tM_bind (O := fun L H r => Out (gx X) L H Q r) Out.fam s e o fun v H1 L1 s1 p v1 q1 e1 r1 o1 => ?_
    cases h : p.rd s1 with
    | none => rw [h] at o1; exact o1.elim
    | some d =>
      rw [h] at o1
      cases d with
      | ins c ns vs =>
        simp only at o1
        obtain ⟨a', Ca, dx, ws, rfl, k1, ea', hl, rs⟩ := rd_w q1 r1 h
        cases hf : fldN f ns vs with
        | none => simp only [hf, Option.map, lift, Out] at o1
        | some y =>
          simp only [hf, Option.map, lift] at o1
          obtain ⟨w, h1, h2, h3⟩ := fld_look rs hf
          exact ⟨a', Ca, dx, _, w, rfl, ea', k1.t.cls, k1.no f h3, h1, o1.val q1 h2⟩
      | _ => exact o1.elim

/-! ### making -/
/-- what is known of a class that is made -/
structure MakOk (X : L2.Cx) (C : Cl) (c : String) (f : Nat) (fn : Fn) : Prop where
  ex : ∃ Ca k fa fd, PySem.W.nsIn X.K mainGlobals (Str.ofString c) = some (some (.ref Ca)) ∧ X.mg (Str.ofString c) = some (.ref Ca) ∧ ClsT X.K Ca ∧ Mk X.K Ca fa ∧ FnOkD X C f fn k fa fd
theorem make_guards {A : Around} {Ca : Addr} {us : List Value} {kw : List (Str × Value)} : (A.under (.builtin "type.__call__" ⟨.ref Ca :: us, kw⟩)).guards = A.guards := by
  show pushGuards (Code.guards (.builtin "type.__call__" ⟨.ref Ca :: us, kw⟩)) A.guards = A.guards
  have e : Code.guards (.builtin "type.__call__" ⟨.ref Ca :: us, kw⟩) = [] := by
    unfold Code.guards
    rw [if_neg]
    show ¬ (guardIds.contains "type.__call__") = true
    decide +kernel
  rw [e]; rfl
/-- a new instance, by its __init__ -/
theorem make_runOk {k f : Nat} {fa Ca : Addr} {fd : FuncData} {fn : Fn} {L : Plc} {H : Hp} {st : CS} {ds gs ys : List PV} {vs zs : List V} {ks : List Str} {perm : List Nat} {dd : List D} {Q : VK} {cn : String} (M : Mk X.K Ca fa) (F : FnOkD X C f fn k fa fd) (hb : KB X.K fd fn.ps (ds.length + 1) ks perm dd) (hpl : perm.length = fn.ps.length) (hg : X.A.guards = some [])
    (hc : ClsAt X.K cn Ca []) (q : SRel X.K L H st) (rd : RepPs X.K L H ds vs) (rg : RepPs X.K L H gs zs) (hgs : gs.length = ks.length) (hpk : pickAll (.obj st.length :: ds ++ gs ++ dd.map PV.d) perm = some ys)
    (h : ∀ x dx, H x = none → H dx = none → dx ≠ x → SRel X.K ⟨L.c ++ [some x], L.h⟩ (upd (upd H dx (.own x)) x (.ins Ca dx [])) (st ++ [.ins cn [] []]) → Ev L H ⟨L.c ++ [some x], L.h⟩ (upd (upd H dx (.own x)) x (.ins Ca dx [])) →
      Out (gx X) ⟨L.c ++ [some x], L.h⟩ (upd (upd H dx (.own x)) x (.ins Ca dx [])) (fun v H2 => v = .non ∧ Q (.ref x) H2) (C.call f ys (st ++ [.ins cn [] []]))) : RunOkK X (.ref Ca) [] ks vs zs H Q := fun pins σ s us ws I r rz => by
  have hx : H (s.heap.objs.size + 1) = none := I.hok.fresh (Nat.le_succ _)
  have hd : H s.heap.objs.size = none := I.hok.fresh (Nat.le_refl _)
  have hne : s.heap.objs.size ≠ s.heap.objs.size + 1 := Nat.ne_of_lt (Nat.lt_succ_self _)
  have grow : ∀ a o, H a = some o → upd (upd H s.heap.objs.size (.own (s.heap.objs.size + 1))) (s.heap.objs.size + 1) (.ins Ca s.heap.objs.size []) a = some o := fun a o e => by
    rw [upd_ne (ne_of_none e hx), upd_ne (ne_of_none e hd)]; exact e
  obtain ⟨v2, q2⟩ := q.push (c := .ins cn [] []) hx grow ⟨Ca, s.heap.objs.size, [], hc, upd_same, rfl, .nil⟩
  have o := h (s.heap.objs.size + 1) s.heap.objs.size hx hd hne q2 v2
  have I2 := Inv.made (C := Ca) I
  have rd2 : RepPs X.K ⟨L.c ++ [some (s.heap.objs.size + 1)], L.h⟩ (upd (upd H s.heap.objs.size (.own (s.heap.objs.size + 1))) (s.heap.objs.size + 1) (.ins Ca s.heap.objs.size [])) (.obj st.length :: ds) (.ref (s.heap.objs.size + 1) :: vs) := by
    refine .cons ⟨?_, fun a ha => ?_⟩ (paired_ev rd v2)
    · show st.length < (L.c ++ [some (s.heap.objs.size + 1)]).length
      rw [List.length_append, q.len]; simp
    · have ha : (L.c ++ [some (s.heap.objs.size + 1)])[st.length]? = some (some a) := ha
      rw [q.len] at ha
      simp at ha
      rw [ha]
  have r2 : Vals (V.ref (s.heap.objs.size + 1) :: vs) (Value.ref (s.heap.objs.size + 1) :: us) := .cons rfl r
  obtain ⟨dus, hdd, hb⟩ := hb
  obtain ⟨dvs, d1, d2⟩ := hdd ⟨L.c ++ [some (s.heap.objs.size + 1)], L.h⟩ (upd (upd H s.heap.objs.size (.own (s.heap.objs.size + 1))) (s.heap.objs.size + 1) (.ins Ca s.heap.objs.size []))
  obtain ⟨vy, e1, e2⟩ := pick_rel (paired_app (paired_app rd2 (paired_ev rg v2)) d2.ps) hpk
  obtain ⟨uy, e3, e4⟩ := pick_rel (paired_app (paired_app r2 rz) d1) e1
  have hu : (Value.ref (s.heap.objs.size + 1) :: us).length = ds.length + 1 := by rw [← r2.length, ← rd2.len]; rfl
  have hw : ws.length = ks.length := by rw [← rz.length, ← rg.len]; exact hgs
  have hyl : ys.length = fn.ps.length := by rw [pick_len hpk]; exact hpl
  have hbt := hb { s with heap := (s.heap.push PySem.W.emptyDict).push (PySem.W.instObj Ca s.heap.objs.size) } (Value.ref (s.heap.objs.size + 1) :: us) ws uy I2.kIn hu hw e3
  refine wpAny_call (make_map (f := fa) I.kIn M.makes M.init (beq_iff_eq.mp M.fn) (codeAny_mono (F.run.run _ X.stack _ _ ⟨Value.ref (s.heap.objs.size + 1) :: us, ks.zip ws⟩ uy _ _ (Ex X) _ _ _ (F.room.make Ca us (ks.zip ws)) (by rw [make_guards]; exact hg)
    (I2.env0.make Ca us (ks.zip ws)) hbt e4 q2 e2 hyl o) fun r s' hq' => ?_))
  cases r with
  | error e => exact passes_call (takesEx X) (fun _ _ _ _ h => h) pins σ _ _ e s' I2 hq'
  | ok fl =>
    cases fl with
    | ret u =>
      obtain ⟨v, H', I3, rv, ev, q3⟩ := I2.after hq'
      subst ev
      exact ⟨rv, ⟨V.ref (s.heap.objs.size + 1), H', I3, rfl, q3⟩⟩
    | next => exact False.elim hq'
    | brk => exact False.elim hq'
    | cont => exact False.elim hq'
theorem pick_range {α : Type} : ∀ (l : List α), pickAll l (List.range l.length) = some l := fun l => by
  have key : ∀ (l pre : List α), pickAll (pre ++ l) ((List.range l.length).map (· + pre.length)) = some l := by
    intro l
    induction l with
    | nil => intro pre; rfl
    | cons x r ih =>
      intro pre
      rw [List.length_cons, List.range_succ_eq_map, List.map_cons, List.map_map]
      simp only [pickAll]
      have e0 : (pre ++ x :: r)[0 + pre.length]? = some x := by
        rw [Nat.zero_add, List.getElem?_append_right (Nat.le_refl _)]; simp
      rw [e0]
      have e1 := ih (pre ++ [x])
      rw [List.append_assoc] at e1
      have e2 : ((List.range r.length).map ((fun i => i + pre.length) ∘ Nat.succ)) = (List.range r.length).map (· + (pre ++ [x]).length) := by
        refine List.map_congr_left fun i _ => ?_
        simp only [Function.comp_apply, List.length_append, List.length_cons, List.length_nil]
        omega
      rw [e2]
      show (some x).bind (fun y => (pickAll (pre ++ ([x] ++ r)) _).map (y :: ·)) = _
      rw [e1]; rfl
  have := key l []
  simpa using this
theorem binds_kb {K : PySem.W.Frag} {fd : FuncData} {ps : List Str} (hb : Binds K fd ps []) : KB K fd ps ps.length [] (List.range ps.length) [] := by
  refine ⟨[], fun L H => ⟨[], .nil, .nil⟩, fun s us ws ys hk hu hw hy => ?_⟩
  cases ws with
  | cons _ _ => simp at hw
  | nil =>
    rw [List.append_nil, List.append_nil, ← hu, pick_range] at hy
    cases hy
    have := hb s us hk (by rw [List.append_nil]; exact hu)
    rw [List.append_nil] at this
    exact this
/-- C(..) -/
theorem pe_callD {u : Addr} {t t2 : TA} {kws : List Keyword} {ks : List Str} (gl : Gl X x) (hm : X.mg x = some (.ref u)) (hk : PySem.W.keepIn X.K (.ref u) = true) (hdb : (x == ("__debug__" : Str)) = false) (hp : xs.all plainX = true) (hks : kws.map (·.arg) = ks.map some) (ha : PA X xs t) (hkw : PK X kws t2) (hnil : xs = [] → ∀ σ H Q, t σ H Q → Q [] H) :
    PE X (.Call (.Name x p) xs kws pos) (fun σ H Q => t σ H fun vs H1 => t2 σ H1 fun zs H2 => RunOkK X (.ref u) [] ks vs zs H2 Q) := by
  refine ⟨fun pins s σ H Q I h => ?_⟩
  refine wpAny_Call_Name_kw (ld_glob I gl hm ?_ hdb)
  exact cw_run (first := []) I hk hks hp ha hkw hnil h
/-- what follows the making -/
theorem made_out {L1 : Plc} {H1 : Hp} {s1 : CS} {x dx Ca : Addr} {Q : VK} {r : R PV} (q1 : SRel X.K L1 H1 s1) (v2 : Ev L1 H1 ⟨L1.c ++ [some x], L1.h⟩ (upd (upd H1 dx (.own x)) x (.ins Ca dx [])))
    (o1 : Out (gx X) L1 H1 Q (r.bind fun r s2 => match r, s2[s1.length]? with
      | .d .non, some (.ins c' ns vs) => .ok (.d (.ins c' ns vs)) (s2.take s1.length)
      | _, _ => .bad)) : Out (gx X) ⟨L1.c ++ [some x], L1.h⟩ (upd (upd H1 dx (.own x)) x (.ins Ca dx [])) (fun v H2 => v = .non ∧ Q (.ref x) H2) r := by
  cases r with
  | bad => exact o1.elim
  | exc xc xn xv xs => exact OutX.ev o1 v2
  | ok pr s2 =>
    intro L2 H2 v ev2 q3 rp
    simp only [R.bind] at o1
    cases pr with
    | d z => cases z with
      | non =>
        have rp' : Rep X.K L2 H2 .non v := rp
        cases rp'
        refine ⟨rfl, ?_⟩
        cases hc : s2[s1.length]? with
        | none => rw [hc] at o1; exact o1.elim
        | some cl =>
          rw [hc] at o1
          cases cl with
          | ins c' ns ws =>
            simp only at o1
            obtain ⟨a', C', dx', us, g1, g2, g3, g4, g5⟩ := q3.atI hc
            have hxc : (L1.c ++ [some x])[s1.length]? = some (some x) := by rw [q1.len]; simp
            have ea : a' = x := by
              rcases ev2.get _ _ hxc with z | z
              · rw [g1] at z; cases z; rfl
              · rw [g1] at z; cases z
            subst ea
            have v3 : Ev L1 H1 ⟨L2.c.take s1.length, L2.h⟩ H2 := cutEv q1 (v2.trans ev2) _ (Nat.le_refl _)
            have nx : ¬ Plc.has ⟨L2.c.take s1.length, L2.h⟩ a' := fun m => by
              rcases m with m | m
              · obtain ⟨j, hj, ej⟩ := List.mem_iff_getElem.mp m
                have hj' : j < s1.length := by rw [List.length_take] at hj; omega
                have hj2 : j < L2.c.length := by rw [List.length_take] at hj; omega
                rw [List.getElem_take] at ej
                have := q3.inj j s1.length a' (by rw [List.getElem?_eq_getElem hj2, ej]) g1
                omega
              · exact (q3.hid a' m).2 (List.mem_of_getElem? g1)
            exact o1 _ H2 (.ref a') v3 (q3.cut _) (Rep.ins g2 g3 nx g4 (g5.sub fun a h => h.elim (fun z => .inl (List.mem_of_mem_take z)) .inr))
          | _ => exact o1.elim
      | _ => exact o1.elim
    | _ => exact o1.elim
theorem sE_mkk {cn : String} {g : Nat} {fn : Fn} {kws : List Keyword} {ks : List Str} {perm : List Nat} {es2 : Es} (hg : X.A.guards = some []) (K : MakOk X C cn g fn) (hq : (xs.length + 1, ks, perm) ∈ fn.ways) (hpl : perm.length = fn.ps.length) (gl : Gl X (Str.ofString cn)) (hdb : (Str.ofString cn == ("__debug__" : Str)) = false) (hp : xs.all plainX = true) (hks : kws.map (·.arg) = ks.map some) (hs : SA X C xs es) (hkw : SK X C kws es2)
    (hnil : xs = [] → es = .nil) (hl1 : ∀ ρ st l st', evEs C es ρ st = .ok l st' → l.length = xs.length) (hl2 : ∀ ρ st l st', evEs C es2 ρ st = .ok l st' → l.length = ks.length) : SE X C (.Call (.Name (Str.ofString cn) p) xs kws pos) (.mkk cn g perm es es2 fn.dfs) := by
  obtain ⟨Ca, k, fa, fd, h1, h2, h3, M, F⟩ := K.ex
  exact pe_imp (pe_callD gl h2 M.kp hdb hp hks hs hkw (tA_nil0 hnil)) fun σ H Q ⟨L, ρ, st, s, e, o⟩ => by
    simp only [evE] at o
    refine two_args (O := fun L H r => Out (gx X) L H Q r) Out.fam s e o hl1 hl2 fun vs zs H1 L1 s1 ds gs v1 q1 r1 rg n1 n2 o1 => ?_
    have hpk : ∃ ys, pickAll (.obj s1.length :: ds ++ gs ++ fn.dfs.map PV.d) perm = some ys := by
      cases z : pickAll (.obj s1.length :: ds ++ gs ++ fn.dfs.map PV.d) perm with
      | none => rw [z] at o1; exact o1.elim
      | some ys => exact ⟨ys, rfl⟩
    obtain ⟨ys, hpk⟩ := hpk
    rw [hpk] at o1
    exact make_runOk M F (by rw [n1]; exact F.ways _ hq) hpl hg (cn := cn) ⟨h1, h3, fun f hf => absurd hf List.not_mem_nil⟩ q1 r1 rg n2 hpk fun x dx hx hdx hne q2 v2 => made_out q1 v2 o1
theorem sE_mk {cn : String} {g : Nat} {fn : Fn} (hg : X.A.guards = some []) (K : MakOk X C cn g fn) (hd : fn.dfs = []) (hn : xs.length + 1 = fn.ps.length) (gl : Gl X (Str.ofString cn)) (hdb : (Str.ofString cn == ("__debug__" : Str)) = false) (hp : xs.all plainX = true) (hs : SA X C xs es) (hnil : xs = [] → es = .nil) (hl1 : ∀ ρ st l st', evEs C es ρ st = .ok l st' → l.length = xs.length) : SE X C (.Call (.Name (Str.ofString cn) p) xs [] pos) (.mk cn g es) := by
  obtain ⟨Ca, k, fa, fd, h1, h2, h3, M, F⟩ := K.ex
  exact pe_imp (pe_callD (ks := []) gl h2 M.kp hdb hp rfl hs (sK_nil (C := C)) (tA_nil0 hnil)) fun σ H Q ⟨L, ρ, st, s, e, o⟩ => by
    simp only [evE] at o
    refine two_args (m2 := evEs C .nil) (kk := fun xs _ s1 => (C.call g (.obj s1.length :: xs) (s1 ++ [.ins cn [] []])).bind fun r s2 => match r, s2[s1.length]? with
      | .d .non, some (.ins c' ns vs) => .ok (.d (.ins c' ns vs)) (s2.take s1.length)
      | _, _ => .bad) (n2 := 0) (O := fun L H r => Out (gx X) L H Q r) Out.fam s e ?_ hl1 (fun ρ st l st' h => by simp only [evEs] at h; cases h; rfl) fun vs zs H1 L1 s1 ds gs v1 q1 r1 rg n1 n2 o1 => ?_
    · have hz : ∀ (s1 : CS), evEs C .nil ρ s1 = .ok [] s1 := fun _ => by simp only [evEs]
      simp only [hz]
      exact o
    · have hgs : gs = [] := List.length_eq_zero_iff.mp n2
      subst hgs
      have hkb := binds_kb (F.binds hd)
      have hlen : (PV.obj s1.length :: ds).length = fn.ps.length := by rw [List.length_cons, n1]; exact hn
      refine make_runOk M F (ds := ds) (perm := List.range fn.ps.length) (dd := []) (ys := .obj s1.length :: ds) (by rw [n1, hn]; exact hkb) (by simp) hg (cn := cn) ⟨h1, h3, fun f hf => absurd hf List.not_mem_nil⟩ q1 r1 rg n2 ?_ fun x dx hx hdx hne q2 v2 => made_out q1 v2 o1
      rw [List.append_nil]
      show pickAll ((PV.obj s1.length :: ds) ++ []) _ = _
      rw [List.append_nil, ← hlen]
      exact pick_range _
/-- an instance that may be changed further -/
theorem sE_mkM {cn : String} {g : Nat} {fn : Fn} (hg : X.A.guards = some []) (K : MakOk X C cn g fn) (hd : fn.dfs = []) (hn : xs.length + 1 = fn.ps.length) (gl : Gl X (Str.ofString cn)) (hdb : (Str.ofString cn == ("__debug__" : Str)) = false) (hp : xs.all plainX = true) (hs : SA X C xs es) (hnil : xs = [] → es = .nil) (hl1 : ∀ ρ st l st', evEs C es ρ st = .ok l st' → l.length = xs.length) : SE X C (.Call (.Name (Str.ofString cn) p) xs [] pos) (.mkM cn g es) := by
  obtain ⟨Ca, k, fa, fd, h1, h2, h3, M, F⟩ := K.ex
  exact pe_imp (pe_callD (ks := []) gl h2 M.kp hdb hp rfl hs (sK_nil (C := C)) (tA_nil0 hnil)) fun σ H Q ⟨L, ρ, st, s, e, o⟩ => by
    simp only [evE] at o
    refine two_args (m2 := evEs C .nil) (kk := fun xs _ s1 => (C.call g (.obj s1.length :: xs) (s1 ++ [.ins cn [] []])).bind fun r s2 => match r with
      | .d .non => .ok (.obj s1.length) s2
      | _ => .bad) (n2 := 0) (O := fun L H r => Out (gx X) L H Q r) Out.fam s e ?_ hl1 (fun ρ st l st' h => by simp only [evEs] at h; cases h; rfl) fun vs zs H1 L1 s1 ds gs v1 q1 r1 rg n1 n2 o1 => ?_
    · have hz : ∀ (s1 : CS), evEs C .nil ρ s1 = .ok [] s1 := fun _ => by simp only [evEs]
      simp only [hz]
      exact o
    · have hgs : gs = [] := List.length_eq_zero_iff.mp n2
      subst hgs
      have hkb := binds_kb (F.binds hd)
      have hlen : (PV.obj s1.length :: ds).length = fn.ps.length := by rw [List.length_cons, n1]; exact hn
      refine make_runOk M F (ds := ds) (perm := List.range fn.ps.length) (dd := []) (ys := .obj s1.length :: ds) (by rw [n1, hn]; exact hkb) (by simp) hg (cn := cn) ⟨h1, h3, fun f hf => absurd hf List.not_mem_nil⟩ q1 r1 rg n2 ?_ fun x dx hx hdx hne q2 v2 => ?_
      · rw [List.append_nil]
        show pickAll ((PV.obj s1.length :: ds) ++ []) _ = _
        rw [List.append_nil, ← hlen]
        exact pick_range _
      · cases rc : C.call g (.obj s1.length :: ds) (s1 ++ [.ins cn [] []]) with
        | bad => rw [rc] at o1; exact o1.elim
        | exc xc xn xv xs => rw [rc] at o1; exact OutX.ev o1 v2
        | ok pr s2 =>
          rw [rc] at o1
          intro L2 H2 v ev2 q3 rp
          simp only [R.bind] at o1
          cases pr with
          | d z => cases z with
            | non =>
              have rp' : Rep X.K L2 H2 .non v := rp
              cases rp'
              refine ⟨rfl, ?_⟩
              have hxc : (L1.c ++ [some x])[s1.length]? = some (some x) := by rw [q1.len]; simp
              refine o1 L2 H2 (.ref x) (v2.trans ev2) q3 ⟨?_, fun a ha => ?_⟩
              · have := ev2.len
                have e2 : (L1.c ++ [some x]).length = s1.length + 1 := by rw [q1.len]; simp
                have this : (L1.c ++ [some x]).length ≤ L2.c.length := this
                omega
              · rcases ev2.get _ _ hxc with z | z
                · rw [ha] at z; cases z; rfl
                · rw [ha] at z; cases z
            | _ => exact o1.elim
          | _ => exact o1.elim

/-! ### isinstance of own classes -/
structure IscOk (X : L2.Cx) (t : String) (yes no : List String) : Prop where
  ex : ∃ T, X.mg (Str.ofString t) = some (.ref T) ∧ (∀ c ∈ yes, ∀ Ca, PySem.W.nsIn X.K mainGlobals (Str.ofString c) = some (some (.ref Ca)) → PySem.W.kitOne X.K (.ref Ca) (.ref T) = some true) ∧
    (∀ c ∈ no, ∀ Ca, PySem.W.nsIn X.K mainGlobals (Str.ofString c) = some (some (.ref Ca)) → PySem.W.kitOne X.K (.ref Ca) (.ref T) = some false) ∧
    ∀ n ∈ ["NoneType", "bool", "int", "str", "list", "tuple", "dict"], PySem.W.kitOne X.K (.type n) (.ref T) = some false
theorem kit_isc {K : PySem.W.Frag} {L : Plc} {H : Hp} {d : D} {v : V} {T : Addr} {yes no : List String} {b : Bool} (r : RepW K L H d v) (h : iscD yes no d = some b)
    (hy : ∀ c ∈ yes, ∀ Ca, PySem.W.nsIn K mainGlobals (Str.ofString c) = some (some (.ref Ca)) → PySem.W.kitOne K (.ref Ca) (.ref T) = some true) (hn : ∀ c ∈ no, ∀ Ca, PySem.W.nsIn K mainGlobals (Str.ofString c) = some (some (.ref Ca)) → PySem.W.kitOne K (.ref Ca) (.ref T) = some false)
    (hb : ∀ n ∈ ["NoneType", "bool", "int", "str", "list", "tuple", "dict"], PySem.W.kitOne K (.type n) (.ref T) = some false) : ∃ t, TyX K H v t ∧ PySem.W.kitOne K t (.ref T) = some b := by
  cases d with
  | lst l =>
    obtain ⟨a, vs, rfl, e, q⟩ := r
    cases h
    exact ⟨.type "list", .base (.lst e), hb _ (by simp)⟩
  | non =>
    have r' : Rep K L H .non v := r
    cases r'; cases h
    exact ⟨_, .base .non, hb _ (by simp)⟩
  | bl c =>
    have r' : Rep K L H (.bl c) v := r
    cases r'; cases h
    exact ⟨_, .base (.bl c), hb _ (by simp)⟩
  | int i =>
    have r' : Rep K L H (.int i) v := r
    cases r'; cases h
    exact ⟨_, .base (.int i), hb _ (by simp)⟩
  | str z =>
    have r' : Rep K L H (.str z) v := r
    cases r'; cases h
    exact ⟨_, .base (.str z), hb _ (by simp)⟩
  | tup l =>
    cases h
    have r' : Rep K L H (.tup l) v := r
    cases r' with
    | tup e n q => exact ⟨.type "tuple", .base (.tup e), hb _ (by simp)⟩
    | tupK e q =>
      rcases e with (e | ⟨o, e⟩) | ⟨o, its, n, e, c, _⟩
      · cases e
      · cases e
      · exact ⟨.type "tuple", .kTuple e c, hb _ (by simp)⟩
  | dct ks vs =>
    cases h
    have r' : Rep K L H (.dct ks vs) v := r
    cases r' with
    | dct e n kk q => exact ⟨_, .base (.dK e), hb _ (by simp)⟩
  | ins c ns vs =>
    obtain ⟨a, C, dx, ws, rfl, k1, e, _, _⟩ := r
    refine ⟨_, k1.ty e, ?_⟩
    have h : (if c ∈ yes then some true else if c ∈ no then some false else none) = some b := h
    by_cases h1 : c ∈ yes
    · rw [if_pos h1] at h; cases h
      exact hy c h1 C k1.at_
    · rw [if_neg h1] at h
      by_cases h2 : c ∈ no
      · rw [if_pos h2] at h; cases h
        exact hn c h2 C k1.at_
      · rw [if_neg h2] at h; cases h
theorem sE_isc {t : String} {yes no : List String} (k : IscOk X t yes no) (gl : Gl X "isinstance") (hm : X.mg "isinstance" = none) (gt : Gl X (Str.ofString t)) (hdt : (Str.ofString t == ("__debug__" : Str)) = false) (hp : plainX a = true) (ha : SE X C a ea) {p2 : Pos} :
    SE X C (.Call (.Name "isinstance" p) [a, .Name (Str.ofString t) p2] [] pos) (.isc ea t yes no) := by
  obtain ⟨T, h1, hy, hn, hb⟩ := k.ex
  have hx : PE X (.Name (Str.ofString t) p2) (tC (.ref T)) := pe_glob gt h1 rfl hdt
  have h := pe_callB (pos := pos) (p := p) call_isi gl hm (by decide +kernel) (pa_cons ha (pa_cons hx pa_nil) (star_plain hp _ _)) (by decide) (by decide) (star_plain hp _ _) rfl
  exact pe_imp h fun σ H Q ⟨L, ρ, st, s, e, o⟩ => by
    simp only [evE] at o
    refine tM_bind (O := fun L H r => Out (gx X) L H Q r) Out.fam s e o fun v H1 L1 s1 p v1 q1 e1 r1 o1 => ?_
    cases h : p.rd s1 with
    | none => rw [h] at o1; exact o1.elim
    | some d =>
      rw [h] at o1
      cases hd : iscD yes no d with
      | none => simp only [Option.bind, hd, Option.map, lift, Out] at o1
      | some b =>
        simp only [Option.bind, hd, Option.map, lift] at o1
        obtain ⟨ty, t1, t2⟩ := kit_isc (rd_w q1 r1 h) hd hy hn hb
        exact ⟨v, .ref T, ty, .ref T, b, rfl, .own _, t1, t2, o1.val q1 (.bl _)⟩

/-! ### a field is stored -/
structure FldOk (X : L2.Cx) (c f : String) : Prop where
  ex : ∀ Ca, PySem.W.nsIn X.K mainGlobals (Str.ofString c) = some (some (.ref Ca)) → NoAttr X.K Ca (Str.ofString f)
theorem sS_setF {cs : List String} {tp : Pos} (hk : ∀ c ∈ cs, FldOk X c f) (hc : notComp b = true) (ha : SE X C a ea) (hb : SE X C b eb) : SS X C (.Assign [.Attribute a (Str.ofString f) tp] b pos) (.setF cs ea f eb) :=
  ps_imp (ps_fld ha hb (swaps_plain hc _ _ _)) fun D σ H ⟨L, ρ, st, s, e, o⟩ => by
    simp only [exS] at o
    refine tM_bind (O := OutS (gx X) D) OutS.fam s e o fun y H1 L1 s1 py v1 q1 e1 r1 o1 => ?_
    refine tM_bind (O := OutS (gx X) D) OutS.fam q1 e1 o1 fun w H2 L2 s2 pw v2 q2 e2 r2 o2 => ?_
    have ry := r1.ev v2
    cases pw with
    | obj k => cases py with
      | d dy =>
        simp only at o2
        cases h : s2[k]? with
        | none => rw [h] at o2; exact o2.elim
        | some cl =>
          rw [h] at o2
          cases cl with
          | ins c ns vs =>
            simp only at o2
            by_cases hcs : c ∈ cs ∧ ns.length < 1000
            · rw [if_pos hcs] at o2
              obtain ⟨p, Ca, dx, ws, g1, g2, g3, g4, g5⟩ := q2.atI h
              obtain ⟨ws', z1, z2, z3, z4⟩ := put_zip (f := f) ry g4 g5
              have hl : ((oSs ns).zip ws).length < 1000 := by
                rw [List.length_zip, oSs_len]; omega
              have hno : NoAttr X.K Ca (Str.ofString f) := (hk c hcs.1).ex Ca g2.at_
              have stay : ∀ b u, H2 b = some u → ¬ L2.has b → upd H2 p (.ins Ca dx (putF (Str.ofString f) y ((oSs ns).zip ws))) b = some u ∧ ¬ L2.has b := fun b u e n => ⟨by rw [upd_ne fun z => n (.inl (by rw [z]; exact List.mem_of_getElem? g1))]; exact e, n⟩
              obtain ⟨ev, sr⟩ := q2.putC (k := k) (c := .ins c (putN f dy ns vs).1 (putN f dy ns vs).2) (o := .ins Ca dx (putF (Str.ofString f) y ((oSs ns).zip ws))) (List.getElem?_eq_some_iff.mp h).1 g1
                ⟨Ca, dx, ws', ⟨g2.at_, g2.t, fun g hg => (z4 g hg).elim (fun e => by rw [e]; exact hno) (g2.no g)⟩, by rw [upd_same, z1], z2, z3.map stay⟩
              exact ⟨p, Ca, dx, _, r2.2 p g1, g3, g2.t.cls, hno, hl, o2 L2 _ σ ev sr (e2.ev ev)⟩
            · rw [if_neg hcs] at o2; exact o2.elim
          | _ => exact o2.elim
      | _ => exact o2.elim
    | _ => cases py <;> exact o2.elim

end
end PD

set_option Elab.async false
set_option linter.all false
set_option autoImplicit false
set_option maxRecDepth 100000
/-! PdL: whether an expression of the text is a given one of the small language: a checker, and its proof. -/
namespace PD
open PySem PySem.Spec L2

structure Tbl where
  fns : List Fn
  free : List Str
  consts : List (Str × D)
  mets : List (String × String × Nat) := []
  maks : List (String × Nat) := []
  iscs : List (String × List String × List String) := []
  flds : List (String × String) := []
/-- what is asked of an expression: its value; its truth; a new list; the parts of a comprehension -/
inductive Md where | val | test | new | comp

def sq (a b : Str) : Bool := a.cps.toList == b.cps.toList
theorem sq_ok {a b : Str} (h : sq a b = true) : a = b := by
  have h' : a.cps.toList = b.cps.toList := by simpa [sq] using h
  cases a; cases b
  simp only [Str.mk.injEq]
  exact Array.toList_inj.mp h'
theorem sq_no {a b : Str} (h : (!sq a b) = true) : (a == b) = false := by
  have h' : sq a b = false := by simpa using h
  rw [beq_eq_false_iff_ne]
  rintro rfl
  simp [sq] at h'
def lk (sc : Scope) (n : Str) : Option NameKind := (sc.names.find? fun p => sq n p.1).map (·.2)
theorem lk_ok (sc : Scope) (n : Str) : lk sc n = sc.names.lookup n := by
  unfold lk
  induction sc.names with
  | nil => rfl
  | cons p r ih =>
    obtain ⟨m, k⟩ := p
    rw [List.find?_cons, List.lookup_cons]
    have : (n == m) = sq n m := by
      cases h : sq n m with
      | true => rw [sq_ok h]; simp
      | false => exact sq_no (by rw [h]; rfl)
    rw [this]
    cases sq n m with
    | true => rfl
    | false => exact ih
def leafM : Md → Bool
  | .val => true
  | .test => true
  | _ => false
def listM : Md → Bool
  | .comp => false
  | _ => true
def isBo : BO → Operator → Bool
  | .add, .Add => true
  | .sub, .Sub => true
  | .mul, .Mult => true
  | .fdiv, .FloorDiv => true
  | .mod, .Mod => true
  | .pow, .Pow => true
  | _, _ => false
theorem isBo_ok {o : BO} {p : Operator} (h : isBo o p = true) : p = boOp o := by cases o <;> cases p <;> first | rfl | cases h
def isCo : CO → CmpOp → Bool
  | .eq, .Eq => true
  | .ne, .NotEq => true
  | .lt, .Lt => true
  | .le, .LtE => true
  | .gt, .Gt => true
  | .ge, .GtE => true
  | .mem, .In => true
  | .nmem, .NotIn => true
  | .isb, .Is => true
  | .nisb, .IsNot => true
  | _, _ => false
theorem isCo_ok {o : CO} {p : CmpOp} (h : isCo o p = true) : p = coOp o := by cases o <;> cases p <;> first | rfl | cases h
def isIs : Bool → CmpOp → Bool
  | false, .Is => true
  | true, .IsNot => true
  | _, _ => false
def eqLit : D → Const → Bool
  | .non, .none => true
  | .bl a, .bool b => a == b
  | .int a, .int b => decide (a = b)
  | .str a, .str b => sq a b
  | _, _ => false
def oq (a b : String) : Bool := sq (Str.ofString a) (Str.ofString b)
theorem oq_ok {a b : String} (h : oq a b = true) : a = b := oS_inj (sq_ok h)
def oqs : List String → List String → Bool
  | [], [] => true
  | a :: r, b :: s => oq a b && oqs r s
  | _, _ => false
theorem oqs_ok : ∀ {a b : List String}, oqs a b = true → a = b
  | [], [], _ => rfl
  | [], _ :: _, h => by cases h
  | _ :: _, [], h => by cases h
  | x :: a, y :: b, h => by
    rw [oqs, Bool.and_eq_true] at h
    rw [oq_ok h.1, oqs_ok h.2]
def metB (T : Tbl) (c m : String) (f : Nat) : Bool := T.mets.any fun q => oq q.1 c && oq q.2.1 m && decide (q.2.2 = f)
theorem metB_ok {T : Tbl} {c m : String} {f : Nat} (h : metB T c m f = true) : (c, m, f) ∈ T.mets := by
  obtain ⟨⟨a, b, d⟩, hm, e⟩ := List.any_eq_true.mp h
  simp only [Bool.and_eq_true] at e
  obtain ⟨⟨e1, e2⟩, e3⟩ := e
  have e1 := oq_ok e1
  have e2 := oq_ok e2
  have e3 : d = f := of_decide_eq_true e3
  subst e1 e2 e3
  exact hm
def makB (T : Tbl) (c : String) (f : Nat) : Bool := T.maks.any fun q => oq q.1 c && decide (q.2 = f)
theorem makB_ok {T : Tbl} {c : String} {f : Nat} (h : makB T c f = true) : (c, f) ∈ T.maks := by
  obtain ⟨⟨a, b⟩, hm, e⟩ := List.any_eq_true.mp h
  simp only [Bool.and_eq_true] at e
  have e1 := oq_ok e.1
  have e2 : b = f := of_decide_eq_true e.2
  subst e1 e2
  exact hm
def iscB (T : Tbl) (t : String) (yes no : List String) : Bool := T.iscs.any fun q => oq q.1 t && oqs q.2.1 yes && oqs q.2.2 no
theorem iscB_ok {T : Tbl} {t : String} {yes no : List String} (h : iscB T t yes no = true) : (t, yes, no) ∈ T.iscs := by
  obtain ⟨⟨a, b, c⟩, hm, e⟩ := List.any_eq_true.mp h
  simp only [Bool.and_eq_true] at e
  obtain ⟨⟨e1, e2⟩, e3⟩ := e
  have e1 := oq_ok e1
  have e2 := oqs_ok e2
  have e3 := oqs_ok e3
  subst e1 e2 e3
  exact hm
def fldB (T : Tbl) (c f : String) : Bool := T.flds.any fun q => oq q.1 c && oq q.2 f
theorem fldB_ok {T : Tbl} {c f : String} (h : fldB T c f = true) : (c, f) ∈ T.flds := by
  obtain ⟨⟨a, b⟩, hm, e⟩ := List.any_eq_true.mp h
  simp only [Bool.and_eq_true] at e
  have e1 := oq_ok e.1
  have e2 := oq_ok e.2
  subst e1 e2
  exact hm
mutual
def eqD0 : D → D → Bool
  | .non, .non => true
  | .bl a, .bl b => a == b
  | .int a, .int b => decide (a = b)
  | .str a, .str b => sq a b
  | .tup a, .tup b => eqDs0 a b
  | _, _ => false
def eqDs0 : List D → List D → Bool
  | [], [] => true
  | x :: xs, y :: ys => eqD0 x y && eqDs0 xs ys
  | _, _ => false
end
mutual
theorem eqD0_ok : ∀ {a b : D}, eqD0 a b = true → a = b
  | .non, b, h => by cases b <;> first | rfl | cases h
  | .bl a, b, h => by
    cases b <;> first | cases h | skip
    rw [eqD0] at h
    rw [beq_iff_eq.mp h]
  | .int a, b, h => by
    cases b <;> first | cases h | skip
    rw [eqD0] at h
    rw [of_decide_eq_true h]
  | .str a, b, h => by
    cases b <;> first | cases h | skip
    rw [eqD0] at h
    rw [sq_ok h]
  | .tup a, b, h => by
    cases b <;> first | cases h | skip
    rw [eqD0] at h
    rw [eqDs0_ok h]
  | .lst a, b, h => by cases b <;> cases h
  | .dct _ _, b, h => by cases b <;> cases h
  | .ins _ _ _, b, h => by cases b <;> cases h
theorem eqDs0_ok : ∀ {a b : List D}, eqDs0 a b = true → a = b
  | [], b, h => by cases b <;> first | rfl | cases h
  | x :: xs, b, h => by
    cases b with
    | nil => cases h
    | cons y ys =>
      rw [eqDs0, Bool.and_eq_true] at h
      rw [eqD0_ok h.1, eqDs0_ok h.2]
end
def visB (sc : Scope) (n : Str) : Bool := match lk sc n with
  | some .local => true
  | some .cell => true
  | some .free => true
  | _ => false
theorem visB_ok {sc : Scope} {n : Str} (h : visB sc n = true) : Vis sc n := by
  unfold visB at h
  rw [lk_ok] at h
  unfold Vis
  split at h <;> first | (rename_i e; rw [e]; simp) | cases h
def glB (sc : Scope) (n : Str) : Bool := match lk sc n with
  | some .globalImplicit => true
  | _ => false
theorem glB_ok {X : L2.Cx} {n : Str} (h : glB X.env.scope n = true) : Gl X n := by
  unfold glB at h
  rw [lk_ok] at h
  split at h <;> first | (rename_i e; exact e) | cases h
def locB (sc : Scope) (n : Str) : Bool := match lk sc n with
  | some .local => true
  | _ => false
theorem locB_ok {sc : Scope} {n : Str} (h : locB sc n = true) : sc.names.lookup n = some .local := by
  unfold locB at h
  rw [lk_ok] at h
  split at h <;> first | (rename_i e; exact e) | cases h
def celB (sc : Scope) (n : Str) : Bool := match lk sc n with
  | some .cell => true
  | _ => false
theorem celB_ok {sc : Scope} {n : Str} (h : celB sc n = true) : sc.names.lookup n = some .cell := by
  unfold celB at h
  rw [lk_ok] at h
  split at h <;> first | (rename_i e; exact e) | cases h
def ixB (N : List Str) (i : Nat) (n : Str) : Bool := match N[i]? with
  | some m => sq m n
  | none => false
theorem ixB_ok {N : List Str} {i : Nat} {n : Str} (h : ixB N i n = true) : N[i]? = some n := by
  unfold ixB at h
  split at h
  · rename_i m e
    rw [e, sq_ok h]
  · cases h
def freeB (T : Tbl) (n : Str) : Bool := T.free.any (sq n)
theorem freeB_ok {T : Tbl} {n : Str} (h : freeB T n = true) : n ∈ T.free := by
  obtain ⟨m, hm, e⟩ := List.any_eq_true.mp h
  rw [sq_ok e]; exact hm
def constB (T : Tbl) (n : Str) (d : D) : Bool := T.consts.any fun p => sq n p.1 && eqD0 d p.2
theorem constB_ok {T : Tbl} {n : Str} {d : D} (h : constB T n d = true) : (n, d) ∈ T.consts := by
  obtain ⟨⟨m, d'⟩, hm, e⟩ := List.any_eq_true.mp h
  rw [Bool.and_eq_true] at e
  rw [sq_ok e.1, eqD0_ok e.2]; exact hm
def fnB (T : Tbl) (f : Nat) (n : Str) : Bool := match T.fns[f]? with
  | some fn => fn.top && sq fn.name n
  | none => false
def noDfs (T : Tbl) (f : Nat) : Bool := match T.fns[f]? with
  | some fn => fn.dfs.isEmpty
  | none => false
def parB (T : Tbl) (f n : Nat) : Bool := match T.fns[f]? with
  | some fn => fn.dfs.isEmpty && decide (n = fn.ps.length)
  | none => false
def eqSs : List Str → List Str → Bool
  | [], [] => true
  | a :: r, b :: s => sq a b && eqSs r s
  | _, _ => false
theorem eqSs_ok : ∀ {a b : List Str}, eqSs a b = true → a = b
  | [], [], _ => rfl
  | [], _ :: _, h => by cases h
  | _ :: _, [], h => by cases h
  | x :: a, y :: b, h => by
    rw [eqSs, Bool.and_eq_true] at h
    rw [sq_ok h.1, eqSs_ok h.2]
def wayB (T : Tbl) (f n : Nat) (ks : List Str) (perm : List Nat) (ds : List D) : Bool := match T.fns[f]? with
  | some fn => (fn.ways.any fun q => decide (q.1 = n) && eqSs q.2.1 ks && decide (q.2.2 = perm)) && decide (perm.length = fn.ps.length) && eqDs0 fn.dfs ds
  | none => false
def kwNames (kws : List Keyword) : List Str := kws.filterMap fun k => k.arg
theorem kwNames_ok : ∀ {kws : List Keyword}, kws.all (fun k => k.arg.isSome) = true → kws.map (·.arg) = (kwNames kws).map some
  | [], _ => rfl
  | ⟨none, e, p⟩ :: r, h => by simp at h
  | ⟨some n, e, p⟩ :: r, h => by
    simp only [List.all_cons, Bool.and_eq_true] at h
    have := kwNames_ok h.2
    unfold kwNames at this ⊢
    simp only [List.map_cons, List.filterMap_cons, this]
/-! comprehensions' blocks, targets -/
def blkB (N : List Str) (sc scope : Scope) (own : List Nat) : Bool :=
  (match scope.kind with | .function => true | _ => false) && (scope.names.all fun y => match lk scope y.1 with | some k => decide (k = y.2) | none => false)
  && (own.all fun i => decide (i < N.length))
  && (scope.names.all fun y => match y.2 with
    | .free => celB sc y.1 || (match lk sc y.1 with | some .free => true | _ => false)
    | .local => (own.any fun i => ixB N i y.1) || !(N.any (sq y.1))
    | .cell => (own.any fun i => ixB N i y.1) || !(N.any (sq y.1))
    | _ => true)
def ownP (N : List Str) (own : List Nat) : List (Str × Nat) := own.map fun i => ((N[i]?).getD "", i)
theorem ownP_2 (N : List Str) (own : List Nat) : (ownP N own).map (·.2) = own := by
  unfold ownP
  rw [List.map_map]
  exact (List.map_congr_left fun _ _ => rfl).trans (List.map_id _)
theorem blkB_ok {N : List Str} {sc scope : Scope} {own : List Nat} (h : blkB N sc scope own = true) : BlkOk N sc scope (ownP N own) := by
  unfold blkB at h
  simp only [Bool.and_eq_true] at h
  obtain ⟨⟨⟨h1, h2⟩, h3⟩, h4⟩ := h
  have inN : ∀ {n : Str} {i : Nat}, i ∈ own → ixB N i n = true → n ∈ (ownP N own).map (·.1) := fun {n i} hi e => by
    refine List.mem_map.mpr ⟨(n, i), ?_, rfl⟩
    refine List.mem_map.mpr ⟨i, hi, ?_⟩
    rw [ixB_ok e]; rfl
  have notN : ∀ {n : Str}, (!(N.any (sq n))) = true → n ∉ N := fun {n} e m => by
    have : N.any (sq n) = true := List.any_eq_true.mpr ⟨n, m, by simp [sq]⟩
    rw [this] at e; cases e
  refine ⟨?_, fun y hy => ?_, fun p hp => ?_, fun y hy e => ?_, fun y hy e => ?_⟩
  · cases e : scope.kind <;> rw [e] at h1 <;> first | rfl | cases h1
  · have := List.all_eq_true.mp h2 y hy
    rw [lk_ok] at this
    split at this
    · rename_i k e
      rw [e, of_decide_eq_true this]
    · cases this
  · obtain ⟨i, hi, rfl⟩ := List.mem_map.mp hp
    have := of_decide_eq_true (List.all_eq_true.mp h3 i hi)
    show N[i]? = some ((N[i]?).getD "")
    rw [List.getElem?_eq_getElem this]; rfl
  · have := List.all_eq_true.mp h4 y hy
    rw [e] at this
    simp only [Bool.or_eq_true] at this
    rcases this with z | z
    · exact .inl (celB_ok z)
    · rw [lk_ok] at z
      split at z <;> first | (rename_i e; exact .inr e) | cases z
  · have := List.all_eq_true.mp h4 y hy
    rcases e with e | e
    · rw [e] at this
      simp only [Bool.or_eq_true] at this
      rcases this with z | z
      · obtain ⟨i, hi, z⟩ := List.any_eq_true.mp z
        exact .inl (inN hi z)
      · exact .inr (notN z)
    · rw [e] at this
      simp only [Bool.or_eq_true] at this
      rcases this with z | z
      · obtain ⟨i, hi, z⟩ := List.any_eq_true.mp z
        exact .inl (inN hi z)
      · exact .inr (notN z)
/-- a name that may be stored into; fs: the names known to the scope as it was written -/
def stoB (fb : Bool) (sc fs : Scope) (n : Str) : Bool := locB sc n || (celB sc n && (fb || celB fs n))
def tgB (N : List Str) (fb : Bool) (sc fs : Scope) : Bool → List Nat → Expr → Bool
  | false, [i], .Name n _ => ixB N i n && stoB fb sc fs n
  | true, is, .Tuple ts _ _ => tgsB N fb sc fs is ts
  | _, _, _ => false
where tgsB (N : List Str) (fb : Bool) (sc fs : Scope) : List Nat → List Expr → Bool
  | [], [] => true
  | i :: is, .Name n _ :: ts => ixB N i n && stoB fb sc fs n && tgsB N fb sc fs is ts
  | _, _ => false
theorem stoB_ok {X : L2.Cx} {fb : Bool} {fs : Scope} {n : Str} (hf : ∀ n, (fb || celB fs n) = true → X.fn n = true) (h : stoB fb X.env.scope fs n = true) : Loc X.env.scope n ∧ (X.fn n = true ∨ X.env.scope.names.lookup n = some .local) := by
  unfold stoB at h
  rw [Bool.or_eq_true, Bool.and_eq_true] at h
  rcases h with h | ⟨h1, h2⟩
  · exact ⟨.inl (locB_ok h), .inr (locB_ok h)⟩
  · exact ⟨.inr (celB_ok h1), .inl (hf n h2)⟩
theorem tgsB_ok {X : L2.Cx} {fb : Bool} {fs : Scope} (hf : ∀ n, (fb || celB fs n) = true → X.fn n = true) (hN : X.N.Nodup) : ∀ {is : List Nat} {ts : List Expr}, tgB.tgsB X.N fb X.env.scope fs is ts = true → PGs X ts (gNames is) ∧ is.length = ts.length ∧ (∀ t ∈ ts, ∃ n p, t = .Name n p)
  | [], [], _ => ⟨pgs_nil, rfl, fun _ h => nomatch h⟩
  | [], _ :: _, h => by cases h
  | i :: is, [], h => by cases h
  | i :: is, t :: ts, h => by
    cases t with
    | Name n p =>
      unfold tgB.tgsB at h
      simp only [Bool.and_eq_true] at h
      obtain ⟨⟨h1, h2⟩, h3⟩ := h
      obtain ⟨g1, g2, g3⟩ := tgsB_ok hf hN h3
      obtain ⟨l1, l2⟩ := stoB_ok hf h2
      exact ⟨pgs_cons (pg_name hN (ixB_ok h1) l1 l2) g1, congrArg Nat.succ g2, fun t ht => by
        rcases List.mem_cons.mp ht with e | e
        · exact ⟨n, p, e⟩
        · exact g3 t e⟩
    | _ => cases h
theorem each_len {env : PySem.Env} : ∀ {ts : List Expr}, (∀ t ∈ ts, ∃ n p, t = .Name n p) → (assignEach ts env).length = ts.length ∧ (assignEach ts env).findIdx? (·.1) = none
  | [], _ => ⟨rfl, rfl⟩
  | t :: ts, h => by
    obtain ⟨n, p, rfl⟩ := h t List.mem_cons_self
    obtain ⟨a, b⟩ := each_len (env := env) fun t ht => h t (List.mem_cons_of_mem _ ht)
    refine ⟨congrArg Nat.succ a, ?_⟩
    show List.findIdx? (·.1) ((false, _) :: assignEach ts env) = none
    rw [List.findIdx?_cons, b]; rfl
theorem pg_names {X : L2.Cx} {fb : Bool} {fs : Scope} (hc : X.calm = true) (hf : ∀ n, (fb || celB fs n) = true → X.fn n = true) (hN : X.N.Nodup) {is : List Nat} {ts : List Expr} {k : Nat} {p : Pos} (h : tgB.tgsB X.N fb X.env.scope fs is ts = true) : PG X (.Tuple ts k p) (gTup X.K is.length (gNames is)) := by
  obtain ⟨g1, g2, g3⟩ := tgsB_ok hf hN h
  obtain ⟨a, b⟩ := each_len (env := X.env) g3
  exact pg_tup hc g1 (a.trans g2.symm) b
theorem tgB_ok {X : L2.Cx} {fb : Bool} {fs : Scope} (hc : X.calm = true) (hf : ∀ n, (fb || celB fs n) = true → X.fn n = true) (hN : X.N.Nodup) {many : Bool} {is : List Nat} {t : Expr} (h : tgB X.N fb X.env.scope fs many is t = true) : PG X t (tgOf X.K many is) := by
  unfold tgB at h
  split at h
  · rw [Bool.and_eq_true] at h
    obtain ⟨l1, l2⟩ := stoB_ok hf h.2
    exact pg_name hN (ixB_ok h.1) l1 l2
  · exact pg_names hc hf hN h
  · cases h

def kdB (T : Tbl) (sc : Scope) : List TK → List Expr → Bool
  | [], [] => true
  | k :: ks, .Name n _ :: ts => sq n (Str.ofString (tkName k)) && glB sc (Str.ofString (tkName k)) && freeB T (Str.ofString (tkName k)) && kdB T sc ks ts
  | _, _ => false
theorem kdB_ok {T : Tbl} {X : L2.Cx} (hf : ∀ n, n ∈ T.free → X.mg n = none) : ∀ {ks : List TK} {ts : List Expr}, kdB T X.env.scope ks ts = true → KdX X ts ks
  | [], [], _ => .nil
  | [], _ :: _, h => by cases h
  | _ :: _, [], h => by cases h
  | k :: ks, t :: ts, h => by
    cases t with
    | Name n p =>
      unfold kdB at h
      simp only [Bool.and_eq_true] at h
      obtain ⟨⟨⟨h1, h2⟩, h3⟩, h4⟩ := h
      have e := sq_ok h1
      subst e
      exact .cons (glB_ok h2) (hf _ (freeB_ok h3)) (kdB_ok hf h4)
    | _ => cases h
def biM : BI → Md → Bool
  | _, .val => true
  | _, .test => true
  | .list, .new => true
  | _, _ => false
/-! ### the checker -/
mutual
def chk (T : Tbl) (N : List Str) : E → Md → Scope → Expr → Bool
  | .lit d, m, sc, x => leafM m && match x with
    | .Constant c _ _ => eqLit d c
    | .Name n _ => glB sc n && constB T n d && !sq n "__debug__"
    | _ => false
  | .var i, m, sc, x => leafM m && match x with
    | .Name n _ => ixB N i n && visB sc n && !sq n "__debug__" && !sq n "__classdict__"
    | _ => false
  | .bin o a b, m, sc, x => leafM m && match x with
    | .BinOp xa op xb _ => isBo o op && chk T N a .val sc xa && chk T N b .val sc xb
    | _ => false
  | .neg a, m, sc, x => leafM m && match x with
    | .UnaryOp .USub xa _ => chk T N a .val sc xa
    | _ => false
  | .cmp o a b, m, sc, x => leafM m && match x with
    | .Compare xa [op] [xb] _ => isCo o op && !behindInMarks op xb && chk T N a .val sc xa && chk T N b .val sc xb
    | _ => false
  | .isn n a, m, sc, x => leafM m && match x with
    | .Compare xa [op] [.Constant .none _ _] _ => isIs n op && chk T N a .val sc xa
    | _ => false
  | .and es, m, sc, x => leafM m && match x with
    | .BoolOp .And (xa :: xs) _ => chks T N es m sc (xa :: xs)
    | _ => false
  | .or es, m, sc, x => leafM m && match x with
    | .BoolOp .Or (xa :: xs) _ => chks T N es m sc (xa :: xs)
    | _ => false
  | .not a, m, sc, x => leafM m && match x with
    | .UnaryOp .Not xa _ => chk T N a m sc xa
    | _ => false
  | .ite c a b, m, sc, x => leafM m && match x with
    | .IfExp xc xa xb _ => chk T N c .test sc xc && chk T N a m sc xa && chk T N b m sc xb
    | _ => false
  | .tup es, m, sc, x => leafM m && match x with
    | .Tuple xs _ _ => chka T N es sc xs
    | _ => false
  | .lst es, m, sc, x => listM m && match x with
    | .List xs _ => chka T N es sc xs
    | _ => false
  | .new e, m, sc, x => (match m with | .val => true | _ => false) && chk T N e .new sc x
  | .idx a i, m, sc, x => leafM m && match x with
    | .Subscript xa xi _ => plainX xi && chk T N a .val sc xa && chk T N i .val sc xi
    | _ => false
  | .sli a lo hi, m, sc, x => listM m && match x with
    | .Subscript xa (.Slice xl xh none _) _ => chk T N a .val sc xa && chko T N lo sc xl && chko T N hi sc xh
    | _ => false
  | .rev a, m, sc, x => listM m && match x with
    | .Subscript xa (.Slice none none (some (.UnaryOp .USub (.Constant (.int i) _ _) _)) _) _ => decide (i = 1) && chk T N a .val sc xa
    | _ => false
  | .revT a, m, sc, x => leafM m && match x with
    | .Subscript xa (.Slice none none (some (.UnaryOp .USub (.Constant (.int i) _ _) _)) _) _ => decide (i = 1) && chk T N a .val sc xa
    | _ => false
  | .slt a lo hi, m, sc, x => leafM m && match x with
    | .Subscript xa (.Slice xl xh none _) _ => chk T N a .val sc xa && chko T N lo sc xl && chko T N hi sc xh
    | _ => false
  | .call f es, m, sc, x => leafM m && match x with
    | .Call (.Name n _) xs [] _ => fnB T f n && glB sc n && !sq n "__debug__" && xs.all plainX && noDfs T f && chks T N es .val sc xs
    | _ => false
  | .callk f perm es ks ds, m, sc, x => leafM m && match x with
    | .Call (.Name n _) xs kws _ => fnB T f n && glB sc n && !sq n "__debug__" && xs.all plainX && (kws.all fun k => k.arg.isSome) && wayB T f xs.length (kwNames kws) perm ds && chks T N es .val sc xs && chkk T N ks sc kws
    | _ => false
  | .fld a f, m, sc, x => leafM m && match x with
    | .Attribute xa nm _ => sq nm (Str.ofString f) && baseB xa && chk T N a .val sc xa
    | _ => false
  | .meth mn tab a es, m, sc, x => leafM m && match x with
    | .Call (.Attribute xa nm apos) xs [] pos => sq nm (Str.ofString mn) && baseB xa && (apos.endLine == pos.line) && xs.all plainX && decide (xs.length < 29) && (tab.all fun q => metB T q.1 mn q.2 && noDfs T q.2) && chk T N a .val sc xa && chks T N es .val sc xs
    | _ => false
  | .methk mn tab perm a es ks ds, m, sc, x => leafM m && match x with
    | .Call (.Attribute xa nm apos) xs kws pos => sq nm (Str.ofString mn) && baseB xa && (apos.endLine == pos.line) && xs.all plainX && decide (xs.length + kws.length < 29) && (kws.all fun k => k.arg.isSome) && (tab.all fun q => metB T q.1 mn q.2 && wayB T q.2 (xs.length + 1) (kwNames kws) perm ds) && chk T N a .val sc xa && chks T N es .val sc xs && chkk T N ks sc kws
    | _ => false
  | .mkk c f perm es ks ds, m, sc, x => leafM m && match x with
    | .Call (.Name n _) xs kws _ => sq n (Str.ofString c) && glB sc (Str.ofString c) && !sq (Str.ofString c) "__debug__" && makB T c f && xs.all plainX && (kws.all fun k => k.arg.isSome) && wayB T f (xs.length + 1) (kwNames kws) perm ds && chks T N es .val sc xs && chkk T N ks sc kws
    | _ => false
  | .mk c f es, m, sc, x => leafM m && match x with
    | .Call (.Name n _) xs [] _ => sq n (Str.ofString c) && glB sc (Str.ofString c) && !sq (Str.ofString c) "__debug__" && makB T c f && parB T f (xs.length + 1) && xs.all plainX && chks T N es .val sc xs
    | _ => false
  | .mkM c f es, m, sc, x => leafM m && match x with
    | .Call (.Name n _) xs [] _ => sq n (Str.ofString c) && glB sc (Str.ofString c) && !sq (Str.ofString c) "__debug__" && makB T c f && parB T f (xs.length + 1) && xs.all plainX && chks T N es .val sc xs
    | _ => false
  | .isc a t yes no, m, sc, x => leafM m && match x with
    | .Call (.Name n _) [xa, .Name tt _] [] _ => sq n "isinstance" && glB sc "isinstance" && freeB T "isinstance" && sq tt (Str.ofString t) && glB sc (Str.ofString t) && !sq (Str.ofString t) "__debug__" && iscB T t yes no && plainX xa && chk T N a .val sc xa
    | _ => false
  | .bi b es, m, sc, x => biM b m && match x with
    | .Call (.Name n _) (xa :: xs) [] _ => sq n (biName b) && glB sc (biName b) && freeB T (biName b) && (xa :: xs).all plainX && chks T N es .val sc (xa :: xs)
    | _ => false
  | .isi a k, m, sc, x => leafM m && match x with
    | .Call (.Name n _) [xa, .Name t _] [] _ => sq n "isinstance" && glB sc "isinstance" && freeB T "isinstance" && sq t (Str.ofString (tkName k)) && glB sc (Str.ofString (tkName k)) && freeB T (Str.ofString (tkName k)) && plainX xa && chk T N a .val sc xa
    | _ => false
  | .isiT a ks, m, sc, x => leafM m && match x with
    | .Call (.Name n _) [xa, .Tuple ts _ _] [] _ => sq n "isinstance" && glB sc "isinstance" && freeB T "isinstance" && kdB T sc ks ts && decide (ks.length ≤ 100) && plainX xa && chk T N a .val sc xa
    | _ => false
  | .chain o1 o2 a b c, m, sc, x => leafM m && match x with
    | .Compare xa [p1, p2] [xb, xc] _ => isCo o1 p1 && isCo o2 p2 && !lastMarks [p1, p2] [xb, xc] && chk T N a .val sc xa && chk T N b .val sc xb && chk T N c .val sc xc
    | _ => false
  | .lrg e, m, sc, x => listM m && match x with
    | .Call (.Name n _) [.Call (.Name r _) [xa] [] _] [] _ => sq n "list" && glB sc "list" && freeB T "list" && sq r "range" && glB sc "range" && freeB T "range" && plainX xa && chk T N e .val sc xa
    | _ => false
  | .comp e tg many it ifs own, m, sc, x => match x with
    | .ListComp elt [⟨tgx, iter, ifsx, 0⟩] scope _ => blkB N sc scope own && (tg.all fun i => own.any fun j => decide (i = j)) && tgB N false (relS scope sc) scope many tg tgx && plainX iter && chkIt T N it sc tgx iter
      && decide (ifsx.length ≤ 1) && chks T N ifs .test (relS scope sc) ifsx && chk T N e .val (relS scope sc) elt
    | _ => false
  | .comp2 e tg many it ifs tg1 many1 it1 ifs1 vs1 own, m, sc, x => match x with
    | .ListComp elt [⟨tgx, iter, ifsx, 0⟩, ⟨tgy, iter1, ifsy, 0⟩] scope _ => blkB N sc scope own && (tg.all fun i => own.any fun j => decide (i = j)) && (tg1.all fun i => vs1.any fun j => decide (i = j)) && (vs1.all fun i => own.any fun j => decide (i = j))
      && tgB N false (relS scope sc) scope many tg tgx && tgB N false (relS scope sc) scope many1 tg1 tgy && plainX iter && plainX iter1 && chkIt T N it sc tgx iter && chkIt T N it1 (relS scope sc) tgy iter1
      && decide (ifsx.length ≤ 1) && chks T N ifs .test (relS scope sc) ifsx && decide (ifsy.length ≤ 1) && chks T N ifs1 .test (relS scope sc) ifsy && chk T N e .val (relS scope sc) elt
    | _ => false
def chks (T : Tbl) (N : List Str) : Es → Md → Scope → List Expr → Bool
  | .nil, _, _, xs => match xs with
    | [] => true
    | _ => false
  | .cons e es, m, sc, xs => match xs with
    | x :: xs => chk T N e m sc x && chks T N es m sc xs
    | _ => false
  | .spl _ _, _, _, _ => false
def chka (T : Tbl) (N : List Str) : Es → Scope → List Expr → Bool
  | .nil, _, xs => match xs with
    | [] => true
    | _ => false
  | .cons e es, sc, xs => match xs with
    | x :: xs => plainX x && chk T N e .val sc x && chka T N es sc xs
    | _ => false
  | .spl e es, sc, xs => match xs with
    | .Starred x _ :: xs => chk T N e .val sc x && chka T N es sc xs
    | _ => false
def chkk (T : Tbl) (N : List Str) : Es → Scope → List Keyword → Bool
  | .nil, _, xs => match xs with
    | [] => true
    | _ => false
  | .cons e es, sc, xs => match xs with
    | ⟨_, x, _⟩ :: xs => chk T N e .val sc x && chkk T N es sc xs
    | _ => false
  | .spl _ _, _, _ => false
def chko (T : Tbl) (N : List Str) : Eo → Scope → Option Expr → Bool
  | .none, _, x => match x with
    | none => true
    | _ => false
  | .some e, sc, x => match x with
    | some x => chk T N e .val sc x
    | _ => false
def chkIt (T : Tbl) (N : List Str) : It → Scope → Expr → Expr → Bool
  | .seq e, sc, _, x => chk T N e .val sc x
  | .rng1 e, sc, _, x => match x with
    | .Call (.Name n _) [xa] [] _ => sq n "range" && glB sc "range" && freeB T "range" && plainX xa && chk T N e .val sc xa
    | _ => false
  | .rng2 a b, sc, _, x => match x with
    | .Call (.Name n _) [xa, xb] [] _ => sq n "range" && glB sc "range" && freeB T "range" && plainX xa && plainX xb && chk T N a .val sc xa && chk T N b .val sc xb
    | _ => false
  | .enum e, sc, tg, x => (match tg with | .Tuple _ _ _ => true | _ => false) && match x with
    | .Call (.Name n _) [xa] [] _ => sq n "enumerate" && glB sc "enumerate" && freeB T "enumerate" && plainX xa && chk T N e .val sc xa
    | _ => false
end

/-! ### its proof -/
structure TOk (X : L2.Cx) (C : Cl) (T : Tbl) (k : Nat) : Prop where
  calm : X.calm = true
  nodup : X.N.Nodup
  room : Room (k + 1) X.A
  guards : X.A.guards = some []
  kind : X.env.scope.kind = .function
  free : ∀ n, n ∈ T.free → X.mg n = none
  consts : ∀ n d, (n, d) ∈ T.consts → ∃ u v, X.mg n = some u ∧ RelV v u ∧ ∀ L H, Rep X.K L H d v
  fns : ∀ (f : Nat) (fn : Fn), T.fns[f]? = some fn → ∃ fa fd, FnOkD X C f fn k fa fd ∧ (fn.top = true → X.mg fn.name = some (.ref fa)) ∧ PySem.W.keepIn X.K (.ref fa) = true
  mets : ∀ c m f, (c, m, f) ∈ T.mets → ∃ fn, T.fns[f]? = some fn ∧ MetOk X C c m f fn
  maks : ∀ c f, (c, f) ∈ T.maks → ∃ fn, T.fns[f]? = some fn ∧ MakOk X C c f fn
  iscs : ∀ t yes no, (t, yes, no) ∈ T.iscs → IscOk X t yes no
  flds : ∀ c f, (c, f) ∈ T.flds → FldOk X c f
def CompI (X : L2.Cx) (C : Cl) (x : Expr) (e : E) : Prop := match e, x with
  | .comp ee tgs many it ies own, .ListComp elt [⟨tg, iter, ifs, 0⟩] scope _ => BlkOk X.N X.env.scope scope (ownP X.N own) ∧ (∀ i ∈ tgs, i ∈ (ownP X.N own).map (·.2)) ∧ SI X C tg iter it ∧ plainX iter = true ∧
    (∀ (s : Shared) (H : Hp) (Ca : Addr) (cl : List (Str × Addr)) (fp : List Addr), PG (X.blk s H scope (compEnvC scope cl Ca X.env) fp) tg (tgOf X.K many tgs)) ∧
    (∀ (s : Shared) (H : Hp) (Ca : Addr) (cl : List (Str × Addr)) (fp : List Addr), SIfs (X.blk s H scope (compEnvC scope cl Ca X.env) fp) C ifs ies) ∧
    (∀ (s : Shared) (H : Hp) (Ca : Addr) (cl : List (Str × Addr)) (fp : List Addr), SE (X.blk s H scope (compEnvC scope cl Ca X.env) fp) C elt ee)
  | .comp2 ee tgs many it ies tgs1 many1 it1 ies1 vs1 own, .ListComp elt [⟨tg, iter, ifs, 0⟩, ⟨tg1, iter1, ifs1, 0⟩] scope _ => Two X C elt tg iter ifs tg1 iter1 ifs1 scope (ownP X.N own) ee tgs many it ies tgs1 many1 it1 ies1 vs1
  | _, _ => False
def Pm (m : Md) (X : L2.Cx) (C : Cl) (x : Expr) (e : E) : Prop := match m with
  | .val => SE X C x e
  | .test => ST X C x e
  | .new => SN X C x e
  | .comp => CompI X C x e
inductive AllP (m : Md) (X : L2.Cx) (C : Cl) : List Expr → Es → Prop
  | nil : AllP m X C [] .nil
  | cons {x : Expr} {e : E} {xs : List Expr} {es : Es} : Pm m X C x e → AllP m X C xs es → AllP m X C (x :: xs) (.cons e es)
section
variable {T : Tbl} {C : Cl} {k : Nat} {X : L2.Cx} {x : Expr} {xs : List Expr} {e : E} {es : Es} {m : Md}
theorem leafP (hm : leafM m = true) (hp : plainT x = true) (h : SE X C x e) : Pm m X C x e := by
  cases m with
  | val => exact h
  | test => exact sT_plain h (test_plain hp X.env)
  | _ => cases hm
theorem listP (hm : listM m = true) (hp : plainT x = true) (h : SN X C x e) (hl : ∀ ρ s, IsL (evE C e ρ s)) : Pm m X C x e := by
  cases m with
  | val => exact sE_of_new h hl
  | test => exact sT_plain (sE_of_new h hl) (test_plain hp X.env)
  | new => exact h
  | comp => cases hm
theorem AllP.sA (h : AllP .val X C xs es) (hp : xs.all plainX = true) : SA X C xs es := by
  induction h with
  | nil => exact sA_nil
  | cons a _ ih =>
    rw [List.all_cons, Bool.and_eq_true] at hp
    exact sA_cons a (ih hp.2) hp.1
theorem AllP.sAnd {a : Expr} (h : AllP .val X C (a :: xs) es) : SAnd X C (a :: xs) es := by
  cases h with
  | @cons _ e0 _ _ h t =>
    induction t generalizing a e0 with
    | nil => exact sAnd_one h
    | cons h2 t ih => exact sAnd_cons h (ih h2)
theorem AllP.sOr {a : Expr} (h : AllP .val X C (a :: xs) es) : SOr X C (a :: xs) es := by
  cases h with
  | @cons _ e0 _ _ h t =>
    induction t generalizing a e0 with
    | nil => exact sOr_one h
    | cons h2 t ih => exact sOr_cons h (ih h2)
theorem AllP.wAnd {a : Expr} (h : AllP .test X C (a :: xs) es) : WAnd X C (a :: xs) es := by
  cases h with
  | @cons _ e0 _ _ h t =>
    induction t generalizing a e0 with
    | nil => exact wAnd_one h
    | cons h2 t ih => exact wAnd_cons h (ih h2)
theorem AllP.wOr {a : Expr} (h : AllP .test X C (a :: xs) es) : WOr X C (a :: xs) es := by
  cases h with
  | @cons _ e0 _ _ h t =>
    induction t generalizing a e0 with
    | nil => exact wOr_one h
    | cons h2 t ih => exact wOr_cons h (ih h2)
theorem isL_sli (lo hi : Eo) {a : E} (ρ : Env) (s : CS) : IsL (evE C (.sli a lo hi) ρ s) := by
  simp only [evE]
  cases evE C a ρ s with
  | exc xc xn xv xs => exact trivial
  | bad => exact trivial
  | ok p s1 =>
    simp only [R.bind]
    cases evEo C lo ρ s1 with
    | exc xc xn xv xs => exact trivial
    | bad => exact trivial
    | ok l s2 =>
      simp only
      cases evEo C hi ρ s2 with
      | exc xc xn xv xs => exact trivial
      | bad => exact trivial
      | ok h s3 =>
        simp only
        have key : ∀ (y : PV), IsL (lift ((y.rd s3).bind fun x => (sliD x l h).map PV.d) s3) := fun y => by
          cases y.rd s3 with
          | none => exact trivial
          | some d => cases d <;> exact trivial
        cases p with
        | scr ns => exact trivial
        | d x => exact key _
        | obj k => exact key _
theorem AllP.evLen {Y : L2.Cx} {B : Cl} (h : AllP m Y B xs es) : ∀ {ρ : Env} {s s' : CS} {l : List PV}, evEs C es ρ s = .ok l s' → l.length = xs.length := by
  induction h with
  | nil =>
    intro ρ s s' l h
    simp only [evEs] at h; cases h; rfl
  | @cons x e xs es _ _ ih =>
    intro ρ s s' l h
    simp only [evEs] at h
    cases r : evE C e ρ s with
    | exc xc xn xv xs => rw [r] at h; cases h
    | bad => rw [r] at h; cases h
    | ok p s1 =>
      rw [r] at h
      simp only [R.bind] at h
      cases r2 : evEs C es ρ s1 with
      | exc xc xn xv xs => rw [r2] at h; cases h
      | bad => rw [r2] at h; cases h
      | ok q s2 =>
        rw [r2] at h
        cases h
        rw [List.length_cons, List.length_cons, ih r2]
theorem TOk.un (ok : TOk X C T k) : X.A.units + 200 < cLine := by have := ok.room.un; omega
theorem TOk.blk (ok : TOk X C T k) {scope : Scope} (hk : scope.kind = .function) (s : Shared) (H : Hp) (Ca : Addr) (cl : List (Str × Addr)) (fp : List Addr) : TOk (X.blk s H scope (compEnvC scope cl Ca X.env) fp) C T k :=
  by
  have fk : ∀ {f : Nat} {fn : Fn} {j : Nat} {fa : Addr} {fd : FuncData}, FnOkD X C f fn j fa fd → FnOkD (X.blk s H scope (compEnvC scope cl Ca X.env) fp) C f fn j fa fd := fun F => ⟨F.run, F.bad, F.binds, F.ways, F.room⟩
  refine ⟨ok.calm, ok.nodup, ok.room, ok.guards, hk, ok.free, ok.consts, fun f fn hf => ?_, fun c m f h => ?_, fun c f h => ?_, fun t y n h => ⟨(ok.iscs t y n h).ex⟩, fun c f h => ⟨(ok.flds c f h).ex⟩⟩
  · obtain ⟨fa, fd, F, h1, h2⟩ := ok.fns f fn hf
    exact ⟨fa, fd, fk F, h1, h2⟩
  · obtain ⟨fn, hf, M⟩ := ok.mets c m f h
    refine ⟨fn, hf, ⟨fun Ca hC => ?_⟩⟩
    obtain ⟨j, fa, fd, me, F⟩ := M.ex Ca hC
    exact ⟨j, fa, fd, me, fk F⟩
  · obtain ⟨fn, hf, M⟩ := ok.maks c f h
    refine ⟨fn, hf, ?_⟩
    obtain ⟨Ca, j, fa, fd, h1, h2, h3, h4, F⟩ := M.ex
    exact ⟨Ca, j, fa, fd, h1, h2, h3, h4, fk F⟩
theorem sIfs_of (h : AllP .test X C xs es) (hl : xs.length ≤ 1) : SIfs X C xs es := by
  cases h with
  | nil => exact sIfs_nil
  | cons a t => cases t with
    | nil => exact sIfs_one a
    | cons _ _ => simp at hl
theorem CompI.sN (h : CompI X C x e) (hc : X.calm = true) (hN : X.N.Nodup) : SN X C x e ∧ plainT x = true ∧ ∀ ρ s, IsL (evE C e ρ s) := by
  unfold CompI at h
  split at h
  · rename_i ee tgs many it ies own elt tg iter ifs scope pos
    obtain ⟨h1, h2, h3, h4, h5, h6, h7⟩ := h
    have z := sN_comp (pos := pos) hc hN h3 h1 h2 h5 h6 h7 h4
    rw [ownP_2] at z
    exact ⟨z, rfl, fun ρ s => isL_comp ρ s⟩
  · rename_i ee tgs many it ies tgs1 many1 it1 ies1 vs1 own elt tg iter ifs tg1 iter1 ifs1 scope pos
    have z := sN_comp2 (pos := pos) h hc hN
    rw [ownP_2] at z
    exact ⟨z, rfl, fun ρ s => isL_comp2 ρ s⟩
  · exact h.elim
end
end PD

set_option Elab.async false
set_option linter.all false
set_option autoImplicit false
set_option maxRecDepth 100000
/-! PdM: the checker's proof. -/
namespace PD
open PySem PySem.Spec L2

theorem fnB_ok {T : Tbl} {f : Nat} {n : Str} (h : fnB T f n = true) : ∃ fn, T.fns[f]? = some fn ∧ fn.name = n ∧ fn.top = true := by
  unfold fnB at h
  split at h
  · rename_i fn e
    rw [Bool.and_eq_true] at h
    exact ⟨fn, e, sq_ok h.2, h.1⟩
  · cases h
theorem isEmpty_ok {l : List D} (h : l.isEmpty = true) : l = [] := by cases l <;> first | rfl | cases h
theorem noDfs_ok {T : Tbl} {f : Nat} {fn : Fn} (hf : T.fns[f]? = some fn) (h : noDfs T f = true) : fn.dfs = [] := by
  unfold noDfs at h
  rw [hf] at h
  exact isEmpty_ok h
theorem parB_ok {T : Tbl} {f n : Nat} {fn : Fn} (hf : T.fns[f]? = some fn) (h : parB T f n = true) : fn.dfs = [] ∧ n = fn.ps.length := by
  unfold parB at h
  rw [hf] at h
  have h : (fn.dfs.isEmpty && decide (n = fn.ps.length)) = true := h
  rw [Bool.and_eq_true] at h
  exact ⟨isEmpty_ok h.1, of_decide_eq_true h.2⟩
theorem wayB_ok {T : Tbl} {f n : Nat} {ks : List Str} {perm : List Nat} {ds : List D} {fn : Fn} (hf : T.fns[f]? = some fn) (h : wayB T f n ks perm ds = true) : (n, ks, perm) ∈ fn.ways ∧ perm.length = fn.ps.length ∧ fn.dfs = ds := by
  unfold wayB at h
  rw [hf] at h
  simp only [Bool.and_eq_true] at h
  obtain ⟨⟨a, b, c⟩, hm, e⟩ := List.any_eq_true.mp h.1.1
  simp only [Bool.and_eq_true] at e
  obtain ⟨⟨e1, e2⟩, e3⟩ := e
  have e1 : a = n := of_decide_eq_true e1
  have e2 : b = ks := eqSs_ok e2
  have e3 : c = perm := of_decide_eq_true e3
  subst e1 e2 e3
  exact ⟨hm, of_decide_eq_true h.1.2, eqDs0_ok h.2⟩
inductive AllK (X : L2.Cx) (C : Cl) : List Keyword → Es → Prop
  | nil : AllK X C [] .nil
  | cons {n : Option Str} {x : Expr} {p : Pos} {e : E} {xs : List Keyword} {es : Es} : SE X C x e → AllK X C xs es → AllK X C (⟨n, x, p⟩ :: xs) (.cons e es)
theorem AllK.sK {X : L2.Cx} {C : Cl} {kws : List Keyword} {es : Es} (h : AllK X C kws es) : SK X C kws es := by
  induction h with
  | nil => exact sK_nil
  | cons a _ ih => exact sK_cons a ih
theorem AllK.evLen {X : L2.Cx} {B C : Cl} {kws : List Keyword} {es : Es} (h : AllK X B kws es) : ∀ {ρ : Env} {s s' : CS} {l : List PV}, evEs C es ρ s = .ok l s' → l.length = kws.length := by
  induction h with
  | nil =>
    intro ρ s s' l h
    simp only [evEs] at h; cases h; rfl
  | @cons n x p e xs es _ _ ih =>
    intro ρ s s' l h
    simp only [evEs] at h
    cases r : evE C e ρ s with
    | exc xc xn xv xs => rw [r] at h; cases h
    | bad => rw [r] at h; cases h
    | ok p s1 =>
      rw [r] at h
      simp only [R.bind] at h
      cases r2 : evEs C es ρ s1 with
      | exc xc xn xv xs => rw [r2] at h; cases h
      | bad => rw [r2] at h; cases h
      | ok q s2 =>
        rw [r2] at h
        cases h
        rw [List.length_cons, List.length_cons, ih r2]
theorem eqLit_ok {X : L2.Cx} {C : Cl} {d : D} {c : Const} {j : Nat} {p : Pos} (h : eqLit d c = true) : SE X C (.Constant c j p) (.lit d) := by
  cases d with
  | non => cases c <;> first | exact sE_non | cases h
  | bl a =>
    cases c <;> first | cases h | skip
    rename_i b
    have h : (a == b) = true := h
    rw [beq_iff_eq.mp h]
    exact sE_bl
  | int a =>
    cases c <;> first | cases h | skip
    rename_i b
    have h : decide (a = b) = true := h
    rw [of_decide_eq_true h]
    exact sE_int
  | str a =>
    cases c <;> first | cases h | skip
    rename_i b
    have h : sq a b = true := h
    rw [sq_ok h]
    exact sE_str
  | _ => cases c <;> cases h

mutual
theorem snd : ∀ (e : E) (T : Tbl) (C : Cl) (k : Nat) (X : L2.Cx) (m : Md) (x : Expr), TOk X C T k → chk T X.N e m X.env.scope x = true → Pm m X C x e
  | .lit d, T, C, k, X, m, x, ok, h => by
    unfold chk at h
    rw [Bool.and_eq_true] at h
    obtain ⟨hm, h⟩ := h
    split at h
    · exact leafP hm rfl (eqLit_ok h)
    · simp only [Bool.and_eq_true] at h
      obtain ⟨⟨h1, h2⟩, h3⟩ := h
      obtain ⟨u, v, g1, g2, g3⟩ := ok.consts _ _ (constB_ok h2)
      exact leafP hm rfl (sE_glob (glB_ok h1) g1 g2 g3 (sq_no h3))
    · cases h
  | .var i, T, C, k, X, m, x, ok, h => by
    unfold chk at h
    rw [Bool.and_eq_true] at h
    obtain ⟨hm, h⟩ := h
    split at h
    · simp only [Bool.and_eq_true] at h
      obtain ⟨⟨⟨h1, h2⟩, h3⟩, h4⟩ := h
      exact leafP hm rfl (sE_var (ixB_ok h1) (visB_ok h2) (sq_no h3) (sq_no h4))
    · cases h
  | .bin o a b, T, C, k, X, m, x, ok, h => by
    unfold chk at h
    rw [Bool.and_eq_true] at h
    obtain ⟨hm, h⟩ := h
    split at h
    · simp only [Bool.and_eq_true] at h
      obtain ⟨⟨h1, h2⟩, h3⟩ := h
      rw [isBo_ok h1]
      exact leafP hm rfl (sE_bin o (snd a T C k X .val _ ok h2) (snd b T C k X .val _ ok h3))
    · cases h
  | .neg a, T, C, k, X, m, x, ok, h => by
    unfold chk at h
    rw [Bool.and_eq_true] at h
    obtain ⟨hm, h⟩ := h
    split at h
    · exact leafP hm rfl (sE_neg (snd a T C k X .val _ ok h))
    · cases h
  | .cmp o a b, T, C, k, X, m, x, ok, h => by
    unfold chk at h
    rw [Bool.and_eq_true] at h
    obtain ⟨hm, h⟩ := h
    split at h
    · simp only [Bool.and_eq_true] at h
      obtain ⟨⟨⟨h1, h2⟩, h3⟩, h4⟩ := h
      have e := isCo_ok h1
      subst e
      have hb : ∀ {b : Bool}, (!b) = true → b = false := by intro b h; simpa using h
      have hu : X.A.units + 65 < cLine := by have := ok.un; omega
      cases m with
      | val => exact sE_cmp o hu (hb h2) (snd a T C k X .val _ ok h3) (snd b T C k X .val _ ok h4)
      | test => exact sT_cmp o hu (hb h2) (snd a T C k X .val _ ok h3) (snd b T C k X .val _ ok h4)
      | _ => cases hm
    · cases h
  | .isn n a, T, C, k, X, m, x, ok, h => by
    unfold chk at h
    rw [Bool.and_eq_true] at h
    obtain ⟨hm, h⟩ := h
    split at h
    · rename_i xa op j p1 p2
      simp only [Bool.and_eq_true] at h
      obtain ⟨h1, h2⟩ := h
      have z := snd a T C k X .val _ ok h2
      cases n with
      | false =>
        cases op <;> first | cases h1 | skip
        cases m with
        | val => exact sE_isn z
        | test => exact sT_isn z
        | _ => cases hm
      | true =>
        cases op <;> first | cases h1 | skip
        cases m with
        | val => exact sE_notn z
        | test => exact sT_notn z
        | _ => cases hm
    · cases h
  | .and es, T, C, k, X, m, x, ok, h => by
    unfold chk at h
    rw [Bool.and_eq_true] at h
    obtain ⟨hm, h⟩ := h
    split at h
    · cases m with
      | val => exact pe_imp ((snds es T C k X .val _ ok h).sAnd _) fun σ H Q h => by simpa only [tM, evE] using h
      | test => exact pt_imp ((snds es T C k X .test _ ok h).wAnd _).pt fun σ H Q h => by simpa only [tT, evE] using h
      | _ => cases hm
    · cases h
  | .or es, T, C, k, X, m, x, ok, h => by
    unfold chk at h
    rw [Bool.and_eq_true] at h
    obtain ⟨hm, h⟩ := h
    split at h
    · cases m with
      | val => exact pe_imp ((snds es T C k X .val _ ok h).sOr _) fun σ H Q h => by simpa only [tM, evE] using h
      | test => exact pt_imp ((snds es T C k X .test _ ok h).wOr _).pt fun σ H Q h => by simpa only [tT, evE] using h
      | _ => cases hm
    · cases h
  | .not a, T, C, k, X, m, x, ok, h => by
    unfold chk at h
    rw [Bool.and_eq_true] at h
    obtain ⟨hm, h⟩ := h
    split at h
    · have z := snd a T C k X m _ ok h
      cases m with
      | val => exact sE_not z
      | test => exact sT_not z
      | _ => cases hm
    · cases h
  | .ite c a b, T, C, k, X, m, x, ok, h => by
    unfold chk at h
    rw [Bool.and_eq_true] at h
    obtain ⟨hm, h⟩ := h
    split at h
    · simp only [Bool.and_eq_true] at h
      obtain ⟨⟨h1, h2⟩, h3⟩ := h
      have z1 := snd c T C k X .test _ ok h1
      have z2 := snd a T C k X m _ ok h2
      have z3 := snd b T C k X m _ ok h3
      cases m with
      | val => exact sE_ite z1 z2 z3
      | test => exact sT_ite z1 z2 z3
      | _ => cases hm
    · cases h
  | .tup es, T, C, k, X, m, x, ok, h => by
    unfold chk at h
    rw [Bool.and_eq_true] at h
    obtain ⟨hm, h⟩ := h
    split at h
    · exact leafP hm rfl (sE_tup (snda es T C k X _ ok h))
    · cases h
  | .lst es, T, C, k, X, m, x, ok, h => by
    unfold chk at h
    rw [Bool.and_eq_true] at h
    obtain ⟨hm, h⟩ := h
    split at h
    · exact listP hm rfl (sN_lst (snda es T C k X _ ok h)) isL_lst
    · cases h
  | .new e, T, C, k, X, m, x, ok, h => by
    unfold chk at h
    rw [Bool.and_eq_true] at h
    obtain ⟨hm, h⟩ := h
    have z := snd e T C k X .new _ ok h
    cases m with
    | val => exact sE_new z
    | _ => cases hm
  | .idx a i, T, C, k, X, m, x, ok, h => by
    unfold chk at h
    rw [Bool.and_eq_true] at h
    obtain ⟨hm, h⟩ := h
    split at h
    · simp only [Bool.and_eq_true] at h
      obtain ⟨⟨h1, h2⟩, h3⟩ := h
      exact leafP hm rfl (sE_idx (snd a T C k X .val _ ok h2) (snd i T C k X .val _ ok h3) h1)
    · cases h
  | .sli a lo hi, T, C, k, X, m, x, ok, h => by
    unfold chk at h
    rw [Bool.and_eq_true] at h
    obtain ⟨hm, h⟩ := h
    split at h
    · simp only [Bool.and_eq_true] at h
      obtain ⟨⟨h1, h2⟩, h3⟩ := h
      exact listP hm rfl (sN_sli (snd a T C k X .val _ ok h1) (sndo lo T C k X _ ok h2) (sndo hi T C k X _ ok h3)) (isL_sli lo hi)
    · cases h
  | .rev a, T, C, k, X, m, x, ok, h => by
    unfold chk at h
    rw [Bool.and_eq_true] at h
    obtain ⟨hm, h⟩ := h
    split at h
    · rw [Bool.and_eq_true] at h
      obtain ⟨h1, h2⟩ := h
      rw [of_decide_eq_true h1]
      exact listP hm rfl (sN_rev (snd a T C k X .val _ ok h2)) isL_rev
    · cases h
  | .revT a, T, C, k, X, m, x, ok, h => by
    unfold chk at h
    rw [Bool.and_eq_true] at h
    obtain ⟨hm, h⟩ := h
    split at h
    · rw [Bool.and_eq_true] at h
      obtain ⟨h1, h2⟩ := h
      rw [of_decide_eq_true h1]
      exact leafP hm rfl (sE_revT (snd a T C k X .val _ ok h2))
    · cases h
  | .slt a lo hi, T, C, k, X, m, x, ok, h => by
    unfold chk at h
    rw [Bool.and_eq_true] at h
    obtain ⟨hm, h⟩ := h
    split at h
    · simp only [Bool.and_eq_true] at h
      obtain ⟨⟨h1, h2⟩, h3⟩ := h
      exact leafP hm rfl (sE_slt (snd a T C k X .val _ ok h1) (sndo lo T C k X _ ok h2) (sndo hi T C k X _ ok h3))
    · cases h
  | .call f es, T, C, k, X, m, x, ok, h => by
    unfold chk at h
    rw [Bool.and_eq_true] at h
    obtain ⟨hm, h⟩ := h
    split at h
    · rename_i n p xs pos
      simp only [Bool.and_eq_true] at h
      obtain ⟨⟨⟨⟨⟨h1, h2⟩, h3⟩, h4⟩, h6⟩, h5⟩ := h
      obtain ⟨fn, hf, rfl, htop⟩ := fnB_ok h1
      obtain ⟨fa, fd, F, hmg, hk⟩ := ok.fns f fn hf
      have hmg := hmg htop
      have hb := F.binds (noDfs_ok hf h6)
      have z := snds es T C k X .val _ ok h5
      cases xs with
      | nil =>
        cases z
        exact leafP hm rfl (sE_call0 F.run F.bad (F.room.mono (Nat.le_succ _)) ok.guards hb (glB_ok h2) hmg hk (sq_no h3))
      | cons xa xr => exact leafP hm rfl (sE_call F.run F.bad (F.room.mono (Nat.le_succ _)) ok.guards hb (glB_ok h2) hmg hk (sq_no h3) h4 (z.sA h4))
    · cases h
  | .callk f perm es ks ds, T, C, k, X, m, x, ok, h => by
    unfold chk at h
    rw [Bool.and_eq_true] at h
    obtain ⟨hm, h⟩ := h
    split at h
    · rename_i n p xs kws pos
      simp only [Bool.and_eq_true] at h
      obtain ⟨⟨⟨⟨⟨⟨⟨h1, h2⟩, h3⟩, h4⟩, h5⟩, h6⟩, h7⟩, h8⟩ := h
      obtain ⟨fn, hf, rfl, htop⟩ := fnB_ok h1
      obtain ⟨fa, fd, F, hmg, hk⟩ := ok.fns f fn hf
      have hmg := hmg htop
      obtain ⟨w1, w2, w3⟩ := wayB_ok hf h6
      subst w3
      have z := snds es T C k X .val _ ok h7
      have y := sndk ks T C k X _ ok h8
      have nm := kwNames_ok h5
      have nl : (kwNames kws).length = kws.length := by
        have := congrArg List.length nm
        simpa using this.symm
      exact leafP hm rfl (sE_callk F w1 w2 ok.guards (glB_ok h2) hmg hk (sq_no h3) h4 nm (z.sA h4) y.sK (fun e => by subst e; cases z; rfl) (fun ρ st l st' e => z.evLen e) (fun ρ st l st' e => (y.evLen e).trans nl.symm))
    · cases h
  | .fld a f, T, C, k, X, m, x, ok, h => by
    unfold chk at h
    rw [Bool.and_eq_true] at h
    obtain ⟨hm, h⟩ := h
    split at h
    · simp only [Bool.and_eq_true] at h
      obtain ⟨⟨h1, h2⟩, h3⟩ := h
      have e := sq_ok h1
      subst e
      exact leafP hm rfl (sE_fld h2 (snd a T C k X .val _ ok h3))
    · cases h
  | .meth mn tab a es, T, C, k, X, m, x, ok, h => by
    unfold chk at h
    rw [Bool.and_eq_true] at h
    obtain ⟨hm, h⟩ := h
    split at h
    · rename_i xa nm apos xs pos
      simp only [Bool.and_eq_true] at h
      obtain ⟨⟨⟨⟨⟨⟨⟨h1, h2⟩, h3⟩, h4⟩, h5⟩, h6⟩, h7⟩, h8⟩ := h
      have e := sq_ok h1
      subst e
      have z := snds es T C k X .val _ ok h8
      refine leafP hm rfl (sE_meth ok.guards (fun q hq => ?_) (snd a T C k X .val _ ok h7) (z.sA h4) h2 h4 (of_decide_eq_true h5) h3 fun e => by subst e; cases z; rfl)
      have hq := List.all_eq_true.mp h6 q hq
      rw [Bool.and_eq_true] at hq
      obtain ⟨fn, hf, M⟩ := ok.mets q.1 mn q.2 (metB_ok hq.1)
      exact ⟨fn, M, noDfs_ok hf hq.2⟩
    · cases h
  | .methk mn tab perm a es ks ds, T, C, k, X, m, x, ok, h => by
    unfold chk at h
    rw [Bool.and_eq_true] at h
    obtain ⟨hm, h⟩ := h
    split at h
    · rename_i xa nm apos xs kws pos
      simp only [Bool.and_eq_true] at h
      obtain ⟨⟨⟨⟨⟨⟨⟨⟨⟨h1, h2⟩, h3⟩, h4⟩, h5⟩, h5'⟩, h6⟩, h7⟩, h8⟩, h9⟩ := h
      have e := sq_ok h1
      subst e
      have z := snds es T C k X .val _ ok h8
      have y := sndk ks T C k X _ ok h9
      have nm := kwNames_ok h5'
      have nl : (kwNames kws).length = kws.length := by
        have := congrArg List.length nm
        simpa using this.symm
      refine leafP hm rfl (sE_methk ok.guards (fun q hq => ?_) (snd a T C k X .val _ ok h7) (z.sA h4) y.sK h2 h4 nm (of_decide_eq_true h5) h3 (fun e => by subst e; cases z; rfl) (fun ρ st l st' e => z.evLen e) (fun ρ st l st' e => (y.evLen e).trans nl.symm))
      have hq := List.all_eq_true.mp h6 q hq
      rw [Bool.and_eq_true] at hq
      obtain ⟨fn, hf, M⟩ := ok.mets q.1 mn q.2 (metB_ok hq.1)
      obtain ⟨w1, w2, w3⟩ := wayB_ok hf hq.2
      exact ⟨fn, M, w1, w2, w3⟩
    · cases h
  | .mkk c f perm es ks ds, T, C, k, X, m, x, ok, h => by
    unfold chk at h
    rw [Bool.and_eq_true] at h
    obtain ⟨hm, h⟩ := h
    split at h
    · rename_i n p xs kws pos
      simp only [Bool.and_eq_true] at h
      obtain ⟨⟨⟨⟨⟨⟨⟨⟨h1, h2⟩, h3⟩, h4⟩, h5⟩, h6⟩, h7⟩, h8⟩, h9⟩ := h
      have e := sq_ok h1
      subst e
      obtain ⟨fn, hf, M⟩ := ok.maks c f (makB_ok h4)
      obtain ⟨w1, w2, w3⟩ := wayB_ok hf h7
      subst w3
      have z := snds es T C k X .val _ ok h8
      have y := sndk ks T C k X _ ok h9
      have nm := kwNames_ok h6
      have nl : (kwNames kws).length = kws.length := by
        have := congrArg List.length nm
        simpa using this.symm
      exact leafP hm rfl (sE_mkk ok.guards M w1 w2 (glB_ok h2) (sq_no h3) h5 nm (z.sA h5) y.sK (fun e => by subst e; cases z; rfl) (fun ρ st l st' e => z.evLen e) (fun ρ st l st' e => (y.evLen e).trans nl.symm))
    · cases h
  | .mk c f es, T, C, k, X, m, x, ok, h => by
    unfold chk at h
    rw [Bool.and_eq_true] at h
    obtain ⟨hm, h⟩ := h
    split at h
    · rename_i n p xs pos
      simp only [Bool.and_eq_true] at h
      obtain ⟨⟨⟨⟨⟨⟨h1, h2⟩, h3⟩, h4⟩, h7⟩, h5⟩, h6⟩ := h
      have e := sq_ok h1
      subst e
      obtain ⟨fn, hf, M⟩ := ok.maks c f (makB_ok h4)
      obtain ⟨p1, p2⟩ := parB_ok hf h7
      have z := snds es T C k X .val _ ok h6
      exact leafP hm rfl (sE_mk ok.guards M p1 p2 (glB_ok h2) (sq_no h3) h5 (z.sA h5) (fun e => by subst e; cases z; rfl) (fun ρ st l st' e => z.evLen e))
    · cases h
  | .mkM c f es, T, C, k, X, m, x, ok, h => by
    unfold chk at h
    rw [Bool.and_eq_true] at h
    obtain ⟨hm, h⟩ := h
    split at h
    · rename_i n p xs pos
      simp only [Bool.and_eq_true] at h
      obtain ⟨⟨⟨⟨⟨⟨h1, h2⟩, h3⟩, h4⟩, h7⟩, h5⟩, h6⟩ := h
      have e := sq_ok h1
      subst e
      obtain ⟨fn, hf, M⟩ := ok.maks c f (makB_ok h4)
      obtain ⟨p1, p2⟩ := parB_ok hf h7
      have z := snds es T C k X .val _ ok h6
      exact leafP hm rfl (sE_mkM ok.guards M p1 p2 (glB_ok h2) (sq_no h3) h5 (z.sA h5) (fun e => by subst e; cases z; rfl) (fun ρ st l st' e => z.evLen e))
    · cases h
  | .isc a t yes no, T, C, k, X, m, x, ok, h => by
    unfold chk at h
    rw [Bool.and_eq_true] at h
    obtain ⟨hm, h⟩ := h
    split at h
    · simp only [Bool.and_eq_true] at h
      obtain ⟨⟨⟨⟨⟨⟨⟨⟨h1, h2⟩, h3⟩, h4⟩, h5⟩, h6⟩, h7⟩, h8⟩, h9⟩ := h
      have e1 := sq_ok h1
      have e2 := sq_ok h4
      subst e1 e2
      exact leafP hm rfl (sE_isc (ok.iscs t yes no (iscB_ok h7)) (glB_ok h2) (ok.free _ (freeB_ok h3)) (glB_ok h5) (sq_no h6) h8 (snd a T C k X .val _ ok h9))
    · cases h
  | .bi b es, T, C, k, X, m, x, ok, h => by
    unfold chk at h
    rw [Bool.and_eq_true] at h
    obtain ⟨hm, h⟩ := h
    split at h
    · rename_i n p xa xs pos
      simp only [Bool.and_eq_true] at h
      obtain ⟨⟨⟨⟨h1, h2⟩, h3⟩, h4⟩, h5⟩ := h
      have e := sq_ok h1
      subst e
      have h4' : (xa :: xs).all plainX = true := by simpa using h4
      have z := snds es T C k X .val _ ok h5
      have w := sE_bi (p := p) (pos := pos) b ok.calm ok.un ok.guards (glB_ok h2) (ok.free _ (freeB_ok h3)) h4' (z.sA h4')
      cases m with
      | val => exact w
      | test => exact leafP (m := .test) rfl rfl w
      | new => cases b <;> first | exact sN_biL (glB_ok h2) (ok.free _ (freeB_ok h3)) h4' (z.sA h4') | cases hm
      | comp => cases b <;> cases hm
    · cases h
  | .isi a t, T, C, k, X, m, x, ok, h => by
    unfold chk at h
    rw [Bool.and_eq_true] at h
    obtain ⟨hm, h⟩ := h
    split at h
    · simp only [Bool.and_eq_true] at h
      obtain ⟨⟨⟨⟨⟨⟨⟨h1, h2⟩, h3⟩, h4⟩, h5⟩, h6⟩, h7⟩, h8⟩ := h
      have e1 := sq_ok h1
      have e2 := sq_ok h4
      subst e1 e2
      exact leafP hm rfl (sE_isi t (glB_ok h2) (ok.free _ (freeB_ok h3)) (glB_ok h5) (ok.free _ (freeB_ok h6)) h7 (snd a T C k X .val _ ok h8))
    · cases h
  | .isiT a ks, T, C, k, X, m, x, ok, h => by
    unfold chk at h
    rw [Bool.and_eq_true] at h
    obtain ⟨hm, h⟩ := h
    split at h
    · simp only [Bool.and_eq_true] at h
      obtain ⟨⟨⟨⟨⟨⟨h1, h2⟩, h3⟩, h4⟩, h5⟩, h6⟩, h7⟩ := h
      have e1 := sq_ok h1
      subst e1
      exact leafP hm rfl (sE_isiT (glB_ok h2) (ok.free _ (freeB_ok h3)) (kdB_ok ok.free h4) (of_decide_eq_true h5) h6 (snd a T C k X .val _ ok h7))
    · cases h
  | .chain o1 o2 a b c, T, C, k, X, m, x, ok, h => by
    unfold chk at h
    rw [Bool.and_eq_true] at h
    obtain ⟨hm, h⟩ := h
    split at h
    · simp only [Bool.and_eq_true] at h
      obtain ⟨⟨⟨⟨⟨h1, h2⟩, h3⟩, h4⟩, h5⟩, h6⟩ := h
      have e := isCo_ok h1
      have e2 := isCo_ok h2
      subst e e2
      have hb : ∀ {b : Bool}, (!b) = true → b = false := by intro b h; simpa using h
      have hu : X.A.units + 65 < cLine := by have := ok.un; omega
      cases m with
      | val => exact sE_chain o1 o2 hu (hb h3) (snd a T C k X .val _ ok h4) (snd b T C k X .val _ ok h5) (snd c T C k X .val _ ok h6)
      | test => exact sT_chain o1 o2 hu (hb h3) (snd a T C k X .val _ ok h4) (snd b T C k X .val _ ok h5) (snd c T C k X .val _ ok h6)
      | _ => cases hm
    · cases h
  | .lrg e, T, C, k, X, m, x, ok, h => by
    unfold chk at h
    rw [Bool.and_eq_true] at h
    obtain ⟨hm, h⟩ := h
    split at h
    · simp only [Bool.and_eq_true] at h
      obtain ⟨⟨⟨⟨⟨⟨⟨h1, h2⟩, h3⟩, h4⟩, h5⟩, h6⟩, h7⟩, h8⟩ := h
      have e1 := sq_ok h1
      have e2 := sq_ok h4
      subst e1 e2
      exact listP hm rfl (sN_lrg ok.calm (glB_ok h2) (ok.free _ (freeB_ok h3)) (glB_ok h5) (ok.free _ (freeB_ok h6)) h7 (snd e T C k X .val _ ok h8)) isL_lrg
    · cases h
  | .comp e tg many it ifs own, T, C, k, X, m, x, ok, h => by
    unfold chk at h
    split at h
    · rename_i elt tgx iter ifsx scope pos
      simp only [Bool.and_eq_true] at h
      obtain ⟨⟨⟨⟨⟨⟨⟨h1, h2⟩, h3⟩, h4⟩, h5⟩, h6⟩, h7⟩, h8⟩ := h
      have bo := blkB_ok h1
      have ci : CompI X C (.ListComp elt [⟨tgx, iter, ifsx, 0⟩] scope pos) (.comp e tg many it ifs own) := by
        refine ⟨bo, fun i hi => ?_, sndI it T C k X _ _ ok h5, h4, fun s H Ca cl fp => ?_, fun s H Ca cl fp => ?_, fun s H Ca cl fp => ?_⟩
        · rw [ownP_2]
          obtain ⟨j, hj, e⟩ := List.any_eq_true.mp (List.all_eq_true.mp h2 i hi)
          rw [of_decide_eq_true e]; exact hj
        · exact tgB_ok (X := X.blk s H scope (compEnvC scope cl Ca X.env) fp) (fb := false) (fs := scope) ok.calm (fun n hn => by
            rw [Bool.false_or] at hn
            exact beq_iff_eq.mpr (celB_ok hn)) ok.nodup h3
        · exact sIfs_of (snds ifs T C k (X.blk s H scope (compEnvC scope cl Ca X.env) fp) .test _ (ok.blk bo.kind s H Ca cl fp) h7) (of_decide_eq_true h6)
        · exact snd e T C k (X.blk s H scope (compEnvC scope cl Ca X.env) fp) .val _ (ok.blk bo.kind s H Ca cl fp) h8
      obtain ⟨z1, z2, z3⟩ := ci.sN ok.calm ok.nodup
      cases m with
      | comp => exact ci
      | val => exact listP (m := .val) rfl z2 z1 z3
      | test => exact listP (m := .test) rfl z2 z1 z3
      | new => exact z1
    · cases h
  | .comp2 e tg many it ifs tg1 many1 it1 ifs1 vs1 own, T, C, k, X, m, x, ok, h => by
    unfold chk at h
    split at h
    · rename_i elt tgx iter ifsx tgy iter1 ifsy scope pos
      simp only [Bool.and_eq_true] at h
      obtain ⟨⟨⟨⟨⟨⟨⟨⟨⟨⟨⟨⟨⟨⟨h1, h2⟩, h3⟩, h4⟩, h5⟩, h6⟩, h7⟩, h8⟩, h9⟩, h10⟩, h11⟩, h12⟩, h13⟩, h14⟩, h15⟩ := h
      have bo := blkB_ok h1
      have sub : ∀ {a b : List Nat}, (a.all fun i => b.any fun j => decide (i = j)) = true → ∀ i ∈ a, i ∈ b := fun {a b} q i hi => by
        obtain ⟨j, hj, e⟩ := List.any_eq_true.mp (List.all_eq_true.mp q i hi)
        rw [of_decide_eq_true e]; exact hj
      have fnok : ∀ (s : Shared) (H : Hp) (Ca : Addr) (cl : List (Str × Addr)) (fp : List Addr) (n : Str), (false || celB scope n) = true → (X.blk s H scope (compEnvC scope cl Ca X.env) fp).fn n = true := fun s H Ca cl fp n hn => by
        rw [Bool.false_or] at hn
        exact beq_iff_eq.mpr (celB_ok hn)
      have ci : CompI X C (.ListComp elt [⟨tgx, iter, ifsx, 0⟩, ⟨tgy, iter1, ifsy, 0⟩] scope pos) (.comp2 e tg many it ifs tg1 many1 it1 ifs1 vs1 own) :=
        ⟨bo, fun i hi => by rw [ownP_2]; exact sub h2 i hi, sub h3, fun i hi => by rw [ownP_2]; exact sub h4 i hi, sndI it T C k X _ _ ok h9, h7, h8,
          fun s H Ca cl fp => tgB_ok (X := X.blk s H scope (compEnvC scope cl Ca X.env) fp) (fb := false) (fs := scope) ok.calm (fnok s H Ca cl fp) ok.nodup h5,
          fun s H Ca cl fp => sIfs_of (snds ifs T C k (X.blk s H scope (compEnvC scope cl Ca X.env) fp) .test _ (ok.blk bo.kind s H Ca cl fp) h12) (of_decide_eq_true h11),
          fun s H Ca cl fp => sndI it1 T C k (X.blk s H scope (compEnvC scope cl Ca X.env) fp) _ _ (ok.blk bo.kind s H Ca cl fp) h10,
          fun s H Ca cl fp => tgB_ok (X := X.blk s H scope (compEnvC scope cl Ca X.env) fp) (fb := false) (fs := scope) ok.calm (fnok s H Ca cl fp) ok.nodup h6,
          fun s H Ca cl fp => sIfs_of (snds ifs1 T C k (X.blk s H scope (compEnvC scope cl Ca X.env) fp) .test _ (ok.blk bo.kind s H Ca cl fp) h14) (of_decide_eq_true h13),
          fun s H Ca cl fp => snd e T C k (X.blk s H scope (compEnvC scope cl Ca X.env) fp) .val _ (ok.blk bo.kind s H Ca cl fp) h15⟩
      obtain ⟨z1, z2, z3⟩ := ci.sN ok.calm ok.nodup
      cases m with
      | comp => exact ci
      | val => exact listP (m := .val) rfl z2 z1 z3
      | test => exact listP (m := .test) rfl z2 z1 z3
      | new => exact z1
    · cases h
theorem snds : ∀ (es : Es) (T : Tbl) (C : Cl) (k : Nat) (X : L2.Cx) (m : Md) (xs : List Expr), TOk X C T k → chks T X.N es m X.env.scope xs = true → AllP m X C xs es
  | .nil, T, C, k, X, m, xs, ok, h => by
    unfold chks at h
    split at h
    · exact .nil
    · cases h
  | .cons e es, T, C, k, X, m, xs, ok, h => by
    unfold chks at h
    split at h
    · rw [Bool.and_eq_true] at h
      exact .cons (snd e T C k X m _ ok h.1) (snds es T C k X m _ ok h.2)
    · cases h
  | .spl e es, T, C, k, X, m, xs, ok, h => by
    unfold chks at h
    cases h
theorem snda : ∀ (es : Es) (T : Tbl) (C : Cl) (k : Nat) (X : L2.Cx) (xs : List Expr), TOk X C T k → chka T X.N es X.env.scope xs = true → SA X C xs es
  | .nil, T, C, k, X, xs, ok, h => by
    unfold chka at h
    split at h
    · exact sA_nil
    · cases h
  | .cons e es, T, C, k, X, xs, ok, h => by
    unfold chka at h
    split at h
    · simp only [Bool.and_eq_true] at h
      exact sA_cons (snd e T C k X .val _ ok h.1.2) (snda es T C k X _ ok h.2) h.1.1
    · cases h
  | .spl e es, T, C, k, X, xs, ok, h => by
    unfold chka at h
    split at h
    · rw [Bool.and_eq_true] at h
      exact sA_spl (snd e T C k X .val _ ok h.1) (snda es T C k X _ ok h.2)
    · cases h
theorem sndk : ∀ (es : Es) (T : Tbl) (C : Cl) (k : Nat) (X : L2.Cx) (xs : List Keyword), TOk X C T k → chkk T X.N es X.env.scope xs = true → AllK X C xs es
  | .nil, T, C, k, X, xs, ok, h => by
    unfold chkk at h
    split at h
    · exact .nil
    · cases h
  | .cons e es, T, C, k, X, xs, ok, h => by
    unfold chkk at h
    split at h
    · rw [Bool.and_eq_true] at h
      exact .cons (snd e T C k X .val _ ok h.1) (sndk es T C k X _ ok h.2)
    · cases h
  | .spl e es, T, C, k, X, xs, ok, h => by
    unfold chkk at h
    cases h
theorem sndo : ∀ (e : Eo) (T : Tbl) (C : Cl) (k : Nat) (X : L2.Cx) (x : Option Expr), TOk X C T k → chko T X.N e X.env.scope x = true → SO X C x e
  | .none, T, C, k, X, x, ok, h => by
    unfold chko at h
    split at h
    · exact sO_none
    · cases h
  | .some e, T, C, k, X, x, ok, h => by
    unfold chko at h
    split at h
    · exact sO_some (snd e T C k X .val _ ok h)
    · cases h
theorem sndI : ∀ (i : It) (T : Tbl) (C : Cl) (k : Nat) (X : L2.Cx) (tg x : Expr), TOk X C T k → chkIt T X.N i X.env.scope tg x = true → SI X C tg x i
  | .seq e, T, C, k, X, tg, x, ok, h => by
    unfold chkIt at h
    exact sI_seq (snd e T C k X .val _ ok h)
  | .rng1 e, T, C, k, X, tg, x, ok, h => by
    unfold chkIt at h
    split at h
    · simp only [Bool.and_eq_true] at h
      obtain ⟨⟨⟨⟨h1, h2⟩, h3⟩, h4⟩, h5⟩ := h
      have e1 := sq_ok h1
      subst e1
      exact sI_rng1 (glB_ok h2) (ok.free _ (freeB_ok h3)) h4 (snd e T C k X .val _ ok h5)
    · cases h
  | .rng2 a b, T, C, k, X, tg, x, ok, h => by
    unfold chkIt at h
    split at h
    · simp only [Bool.and_eq_true] at h
      obtain ⟨⟨⟨⟨⟨⟨h1, h2⟩, h3⟩, h4⟩, h5⟩, h6⟩, h7⟩ := h
      have e1 := sq_ok h1
      subst e1
      exact sI_rng2 (glB_ok h2) (ok.free _ (freeB_ok h3)) h4 h5 (snd a T C k X .val _ ok h6) (snd b T C k X .val _ ok h7)
    · cases h
  | .enum e, T, C, k, X, tg, x, ok, h => by
    unfold chkIt at h
    rw [Bool.and_eq_true] at h
    obtain ⟨ht, h⟩ := h
    split at h
    · simp only [Bool.and_eq_true] at h
      obtain ⟨⟨⟨⟨h1, h2⟩, h3⟩, h4⟩, h5⟩ := h
      have e1 := sq_ok h1
      subst e1
      cases tg with
      | Tuple ts k p => exact sI_enum (glB_ok h2) (ok.free _ (freeB_ok h3)) h4 (snd e T C _ X .val _ ok h5)
      | _ => cases ht
    · cases h
end
end PD

set_option Elab.async false
set_option linter.all false
set_option autoImplicit false
set_option maxRecDepth 100000
/-! PdN: the checker of statements and defs, its proof; the law's call. -/
namespace PD
open PySem PySem.Spec L2

def swB (sc : Scope) (n : Str) (p : Pos) (scope : Scope) (v : Pos) : Bool :=
  locB sc n && p.line == v.line && !(scope.names.any fun y => sq y.1 n && (match y.2 with | .local => true | .cell => true | _ => false))
theorem swB_ok {env : PySem.Env} {n : Str} {p pos : Pos} {elt : Expr} {gs : List Comprehension} {scope : Scope} {l : Nat} (hk : env.scope.kind = .function) : swapsWith (.ListComp elt gs scope pos) (some (.Name n p)) l env = pure (swB env.scope n p scope pos) := by
  have hbk : (env.blockKind == .function) = true := by
    unfold Env.blockKind
    rw [hk]; rfl
  have e1 : (env.kindOf n == some .local) = locB env.scope n := by
    unfold locB
    rw [lk_ok]
    show (env.scope.names.lookup n == some .local) = _
    cases env.scope.names.lookup n with
    | none => rfl
    | some k => cases k <;> rfl
  have e2 : (scope.names.any fun (m, k) => m == n && (k == .local || k == .cell)) = (scope.names.any fun y => sq y.1 n && (match y.2 with | .local => true | .cell => true | _ => false)) := by
    congr 1
    funext y
    obtain ⟨m, k⟩ := y
    have : (m == n) = sq m n := by
      cases h : sq m n with
      | true => rw [sq_ok h]; simp
      | false => exact sq_no (by rw [h]; rfl)
    show (m == n && _) = (sq m n && _)
    rw [this]
    cases k <;> rfl
  show pure (env.blockKind == .function && env.kindOf n == some .local && p.line == pos.line && !(scope.names.any fun (m, k) => m == n && (k == .local || k == .cell))) = _
  rw [hbk, e1, e2]
  rfl
def unNew : E → E
  | .new e => e
  | e => e
def isComp : E → Bool
  | .comp _ _ _ _ _ _ => true
  | .new (.comp _ _ _ _ _ _) => true
  | .comp2 _ _ _ _ _ _ _ _ _ _ _ => true
  | .new (.comp2 _ _ _ _ _ _ _ _ _ _ _) => true
  | _ => false
def notTup : Expr → Bool
  | .Tuple _ _ _ => false
  | _ => true
def isFrz : S → Bool
  | .frz _ => true
  | _ => false
def asg2B (sc : Scope) (is : List Nat) (ts vs : List Expr) : Bool := match swS sc ts vs with
  | some none => decide (is.length ≤ 100)
  | some (some ns) => (match is, ts, vs with
    | [i, j], [.Name a _, .Name b _], [_, _] => decide (i ≠ j) && locB sc a && locB sc b && eqSs ns [a, b]
    | [i, j, l], [.Name a _, .Name b _, .Name c _], [_, _, _] => decide (i ≠ j) && decide (i ≠ l) && decide (j ≠ l) && locB sc a && locB sc b && locB sc c && eqSs ns [a, b, c]
    | _, _, _ => false)
  | none => false
mutual
def chkS (T : Tbl) (N : List Str) : S → Scope → Stmt → Bool
  | .asg i e, sc, x => match x with
    | .Assign [.Name n p] a _ => ixB N i n && stoB true sc sc n && (if notComp a then chk T N e .val sc a else match a with
      | .ListComp _ _ scope pos => isComp e && (if swB sc n p scope pos then chk T N (unNew e) .comp sc a else chk T N e .val sc a)
      | _ => false)
    | _ => false
  | .asgT is e, sc, x => match x with
    | .Assign [.Tuple ts _ _] a _ => tgB.tgsB N true sc sc is ts && notComp a && notTup a && chk T N e .val sc a
    | _ => false
  | .asg2 is es, sc, x => match x with
    | .Assign [.Tuple ts _ _] (.Tuple vs _ _) _ => tgB.tgsB N true sc sc is ts && vs.all plainX && chks T N es .val sc vs && asg2B sc is ts vs
    | _ => false
  | .setI o i v, sc, x => match x with
    | .Assign [.Subscript a b _] c _ => notComp c && plainX b && chk T N o .val sc a && chk T N i .val sc b && chk T N v .val sc c
    | _ => false
  | .setF cs o f v, sc, x => match x with
    | .Assign [.Attribute a nm _] c _ => sq nm (Str.ofString f) && notComp c && (cs.all fun c => fldB T c f) && chk T N o .val sc a && chk T N v .val sc c
    | _ => false
  | .expr e, sc, x => match x with
    | .Expr a _ => notComp a && chk T N e .val sc a
    | _ => false
  | .app o v, sc, x => match x with
    | .Expr (.Call (.Attribute a nm apos) [b] [] cpos) _ => sq nm "append" && baseB a && (apos.endLine == cpos.line) && plainX b && chk T N o .val sc a && chk T N v .val sc b
    | _ => false
  | .ext o v, sc, x => match x with
    | .Expr (.Call (.Attribute a nm apos) [b] [] cpos) _ => sq nm "extend" && baseB a && (apos.endLine == cpos.line) && plainX b && chk T N o .val sc a && chk T N v .val sc b
    | _ => false
  | .frz _, _, _ => false
  | .ret e, sc, x => match x with
    | .Return (some a) _ => chk T N e .val sc a
    | _ => false
  | .retN, _, x => match x with
    | .Return none _ => true
    | _ => false
  | .ifs c a b, sc, x => match x with
    | .If xc xa xb _ => chk T N c .test sc xc && chkSs T N a sc xa && chkSs T N b sc xb
    | _ => false
  | .for tg many it b, sc, x => match x with
    | .For tgx iter xb [] _ => tgB N true sc sc many tg tgx && plainX iter && chkIt T N it sc tgx iter && chkSs T N b sc xb
    | _ => false
  | .aug i o e, sc, x => match x with
    | .AugAssign (.Name n _) op a _ => ixB N i n && stoB true sc sc n && isBo o op && (match o with | .add => true | .sub => true | _ => false) && chk T N e .val sc a
    | _ => false
  | .whl _ c b, sc, x => match x with
    | .While xc xb [] _ => chk T N c .test sc xc && chkSs T N b sc xb
    | _ => false
  | .pass, _, x => match x with
    | .Pass _ => true
    | _ => false
  | .stop, _, _ => true
def chkSs (T : Tbl) (N : List Str) : Ss → Scope → List Stmt → Bool
  | .nil, _, xs => match xs with
    | [] => true
    | _ => false
  | .cons s ss, sc, xs => if isFrz s then chkSs T N ss sc xs else match xs with
    | x :: xs => chkS T N s sc x && chkSs T N ss sc xs
    | _ => false
end
/-- what a body's statements ask further -/
structure SOk (X : L2.Cx) (C : Cl) (T : Tbl) (k : Nat) : Prop where
  ok : TOk X C T k
  own : PassesOwn (model X.prog X.w) X.A X.env X.xe
  fn : ∀ n, X.fn n = true
theorem each_names {env : PySem.Env} {t : Expr} (h : ∀ v p, t ≠ .Starred v p) : (assignEach [t] env).map (·.2) = [assign t env] := by
  cases t <;> first | rfl | exact absurd rfl (h _ _)
mutual
theorem sndS : ∀ (s : S) (T : Tbl) (C : Cl) (k : Nat) (X : L2.Cx) (x : Stmt), SOk X C T k → chkS T X.N s X.env.scope x = true → SS X C x s
  | .asg i e, T, C, k, X, x, ok, h => by
    unfold chkS at h
    split at h
    · rename_i n p a pos
      simp only [Bool.and_eq_true] at h
      obtain ⟨⟨h1, h2⟩, h3⟩ := h
      obtain ⟨l1, l2⟩ := stoB_ok (fun n _ => ok.fn n) h2
      cases hc : notComp a with
      | true =>
        rw [hc] at h3
        exact sS_asg ok.ok.nodup (ixB_ok h1) l1 l2 hc (snd e T C k X .val _ ok.ok h3)
      | false =>
        rw [hc] at h3
        rw [if_neg Bool.false_ne_true] at h3
        split at h3
        · rename_i elt gs scope vpos
          rw [Bool.and_eq_true] at h3
          obtain ⟨hi, h3⟩ := h3
          cases hs : swB X.env.scope n p scope vpos with
          | false =>
            rw [hs, if_neg Bool.false_ne_true] at h3
            exact sS_asgW ok.ok.nodup (ixB_ok h1) l1 l2 (by rw [swB_ok ok.ok.kind, hs]) (snd e T C k X .val _ ok.ok h3)
          | true =>
            rw [hs, if_pos rfl] at h3
            have ci := snd (unNew e) T C k X .comp _ ok.ok h3
            have hsw : ∀ l, swapsWith (.ListComp elt gs scope vpos) (some (.Name n p)) l X.env = pure true := fun l => by rw [swB_ok ok.ok.kind, hs]
            have hl : X.env.scope.names.lookup n = some .local := by
              unfold swB at hs
              simp only [Bool.and_eq_true] at hs
              exact locB_ok hs.1.1
            have key : ∀ {ee : E} {tgs : List Nat} {many : Bool} {it : It} {ies : Es} {own : List Nat}, CompI X C (.ListComp elt gs scope vpos) (.comp ee tgs many it ies own) →
                PS X (.Assign [.Name n p] (.ListComp elt gs scope vpos) pos) (tAsg (tN (gx X) (evE C (.comp ee tgs many it ies own))) (gName i)) := by
              intro ee tgs many it ies own ci
              unfold CompI at ci
              split at ci
              · rename_i e1 e2
                cases e1
                cases e2
                obtain ⟨c1, c2, c3, c4, c5, c6, c7⟩ := ci
                have z := ps_comp (spos := pos) ok.ok.calm ok.ok.nodup (ixB_ok h1) hl (hsw _) c3 c1 c2 c5 c6 c7 c4
                rw [ownP_2] at z
                exact z
              · rename_i e1 e2
                cases e1
              · exact ci.elim
            have key2 : ∀ {ee : E} {tgs : List Nat} {many : Bool} {it : It} {ies : Es} {tgs1 : List Nat} {many1 : Bool} {it1 : It} {ies1 : Es} {vs1 own : List Nat}, CompI X C (.ListComp elt gs scope vpos) (.comp2 ee tgs many it ies tgs1 many1 it1 ies1 vs1 own) →
                PS X (.Assign [.Name n p] (.ListComp elt gs scope vpos) pos) (tAsg (tN (gx X) (evE C (.comp2 ee tgs many it ies tgs1 many1 it1 ies1 vs1 own))) (gName i)) := by
              intro ee tgs many it ies tgs1 many1 it1 ies1 vs1 own ci
              unfold CompI at ci
              split at ci
              · rename_i e1 e2
                cases e1
              · rename_i e1 e2
                cases e1
                cases e2
                have z := ps_comp2 (spos := pos) ci ok.ok.calm ok.ok.nodup (ixB_ok h1) hl (hsw _)
                rw [ownP_2] at z
                exact z
              · exact ci.elim
            unfold isComp at hi
            split at hi
            · exact sS_asgC (key ci) fun σ H Q h => list_reads isL_comp h
            · exact sS_asgC (key ci) fun σ H Q h => new_reads h
            · exact sS_asgC (key2 ci) fun σ H Q h => list_reads isL_comp2 h
            · exact sS_asgC (key2 ci) fun σ H Q h => new_reads h
            · cases hi
        · cases h3
    · cases h
  | .asgT is e, T, C, k, X, x, ok, h => by
    unfold chkS at h
    split at h
    · rename_i ts kt pt a pos
      simp only [Bool.and_eq_true] at h
      obtain ⟨⟨⟨h1, h2⟩, h3⟩, h4⟩ := h
      refine sS_asgT (pg_names ok.ok.calm (fun n _ => ok.fn n) ok.ok.nodup h1) h2 ?_ rfl (snd e T C k X .val _ ok.ok h4)
      unfold swappedStores
      cases a <;> first | rfl | cases h3
    · cases h
  | .asg2 is es, T, C, k, X, x, ok, h => by
    unfold chkS at h
    split at h
    · rename_i ts kt pt vs k2 p2 pos
      simp only [Bool.and_eq_true] at h
      obtain ⟨⟨⟨h1, h2⟩, h3⟩, h4⟩ := h
      have z := (snds es T C k X .val _ ok.ok h3).sA h2
      have nd := ok.ok.nodup
      unfold asg2B at h4
      split at h4
      · rename_i e
        exact sS_asg2 (pg_names ok.ok.calm (fun n _ => ok.fn n) ok.ok.nodup h1) (of_decide_eq_true h4) (swS_ok ok.ok.kind e) rfl z
      · rename_i ns e
        have w := swS_ok (kt := kt) (k2 := k2) (pt := pt) (pt2 := p2) ok.ok.kind e
        split at h4
        · simp only [Bool.and_eq_true] at h4
          obtain ⟨⟨⟨a1, a2⟩, a3⟩, a4⟩ := h4
          rw [eqSs_ok a4] at w
          unfold tgB.tgsB at h1
          simp only [Bool.and_eq_true] at h1
          obtain ⟨⟨b1, b2⟩, h1⟩ := h1
          unfold tgB.tgsB at h1
          simp only [Bool.and_eq_true] at h1
          obtain ⟨⟨b3, b4⟩, h1⟩ := h1
          exact sS_asg2P (y := ⟨#[]⟩) ok.ok.calm nd (ixB_ok b1) (ixB_ok b3) (of_decide_eq_true a1) (locB_ok a2) (locB_ok a3) w z
        · simp only [Bool.and_eq_true] at h4
          obtain ⟨⟨⟨⟨⟨⟨a1, a2⟩, a3⟩, a4⟩, a5⟩, a6⟩, a7⟩ := h4
          rw [eqSs_ok a7] at w
          unfold tgB.tgsB at h1
          simp only [Bool.and_eq_true] at h1
          obtain ⟨⟨b1, b2⟩, h1⟩ := h1
          unfold tgB.tgsB at h1
          simp only [Bool.and_eq_true] at h1
          obtain ⟨⟨b3, b4⟩, h1⟩ := h1
          unfold tgB.tgsB at h1
          simp only [Bool.and_eq_true] at h1
          obtain ⟨⟨b5, b6⟩, h1⟩ := h1
          exact sS_asg3P ok.ok.calm nd (ixB_ok b1) (ixB_ok b3) (ixB_ok b5) (of_decide_eq_true a1) (of_decide_eq_true a2) (of_decide_eq_true a3) (locB_ok a4) (locB_ok a5) (locB_ok a6) w z
        · cases h4
      · cases h4
    · cases h
  | .setI o i v, T, C, k, X, x, ok, h => by
    unfold chkS at h
    split at h
    · simp only [Bool.and_eq_true] at h
      obtain ⟨⟨⟨⟨h1, h2⟩, h3⟩, h4⟩, h5⟩ := h
      exact sS_setI h1 h2 (snd o T C k X .val _ ok.ok h3) (snd i T C k X .val _ ok.ok h4) (snd v T C k X .val _ ok.ok h5)
    · cases h
  | .setF cs o f v, T, C, k, X, x, ok, h => by
    unfold chkS at h
    split at h
    · simp only [Bool.and_eq_true] at h
      obtain ⟨⟨⟨⟨h1, h2⟩, h3⟩, h4⟩, h5⟩ := h
      have e := sq_ok h1
      subst e
      exact sS_setF (fun c hc => ok.ok.flds c f (fldB_ok (List.all_eq_true.mp h3 c hc))) h2 (snd o T C k X .val _ ok.ok h4) (snd v T C k X .val _ ok.ok h5)
    · cases h
  | .expr e, T, C, k, X, x, ok, h => by
    unfold chkS at h
    split at h
    · simp only [Bool.and_eq_true] at h
      exact sS_expr h.1 (snd e T C k X .val _ ok.ok h.2)
    · cases h
  | .app o v, T, C, k, X, x, ok, h => by
    unfold chkS at h
    split at h
    · simp only [Bool.and_eq_true] at h
      obtain ⟨⟨⟨⟨⟨h1, h2⟩, h3⟩, h4⟩, h5⟩, h6⟩ := h
      have e := sq_ok h1
      subst e
      exact sS_app (snd o T C k X .val _ ok.ok h5) (snd v T C k X .val _ ok.ok h6) (fun id p p2 z => by subst z; cases h2) h3 h4
    · cases h
  | .ext o v, T, C, k, X, x, ok, h => by
    unfold chkS at h
    split at h
    · simp only [Bool.and_eq_true] at h
      obtain ⟨⟨⟨⟨⟨h1, h2⟩, h3⟩, h4⟩, h5⟩, h6⟩ := h
      have e := sq_ok h1
      subst e
      exact sS_ext (snd o T C k X .val _ ok.ok h5) (snd v T C k X .val _ ok.ok h6) (fun id p p2 z => by subst z; cases h2) h3 h4
    · cases h
  | .frz i, T, C, k, X, x, ok, h => by
    unfold chkS at h
    cases h
  | .ret e, T, C, k, X, x, ok, h => by
    unfold chkS at h
    split at h
    · exact sS_ret (snd e T C k X .val _ ok.ok h)
    · cases h
  | .retN, T, C, k, X, x, ok, h => by
    unfold chkS at h
    split at h
    · exact sS_retN
    · cases h
  | .ifs c a b, T, C, k, X, x, ok, h => by
    unfold chkS at h
    split at h
    · simp only [Bool.and_eq_true] at h
      obtain ⟨⟨h1, h2⟩, h3⟩ := h
      exact sS_ifs (snd c T C k X .test _ ok.ok h1) (sndSs a T C k X _ ok h2) (sndSs b T C k X _ ok h3)
    · cases h
  | .for tg many it b, T, C, k, X, x, ok, h => by
    unfold chkS at h
    split at h
    · simp only [Bool.and_eq_true] at h
      obtain ⟨⟨⟨h1, h2⟩, h3⟩, h4⟩ := h
      exact sS_for ok.own ok.ok.calm (sndI it T C k X _ _ ok.ok h3) (tgB_ok ok.ok.calm (fun n _ => ok.fn n) ok.ok.nodup h1) (sndSs b T C k X _ ok h4) h2
    · cases h
  | .aug i o e, T, C, k, X, x, ok, h => by
    unfold chkS at h
    split at h
    · simp only [Bool.and_eq_true] at h
      obtain ⟨⟨⟨⟨h1, h2⟩, h3⟩, h4⟩, h5⟩ := h
      obtain ⟨l1, l2⟩ := stoB_ok (fun n _ => ok.fn n) h2
      rw [isBo_ok h3]
      exact sS_aug o ok.ok.nodup (ixB_ok h1) l1 l2 (by cases o <;> first | exact .inl rfl | exact .inr rfl | cases h4) (snd e T C k X .val _ ok.ok h5)
    · cases h
  | .whl n c b, T, C, k, X, x, ok, h => by
    unfold chkS at h
    split at h
    · simp only [Bool.and_eq_true] at h
      exact sS_whl ok.own (snd c T C k X .test _ ok.ok h.1) (sndSs b T C k X _ ok h.2)
    · cases h
  | .pass, T, C, k, X, x, ok, h => by
    unfold chkS at h
    split at h
    · exact sS_pass
    · cases h
  | .stop, T, C, k, X, x, ok, h => sS_stop
theorem sndSs : ∀ (ss : Ss) (T : Tbl) (C : Cl) (k : Nat) (X : L2.Cx) (xs : List Stmt), SOk X C T k → chkSs T X.N ss X.env.scope xs = true → SSs X C xs ss
  | .nil, T, C, k, X, xs, ok, h => by
    unfold chkSs at h
    split at h
    · exact sSs_nil
    · cases h
  | .cons s ss, T, C, k, X, xs, ok, h => by
    unfold chkSs at h
    cases hf : isFrz s with
    | true =>
      rw [hf, if_pos rfl] at h
      have z := sndSs ss T C k X _ ok h
      cases s <;> first | exact sSs_frz z | cases hf
    | false =>
      rw [hf, if_neg Bool.false_ne_true] at h
      split at h
      · rw [Bool.and_eq_true] at h
        exact sSs_cons (sndS s T C k X _ ok h.1) (sndSs ss T C k X _ ok h.2)
      · cases h
end

/-! ### defs -/
def nodB : List Str → Bool
  | [] => true
  | a :: r => !(r.any (sq a)) && nodB r
theorem nodB_ok : ∀ {l : List Str}, nodB l = true → l.Nodup
  | [], _ => List.nodup_nil
  | a :: r, h => by
    rw [nodB, Bool.and_eq_true] at h
    refine List.nodup_cons.mpr ⟨fun m => ?_, nodB_ok h.2⟩
    have : r.any (sq a) = true := List.any_eq_true.mpr ⟨a, m, by simp [sq]⟩
    rw [this] at h
    exact absurd h.1 (by simp)
def scB (N ps : List Str) (sc : Scope) : Bool :=
  (match sc.kind with | .function => true | _ => false) && !sc.isCoroutine && !sc.isGenerator && nodB N && eqSs (N.take ps.length) ps && (ps.all fun p => locB sc p || celB sc p) && (sc.names.all fun y => match y.2 with | .free => false | _ => true)
theorem scB_ok {N ps : List Str} {sc : Scope} (h : scB N ps sc = true) : FnScope N ps sc := by
  unfold scB at h
  simp only [Bool.and_eq_true] at h
  obtain ⟨⟨⟨⟨⟨⟨h1, h2⟩, h3⟩, h4⟩, h5⟩, h6⟩, h7⟩ := h
  refine ⟨?_, by simpa using h2, by simpa using h3, nodB_ok h4, eqSs_ok h5, fun x hx => ?_, fun y hy e => ?_⟩
  · cases e : sc.kind <;> rw [e] at h1 <;> first | rfl | cases h1
  · have := List.all_eq_true.mp h6 x hx
    rw [Bool.or_eq_true] at this
    exact this.elim (fun z => .inl (locB_ok z)) fun z => .inr (celB_ok z)
  · have := List.all_eq_true.mp h7 y hy
    rw [e] at this
    cases this
def chkF (T : Tbl) (f : Fn) : Bool := scB f.N f.ps (defScope f.st) && decide (f.g.np = f.ps.length) && decide (f.g.nn = f.N.length) && chkSs T f.N f.g.body (defScope f.st) (defBody f.st)
def chkT (T : Tbl) : Bool := T.fns.all (chkF T)
def Tbl.F (T : Tbl) (f : Nat) : Option Fd := (T.fns[f]?).map (·.g)
/-- the text's defs as they stand behind its top -/
structure KOk (K : PySem.W.Frag) (mg : Str → Option Value) (T : Tbl) : Prop where
  free : ∀ n, n ∈ T.free → mg n = none
  consts : ∀ n d, (n, d) ∈ T.consts → ∃ u v, mg n = some u ∧ RelV v u ∧ ∀ L H, Rep K L H d v
  fns : ∀ (f : Nat) (fn : Fn), T.fns[f]? = some fn → ∃ fa fd, FunW K fn.name fn.qual fn.st fn.dfs fa fd ∧ (fn.top = true → mg fn.name = some (.ref fa))
  calls : ∀ (f : Nat) (fn : Fn) (fa : Addr) (fd : FuncData), T.fns[f]? = some fn → FunW K fn.name fn.qual fn.st fn.dfs fa fd → (fn.dfs = [] → Binds K fd fn.ps []) ∧ ∀ q ∈ fn.ways, KB K fd fn.ps q.1 q.2.1 q.2.2 fn.dfs
  mets : ∀ c m f, (c, m, f) ∈ T.mets → ∃ fn, T.fns[f]? = some fn ∧ ∀ Ca, PySem.W.nsIn K mainGlobals (Str.ofString c) = some (some (.ref Ca)) → ∃ fa fd, Meth K Ca (Str.ofString m) fa ∧ FunW K fn.name fn.qual fn.st fn.dfs fa fd
  maks : ∀ c f, (c, f) ∈ T.maks → ∃ fn Ca fa fd, T.fns[f]? = some fn ∧ PySem.W.nsIn K mainGlobals (Str.ofString c) = some (some (.ref Ca)) ∧ mg (Str.ofString c) = some (.ref Ca) ∧ ClsT K Ca ∧ Mk K Ca fa ∧ FunW K fn.name fn.qual fn.st fn.dfs fa fd
  iscs : ∀ t yes no, (t, yes, no) ∈ T.iscs → ∃ Ta, mg (Str.ofString t) = some (.ref Ta) ∧ (∀ c ∈ yes, ∀ Ca, PySem.W.nsIn K mainGlobals (Str.ofString c) = some (some (.ref Ca)) → PySem.W.kitOne K (.ref Ca) (.ref Ta) = some true) ∧
    (∀ c ∈ no, ∀ Ca, PySem.W.nsIn K mainGlobals (Str.ofString c) = some (some (.ref Ca)) → PySem.W.kitOne K (.ref Ca) (.ref Ta) = some false) ∧
    ∀ n ∈ ["NoneType", "bool", "int", "str", "list", "tuple", "dict"], PySem.W.kitOne K (.type n) (.ref Ta) = some false
  flds : ∀ c f, (c, f) ∈ T.flds → ∀ Ca, PySem.W.nsIn K mainGlobals (Str.ofString c) = some (some (.ref Ca)) → NoAttr K Ca (Str.ofString f)
theorem callN_bad {T : Tbl} (hT : chkT T = true) : ∀ (n f : Nat) (fn : Fn) (ds : List PV) (st : CS), T.fns[f]? = some fn → ds.length ≠ fn.ps.length → callN T.F n f ds st = .bad
  | 0, f, fn, ds, st, hf, hl => rfl
  | n + 1, f, fn, ds, st, hf, hl => by
    have c := List.all_eq_true.mp hT fn (List.mem_of_getElem? hf)
    unfold chkF at c
    simp only [Bool.and_eq_true] at c
    have e : T.F f = some fn.g := by unfold Tbl.F; rw [hf]; rfl
    rw [callN, e]
    show runF _ fn.g ds st = .bad
    unfold runF
    rw [if_neg (by rw [of_decide_eq_true c.1.1.2]; exact hl)]
section
variable {P : Program} {w : World} {K : PySem.W.Frag} {mg : Str → Option Value} {base : Heap} {T : Tbl}
theorem all_fns (hT : chkT T = true) (ko : KOk K mg T) : ∀ (n f : Nat) (fn : Fn) (fa : Addr) (fd : FuncData), T.fns[f]? = some fn → FunW K fn.name fn.qual fn.st fn.dfs fa fd → FnG P w K mg base (2 * n) fa fd fn.ps (callN T.F n f)
  | 0, f, fn, fa, fd, hf, hF => fnG_bad fun _ _ => rfl
  | n + 1, f, fn, fa, fd, hf, hF => by
    have c := List.all_eq_true.mp hT fn (List.mem_of_getElem? hf)
    unfold chkF at c
    simp only [Bool.and_eq_true] at c
    obtain ⟨⟨⟨c1, c2⟩, c3⟩, c4⟩ := c
    have S := scB_ok c1
    have e : T.F f = some fn.g := by unfold Tbl.F; rw [hf]; rfl
    have e2 : callN T.F (n + 1) f = runF ⟨callN T.F n⟩ fn.g := by
      funext ds st
      rw [callN, e]
    rw [e2]
    refine fnG_of (k := 2 * n + 1) (C := ⟨callN T.F n⟩) hF S (of_decide_eq_true c2) (of_decide_eq_true c3) fun cdv A outer s H E hr hg hM => ?_
    have fk : ∀ (f' : Nat) (fn' : Fn) (fa' : Addr) (fd' : FuncData), T.fns[f']? = some fn' → FunW K fn'.name fn'.qual fn'.st fn'.dfs fa' fd' → FnOkD (cxOf (L2.CX P w) P w K mg base fn.N fn.qual (defScope fn.st) fa cdv A outer s H E) ⟨callN T.F n⟩ f' fn' (2 * n) fa' fd' := fun f' fn' fa' fd' hf' F' =>
      ⟨all_fns hT ko n f' fn' fa' fd' hf' F', fun ds st hl => callN_bad hT n f' fn' ds st hf' hl, (ko.calls f' fn' fa' fd' hf' F').1, (ko.calls f' fn' fa' fd' hf' F').2, hr⟩
    refine sndSs fn.g.body T ⟨callN T.F n⟩ (2 * n) _ _ ⟨⟨rfl, S.nd, hr, hg, S.kind, ko.free, ko.consts, fun f' fn' hf' => ?_, fun c m f' h' => ?_, fun c f' h' => ?_, fun t yes no h' => ⟨ko.iscs t yes no h'⟩, fun c f' h' => ⟨fun Ca hC => ko.flds c f' h' Ca hC⟩⟩, passes_of (K := fun e s' => L2.CX P w outer H s E e s') rfl, fun _ => rfl⟩ c4
    · obtain ⟨fa', fd', F', hmg⟩ := ko.fns f' fn' hf'
      exact ⟨fa', fd', fk f' fn' fa' fd' hf' F', hmg, F'.kp⟩
    · obtain ⟨fn', hf', M⟩ := ko.mets c m f' h'
      refine ⟨fn', hf', ⟨fun Ca hC => ?_⟩⟩
      obtain ⟨fa', fd', hm, F'⟩ := M Ca hC
      exact ⟨2 * n, fa', fd', hm, fk f' fn' fa' fd' hf' F'⟩
    · obtain ⟨fn', Ca, fa', fd', hf', h1, h2, h3, h4, F'⟩ := ko.maks c f' h'
      exact ⟨fn', hf', ⟨Ca, 2 * n, fa', fd', h1, h2, h3, h4, fk f' fn' fa' fd' hf' F'⟩⟩
end
end PD

set_option Elab.async false
set_option linter.all false
set_option autoImplicit false
set_option maxRecDepth 100000
/-! PdO: the law's call; what is asked of a text. -/
namespace PD
open PySem PySem.Spec L2
open PyProof.Rows (AllBare IntsAre)

/-- the law's answer: true -/
def Yes (r : R PV) : Prop := ∃ st, r = .ok (.d (.bl true)) st
section
variable {P : Program} {w : World} {K : PySem.W.Frag} {mg mb : Str → Option Value} {k : Nat} {fa a : Addr} {fd : FuncData} {x : Str} {sem : List PV → CS → R PV} {s : Shared} {vs : List Value} {ns : List Int}
/-- the call from a heap where the script alone may be tracked -/
theorem call_at {H : Hp} (KX : K.In s.heap) (hns : s.heap.Ns mainGlobals mg) (hb : s.heap.Ns builtinsNs mb) (hbb : ∀ x : Str, x ≠ "__name__" → mb x = bootBuiltins x) (hlim : s.heap.NoLimit) (hg : s.gens = #[]) (hr : Room k callerA)
    (F : ∀ base : Heap, K.In base → base.Ns mainGlobals mg → FnG P w K mg base k fa fd [x] sem) (hbind : ∀ (s : Shared) (u : Value), BindsTo s fd ⟨[u], []⟩ [(x, u)]) (hs : Yes (sem [.scr ns] []))
    (nod : ∀ b o, s.heap.get? b = some o → (∃ es ep, o.data = .dict es ep) → H b = none) (hKn : ∀ b o, K.lookup b = some o → H b = none)
    (hok : HOk P w H s.heap) (hO : L2.Only H) (hS : L2.SqL K H a (ns.map V.int)) :
    codeAny (model P w) callerA (.call (.ref fa) ⟨[.ref a], []⟩) (fun r s' => r = .ok (.ret (.bool true)) ∧ OldK s.heap s'.heap ∧ s'.os = s.os ∧ AllBare s'.gens) s := by
  have into : ∀ {b : Addr} {m : Str → Option Value}, s.heap.Ns b m → (hidT s.heap H).Ns b m := by
    rintro b m ⟨o, es, ep, e, d, r⟩
    exact ⟨o, es, ep, hidT_get e (nod b o e ⟨es, ep, d⟩), d, r⟩
  have kin : K.In (hidT s.heap H) := fun b o e => hidT_get (KX b o e) (hKn b o e)
  have md : Mod K mg (hidT s.heap H) := by
    obtain ⟨mc, c1, c2⟩ := hlim
    exact ⟨kin, into hns, ⟨mb, into hb, hbb⟩, mc, into c1, c2⟩
  have env : Env0 P w K mg (hidT s.heap H) callerA [] s H := ⟨rfl, md, fun b o e => of_hidT e, Nat.le_of_eq (hidT_size _ _), trivial, fun b hb => absurd hb List.not_mem_nil, hok, .of_eq hg⟩
  obtain ⟨st, hs⟩ := hs
  have sr : SRel K ⟨[], []⟩ H [] := ⟨rfl, fun k c x h => by simp at h, fun i j a h => by simp at h, fun a h => absurd h List.not_mem_nil⟩
  have rp : RepPs K ⟨[], []⟩ H [.scr ns] [.ref a] := by
    refine .cons ⟨a, rfl, ?_⟩ .nil
    rcases hS with h | h
    · exact .inl ⟨fun m => m.elim (fun z => absurd z List.not_mem_nil) fun z => absurd z List.not_mem_nil, h⟩
    · exact .inr (.inr h)
  have out : Out ⟨K, E0⟩ ⟨[], []⟩ H (fun v _ => v = .bl true) (sem [.scr ns] []) := by
    rw [hs]
    intro L' H' v _ _ r
    have r' : Rep K L' H' (.bl true) v := r
    cases r'
    rfl
  refine codeAny_mono ((F _ kin (into hns)).run callerA [] s H ⟨[.ref a], []⟩ [.ref a] [.ref a] _ E0 ⟨[], []⟩ [.scr ns] [] hr rfl env (hbind s (.ref a)) (.cons rfl .nil) sr rp rfl out) fun r s' h => ?_
  cases r with
  | error e =>
    obtain ⟨_, _, _, _, _, _, _, _, _, _, _, _, z⟩ := h
    exact z.elim
  | ok fl => cases fl with
    | ret u =>
      obtain ⟨v, H', os, bare, un, hok', rv, rfl⟩ := h
      obtain rfl : u = Value.bool true := rv
      refine ⟨rfl, OldK.of_keep fun b o e => ?_, os, bare⟩
      rcases hO b with z | ⟨ob, xs, z⟩
      · exact un.keep b o e z (fun m => absurd m List.not_mem_nil) (by simp)
      · obtain ⟨g1, _⟩ := hok b _ z
        obtain ⟨g2, _⟩ := hok' b _ (un.frzs b ob _ z)
        rw [e] at g1
        cases g1
        exact g2
    | _ => exact False.elim h
theorem law_callG (KX : K.In s.heap) (hns : s.heap.Ns mainGlobals mg) (hb : s.heap.Ns builtinsNs mb) (hbb : ∀ x : Str, x ≠ "__name__" → mb x = bootBuiltins x) (hlim : s.heap.NoLimit) (hg : s.gens = #[])
    (ha : s.heap.get? a = some { cls := .type "list", data := .seq vs.toArray }) (hi : IntsAre vs ns) (hl : ns.length ≤ sizeLine) (hr : Room k callerA)
    (F : ∀ base : Heap, K.In base → base.Ns mainGlobals mg → FnG P w K mg base k fa fd [x] sem) (hbind : ∀ (s : Shared) (u : Value), BindsTo s fd ⟨[u], []⟩ [(x, u)]) (hs : Yes (sem [.scr ns] [])) :
    codeAny (model P w) callerA (.call (.ref fa) ⟨[.ref a], []⟩) (fun r s' => r = .ok (.ret (.bool true)) ∧ OldK s.heap s'.heap ∧ s'.os = s.os ∧ AllBare s'.gens) s := by
  have rv := L2.vals_ints hi
  cases hk : K.lookup a with
  | none =>
    let H : Hp := fun b => if b = a then some (.frz { cls := .type "list", data := .seq vs.toArray } (.lst (ns.map V.int))) else none
    have at_ : H a = some (.frz { cls := .type "list", data := .seq vs.toArray } (.lst (ns.map V.int))) := if_pos rfl
    have off : ∀ {b : Addr}, b ≠ a → H b = none := fun e => if_neg e
    refine call_at (H := H) KX hns hb hbb hlim hg hr F hbind hs (fun b o e d => ?_) (fun b o e => ?_) (fun b u z => ?_) (fun b => ?_) (.inl (.inr ⟨_, at_⟩))
    · by_cases q : b = a
      · subst q
        rw [ha] at e
        cases e
        obtain ⟨es, ep, d⟩ := d
        cases d
      · exact off q
    · by_cases q : b = a
      · rw [q, hk] at e; cases e
      · exact off q
    · by_cases q : b = a
      · subst q
        rw [at_] at z
        cases z
        exact ⟨ha, by rw [List.length_map]; exact hl, vs, _, rv, ha⟩
      · rw [off q] at z; cases z
    · by_cases q : b = a
      · exact .inr ⟨_, _, by rw [q]; exact at_⟩
      · exact .inl (off q)
  | some o =>
    have e := KX a o hk
    rw [ha] at e
    cases e
    refine call_at (H := fun _ => none) KX hns hb hbb hlim hg hr F hbind hs (fun _ _ _ _ => rfl) (fun _ _ _ => rfl) (fun b u z => ?_) (fun _ => .inl rfl) (.inr ⟨_, vs.toArray, _, hk, rfl, rfl, rfl, by rw [List.size_toArray, hi.length]; exact hl, by simpa using rv⟩)
    have z' : (none : Option HO) = some u := z
    cases z'
end

/-! ### what is asked of a text -/
/-- how a def takes its arguments -/
structure FnP (fn : Fn) : Prop where
  bind : fn.dfs = [] → ∀ (kV doc pm : Value) (an : Option Addr) (cdv ct : Value) (us : List Value), us.length = fn.ps.length →
    bindArgs (PySem.W.fnOf fn.name fn.qual (defArgs fn.st) (defBody fn.st) (defScope fn.st) .none kV doc pm an cdv ct) ⟨us, []⟩ = pure (fn.ps.zip us)
  way : fn.dfs = [] → ∀ q ∈ fn.ways, ∀ (kV doc pm : Value) (an : Option Addr) (cdv ct : Value) (us ws : List Value), us.length = q.1 → ws.length = q.2.1.length →
    bindArgs (PySem.W.fnOf fn.name fn.qual (defArgs fn.st) (defBody fn.st) (defScope fn.st) .none kV doc pm an cdv ct) ⟨us, q.2.1.zip ws⟩ = pure (fn.ps.zip ((pickAll (us ++ ws) q.2.2).getD []))
  wayD : fn.dfs ≠ [] → ∀ q ∈ fn.ways, ∀ (T : Addr) (kV doc pm : Value) (an : Option Addr) (cdv ct : Value) (us ws its : List Value), us.length = q.1 → ws.length = q.2.1.length → its.length = fn.dfs.length →
    ∃ k, bindArgs (PySem.W.fnOf fn.name fn.qual (defArgs fn.st) (defBody fn.st) (defScope fn.st) (.ref T) kV doc pm an cdv ct) ⟨us, q.2.1.zip ws⟩ = seqItems? (.ref T) >>= k ∧ k (some its.toArray) = pure (fn.ps.zip ((pickAll (us ++ ws ++ its) q.2.2).getD []))
theorem FnP.calls {K : PySem.W.Frag} {fn : Fn} {fa : Addr} {fd : FuncData} (p : FnP fn) (F : FunW K fn.name fn.qual fn.st fn.dfs fa fd) : (fn.dfs = [] → Binds K fd fn.ps []) ∧ ∀ q ∈ fn.ways, KB K fd fn.ps q.1 q.2.1 q.2.2 fn.dfs := by
  obtain ⟨oc, od, dV, kV, doc, pm, an, cdv, ct, osl, rfl, lk, hcd, hD⟩ := F.ex
  rcases hD with ⟨e, rfl⟩ | ⟨ne, T, o, its, n, rfl, lT, oT, hl, hv⟩
  · refine ⟨fun _ => .all (p.bind e kV doc pm an cdv ct), fun q hq => ⟨[], fun L H => ⟨[], .nil, by rw [e]; exact .nil⟩, fun s us ws ys hk hu hw hy => ?_⟩⟩
    rw [List.append_nil] at hy
    refine BindsTo.of_eq ?_
    rw [p.way e q hq kV doc pm an cdv ct us ws hu hw, hy]
    rfl
  · refine ⟨fun e => absurd e ne, fun q hq => ⟨its, hv, fun s us ws ys hk hu hw hy => ?_⟩⟩
    obtain ⟨k, e1, e2⟩ := p.wayD ne q hq T kV doc pm an cdv ct us ws its hu hw hl
    refine BindsTo.of_looks fun M => ?_
    rw [e1]
    refine looks_items hk lT oT (.of_pure ?_)
    rw [e2, hy]
    rfl
/-- a def as the top has left it -/
def FnAt (K : PySem.W.Frag) (fn : Fn) : Prop := ∃ fa fd, FunW K fn.name fn.qual fn.st fn.dfs fa fd ∧ (fn.top = true → PySem.W.nsIn K mainGlobals fn.name = some (some (.ref fa)))
section
variable {K : PySem.W.Frag} {fn : Fn} {fa : Addr} {oc dV : Value} {od an : Option Addr} {osl : Array (Option Value)} {kV doc pm cdv ct : Value}
theorem funW_mk (d : DflD K dV fn.dfs) (l : K.lookup fa = some ⟨oc, od, .func (PySem.W.fnOf fn.name fn.qual (defArgs fn.st) (defBody fn.st) (defScope fn.st) dV kV doc pm an cdv ct), osl⟩)
    (c : PySem.W.codeIn K cdv fn.qual = true) (k : PySem.W.keepIn K (.ref fa) = true) : ∃ fd, FunW K fn.name fn.qual fn.st fn.dfs fa fd := ⟨_, ⟨_, _, _, _, _, _, _, _, _, _, rfl, l, c, d⟩, k⟩
theorem fnAt_top (F : ∃ fd, FunW K fn.name fn.qual fn.st fn.dfs fa fd) (a : PySem.W.nsIn K mainGlobals fn.name = some (some (.ref fa))) : FnAt K fn := let ⟨fd, h⟩ := F; ⟨fa, fd, h, fun _ => a⟩
theorem fnAt_met (F : ∃ fd, FunW K fn.name fn.qual fn.st fn.dfs fa fd) (t : fn.top = false) : FnAt K fn := let ⟨fd, h⟩ := F; ⟨fa, fd, h, fun e => by rw [t] at e; cases e⟩
end
theorem dfl0 {K : PySem.W.Frag} : DflD K .none [] := .inl ⟨rfl, rfl⟩
/-- a written constant as a value -/
inductive CV : D → V → Prop
  | non : CV .non .non
  | bl (b : Bool) : CV (.bl b) (.bl b)
  | int (i : Int) : CV (.int i) (.int i)
  | str (x : Str) : CV (.str x) (.str x)
theorem CV.rep {K : PySem.W.Frag} {L : Plc} {H : Hp} {d : D} {v : V} (c : CV d v) : Rep K L H d v := by
  cases c with
  | non => exact .non
  | bl b => exact .bl b
  | int i => exact .int i
  | str x => exact .str x
theorem dflT {K : PySem.W.Frag} {T : Addr} {oc : Value} {od : Option Addr} {osl : Array (Option Value)} {its : List Value} {n : Nat} {ds : List D} (vs : List V) (l : K.lookup T = some ⟨oc, od, .seq its.toArray n, osl⟩) (hne : ds ≠ []) (hl : its.length = ds.length) (hv : Vals vs its) (hc : Paired CV ds vs) : DflD K (.ref T) ds := by
  refine .inr ⟨hne, T, _, its, n, rfl, l, rfl, hl, fun L H => ⟨vs, hv, ?_⟩⟩
  clear hne hl l hv
  induction hc with
  | nil => exact .nil
  | cons a _ ih => exact .cons a.rep ih
/-- a constant of the text -/
def ConstAt (K : PySem.W.Frag) (n : Str) (d : D) : Prop := ∃ u v, PySem.W.nsIn K mainGlobals n = some (some u) ∧ RelV v u ∧ ∀ L H, Rep K L H d v
theorem constI {K : PySem.W.Frag} {n : Str} {i : Int} {t : Tok} (h : PySem.W.nsIn K mainGlobals n = some (some (.int i t))) : ConstAt K n (.int i) := ⟨_, .int i, h, ⟨t, rfl⟩, fun _ _ => .int i⟩
theorem constS {K : PySem.W.Frag} {n : Str} {z : Str} {t : Tok} (h : PySem.W.nsIn K mainGlobals n = some (some (.str z t))) : ConstAt K n (.str z) := ⟨_, .str z, h, ⟨t, rfl⟩, fun _ _ => .str z⟩
/-! classes -/
section
variable {K : PySem.W.Frag} {Ca : Addr}
theorem clsT_mk (hn : PySem.W.specialIn K (.builtin "object.__class__") "__get__" = some (some (.builtin "getset_descriptor.__get__"))) (htk : PySem.W.takesIn K (.builtin "object.__class__") = some true)
    (pg : PySem.W.plainGet K Ca Str.empty = true) (hd : PySem.W.hasDictIn K Ca = true) (po : PySem.W.plainOver K Ca = true) (sa : PySem.W.findIn K (.ref Ca) "__setattr__" = some (some (.builtin "object.__setattr__")))
    (ha : PySem.W.findIn K (.ref Ca) "__class__" = some (some (.builtin "object.__class__"))) (hm : PySem.W.mroIn K Ca (.type "object") = some true)
    (k1 : PySem.W.kitOne K (.ref Ca) (.type "int") = some false) (k2 : PySem.W.kitOne K (.ref Ca) (.type "bool") = some false) (k3 : PySem.W.kitOne K (.ref Ca) (.type "str") = some false)
    (k4 : PySem.W.kitOne K (.ref Ca) (.type "list") = some false) (k5 : PySem.W.kitOne K (.ref Ca) (.type "tuple") = some false) (k6 : PySem.W.kitOne K (.ref Ca) (.type "dict") = some false) : ClsT K Ca :=
  ⟨⟨pg, hd, po, sa⟩, ha, hn, htk, hm, fun k => by cases k <;> assumption⟩
end
/-- what is known of a method, a making, a look at a class, a field -/
def MetAt (K : PySem.W.Frag) (fn : Fn) (c m : String) : Prop := ∀ Ca, PySem.W.nsIn K mainGlobals (Str.ofString c) = some (some (.ref Ca)) → ∃ fa fd, Meth K Ca (Str.ofString m) fa ∧ FunW K fn.name fn.qual fn.st fn.dfs fa fd
def MakAt (K : PySem.W.Frag) (fn : Fn) (c : String) : Prop := ∃ Ca fa fd, PySem.W.nsIn K mainGlobals (Str.ofString c) = some (some (.ref Ca)) ∧ ClsT K Ca ∧ Mk K Ca fa ∧ FunW K fn.name fn.qual fn.st fn.dfs fa fd
def IscAt (K : PySem.W.Frag) (t : String) (yes no : List String) : Prop := ∃ Ta, PySem.W.nsIn K mainGlobals (Str.ofString t) = some (some (.ref Ta)) ∧ (∀ c ∈ yes, ∀ Ca, PySem.W.nsIn K mainGlobals (Str.ofString c) = some (some (.ref Ca)) → PySem.W.kitOne K (.ref Ca) (.ref Ta) = some true) ∧
    (∀ c ∈ no, ∀ Ca, PySem.W.nsIn K mainGlobals (Str.ofString c) = some (some (.ref Ca)) → PySem.W.kitOne K (.ref Ca) (.ref Ta) = some false) ∧
    ∀ n ∈ ["NoneType", "bool", "int", "str", "list", "tuple", "dict"], PySem.W.kitOne K (.type n) (.ref Ta) = some false
def FldAt (K : PySem.W.Frag) (c f : String) : Prop := ∀ Ca, PySem.W.nsIn K mainGlobals (Str.ofString c) = some (some (.ref Ca)) → NoAttr K Ca (Str.ofString f)
section
variable {K : PySem.W.Frag} {fn : Fn} {c m f t : String} {Ca fa : Addr}
theorem metAt (a : PySem.W.nsIn K mainGlobals (Str.ofString c) = some (some (.ref Ca))) (h : PySem.W.findIn K (.ref Ca) (Str.ofString m) = some (some (.ref fa))) (i : PySem.W.isFn K (.ref fa) = true) (F : ∃ fd, FunW K fn.name fn.qual fn.st fn.dfs fa fd) : MetAt K fn c m := fun Cb hb => by
  rw [a] at hb
  cases hb
  obtain ⟨fd, F⟩ := F
  exact ⟨fa, fd, ⟨h, i, F.kp⟩, F⟩
theorem makAt (a : PySem.W.nsIn K mainGlobals (Str.ofString c) = some (some (.ref Ca))) (T : ClsT K Ca) (mk : PySem.W.makesIn K Ca = true) (kp : PySem.W.keepIn K (.ref Ca) = true) (h : PySem.W.findIn K (.ref Ca) "__init__" = some (some (.ref fa))) (i : PySem.W.isFn K (.ref fa) = true) (F : ∃ fd, FunW K fn.name fn.qual fn.st fn.dfs fa fd) : MakAt K fn c := by
  obtain ⟨fd, F⟩ := F
  exact ⟨Ca, fa, fd, a, T, ⟨mk, h, i, kp⟩, F⟩
theorem fldAt (a : PySem.W.nsIn K mainGlobals (Str.ofString c) = some (some (.ref Ca))) (h : PySem.W.findIn K (.ref Ca) (Str.ofString f) = some none) : FldAt K c f := fun Cb hb => by
  rw [a] at hb
  cases hb
  exact h
/-- a class's answer to isinstance -/
theorem kit1 {Ta : Addr} {b : Bool} (a : PySem.W.nsIn K mainGlobals (Str.ofString c) = some (some (.ref Ca))) (h : PySem.W.kitOne K (.ref Ca) (.ref Ta) = some b) : ∀ Cb, PySem.W.nsIn K mainGlobals (Str.ofString c) = some (some (.ref Cb)) → PySem.W.kitOne K (.ref Cb) (.ref Ta) = some b := fun Cb hb => by
  rw [a] at hb
  cases hb
  exact h
theorem kit7 {Ta : Addr} (k0 : PySem.W.kitOne K (.type "NoneType") (.ref Ta) = some false) (k1 : PySem.W.kitOne K (.type "bool") (.ref Ta) = some false) (k2 : PySem.W.kitOne K (.type "int") (.ref Ta) = some false) (k3 : PySem.W.kitOne K (.type "str") (.ref Ta) = some false)
    (k4 : PySem.W.kitOne K (.type "list") (.ref Ta) = some false) (k5 : PySem.W.kitOne K (.type "tuple") (.ref Ta) = some false) (k6 : PySem.W.kitOne K (.type "dict") (.ref Ta) = some false) : ∀ n ∈ ["NoneType", "bool", "int", "str", "list", "tuple", "dict"], PySem.W.kitOne K (.type n) (.ref Ta) = some false := by
  intro n hn
  simp only [List.mem_cons, List.not_mem_nil, or_false] at hn
  rcases hn with rfl | rfl | rfl | rfl | rfl | rfl | rfl <;> assumption
end
structure TextAt (K : PySem.W.Frag) (T : Tbl) : Prop where
  free : ∀ n ∈ T.free, PySem.W.nsIn K mainGlobals n = some none
  consts : ∀ q ∈ T.consts, ConstAt K q.1 q.2
  fns : ∀ fn ∈ T.fns, FnAt K fn
  mets : ∀ q ∈ T.mets, ∃ fn, T.fns[q.2.2]? = some fn ∧ MetAt K fn q.1 q.2.1
  maks : ∀ q ∈ T.maks, ∃ fn, T.fns[q.2]? = some fn ∧ MakAt K fn q.1
  iscs : ∀ q ∈ T.iscs, IscAt K q.1 q.2.1 q.2.2
  flds : ∀ q ∈ T.flds, FldAt K q.1 q.2
theorem TextAt.ok {K : PySem.W.Frag} {T : Tbl} {h : Heap} {mg : Str → Option Value} (t : TextAt K T) (hp : ∀ fn ∈ T.fns, FnP fn) (X : K.In h) (G : h.Ns mainGlobals mg) : KOk K mg T where
  free := fun n hn => PySem.W.mg_none_of X G (t.free n hn)
  consts := fun n d hn => by
    obtain ⟨u, v, e, r, q⟩ := t.consts (n, d) hn
    exact ⟨u, v, PySem.W.mg_of X G e, r, q⟩
  fns := fun f fn hf => by
    obtain ⟨fa, fd, F, e⟩ := t.fns fn (List.mem_of_getElem? hf)
    exact ⟨fa, fd, F, fun ht => PySem.W.mg_of X G (e ht)⟩
  calls := fun f fn fa fd hf F => (hp fn (List.mem_of_getElem? hf)).calls F
  mets := fun c m f hm => t.mets (c, m, f) hm
  maks := fun c f hm => by
    obtain ⟨fn, hf, Ca, fa, fd, h1, h2, h3, h4⟩ := t.maks (c, f) hm
    exact ⟨fn, Ca, fa, fd, hf, h1, PySem.W.mg_of X G h1, h2, h3, h4⟩
  iscs := fun c y n hm => by
    obtain ⟨Ta, h1, h2⟩ := t.iscs (c, y, n) hm
    exact ⟨Ta, PySem.W.mg_of X G h1, h2⟩
  flds := fun c f hm => t.flds (c, f) hm
/-- THE LAW: f is its place in the table -/
theorem walkG {l : PySem.W.OpenLaw} {n k f : Nat} {q : Program} {loose : List Str} {XP : (Str → Option Value) → Heap → Prop} {YP : World → Heap → Prop} {d : DefRec} {K : Params → PySem.W.Frag} {x : Str} {T : Tbl} {fn : Fn}
    (hn : l.most = some n) (hn2 : n ≤ sizeLine) (hdf : d.params.defaults = []) (hr : Room (2 * k) callerA) (hT : chkT T = true) (hp : ∀ fn ∈ T.fns, FnP fn) (hf : T.fns[f]? = some fn) (hx : fn.ps = [x]) (hd0 : fn.dfs = []) (ht : fn.top = true) (hname : fn.name = d.name)
    (hY : ∀ (w : World) (h : Heap), YP w h → (K w.params).In h) (t : ∀ w : World, TextAt (K w.params) T)
    (hs : ∀ ns : List Int, ns.length ≤ n → Yes (callN T.F k f [.scr ns] [])) : PySem.W.WalkO q loose XP YP l.row.toRowW d [] (fun f vs => PySem.call f vs) := by
  refine Att.attach_call hn hdf fun w s₀ s₁ mg mb fa o pm cd doc a vs ns G Y ho hd hcd hmg hobj hints hlen hg => ?_
  have KX := hY w _ Y
  have ko := (t w).ok hp KX G.T.g
  obtain ⟨fa', fd, F, hm⟩ := ko.fns f fn hf
  have hm := hm ht
  rw [hname] at hm
  have e := hmg.symm.trans hm
  cases e
  refine law_callG (x := x) (fd := fd) KX G.T.g G.T.b G.T.builtins G.T.nolimit hg hobj hints (Nat.le_trans hlen hn2) hr (fun base kb nb => ?_) (fun s u => ?_) (hs ns hlen)
  · have z := all_fns (P := l.prog) (w := w) (base := base) hT ko k f fn _ fd hf F
    rw [hx] at z
    exact z
  · obtain ⟨oc, od, dV, kV, doc, pm, an, cdv, ct, osl, rfl, lk, hcd, hD⟩ := F.ex
    rcases hD with ⟨_, rfl⟩ | ⟨ne, _⟩
    · refine BindsTo.of_eq ?_
      have z := (hp fn (List.mem_of_getElem? hf)).bind hd0 kV doc pm an cdv ct [u] (by rw [hx]; rfl)
      rw [hx] at z
      exact z
    · exact absurd hd0 ne
end PD

set_option Elab.async false
set_option linter.all false
set_option autoImplicit false
set_option maxRecDepth 100000
/-! PdQ: plain lemmas over the small language. -/
namespace PD
open PySem

/-- a step that comes to its end with a wish -/
@[irreducible] def R.sat {α : Type} (r : R α) (Q : α → CS → Prop) : Prop := ∃ a s, r = .ok a s ∧ Q a s
theorem sat_ok {α : Type} {a : α} {s : CS} {Q : α → CS → Prop} (h : Q a s) : (R.ok a s).sat Q := by
  unfold R.sat; exact ⟨a, s, rfl, h⟩
theorem sat_eq {α : Type} {r : R α} {Q : α → CS → Prop} (h : r.sat Q) : ∃ a s, r = .ok a s ∧ Q a s := by
  unfold R.sat at h; exact h
theorem sat_bind {α β : Type} {r : R α} {f : α → CS → R β} {Q : β → CS → Prop} {P : α → CS → Prop} (h : r.sat P) (g : ∀ a s, P a s → (f a s).sat Q) : (r.bind f).sat Q := by
  obtain ⟨a, s, rfl, h'⟩ := sat_eq h
  exact g a s h'
theorem sat_mono {α : Type} {r : R α} {P Q : α → CS → Prop} (h : r.sat P) (g : ∀ a s, P a s → Q a s) : r.sat Q := by
  obtain ⟨a, s, rfl, h'⟩ := sat_eq h
  exact sat_ok (g a s h')
/-- loops by an invariant that counts the turns -/
theorem for_inv {f : Env → CS → R Fl} {many : Bool} {tg : List Nat} {Q : Fl → CS → Prop} (I : Nat → Env → CS → Prop) : ∀ (xs : List D) (i : Nat) (ρ : Env) (s : CS), I i ρ s →
    (∀ (j : Nat) (x : D) (ρ : Env) (s : CS), i ≤ j → xs[j - i]? = some x → I j ρ s → ∃ ρ', bindT many tg x ρ = some ρ' ∧ (f ρ' s).sat fun fl s1 => match fl with
      | .nx ρ2 => I (j + 1) ρ2 s1
      | .rt v => Q (.rt v) s1) →
    (∀ ρ s, I (i + xs.length) ρ s → Q (.nx ρ) s) → (forGo f many tg xs ρ s).sat Q
  | [], i, ρ, s, h, _, e => sat_ok (e ρ s h)
  | x :: xs, i, ρ, s, h, st, e => by
    obtain ⟨ρ', hb, hf⟩ := st i x ρ s (Nat.le_refl _) (by simp) h
    simp only [forGo, hb]
    refine sat_bind hf fun fl s1 hq => ?_
    cases fl with
    | nx ρ2 =>
      refine for_inv I xs (i + 1) ρ2 s1 hq (fun j y ρ s hj hy hI => st j y ρ s (by omega) ?_ hI) fun ρ s hI => e ρ s ?_
      · have e2 : j - i = (j - (i + 1)) + 1 := by omega
        rw [e2, List.getElem?_cons_succ]
        exact hy
      · rw [List.length_cons]
        have e3 : i + (xs.length + 1) = i + 1 + xs.length := by omega
        rw [e3]; exact hI
    | rt v => exact sat_ok hq
/-- a list made item by item, without tests -/
theorem comp_map {f : Env → CS → R PV} {t : Env → CS → R Bool} {many : Bool} {tg : List Nat} {ρ : Env} {s : CS} (g : D → D) : ∀ (xs acc : List D), acc.length + xs.length ≤ sizeLine → (∀ x ∈ xs, ∃ ρ', bindT many tg x ρ = some ρ' ∧ t ρ' s = .ok true s ∧ f ρ' s = .ok (.d (g x)) s) →
    compGo f t many tg ρ xs acc s = .ok (acc ++ xs.map g) s
  | [], acc, _, _ => by simp [compGo]
  | x :: xs, acc, hl, h => by
    obtain ⟨ρ', hb, ht, hf⟩ := h x List.mem_cons_self
    rw [List.length_cons] at hl
    simp only [compGo, hb, ht, R.bind, if_true, hf]
    rw [if_pos (by omega), comp_map g xs (acc ++ [g x]) (by rw [List.length_append, List.length_singleton]; omega) fun y hy => h y (List.mem_cons_of_mem _ hy)]
    simp
/-- .. with tests -/
theorem comp_filter {f : Env → CS → R PV} {t : Env → CS → R Bool} {many : Bool} {tg : List Nat} {ρ : Env} {s : CS} (g : D → D) (p : D → Bool) : ∀ (xs acc : List D), acc.length + xs.length ≤ sizeLine → (∀ x ∈ xs, ∃ ρ', bindT many tg x ρ = some ρ' ∧ t ρ' s = .ok (p x) s ∧ (p x = true → f ρ' s = .ok (.d (g x)) s)) →
    compGo f t many tg ρ xs acc s = .ok (acc ++ (xs.filter p).map g) s
  | [], acc, _, _ => by simp [compGo]
  | x :: xs, acc, hl, h => by
    obtain ⟨ρ', hb, ht, hf⟩ := h x List.mem_cons_self
    rw [List.length_cons] at hl
    simp only [compGo, hb, ht, R.bind]
    cases hp : p x with
    | true =>
      simp only [if_true, hf hp]
      rw [if_pos (by omega), comp_filter g p xs (acc ++ [g x]) (by rw [List.length_append, List.length_singleton]; omega) fun y hy => h y (List.mem_cons_of_mem _ hy)]
      simp [hp]
    | false =>
      simp only [Bool.false_eq_true, if_false]
      rw [comp_filter g p xs acc (by omega) fun y hy => h y (List.mem_cons_of_mem _ hy)]
      simp [hp]
/-- a list made item by item of steps that change the store: an invariant -/
theorem comp_inv {f : Env → CS → R PV} {t : Env → CS → R Bool} {many : Bool} {tg : List Nat} {ρ : Env} {Q : List D → CS → Prop} (I : Nat → List D → CS → Prop) : ∀ (xs : List D) (i : Nat) (acc : List D) (s : CS), acc.length + xs.length ≤ sizeLine → I i acc s →
    (∀ (j : Nat) (x : D) (acc : List D) (s : CS), i ≤ j → xs[j - i]? = some x → I j acc s → ∃ ρ', bindT many tg x ρ = some ρ' ∧ (t ρ' s).sat fun b s1 => if b = true then (f ρ' s1).sat fun v s2 => ∃ y, v = .d y ∧ I (j + 1) (acc ++ [y]) s2 else I (j + 1) acc s1) →
    (∀ acc s, I (i + xs.length) acc s → Q acc s) → (compGo f t many tg ρ xs acc s).sat Q
  | [], i, acc, s, _, h, _, e => sat_ok (e acc s h)
  | x :: xs, i, acc, s, hl, h, st, e => by
    obtain ⟨ρ', hb, hf⟩ := st i x acc s (Nat.le_refl _) (by simp) h
    rw [List.length_cons] at hl
    simp only [compGo, hb]
    have next : ∀ (acc' : List D) (s1 : CS), acc'.length + xs.length ≤ sizeLine → I (i + 1) acc' s1 → (compGo f t many tg ρ xs acc' s1).sat Q := fun acc' s1 hl' hI => by
      refine comp_inv I xs (i + 1) acc' s1 hl' hI (fun j y acc s hj hy hI => st j y acc s (by omega) ?_ hI) fun acc s hI => e acc s ?_
      · have e2 : j - i = (j - (i + 1)) + 1 := by omega
        rw [e2, List.getElem?_cons_succ]
        exact hy
      · rw [List.length_cons]
        have e3 : i + (xs.length + 1) = i + 1 + xs.length := by omega
        rw [e3]; exact hI
    refine sat_bind hf fun b s1 hq => ?_
    cases b with
    | true =>
      simp only [if_true] at hq ⊢
      refine sat_bind hq fun v s2 ⟨y, e2, hI⟩ => ?_
      subst e2
      simp only
      rw [if_pos (by omega)]
      exact next _ _ (by rw [List.length_append, List.length_singleton]; omega) hI
    | false =>
      simp only [Bool.false_eq_true, if_false] at hq ⊢
      exact next _ _ (by omega) hq

/-! ### numbers -/
theorem log_lt {m : Int} {k : Nat} (h0 : 0 ≤ m) (h : m < 2 ^ k) (hk : 0 < k) : m.natAbs.log2 < k := by
  have h1 : m.natAbs < 2 ^ k := by
    have : ((2 ^ k : Nat) : Int) = (2 : Int) ^ k := by simp
    omega
  by_cases e : m.natAbs = 0
  · rw [e]; simpa using hk
  · exact (Nat.log2_lt e).mpr h1
theorem div_log {m : Int} (h0 : 0 ≤ m) (h : m < 2 ^ 200) : m.natAbs.log2 < 9000 := Nat.lt_of_lt_of_le (log_lt h0 h (by decide)) (by decide)
theorem ix_nn {n : Nat} {i : Int} (h0 : 0 ≤ i) (h : i < n) : L2.ixN n i = some i.toNat := by
  unfold L2.ixN
  rw [if_pos h0]
  simp [h]
  try omega
theorem atI_nn {α : Type} {l : List α} {i : Int} (h0 : 0 ≤ i) (h : i < l.length) : L2.atI l i = l[i.toNat]? := by
  unfold L2.atI
  rw [ix_nn h0 h]
  rfl
theorem atI_ints {ns : List Int} {i : Int} (h0 : 0 ≤ i) (h : i < ns.length) : L2.atI (ns.map D.int) i = some (.int (ns.getD i.toNat 0)) := by
  rw [atI_nn h0 (by rw [List.length_map]; exact h), List.getElem?_map]
  have : i.toNat < ns.length := by omega
  simp [List.getElem?_eq_getElem this]

/-! ### data -/
mutual
def D.okS : D → Bool
  | .str s => s.cps.toList.all fun c => decide (c < 0x110000)
  | .lst l => D.okSs l
  | .tup l => D.okSs l
  | .int i => decide (i.natAbs.log2 < 1920)
  | .dct _ _ => false
  | .ins _ _ _ => false
  | _ => true
def D.okSs : List D → Bool
  | [] => true
  | x :: r => x.okS && D.okSs r
end
mutual
theorem okS_show : ∀ d : D, d.okS = true → d.toP.showable = true ∧ d.toP.leavesShort 1921 = true
  | .non, _ => ⟨rfl, rfl⟩
  | .bl _, _ => ⟨rfl, rfl⟩
  | .int i, h => by
    rw [D.okS, decide_eq_true_eq] at h
    refine ⟨by simpa [D.toP, PyData.showable] using h, ?_⟩
    rw [D.toP, PyData.leavesShort, PyData.shown, decide_eq_true_eq]
    have e := PySem.int_text_length_le (k := 1920) (by decide) h
    show (Str.ofString (toString i)).length ≤ 1921
    have e2 : (Str.ofString (toString i)).length = (toString i).length := by
      rw [Str.ofString_eq_toList]
      show (((toString i).toList.map Char.toNat).toArray).size = _
      rw [List.size_toArray, List.length_map, String.length_toList]
    rw [e2]; exact e
  | .str s, h => by
    rw [D.okS] at h
    refine ⟨by simp [D.toP, PyData.showable], ?_⟩
    rw [D.toP, PyData.leavesShort, List.all_eq_true]
    intro c hc
    have := List.all_eq_true.mp h c hc
    rw [decide_eq_true_eq] at this ⊢
    omega
  | .lst l, h => by
    rw [D.okS] at h
    have z := okSs_show l h
    exact ⟨by rw [D.toP, PyData.showable]; exact z.1, by rw [D.toP, PyData.leavesShort]; exact z.2⟩
  | .tup l, h => by
    rw [D.okS] at h
    have z := okSs_show l h
    exact ⟨by rw [D.toP, PyData.showable]; exact z.1, by rw [D.toP, PyData.leavesShort]; exact z.2⟩
  | .dct _ _, h => by rw [D.okS] at h; cases h
  | .ins _ _ _, h => by rw [D.okS] at h; cases h
theorem okSs_show : ∀ l : List D, D.okSs l = true → PyData.showableAll (D.toPs l) = true ∧ PyData.leavesShortAll 1921 (D.toPs l) = true
  | [], _ => ⟨by simp [D.toPs, PyData.showableAll], by simp [D.toPs, PyData.leavesShortAll]⟩
  | x :: r, h => by
    rw [D.okSs, Bool.and_eq_true] at h
    have a := okS_show x h.1
    have b := okSs_show r h.2
    simp [D.toPs, PyData.showableAll, PyData.leavesShortAll, a.1, a.2, b.1, b.2]
end
mutual
theorem okS_plain : ∀ d : D, d.okS = true → d.plain = true
  | .non, _ => rfl
  | .bl _, _ => rfl
  | .int _, _ => rfl
  | .str _, _ => rfl
  | .lst l, h => by
    rw [D.okS] at h
    rw [D.plain]; exact okSs_plain l h
  | .tup l, h => by
    rw [D.okS] at h
    rw [D.plain]; exact okSs_plain l h
  | .dct _ _, h => by rw [D.okS] at h; cases h
  | .ins _ _ _, h => by rw [D.okS] at h; cases h
theorem okSs_plain : ∀ l : List D, D.okSs l = true → D.plains l = true
  | [], _ => rfl
  | x :: r, h => by
    rw [D.okSs, Bool.and_eq_true] at h
    rw [D.plains, okS_plain x h.1, okSs_plain r h.2]; rfl
end
/-- data of at most so many leaves has a text -/
theorem reprD_ok {d : D} (h : d.okS = true) (hw : d.toP.weight ≤ 8000) (hd : d.toP.depth ≤ 60) : reprD d = some d.toP.shown := by
  obtain ⟨h1, h2⟩ := okS_show d h
  have h3 := PyData.shown_le 1921 (by decide) d.toP h2
  unfold reprD
  rw [if_pos]
  have h4 : d.toP.shown.length ≤ sizeLine := by
    have e : sizeLine = 16777216 := by decide
    omega
  simp [okS_plain d h, h1, h4, hd]
mutual
theorem okS_lay : ∀ d : D, d.okS = true → d.toP.canLay0 = true
  | .non, _ => rfl
  | .bl _, _ => rfl
  | .int i, h => rfl
  | .str s, h => by
    rw [D.okS] at h
    rw [D.toP, PyData.canLay0]
    unfold PyData.strOk
    rw [← Array.all_toList]
    exact h
  | .lst l, h => by
    rw [D.okS] at h
    rw [D.toP, PyData.canLay0]; exact okSs_lay l h
  | .tup l, h => by
    rw [D.okS] at h
    rw [D.toP, PyData.canLay0]; exact okSs_lay l h
  | .dct _ _, h => by rw [D.okS] at h; cases h
  | .ins _ _ _, h => by rw [D.okS] at h; cases h
theorem okSs_lay : ∀ l : List D, D.okSs l = true → PyData.canLayAll0 (D.toPs l) = true
  | [], _ => by simp [D.toPs, PyData.canLayAll0]
  | x :: r, h => by
    rw [D.okSs, Bool.and_eq_true] at h
    simp [D.toPs, PyData.canLayAll0, okS_lay x h.1, okSs_lay r h.2]
end
end PD

set_option Elab.async false
set_option linter.all false
set_option autoImplicit false
set_option maxRecDepth 100000
/-! PdR: the meaning, one step at a time: equations without binders, for simp. -/
namespace PD
open PySem

@[irreducible] def R.go {α β : Type} (r : R α) (f : α → CS → R β) : R β := r.bind f
theorem go_ok {α β : Type} (a : α) (s : CS) (f : α → CS → R β) : (R.ok a s).go f = f a s := by unfold R.go; rfl
theorem go_exc {α β : Type} (c : String) (ns : List String) (vs : List D) (s : CS) (f : α → CS → R β) : (R.exc c ns vs s : R α).go f = .exc c ns vs s := by unfold R.go; rfl
theorem go_bad {α β : Type} (f : α → CS → R β) : (R.bad : R α).go f = .bad := by unfold R.go; rfl
theorem go_def {α β : Type} (r : R α) (f : α → CS → R β) : r.go f = r.bind f := by unfold R.go; rfl
theorem go_sat {α β : Type} {r : R α} {f : α → CS → R β} {Q : β → CS → Prop} {P : α → CS → Prop} (h : r.sat P) (g : ∀ a s, P a s → (f a s).sat Q) : (r.go f).sat Q := by
  rw [go_def]; exact sat_bind h g
/-- a choice -/
def br {β : Type} (c : Option Bool) (f g : CS → R β) (s : CS) : R β := match c with
  | some true => f s
  | some false => g s
  | none => .bad
theorem br_t {β : Type} (f g : CS → R β) (s : CS) : br (some true) f g s = f s := rfl
theorem br_f {β : Type} (f g : CS → R β) (s : CS) : br (some false) f g s = g s := rfl
def tru (p : PV) (s : CS) : Option Bool := (p.rd s).bind truth
theorem tru_bl (b : Bool) (s : CS) : tru (.d (.bl b)) s = some b := rfl
theorem tru_int (i : Int) (s : CS) : tru (.d (.int i)) s = some (i != 0) := rfl
theorem tru_non (s : CS) : tru (.d .non) s = some false := rfl
theorem tru_lst (l : List D) (s : CS) : tru (.d (.lst l)) s = some (!l.isEmpty) := rfl
theorem rd_d (x : D) (s : CS) : (PV.d x).rd s = some x := rfl
theorem tru_tup (l : List D) (s : CS) : tru (.d (.tup l)) s = some (!l.isEmpty) := rfl
theorem tru_str {z : Str} {s : CS} (h : z.length ≤ sizeLine) : tru (.d (.str z)) s = some (z.length != 0) := by
  show truth (.str z) = _
  rw [truth, if_pos h]
def rdC : Option Cell → Option D
  | some (.lst l) => some (.lst l)
  | some (.ins c ns vs) => some (.ins c ns vs)
  | _ => none
theorem rd_obj (k : Nat) (s : CS) : (PV.obj k).rd s = rdC s[k]? := rfl
theorem rdC_i (c : String) (ns : List String) (vs : List D) : rdC (some (.ins c ns vs)) = some (.ins c ns vs) := rfl
theorem rdC_l (l : List D) : rdC (some (.lst l)) = some (.lst l) := rfl
def varR (o : Option (Option PV)) (s : CS) : R PV := match o with
  | some (some v) => .ok v s
  | _ => .bad
theorem varR_ok (v : PV) (s : CS) : varR (some (some v)) s = .ok v s := rfl
def retD (o : Option D) (s : CS) : R PV := lift (o.map PV.d) s
theorem retD_ok (d : D) (s : CS) : retD (some d) s = .ok (.d d) s := rfl
section
variable (C : Cl)
def kBin1 (o : BO) (b : E) (ρ : Env) (x : PV) (s : CS) : R PV := (evE C b ρ s).bind fun y s2 => lift (match x.rd s2, y.rd s2 with
    | some x, some y => (binop o x y).map PV.d
    | _, _ => none) s2
def opD (f : D → D → Option D) : Option D → Option D → Option D
  | some x, some y => f x y
  | _, _ => none
theorem opD_ok (f : D → D → Option D) (x y : D) : opD f (some x) (some y) = f x y := rfl
def kBin2 (o : BO) (x y : PV) (s : CS) : R PV := retD (opD (binop o) (x.rd s) (y.rd s)) s
def kCmp1 (o : CO) (b : E) (ρ : Env) (x : PV) (s : CS) : R PV := (evE C b ρ s).bind fun y s2 => lift (match x.rd s2, y.rd s2 with
    | some x, some y => (cmpop o x y).map PV.d
    | _, _ => none) s2
def kCmp2 (o : CO) (x y : PV) (s : CS) : R PV := retD (opD (cmpop o) (x.rd s) (y.rd s)) s
theorem q_lit (c : D) (ρ : Env) (s : CS) : evE C (.lit c) ρ s = .ok (.d c) s := by rw [evE]
theorem q_var (i : Nat) (ρ : Env) (s : CS) : evE C (.var i) ρ s = varR ρ[i]? s := by rw [evE]; rfl
theorem q_bin (o : BO) (a b : E) (ρ : Env) (s : CS) : evE C (.bin o a b) ρ s = (evE C a ρ s).go (kBin1 C o b ρ) := by rw [evE, go_def]; rfl
theorem lift_opD (f : D → D → Option D) (x y : PV) (s : CS) : lift (match x.rd s, y.rd s with
    | some x, some y => (f x y).map PV.d
    | _, _ => none) s = retD (opD f (x.rd s) (y.rd s)) s := by
  unfold retD opD
  cases x.rd s <;> cases y.rd s <;> rfl
theorem q_bin1 (o : BO) (b : E) (ρ : Env) (x : PV) (s : CS) : kBin1 C o b ρ x s = (evE C b ρ s).go (kBin2 o x) := by
  rw [go_def]; unfold kBin1; congr 1; funext y s2; exact lift_opD _ _ _ _
theorem q_bin2 (o : BO) (x y : PV) (s : CS) : kBin2 o x y s = retD (opD (binop o) (x.rd s) (y.rd s)) s := rfl
theorem q_cmp (o : CO) (a b : E) (ρ : Env) (s : CS) : evE C (.cmp o a b) ρ s = (evE C a ρ s).go (kCmp1 C o b ρ) := by rw [evE, go_def]; rfl
theorem q_cmp1 (o : CO) (b : E) (ρ : Env) (x : PV) (s : CS) : kCmp1 C o b ρ x s = (evE C b ρ s).go (kCmp2 o x) := by
  rw [go_def]; unfold kCmp1; congr 1; funext y s2; exact lift_opD _ _ _ _
theorem q_cmp2 (o : CO) (x y : PV) (s : CS) : kCmp2 o x y s = retD (opD (cmpop o) (x.rd s) (y.rd s)) s := rfl
def kNeg (x : PV) (s : CS) : R PV := match x with
  | .d (.int i) => .ok (.d (.int (-i))) s
  | _ => .bad
theorem q_neg (a : E) (ρ : Env) (s : CS) : evE C (.neg a) ρ s = (evE C a ρ s).go kNeg := by rw [evE, go_def]; rfl
theorem q_neg1 (i : Int) (s : CS) : kNeg (.d (.int i)) s = .ok (.d (.int (-i))) s := rfl
def kIsn (n : Bool) (x : PV) (s : CS) : R PV := lift ((isNone x s).map fun b => PV.d (.bl (b != n))) s
theorem q_isn (n : Bool) (a : E) (ρ : Env) (s : CS) : evE C (.isn n a) ρ s = (evE C a ρ s).go (kIsn n) := by rw [evE, go_def]; rfl
theorem q_isn_non (n : Bool) (s : CS) : kIsn n (.d .non) s = .ok (.d (.bl (!n))) s := by cases n <;> rfl
theorem q_isn_bl (n b : Bool) (s : CS) : kIsn n (.d (.bl b)) s = .ok (.d (.bl n)) s := by cases n <;> rfl
theorem q_isn_int (n : Bool) (i : Int) (s : CS) : kIsn n (.d (.int i)) s = .ok (.d (.bl n)) s := by cases n <;> rfl
theorem q_isn_str (n : Bool) (z : Str) (s : CS) : kIsn n (.d (.str z)) s = .ok (.d (.bl n)) s := by cases n <;> rfl
theorem q_isn_lst (n : Bool) (l : List D) (s : CS) : kIsn n (.d (.lst l)) s = .ok (.d (.bl n)) s := by cases n <;> rfl
theorem q_isn_tup (n : Bool) (l : List D) (s : CS) : kIsn n (.d (.tup l)) s = .ok (.d (.bl n)) s := by cases n <;> rfl
def kAnd (es : Es) (ρ : Env) (x : PV) (s : CS) : R PV := br (tru x s) (evAnd C es ρ) (R.ok x) s
def kOr (es : Es) (ρ : Env) (x : PV) (s : CS) : R PV := br (tru x s) (R.ok x) (evOr C es ρ) s
theorem q_and (es : Es) (ρ : Env) (s : CS) : evE C (.and es) ρ s = evAnd C es ρ s := by rw [evE]
theorem q_or (es : Es) (ρ : Env) (s : CS) : evE C (.or es) ρ s = evOr C es ρ s := by rw [evE]
theorem q_and1 (e : E) (ρ : Env) (s : CS) : evAnd C (.cons e .nil) ρ s = evE C e ρ s := by rw [evAnd]
theorem q_or1 (e : E) (ρ : Env) (s : CS) : evOr C (.cons e .nil) ρ s = evE C e ρ s := by rw [evOr]
theorem q_and2 (e e2 : E) (es : Es) (ρ : Env) (s : CS) : evAnd C (.cons e (.cons e2 es)) ρ s = (evE C e ρ s).go (kAnd C (.cons e2 es) ρ) := by
  rw [evAnd, go_def]; congr 1
theorem q_or2 (e e2 : E) (es : Es) (ρ : Env) (s : CS) : evOr C (.cons e (.cons e2 es)) ρ s = (evE C e ρ s).go (kOr C (.cons e2 es) ρ) := by
  rw [evOr, go_def]; congr 1; funext x s1; unfold kOr br tru; split <;> rename_i h <;> rw [h]
theorem q_kand (es : Es) (ρ : Env) (x : PV) (s : CS) : kAnd C es ρ x s = br (tru x s) (evAnd C es ρ) (R.ok x) s := rfl
theorem q_kor (es : Es) (ρ : Env) (x : PV) (s : CS) : kOr C es ρ x s = br (tru x s) (R.ok x) (evOr C es ρ) s := rfl
def notR (o : Option Bool) (s : CS) : R PV := lift (o.map fun b => PV.d (.bl !b)) s
theorem notR_ok (b : Bool) (s : CS) : notR (some b) s = .ok (.d (.bl !b)) s := rfl
def kNot (x : PV) (s : CS) : R PV := notR (tru x s) s
theorem q_not (a : E) (ρ : Env) (s : CS) : evE C (.not a) ρ s = (evE C a ρ s).go kNot := by
  rw [evE, go_def]; congr 1; funext x s1; unfold kNot notR tru; cases x.rd s1 <;> rfl
theorem q_not1 (x : PV) (s : CS) : kNot x s = notR (tru x s) s := rfl
def kIte (a b : E) (ρ : Env) (x : PV) (s : CS) : R PV := br (tru x s) (evE C a ρ) (evE C b ρ) s
theorem q_ite (c a b : E) (ρ : Env) (s : CS) : evE C (.ite c a b) ρ s = (evE C c ρ s).go (kIte C a b ρ) := by
  rw [evE, go_def]; congr 1
theorem q_ite1 (a b : E) (ρ : Env) (x : PV) (s : CS) : kIte C a b ρ x s = br (tru x s) (evE C a ρ) (evE C b ρ) s := rfl
def kTup (xs : List PV) (s : CS) : R PV := lift (if xs.length ≤ sizeLine then (ownAll xs).map fun l => PV.d (.tup l) else none) s
def kLst (xs : List PV) (s : CS) : R PV := lift (if xs.length ≤ sizeLine then (ownAll xs).map fun l => PV.d (.lst l) else none) s
theorem q_tup (es : Es) (ρ : Env) (s : CS) : evE C (.tup es) ρ s = (evEs C es ρ s).go kTup := by rw [evE, go_def]; rfl
theorem q_lst (es : Es) (ρ : Env) (s : CS) : evE C (.lst es) ρ s = (evEs C es ρ s).go kLst := by rw [evE, go_def]; rfl
def dispR (t : List D → D) (o : Option (List D)) (n : Nat) (s : CS) : R PV := match o with
  | some l => if n ≤ sizeLine then .ok (.d (t l)) s else .bad
  | none => .bad
theorem dispR_ok {t : List D → D} {l : List D} {n : Nat} {s : CS} (h : n ≤ 1000) : dispR t (some l) n s = .ok (.d (t l)) s := if_pos (Nat.le_trans h (by decide))
theorem q_tup1 (xs : List PV) (s : CS) : kTup xs s = dispR D.tup (ownAll xs) xs.length s := by
  unfold kTup dispR
  cases ownAll xs with
  | none => split <;> rfl
  | some l => split <;> rfl
theorem q_lst1 (xs : List PV) (s : CS) : kLst xs s = dispR D.lst (ownAll xs) xs.length s := by
  unfold kLst dispR
  cases ownAll xs with
  | none => split <;> rfl
  | some l => split <;> rfl
def kNew (x : PV) (s : CS) : R PV := match x with
  | .d (.lst l) => .ok (.obj s.length) (s ++ [.lst l])
  | _ => .bad
theorem q_new (e : E) (ρ : Env) (s : CS) : evE C (.new e) ρ s = (evE C e ρ s).go kNew := by rw [evE, go_def]; rfl
theorem q_new1 (l : List D) (s : CS) : kNew (.d (.lst l)) s = .ok (.obj s.length) (s ++ [.lst l]) := rfl
def ixR (x : Option D) (y : PV) : Option D := match x, y with
  | some x, .d y => ixD x y
  | _, _ => none
theorem ixR_ok (x y : D) : ixR (some x) (.d y) = ixD x y := rfl
def kIdx1 (i : E) (ρ : Env) (x : PV) (s : CS) : R PV := (evE C i ρ s).bind fun y s2 => lift (match x.rd s2, y with
    | some x, .d y => (ixD x y).map PV.d
    | _, _ => none) s2
def kIdx2 (x y : PV) (s : CS) : R PV := retD (ixR (x.rd s) y) s
theorem q_idx (a i : E) (ρ : Env) (s : CS) : evE C (.idx a i) ρ s = (evE C a ρ s).go (kIdx1 C i ρ) := by rw [evE, go_def]; rfl
theorem q_idx1 (i : E) (ρ : Env) (x : PV) (s : CS) : kIdx1 C i ρ x s = (evE C i ρ s).go (kIdx2 x) := by
  rw [go_def]; unfold kIdx1; congr 1; funext y s2; unfold kIdx2 retD ixR
  cases x.rd s2 with
  | none => rfl
  | some d => cases y <;> rfl
theorem q_idx2 (x y : PV) (s : CS) : kIdx2 x y s = retD (ixR (x.rd s) y) s := rfl
def sliR (x : PV) (l h : Option Int) (s : CS) : R PV := lift (match x with
      | .scr ns => some (PV.d (.lst ((cutL ns l h).map D.int)))
      | x => (x.rd s).bind fun x => (sliD x l h).map PV.d) s
def kSli2 (x : PV) (l : Option Int) (h : Option Int) (s : CS) : R PV := sliR x l h s
def kSli1 (hi : Eo) (ρ : Env) (x : PV) (l : Option Int) (s : CS) : R PV := (evEo C hi ρ s).bind (kSli2 x l)
def kSli (lo hi : Eo) (ρ : Env) (x : PV) (s : CS) : R PV := (evEo C lo ρ s).bind (kSli1 C hi ρ x)
theorem q_sli (a : E) (lo hi : Eo) (ρ : Env) (s : CS) : evE C (.sli a lo hi) ρ s = (evE C a ρ s).go (kSli C lo hi ρ) := by rw [evE, go_def]; rfl
theorem q_sli1 (lo hi : Eo) (ρ : Env) (x : PV) (s : CS) : kSli C lo hi ρ x s = (evEo C lo ρ s).go (kSli1 C hi ρ x) := by rw [go_def]; rfl
theorem q_sli2 (hi : Eo) (ρ : Env) (x : PV) (l : Option Int) (s : CS) : kSli1 C hi ρ x l s = (evEo C hi ρ s).go (kSli2 x l) := by rw [go_def]; rfl
theorem q_sli3 (x : PV) (l h : Option Int) (s : CS) : kSli2 x l h s = sliR x l h s := rfl
theorem sliR_scr (ns : List Int) (l h : Option Int) (s : CS) : sliR (.scr ns) l h s = .ok (.d (.lst ((cutL ns l h).map D.int))) s := rfl
theorem sliR_lst (xs : List D) (l h : Option Int) (s : CS) : sliR (.d (.lst xs)) l h s = .ok (.d (.lst (cutL xs l h))) s := rfl
theorem q_onone (ρ : Env) (s : CS) : evEo C .none ρ s = .ok none s := by rw [evEo]
def kOs (x : PV) (s : CS) : R (Option Int) := match x with
  | .d (.int i) => .ok (some i) s
  | _ => .bad
theorem q_osome (e : E) (ρ : Env) (s : CS) : evEo C (.some e) ρ s = (evE C e ρ s).go kOs := by rw [evEo, go_def]; rfl
theorem q_os (i : Int) (s : CS) : kOs (.d (.int i)) s = .ok (some i) s := rfl
theorem q_call (f : Nat) (es : Es) (ρ : Env) (s : CS) : evE C (.call f es) ρ s = (evEs C es ρ s).go (C.call f) := by rw [evE, go_def]
def permR (f : Nat) (o : Option (List PV)) (s : CS) : R PV := match o with
  | some ys => C.call f ys s
  | none => .bad
theorem permR_ok (f : Nat) (ys : List PV) (s : CS) : permR C f (some ys) s = C.call f ys s := rfl
def kCk2 (f : Nat) (perm : List Nat) (ds : List D) (xs zs : List PV) (s : CS) : R PV := permR C f (pickAll (xs ++ zs ++ ds.map PV.d) perm) s
def kCk1 (f : Nat) (perm : List Nat) (ks : Es) (ds : List D) (ρ : Env) (xs : List PV) (s : CS) : R PV := (evEs C ks ρ s).bind (kCk2 C f perm ds xs)
theorem q_callk (f : Nat) (perm : List Nat) (es ks : Es) (ds : List D) (ρ : Env) (s : CS) : evE C (.callk f perm es ks ds) ρ s = (evEs C es ρ s).go (kCk1 C f perm ks ds ρ) := by
  rw [evE, go_def]; rfl
theorem q_callk1 (f : Nat) (perm : List Nat) (ks : Es) (ds : List D) (ρ : Env) (xs : List PV) (s : CS) : kCk1 C f perm ks ds ρ xs s = (evEs C ks ρ s).go (kCk2 C f perm ds xs) := by rw [go_def]; rfl
theorem q_callk2 (f : Nat) (perm : List Nat) (ds : List D) (xs zs : List PV) (s : CS) : kCk2 C f perm ds xs zs s = permR C f (pickAll (xs ++ zs ++ ds.map PV.d) perm) s := rfl
/-! instances -/
def fldR (f : String) (o : Option D) (s : CS) : R PV := match o with
  | some (.ins _ ns vs) => retD (fldN f ns vs) s
  | _ => .bad
theorem fldR_ok (f c : String) (ns : List String) (vs : List D) (s : CS) : fldR f (some (.ins c ns vs)) s = retD (fldN f ns vs) s := rfl
def kFld (f : String) (x : PV) (s : CS) : R PV := fldR f (x.rd s) s
theorem q_fld (a : E) (f : String) (ρ : Env) (s : CS) : evE C (.fld a f) ρ s = (evE C a ρ s).go (kFld f) := by
  rw [evE, go_def]; congr 1; funext x s1
  unfold kFld fldR retD
  cases x.rd s1 with
  | none => rfl
  | some d => cases d <;> rfl
theorem q_fld1 (f : String) (x : PV) (s : CS) : kFld f x s = fldR f (x.rd s) s := rfl
def kMt2 (f : Nat) (x : PV) (xs : List PV) (s : CS) : R PV := C.call f (x :: xs) s
theorem q_mt2 (f : Nat) (x : PV) (xs : List PV) (s : CS) : kMt2 C f x xs s = C.call f (x :: xs) s := rfl
def mtR (es : Es) (ρ : Env) (x : PV) (o : Option Nat) (s : CS) : R PV := match o with
  | some f => (evEs C es ρ s).go (kMt2 C f x)
  | none => .bad
theorem mtR_ok (es : Es) (ρ : Env) (x : PV) (f : Nat) (s : CS) : mtR C es ρ x (some f) s = (evEs C es ρ s).go (kMt2 C f x) := rfl
def metR (m : String) (tab : List (String × Nat)) (es : Es) (ρ : Env) (x : PV) (o : Option D) (s : CS) : R PV := match o with
  | some (.ins c ns _) => if m ∈ ns then .bad else mtR C es ρ x (tabAt c tab) s
  | _ => .bad
theorem metR_ok {m c : String} {ns : List String} (tab : List (String × Nat)) (es : Es) (ρ : Env) (x : PV) (vs : List D) (s : CS) (h : m ∉ ns) : metR C m tab es ρ x (some (.ins c ns vs)) s = mtR C es ρ x (tabAt c tab) s := if_neg h
def kMet (m : String) (tab : List (String × Nat)) (es : Es) (ρ : Env) (x : PV) (s : CS) : R PV := metR C m tab es ρ x (x.rd s) s
theorem q_meth (m : String) (tab : List (String × Nat)) (a : E) (es : Es) (ρ : Env) (s : CS) : evE C (.meth m tab a es) ρ s = (evE C a ρ s).go (kMet C m tab es ρ) := by
  rw [evE, go_def]; congr 1; funext x s1
  unfold kMet metR mtR
  cases x.rd s1 with
  | none => rfl
  | some d => cases d with
    | ins c ns vs =>
      simp only
      split
      · rfl
      · cases tabAt c tab with
        | none => rfl
        | some f => simp only [go_def]; rfl
    | _ => rfl
theorem q_meth1 (m : String) (tab : List (String × Nat)) (es : Es) (ρ : Env) (x : PV) (s : CS) : kMet C m tab es ρ x s = metR C m tab es ρ x (x.rd s) s := rfl
def kMk3 (f : Nat) (perm : List Nat) (ds : List D) (x : PV) (xs zs : List PV) (s : CS) : R PV := permR C f (pickAll (x :: xs ++ zs ++ ds.map PV.d) perm) s
theorem q_mk3 (f : Nat) (perm : List Nat) (ds : List D) (x : PV) (xs zs : List PV) (s : CS) : kMk3 C f perm ds x xs zs s = permR C f (pickAll (x :: xs ++ zs ++ ds.map PV.d) perm) s := rfl
def kMk2 (f : Nat) (perm : List Nat) (ks : Es) (ds : List D) (ρ : Env) (x : PV) (xs : List PV) (s : CS) : R PV := (evEs C ks ρ s).go (kMk3 C f perm ds x xs)
theorem q_mk2 (f : Nat) (perm : List Nat) (ks : Es) (ds : List D) (ρ : Env) (x : PV) (xs : List PV) (s : CS) : kMk2 C f perm ks ds ρ x xs s = (evEs C ks ρ s).go (kMk3 C f perm ds x xs) := rfl
def mtKR (perm : List Nat) (es ks : Es) (ds : List D) (ρ : Env) (x : PV) (o : Option Nat) (s : CS) : R PV := match o with
  | some f => (evEs C es ρ s).go (kMk2 C f perm ks ds ρ x)
  | none => .bad
theorem mtKR_ok (perm : List Nat) (es ks : Es) (ds : List D) (ρ : Env) (x : PV) (f : Nat) (s : CS) : mtKR C perm es ks ds ρ x (some f) s = (evEs C es ρ s).go (kMk2 C f perm ks ds ρ x) := rfl
def metKR (m : String) (tab : List (String × Nat)) (perm : List Nat) (es ks : Es) (ds : List D) (ρ : Env) (x : PV) (o : Option D) (s : CS) : R PV := match o with
  | some (.ins c ns _) => if m ∈ ns then .bad else mtKR C perm es ks ds ρ x (tabAt c tab) s
  | _ => .bad
theorem metKR_ok {m c : String} {ns : List String} (tab : List (String × Nat)) (perm : List Nat) (es ks : Es) (ds : List D) (ρ : Env) (x : PV) (vs : List D) (s : CS) (h : m ∉ ns) : metKR C m tab perm es ks ds ρ x (some (.ins c ns vs)) s = mtKR C perm es ks ds ρ x (tabAt c tab) s := if_neg h
def kMetK (m : String) (tab : List (String × Nat)) (perm : List Nat) (es ks : Es) (ds : List D) (ρ : Env) (x : PV) (s : CS) : R PV := metKR C m tab perm es ks ds ρ x (x.rd s) s
theorem q_methk (m : String) (tab : List (String × Nat)) (perm : List Nat) (a : E) (es ks : Es) (ds : List D) (ρ : Env) (s : CS) : evE C (.methk m tab perm a es ks ds) ρ s = (evE C a ρ s).go (kMetK C m tab perm es ks ds ρ) := by
  rw [evE, go_def]; congr 1; funext x s1
  unfold kMetK metKR mtKR
  cases x.rd s1 with
  | none => rfl
  | some d => cases d with
    | ins c ns vs =>
      simp only
      split
      · rfl
      · cases tabAt c tab with
        | none => rfl
        | some f =>
          simp only [go_def]
          congr 1; funext xs s2
          unfold kMk2
          rw [go_def]; rfl
    | _ => rfl
theorem q_methk1 (m : String) (tab : List (String × Nat)) (perm : List Nat) (es ks : Es) (ds : List D) (ρ : Env) (x : PV) (s : CS) : kMetK C m tab perm es ks ds ρ x s = metKR C m tab perm es ks ds ρ x (x.rd s) s := rfl
theorem tabAt_0 (c : String) : tabAt c [] = none := rfl
theorem tabAt_1 (c k : String) (f : Nat) (r : List (String × Nat)) : tabAt c ((k, f) :: r) = if k = c then some f else tabAt c r := rfl
theorem fldN_1 (f n : String) (ns : List String) (v : D) (vs : List D) : fldN f (n :: ns) (v :: vs) = if n = f then some v else fldN f ns vs := rfl
theorem putN_0 (f : String) (y : D) : putN f y [] [] = ([f], [y]) := rfl
theorem putN_1 (f n : String) (y : D) (ns : List String) (v : D) (vs : List D) : putN f y (n :: ns) (v :: vs) = if n = f then (n :: ns, y :: vs) else (n :: (putN f y ns vs).1, v :: (putN f y ns vs).2) := rfl
/-- the made instance -/
def madeR (n : Nat) (o : Option Cell) (s : CS) : R PV := match o with
  | some (.ins c ns vs) => .ok (.d (.ins c ns vs)) (s.take n)
  | _ => .bad
theorem madeR_ok (n : Nat) (c : String) (ns : List String) (vs : List D) (s : CS) : madeR n (some (.ins c ns vs)) s = .ok (.d (.ins c ns vs)) (s.take n) := rfl
def kMade (n : Nat) (r : PV) (s : CS) : R PV := match r with
  | .d .non => madeR n s[n]? s
  | _ => .bad
theorem kMade_ok (n : Nat) (s : CS) : kMade n (.d .non) s = madeR n s[n]? s := rfl
def kMk (c : String) (f : Nat) (xs : List PV) (s : CS) : R PV := (C.call f (.obj s.length :: xs) (s ++ [.ins c [] []])).go (kMade s.length)
theorem made_eq (n : Nat) : (fun (r : PV) (s2 : CS) => match r, s2[n]? with
    | .d .non, some (.ins c' ns vs) => (R.ok (.d (.ins c' ns vs)) (s2.take n) : R PV)
    | _, _ => .bad) = kMade n := by
  funext r s2
  unfold kMade madeR
  cases r with
  | d x => cases x with
    | non =>
      cases s2[n]? with
      | none => rfl
      | some c => cases c <;> rfl
    | _ => rfl
  | _ => rfl
theorem q_mk (c : String) (f : Nat) (es : Es) (ρ : Env) (s : CS) : evE C (.mk c f es) ρ s = (evEs C es ρ s).go (kMk C c f) := by
  rw [evE, go_def]; congr 1; funext xs s1
  unfold kMk
  rw [go_def, ← made_eq]
  try rfl
theorem q_mk1 (c : String) (f : Nat) (xs : List PV) (s : CS) : kMk C c f xs s = (C.call f (.obj s.length :: xs) (s ++ [.ins c [] []])).go (kMade s.length) := rfl
def mkPR (c : String) (f : Nat) (o : Option (List PV)) (s : CS) : R PV := match o with
  | some ys => (C.call f ys (s ++ [.ins c [] []])).go (kMade s.length)
  | none => .bad
theorem mkPR_ok (c : String) (f : Nat) (ys : List PV) (s : CS) : mkPR C c f (some ys) s = (C.call f ys (s ++ [.ins c [] []])).go (kMade s.length) := rfl
def kMkk2 (c : String) (f : Nat) (perm : List Nat) (ds : List D) (xs zs : List PV) (s : CS) : R PV := mkPR C c f (pickAll (.obj s.length :: xs ++ zs ++ ds.map PV.d) perm) s
def kMkk1 (c : String) (f : Nat) (perm : List Nat) (ks : Es) (ds : List D) (ρ : Env) (xs : List PV) (s : CS) : R PV := (evEs C ks ρ s).go (kMkk2 C c f perm ds xs)
theorem q_mkk (c : String) (f : Nat) (perm : List Nat) (es ks : Es) (ds : List D) (ρ : Env) (s : CS) : evE C (.mkk c f perm es ks ds) ρ s = (evEs C es ρ s).go (kMkk1 C c f perm ks ds ρ) := by
  rw [evE, go_def]; congr 1; funext xs s1
  unfold kMkk1
  rw [go_def]; congr 1; funext zs s2
  unfold kMkk2 mkPR
  cases pickAll (.obj s2.length :: xs ++ zs ++ ds.map PV.d) perm with
  | none => rfl
  | some ys =>
    simp only [go_def]
    rw [← made_eq]
    try rfl
theorem q_mkk1 (c : String) (f : Nat) (perm : List Nat) (ks : Es) (ds : List D) (ρ : Env) (xs : List PV) (s : CS) : kMkk1 C c f perm ks ds ρ xs s = (evEs C ks ρ s).go (kMkk2 C c f perm ds xs) := rfl
theorem q_mkk2 (c : String) (f : Nat) (perm : List Nat) (ds : List D) (xs zs : List PV) (s : CS) : kMkk2 C c f perm ds xs zs s = mkPR C c f (pickAll (.obj s.length :: xs ++ zs ++ ds.map PV.d) perm) s := rfl
def kMadeM (n : Nat) (r : PV) (s : CS) : R PV := match r with
  | .d .non => .ok (.obj n) s
  | _ => .bad
theorem kMadeM_ok (n : Nat) (s : CS) : kMadeM n (.d .non) s = .ok (.obj n) s := rfl
def kMkM (c : String) (f : Nat) (xs : List PV) (s : CS) : R PV := (C.call f (.obj s.length :: xs) (s ++ [.ins c [] []])).go (kMadeM s.length)
theorem q_mkM (c : String) (f : Nat) (es : Es) (ρ : Env) (s : CS) : evE C (.mkM c f es) ρ s = (evEs C es ρ s).go (kMkM C c f) := by
  rw [evE, go_def]; congr 1; funext xs s1
  unfold kMkM
  rw [go_def]; rfl
theorem q_mkM1 (c : String) (f : Nat) (xs : List PV) (s : CS) : kMkM C c f xs s = (C.call f (.obj s.length :: xs) (s ++ [.ins c [] []])).go (kMadeM s.length) := rfl
def iscR (yes no : List String) (o : Option D) (s : CS) : R PV := match o with
  | some x => retD ((iscD yes no x).map .bl) s
  | none => .bad
theorem iscR_ok (yes no : List String) (x : D) (s : CS) : iscR yes no (some x) s = retD ((iscD yes no x).map .bl) s := rfl
def kIsc (yes no : List String) (x : PV) (s : CS) : R PV := iscR yes no (x.rd s) s
theorem q_isc (a : E) (t : String) (yes no : List String) (ρ : Env) (s : CS) : evE C (.isc a t yes no) ρ s = (evE C a ρ s).go (kIsc yes no) := by
  rw [evE, go_def]; congr 1; funext x s1
  unfold kIsc iscR retD
  cases x.rd s1 with
  | none => rfl
  | some d => simp only [Option.bind_some, Option.map_map, Function.comp_def]
theorem q_isc1 (yes no : List String) (x : PV) (s : CS) : kIsc yes no x s = iscR yes no (x.rd s) s := rfl
theorem isc_ins (yes no : List String) (c : String) (ns : List String) (vs : List D) : iscD yes no (.ins c ns vs) = if c ∈ yes then some true else if c ∈ no then some false else none := rfl
theorem isc_non (yes no : List String) : iscD yes no .non = some false := rfl
theorem isc_bl (yes no : List String) (b : Bool) : iscD yes no (.bl b) = some false := rfl
theorem isc_int (yes no : List String) (i : Int) : iscD yes no (.int i) = some false := rfl
theorem isc_str (yes no : List String) (z : Str) : iscD yes no (.str z) = some false := rfl
theorem isc_lst (yes no : List String) (l : List D) : iscD yes no (.lst l) = some false := rfl
theorem isc_tup (yes no : List String) (l : List D) : iscD yes no (.tup l) = some false := rfl
theorem isc_dct (yes no : List String) (k l : List D) : iscD yes no (.dct k l) = some false := rfl
def setFC (cs : List String) (f : String) (ρ : Env) (k : Nat) (y : D) (o : Option Cell) (s : CS) : R Fl := match o with
  | some (.ins c ns vs) => if c ∈ cs ∧ ns.length < 1000 then .ok (.nx ρ) (s.set k (.ins c (putN f y ns vs).1 (putN f y ns vs).2)) else .bad
  | _ => .bad
theorem setFC_ok {cs : List String} {c : String} {ns : List String} (f : String) (ρ : Env) (k : Nat) (y : D) (vs : List D) (s : CS) (h : c ∈ cs) (h2 : ns.length < 1000) : setFC cs f ρ k y (some (.ins c ns vs)) s = .ok (.nx ρ) (s.set k (.ins c (putN f y ns vs).1 (putN f y ns vs).2)) := if_pos ⟨h, h2⟩
def kSetF2 (cs : List String) (f : String) (ρ : Env) (y x : PV) (s : CS) : R Fl := match x, y with
  | .obj k, .d y => setFC cs f ρ k y s[k]? s
  | _, _ => .bad
theorem q_setF2 (cs : List String) (f : String) (ρ : Env) (y : D) (k : Nat) (s : CS) : kSetF2 cs f ρ (.d y) (.obj k) s = setFC cs f ρ k y s[k]? s := rfl
def kSetF1 (cs : List String) (o : E) (f : String) (ρ : Env) (y : PV) (s : CS) : R Fl := (evE C o ρ s).go (kSetF2 cs f ρ y)
theorem q_setF1 (cs : List String) (o : E) (f : String) (ρ : Env) (y : PV) (s : CS) : kSetF1 C cs o f ρ y s = (evE C o ρ s).go (kSetF2 cs f ρ y) := rfl
theorem q_setF (cs : List String) (o : E) (f : String) (v : E) (ρ : Env) (s : CS) : exS C (.setF cs o f v) ρ s = (evE C v ρ s).go (kSetF1 C cs o f ρ) := by
  rw [exS, go_def]; congr 1; funext y s1
  unfold kSetF1
  rw [go_def]; congr 1
def biR (b : BI) (o : Option (List D)) (s : CS) : R PV := match o with
  | some l => retD (bi b l) s
  | none => .bad
theorem biR_ok (b : BI) (l : List D) (s : CS) : biR b (some l) s = retD (bi b l) s := rfl
def kBi (b : BI) (xs : List PV) (s : CS) : R PV := biR b (rdAll s xs) s
theorem q_bi (b : BI) (es : Es) (ρ : Env) (s : CS) : evE C (.bi b es) ρ s = (evEs C es ρ s).go (kBi b) := by
  rw [evE, go_def]; congr 1; funext xs s1; unfold kBi biR retD; cases rdAll s1 xs <;> rfl
theorem q_bi1 (b : BI) (xs : List PV) (s : CS) : kBi b xs s = biR b (rdAll s xs) s := rfl
def isiR (k : TK) (o : Option D) (s : CS) : R PV := match o with
  | some x => .ok (.d (.bl (isK k x))) s
  | none => .bad
theorem isiR_ok (k : TK) (x : D) (s : CS) : isiR k (some x) s = .ok (.d (.bl (isK k x))) s := rfl
def kIsi (k : TK) (x : PV) (s : CS) : R PV := isiR k (x.rd s) s
theorem q_isi (a : E) (k : TK) (ρ : Env) (s : CS) : evE C (.isi a k) ρ s = (evE C a ρ s).go (kIsi k) := by
  rw [evE, go_def]; congr 1; funext x s1; unfold kIsi isiR; cases x.rd s1 <;> rfl
theorem q_isi1 (k : TK) (x : PV) (s : CS) : kIsi k x s = isiR k (x.rd s) s := rfl
def isiTR (ks : List TK) (o : Option D) (s : CS) : R PV := match o with
  | some x => .ok (.d (.bl (ks.any fun k => isK k x))) s
  | none => .bad
theorem isiTR_ok (ks : List TK) (x : D) (s : CS) : isiTR ks (some x) s = .ok (.d (.bl (ks.any fun k => isK k x))) s := rfl
def kIsiT (ks : List TK) (x : PV) (s : CS) : R PV := isiTR ks (x.rd s) s
theorem q_isiT (a : E) (ks : List TK) (ρ : Env) (s : CS) : evE C (.isiT a ks) ρ s = (evE C a ρ s).go (kIsiT ks) := by
  rw [evE, go_def]; congr 1; funext x s1; unfold kIsiT isiTR; cases x.rd s1 <;> rfl
theorem q_isiT1 (ks : List TK) (x : PV) (s : CS) : kIsiT ks x s = isiTR ks (x.rd s) s := rfl
/-! compares of three -/
def chB (o : Option D) : Option Bool := match o with
  | some (.bl b) => some b
  | _ => none
theorem chB_ok (b : Bool) : chB (some (.bl b)) = some b := rfl
def kCh3 (o : CO) (y z : PV) (s : CS) : R PV := retD (opD (cmpop o) (y.rd s) (z.rd s)) s
def kChC (o2 : CO) (c : E) (ρ : Env) (y : PV) (s : CS) : R PV := (evE C c ρ s).go (kCh3 o2 y)
def kCh2 (o1 o2 : CO) (c : E) (ρ : Env) (x y : PV) (s : CS) : R PV := br (chB (opD (cmpop o1) (x.rd s) (y.rd s))) (kChC C o2 c ρ y) (R.ok (.d (.bl false))) s
def kCh1 (o1 o2 : CO) (b c : E) (ρ : Env) (x : PV) (s : CS) : R PV := (evE C b ρ s).go (kCh2 C o1 o2 c ρ x)
theorem q_chain (o1 o2 : CO) (a b c : E) (ρ : Env) (s : CS) : evE C (.chain o1 o2 a b c) ρ s = (evE C a ρ s).go (kCh1 C o1 o2 b c ρ) := by
  rw [evE, go_def]; congr 1; funext x s1
  unfold kCh1
  rw [go_def]; congr 1; funext y s2
  unfold kCh2 br
  cases x.rd s2 with
  | none => rfl
  | some dx => cases y.rd s2 with
    | none => rfl
    | some dy =>
      simp only [opD]
      cases cmpop o1 dx dy with
      | none => rfl
      | some d => cases d with
        | bl k => cases k with
          | false => rfl
          | true =>
            simp only [chB]
            unfold kChC
            rw [go_def]; congr 1; funext z s3; exact lift_opD _ _ _ _
        | _ => rfl
theorem q_ch1 (o1 o2 : CO) (b c : E) (ρ : Env) (x : PV) (s : CS) : kCh1 C o1 o2 b c ρ x s = (evE C b ρ s).go (kCh2 C o1 o2 c ρ x) := rfl
theorem q_ch2 (o1 o2 : CO) (c : E) (ρ : Env) (x y : PV) (s : CS) : kCh2 C o1 o2 c ρ x y s = br (chB (opD (cmpop o1) (x.rd s) (y.rd s))) (kChC C o2 c ρ y) (R.ok (.d (.bl false))) s := rfl
theorem q_chC (o2 : CO) (c : E) (ρ : Env) (y : PV) (s : CS) : kChC C o2 c ρ y s = (evE C c ρ s).go (kCh3 o2 y) := rfl
theorem q_ch3 (o : CO) (y z : PV) (s : CS) : kCh3 o y z s = retD (opD (cmpop o) (y.rd s) (z.rd s)) s := rfl
def revR (o : Option D) (s : CS) : R PV := lift (match o with
    | some (.lst l) => some (PV.d (.lst l.reverse))
    | _ => none) s
theorem revR_ok (l : List D) (s : CS) : revR (some (.lst l)) s = .ok (.d (.lst l.reverse)) s := rfl
def kRev (x : PV) (s : CS) : R PV := revR (x.rd s) s
theorem q_rev (a : E) (ρ : Env) (s : CS) : evE C (.rev a) ρ s = (evE C a ρ s).go kRev := by rw [evE, go_def]; rfl
theorem q_rev1 (x : PV) (s : CS) : kRev x s = revR (x.rd s) s := rfl
def kRevT (x : PV) (s : CS) : R PV := match x with
  | .d (.tup l) => .ok (.d (.tup l.reverse)) s
  | _ => .bad
theorem q_revT (a : E) (ρ : Env) (s : CS) : evE C (.revT a) ρ s = (evE C a ρ s).go kRevT := by rw [evE, go_def]; rfl
theorem q_revT1 (l : List D) (s : CS) : kRevT (.d (.tup l)) s = .ok (.d (.tup l.reverse)) s := rfl
/-! slices of tuples -/
def sltR (x : PV) (l h : Option Int) (s : CS) : R PV := match x with
  | .d (.tup xs) => .ok (.d (.tup (cutL xs l h))) s
  | _ => .bad
theorem sltR_ok (xs : List D) (l h : Option Int) (s : CS) : sltR (.d (.tup xs)) l h s = .ok (.d (.tup (cutL xs l h))) s := rfl
def kSlt2 (x : PV) (l : Option Int) (h : Option Int) (s : CS) : R PV := sltR x l h s
def kSlt1 (hi : Eo) (ρ : Env) (x : PV) (l : Option Int) (s : CS) : R PV := (evEo C hi ρ s).bind (kSlt2 x l)
def kSlt (lo hi : Eo) (ρ : Env) (x : PV) (s : CS) : R PV := (evEo C lo ρ s).bind (kSlt1 C hi ρ x)
theorem q_slt (a : E) (lo hi : Eo) (ρ : Env) (s : CS) : evE C (.slt a lo hi) ρ s = (evE C a ρ s).go (kSlt C lo hi ρ) := by rw [evE, go_def]; rfl
theorem q_slt1 (lo hi : Eo) (ρ : Env) (x : PV) (s : CS) : kSlt C lo hi ρ x s = (evEo C lo ρ s).go (kSlt1 C hi ρ x) := by rw [go_def]; rfl
theorem q_slt2 (hi : Eo) (ρ : Env) (x : PV) (l : Option Int) (s : CS) : kSlt1 C hi ρ x l s = (evEo C hi ρ s).go (kSlt2 x l) := by rw [go_def]; rfl
theorem q_slt3 (x : PV) (l h : Option Int) (s : CS) : kSlt2 x l h s = sltR x l h s := rfl
def kLrg (x : PV) (s : CS) : R PV := match x with
  | .d (.int j) => if 0 ≤ j ∧ j ≤ 16777216 then .ok (.d (.lst (rngItems 0 j.toNat))) s else .bad
  | _ => .bad
theorem q_lrg (e : E) (ρ : Env) (s : CS) : evE C (.lrg e) ρ s = (evE C e ρ s).go kLrg := by rw [evE, go_def]; rfl
theorem q_lrg1 {j : Int} {s : CS} (h0 : 0 ≤ j) (h : j ≤ 16777216) : kLrg (.d (.int j)) s = .ok (.d (.lst (rngItems 0 j.toNat))) s := by
  show (if 0 ≤ j ∧ j ≤ 16777216 then _ else _) = _
  rw [if_pos ⟨h0, h⟩]
def kComp2 (l : List D) (s : CS) : R PV := .ok (.d (.lst l)) s
def cmp_ (e : E) (tg : List Nat) (many : Bool) (ifs : Es) (ρ : Env) (xs : List D) (s : CS) : R (List D) := noX (compGo (fun ρ s => evE C e ρ s) (fun ρ s => evIfs C ifs ρ s) many tg ρ xs [] s)
def kComp1 (e : E) (tg : List Nat) (many : Bool) (ifs : Es) (ρ : Env) (xs : List D) (s : CS) : R PV := (cmp_ C e tg many ifs ρ xs s).bind kComp2
theorem q_comp (e : E) (tg : List Nat) (many : Bool) (it : It) (ifs : Es) (own : List Nat) (ρ : Env) (s : CS) : evE C (.comp e tg many it ifs own) ρ s = (evIt C it ρ s).go (kComp1 C e tg many ifs (wipeE ρ own)) := by
  rw [evE, go_def]; rfl
theorem q_comp1 (e : E) (tg : List Nat) (many : Bool) (ifs : Es) (ρ : Env) (xs : List D) (s : CS) : kComp1 C e tg many ifs ρ xs s = (cmp_ C e tg many ifs ρ xs s).go kComp2 := by rw [go_def]; rfl
theorem q_comp2 (l : List D) (s : CS) : kComp2 l s = .ok (.d (.lst l)) s := rfl
/-! comprehensions of two clauses -/
@[irreducible] def cmp2_ (e : E) (tg : List Nat) (many : Bool) (ifs : Es) (tg1 : List Nat) (many1 : Bool) (it1 : It) (ifs1 : Es) (vs1 : List Nat) (ρ : Env) (xs : List D) (s : CS) : R (List D) :=
  noX (comp2Go (fun ρ s => evIfs C ifs ρ s) (fun ρ s => evIt C it1 ρ s) (fun ρ ds acc s => compGo (fun ρ s => evE C e ρ s) (fun ρ s => evIfs C ifs1 ρ s) many1 tg1 (wipeE ρ vs1) ds acc s) many tg ρ xs [] s)
theorem cmp2_def (e : E) (tg : List Nat) (many : Bool) (ifs : Es) (tg1 : List Nat) (many1 : Bool) (it1 : It) (ifs1 : Es) (vs1 : List Nat) (ρ : Env) (xs : List D) (s : CS) : cmp2_ C e tg many ifs tg1 many1 it1 ifs1 vs1 ρ xs s =
    noX (comp2Go (fun ρ s => evIfs C ifs ρ s) (fun ρ s => evIt C it1 ρ s) (fun ρ ds acc s => compGo (fun ρ s => evE C e ρ s) (fun ρ s => evIfs C ifs1 ρ s) many1 tg1 (wipeE ρ vs1) ds acc s) many tg ρ xs [] s) := by unfold cmp2_; rfl
def kCompT (e : E) (tg : List Nat) (many : Bool) (ifs : Es) (tg1 : List Nat) (many1 : Bool) (it1 : It) (ifs1 : Es) (vs1 : List Nat) (ρ : Env) (xs : List D) (s : CS) : R PV := (cmp2_ C e tg many ifs tg1 many1 it1 ifs1 vs1 ρ xs s).go kComp2
theorem q_two (e : E) (tg : List Nat) (many : Bool) (it : It) (ifs : Es) (tg1 : List Nat) (many1 : Bool) (it1 : It) (ifs1 : Es) (vs1 own : List Nat) (ρ : Env) (s : CS) : evE C (.comp2 e tg many it ifs tg1 many1 it1 ifs1 vs1 own) ρ s = (evIt C it ρ s).go (kCompT C e tg many ifs tg1 many1 it1 ifs1 vs1 (wipeE ρ own)) := by
  rw [evE, go_def]; congr 1; funext xs s1; unfold kCompT cmp2_; rw [go_def]; rfl
theorem q_two1 (e : E) (tg : List Nat) (many : Bool) (ifs : Es) (tg1 : List Nat) (many1 : Bool) (it1 : It) (ifs1 : Es) (vs1 : List Nat) (ρ : Env) (xs : List D) (s : CS) : kCompT C e tg many ifs tg1 many1 it1 ifs1 vs1 ρ xs s = (cmp2_ C e tg many ifs tg1 many1 it1 ifs1 vs1 ρ xs s).go kComp2 := rfl
/-! arguments -/
def kEs2 (x : PV) (xs : List PV) (s : CS) : R (List PV) := .ok (x :: xs) s
def kEs1 (es : Es) (ρ : Env) (x : PV) (s : CS) : R (List PV) := (evEs C es ρ s).bind (kEs2 x)
theorem q_es0 (ρ : Env) (s : CS) : evEs C .nil ρ s = .ok [] s := by rw [evEs]
theorem q_es (e : E) (es : Es) (ρ : Env) (s : CS) : evEs C (.cons e es) ρ s = (evE C e ρ s).go (kEs1 C es ρ) := by rw [evEs, go_def]; rfl
theorem q_es1 (es : Es) (ρ : Env) (x : PV) (s : CS) : kEs1 C es ρ x s = (evEs C es ρ s).go (kEs2 x) := by rw [go_def]; rfl
theorem q_es2 (x : PV) (xs : List PV) (s : CS) : kEs2 x xs s = .ok (x :: xs) s := rfl
def kSp2 (l : List D) (xs : List PV) (s : CS) : R (List PV) := .ok (l.map PV.d ++ xs) s
def kSpl (es : Es) (ρ : Env) (x : PV) (s : CS) : R (List PV) := match x with
  | .d (.lst l) => (evEs C es ρ s).go (kSp2 l)
  | .d (.tup l) => (evEs C es ρ s).go (kSp2 l)
  | _ => .bad
theorem q_spl (e : E) (es : Es) (ρ : Env) (s : CS) : evEs C (.spl e es) ρ s = (evE C e ρ s).go (kSpl C es ρ) := by
  rw [evEs, go_def]; congr 1; funext x s1
  unfold kSpl
  cases x with
  | d y => cases y <;> first | rfl | (simp only [go_def]; rfl)
  | _ => rfl
theorem q_splL (es : Es) (ρ : Env) (l : List D) (s : CS) : kSpl C es ρ (.d (.lst l)) s = (evEs C es ρ s).go (kSp2 l) := rfl
theorem q_splT (es : Es) (ρ : Env) (l : List D) (s : CS) : kSpl C es ρ (.d (.tup l)) s = (evEs C es ρ s).go (kSp2 l) := rfl
theorem q_spl2 (l : List D) (xs : List PV) (s : CS) : kSp2 l xs s = .ok (l.map PV.d ++ xs) s := rfl
theorem own_app : ∀ (l : List D) (xs : List PV), ownAll (l.map PV.d ++ xs) = (ownAll xs).map (l ++ ·)
  | [], xs => by simp
  | x :: r, xs => by
    rw [List.map_cons, List.cons_append]
    show (ownAll (r.map PV.d ++ xs)).map (x :: ·) = _
    rw [own_app r xs]
    cases ownAll xs <;> simp
theorem own_all (l : List D) : ownAll (l.map PV.d) = some l := by
  have := own_app l []
  rw [List.append_nil] at this
  rw [this]
  simp [ownAll]
theorem own0 : ownAll [] = some [] := rfl
def consO (x : D) (o : Option (List D)) : Option (List D) := o.map (x :: ·)
theorem own1 (x : D) (r : List PV) : ownAll (.d x :: r) = consO x (ownAll r) := rfl
theorem consO_ok (x : D) (l : List D) : consO x (some l) = some (x :: l) := rfl
theorem rdl0 (s : CS) : rdAll s [] = some [] := rfl
def consR (o : Option D) (r : Option (List D)) : Option (List D) := o.bind fun d => r.map (d :: ·)
theorem rdl1 (s : CS) (x : PV) (r : List PV) : rdAll s (x :: r) = consR (x.rd s) (rdAll s r) := rfl
theorem consR_ok (x : D) (l : List D) : consR (some x) (some l) = some (x :: l) := rfl
/-! what is walked -/
def kSeq (x : PV) (s : CS) : R (List D) := match x with
  | .d (.lst l) => .ok l s
  | .d (.tup l) => .ok l s
  | _ => .bad
theorem q_seq (e : E) (ρ : Env) (s : CS) : evIt C (.seq e) ρ s = (evE C e ρ s).go kSeq := by rw [evIt, go_def]; rfl
theorem q_seqL (l : List D) (s : CS) : kSeq (.d (.lst l)) s = .ok l s := rfl
theorem q_seqT (l : List D) (s : CS) : kSeq (.d (.tup l)) s = .ok l s := rfl
def kR1 (x : PV) (s : CS) : R (List D) := match x with
  | .d (.int j) => if smallI j then .ok (rngItems 0 j.toNat) s else .bad
  | _ => .bad
theorem q_r1 (e : E) (ρ : Env) (s : CS) : evIt C (.rng1 e) ρ s = (evE C e ρ s).go kR1 := by rw [evIt, go_def]; rfl
theorem q_r11 {j : Int} {s : CS} (h : smallI j = true) : kR1 (.d (.int j)) s = .ok (rngItems 0 j.toNat) s := by
  show (if smallI j = true then _ else _) = _
  rw [if_pos h]
def kR22 (x y : PV) (s : CS) : R (List D) := match x, y with
  | .d (.int i), .d (.int j) => if smallI i && smallI j then .ok (rngItems i (j - i).toNat) s else .bad
  | _, _ => .bad
def kR21 (b : E) (ρ : Env) (x : PV) (s : CS) : R (List D) := (evE C b ρ s).bind (kR22 x)
theorem q_r2 (a b : E) (ρ : Env) (s : CS) : evIt C (.rng2 a b) ρ s = (evE C a ρ s).go (kR21 C b ρ) := by rw [evIt, go_def]; rfl
theorem q_r21 (b : E) (ρ : Env) (x : PV) (s : CS) : kR21 C b ρ x s = (evE C b ρ s).go (kR22 x) := by rw [go_def]; rfl
theorem q_r22 {i j : Int} {s : CS} (h : smallI i = true) (h2 : smallI j = true) : kR22 (.d (.int i)) (.d (.int j)) s = .ok (rngItems i (j - i).toNat) s := by
  show (if (smallI i && smallI j) = true then _ else _) = _
  rw [if_pos (by rw [h, h2]; rfl)]
def kEn (x : PV) (s : CS) : R (List D) := match x with
  | .d (.lst l) => .ok (enumItems l) s
  | _ => .bad
theorem q_en (e : E) (ρ : Env) (s : CS) : evIt C (.enum e) ρ s = (evE C e ρ s).go kEn := by rw [evIt, go_def]; rfl
theorem q_en1 (l : List D) (s : CS) : kEn (.d (.lst l)) s = .ok (enumItems l) s := rfl
def kIf (es : Es) (ρ : Env) (x : PV) (s : CS) : R Bool := br (tru x s) (evIfs C es ρ) (R.ok false) s
theorem q_if0 (ρ : Env) (s : CS) : evIfs C .nil ρ s = .ok true s := by rw [evIfs]
theorem q_if (e : E) (es : Es) (ρ : Env) (s : CS) : evIfs C (.cons e es) ρ s = (evE C e ρ s).go (kIf C es ρ) := by
  rw [evIfs, go_def]; congr 1
theorem q_if1 (es : Es) (ρ : Env) (x : PV) (s : CS) : kIf C es ρ x s = br (tru x s) (evIfs C es ρ) (R.ok false) s := rfl
/-! statements -/
def kAsg (i : Nat) (ρ : Env) (x : PV) (s : CS) : R Fl := .ok (.nx (ρ.set i (some x))) s
theorem q_asg (i : Nat) (e : E) (ρ : Env) (s : CS) : exS C (.asg i e) ρ s = (evE C e ρ s).go (kAsg i ρ) := by rw [exS, go_def]; rfl
theorem q_asg1 (i : Nat) (ρ : Env) (x : PV) (s : CS) : kAsg i ρ x s = .ok (.nx (ρ.set i (some x))) s := rfl
def nxR (o : Option Env) (s : CS) : R Fl := lift (o.map Fl.nx) s
theorem nxR_ok (ρ : Env) (s : CS) : nxR (some ρ) s = .ok (.nx ρ) s := rfl
def kAsgT (is : List Nat) (ρ : Env) (x : PV) (s : CS) : R Fl := match x with
  | .d (.tup l) => nxR (setAll ρ is l) s
  | _ => .bad
theorem q_asgT (is : List Nat) (e : E) (ρ : Env) (s : CS) : exS C (.asgT is e) ρ s = (evE C e ρ s).go (kAsgT is ρ) := by rw [exS, go_def]; rfl
theorem q_asgT1 (is : List Nat) (ρ : Env) (l : List D) (s : CS) : kAsgT is ρ (.d (.tup l)) s = nxR (setAll ρ is l) s := rfl
def kAsg2 (is : List Nat) (ρ : Env) (xs : List PV) (s : CS) : R Fl := nxR (setAllP ρ is xs) s
theorem q_asg2 (is : List Nat) (es : Es) (ρ : Env) (s : CS) : exS C (.asg2 is es) ρ s = (evEs C es ρ s).go (kAsg2 is ρ) := by rw [exS, go_def]; rfl
theorem q_asg21 (is : List Nat) (ρ : Env) (xs : List PV) (s : CS) : kAsg2 is ρ xs s = nxR (setAllP ρ is xs) s := rfl
theorem setAll0 (ρ : Env) : setAll ρ [] [] = some ρ := rfl
theorem setAll1 (ρ : Env) (i : Nat) (is : List Nat) (x : D) (xs : List D) : setAll ρ (i :: is) (x :: xs) = setAll (ρ.set i (some (.d x))) is xs := rfl
theorem setAllP0 (ρ : Env) : setAllP ρ [] [] = some ρ := rfl
theorem setAllP1 (ρ : Env) (i : Nat) (is : List Nat) (x : PV) (xs : List PV) : setAllP ρ (i :: is) (x :: xs) = setAllP (ρ.set i (some x)) is xs := rfl
def kSet3 (ρ : Env) (y x j : PV) (s3 : CS) : R Fl := match x, j, y with
    | .obj k, .d (.int j), .d y => match s3[k]? with
      | some (.lst l) => match L2.ixN l.length j with
        | some n => .ok (.nx ρ) (s3.set k (.lst (l.set n y)))
        | none => .bad
      | _ => .bad
    | _, _, _ => .bad
def kSet2 (i : E) (ρ : Env) (y x : PV) (s : CS) : R Fl := (evE C i ρ s).bind (kSet3 ρ y x)
def kSet1 (o i : E) (ρ : Env) (y : PV) (s : CS) : R Fl := (evE C o ρ s).bind (kSet2 C i ρ y)
theorem q_set (o i v : E) (ρ : Env) (s : CS) : exS C (.setI o i v) ρ s = (evE C v ρ s).go (kSet1 C o i ρ) := by rw [exS, go_def]; rfl
theorem q_set1 (o i : E) (ρ : Env) (y : PV) (s : CS) : kSet1 C o i ρ y s = (evE C o ρ s).go (kSet2 C i ρ y) := by rw [go_def]; rfl
theorem q_set2 (i : E) (ρ : Env) (y x : PV) (s : CS) : kSet2 C i ρ y x s = (evE C i ρ s).go (kSet3 ρ y x) := by rw [go_def]; rfl
def setR (ρ : Env) (k : Nat) (y : D) (l : List D) (o : Option Nat) (s : CS) : R Fl := match o with
  | some n => .ok (.nx ρ) (s.set k (.lst (l.set n y)))
  | none => .bad
theorem setR_ok (ρ : Env) (k : Nat) (y : D) (l : List D) (n : Nat) (s : CS) : setR ρ k y l (some n) s = .ok (.nx ρ) (s.set k (.lst (l.set n y))) := rfl
def setC (ρ : Env) (k : Nat) (y : D) (j : Int) (o : Option Cell) (s : CS) : R Fl := match o with
  | some (.lst l) => setR ρ k y l (L2.ixN l.length j) s
  | _ => .bad
theorem setC_ok (ρ : Env) (k : Nat) (y : D) (j : Int) (l : List D) (s : CS) : setC ρ k y j (some (.lst l)) s = setR ρ k y l (L2.ixN l.length j) s := rfl
theorem q_set3 (ρ : Env) (y : D) (k : Nat) (j : Int) (s : CS) : kSet3 ρ (.d y) (.obj k) (.d (.int j)) s = setC ρ k y j s[k]? s := by
  simp only [kSet3, setC]
  cases s[k]? with
  | none => rfl
  | some c => cases c <;> rfl
def kExpr (ρ : Env) (_ : PV) (s : CS) : R Fl := .ok (.nx ρ) s
theorem q_expr (e : E) (ρ : Env) (s : CS) : exS C (.expr e) ρ s = (evE C e ρ s).go (kExpr ρ) := by rw [exS, go_def]; rfl
theorem q_expr1 (ρ : Env) (x : PV) (s : CS) : kExpr ρ x s = .ok (.nx ρ) s := rfl
def kRet (x : PV) (s : CS) : R Fl := .ok (.rt x) s
theorem q_ret (e : E) (ρ : Env) (s : CS) : exS C (.ret e) ρ s = (evE C e ρ s).go kRet := by rw [exS, go_def]; rfl
theorem q_ret1 (x : PV) (s : CS) : kRet x s = .ok (.rt x) s := rfl
theorem q_retN (ρ : Env) (s : CS) : exS C .retN ρ s = .ok (.rt (.d .non)) s := by rw [exS]
theorem q_pass (ρ : Env) (s : CS) : exS C .pass ρ s = .ok (.nx ρ) s := by rw [exS]
theorem q_stop (ρ : Env) (s : CS) : exS C .stop ρ s = .bad := by rw [exS]
def kIfs (a b : Ss) (ρ : Env) (x : PV) (s : CS) : R Fl := br (tru x s) (exSs C a ρ) (exSs C b ρ) s
theorem q_ifs (c : E) (a b : Ss) (ρ : Env) (s : CS) : exS C (.ifs c a b) ρ s = (evE C c ρ s).go (kIfs C a b ρ) := by
  rw [exS, go_def]; congr 1
theorem q_ifs1 (a b : Ss) (ρ : Env) (x : PV) (s : CS) : kIfs C a b ρ x s = br (tru x s) (exSs C a ρ) (exSs C b ρ) s := rfl
@[irreducible] def for_ (b : Ss) (tg : List Nat) (many : Bool) (xs : List D) (ρ : Env) (s : CS) : R Fl := forGo (fun ρ s => exSs C b ρ s) many tg xs ρ s
theorem for_def (b : Ss) (tg : List Nat) (many : Bool) (xs : List D) (ρ : Env) (s : CS) : for_ C b tg many xs ρ s = forGo (fun ρ s => exSs C b ρ s) many tg xs ρ s := by unfold for_; rfl
def kFor (tg : List Nat) (many : Bool) (b : Ss) (ρ : Env) (xs : List D) (s : CS) : R Fl := for_ C b tg many xs ρ s
theorem q_for (tg : List Nat) (many : Bool) (it : It) (b : Ss) (ρ : Env) (s : CS) : exS C (.for tg many it b) ρ s = (evIt C it ρ s).go (kFor C tg many b ρ) := by rw [exS, go_def]; unfold kFor for_; rfl
theorem q_for1 (tg : List Nat) (many : Bool) (b : Ss) (ρ : Env) (xs : List D) (s : CS) : kFor C tg many b ρ xs s = for_ C b tg many xs ρ s := rfl
/-- while -/
@[irreducible] def whl_ (c : E) (b : Ss) (n : Nat) (ρ : Env) (s : CS) : R Fl := whlGo (fun ρ s => evE C c ρ s) (fun ρ s => exSs C b ρ s) n ρ s
theorem q_whl (n : Nat) (c : E) (b : Ss) (ρ : Env) (s : CS) : exS C (.whl n c b) ρ s = whl_ C c b n ρ s := by rw [exS]; unfold whl_; rfl
def kWl2 (c : E) (b : Ss) (n : Nat) (f : Fl) (s : CS) : R Fl := match f with
  | .nx ρ2 => whl_ C c b n ρ2 s
  | .rt v => .ok (.rt v) s
def kWlB (c : E) (b : Ss) (n : Nat) (ρ : Env) (s : CS) : R Fl := (exSs C b ρ s).go (kWl2 C c b n)
def kWl1 (c : E) (b : Ss) (n : Nat) (ρ : Env) (x : PV) (s : CS) : R Fl := br (tru x s) (kWlB C c b n ρ) (R.ok (.nx ρ)) s
theorem whl_turn (c : E) (b : Ss) (n : Nat) (ρ : Env) (s : CS) : whl_ C c b (n + 1) ρ s = (evE C c ρ s).go (kWl1 C c b n ρ) := by
  unfold whl_
  rw [whlGo, go_def]
  congr 1; funext x s1
  unfold kWl1 br tru
  cases (x.rd s1).bind truth with
  | none => rfl
  | some k => cases k with
    | false => rfl
    | true =>
      simp only
      unfold kWlB
      rw [go_def]; congr 1; funext fl s2
      cases fl with
      | rt v => rfl
      | nx ρ2 => unfold kWl2 whl_; rfl
theorem q_wl1 (c : E) (b : Ss) (n : Nat) (ρ : Env) (x : PV) (s : CS) : kWl1 C c b n ρ x s = br (tru x s) (kWlB C c b n ρ) (R.ok (.nx ρ)) s := rfl
theorem q_wlB (c : E) (b : Ss) (n : Nat) (ρ : Env) (s : CS) : kWlB C c b n ρ s = (exSs C b ρ s).go (kWl2 C c b n) := rfl
theorem q_wl2n (c : E) (b : Ss) (n : Nat) (ρ : Env) (s : CS) : kWl2 C c b n (.nx ρ) s = whl_ C c b n ρ s := rfl
theorem q_wl2r (c : E) (b : Ss) (n : Nat) (v : PV) (s : CS) : kWl2 C c b n (.rt v) s = .ok (.rt v) s := rfl
/-- augmented stores -/
def kAug (i : Nat) (o : BO) (ρ : Env) (a : Int) (y : PV) (s : CS) : R Fl := lift ((augD o a y).map fun z => Fl.nx (ρ.set i (some (.d (.int z))))) s
def augR (i : Nat) (o : BO) (e : E) (ρ : Env) (v : Option (Option PV)) (s : CS) : R Fl := match v with
  | some (some (.d (.int a))) => (evE C e ρ s).go (kAug i o ρ a)
  | _ => .bad
theorem q_aug (i : Nat) (o : BO) (e : E) (ρ : Env) (s : CS) : exS C (.aug i o e) ρ s = augR C i o e ρ ρ[i]? s := by
  rw [exS]
  unfold augR
  cases ρ[i]? with
  | none => rfl
  | some p => cases p with
    | none => rfl
    | some v => cases v with
      | d x => cases x with
        | int a => simp only [go_def]; rfl
        | _ => rfl
      | _ => rfl
theorem augR_ok (i : Nat) (o : BO) (e : E) (ρ : Env) (a : Int) (s : CS) : augR C i o e ρ (some (some (.d (.int a)))) s = (evE C e ρ s).go (kAug i o ρ a) := rfl
theorem q_augA (i : Nat) (ρ : Env) (a b : Int) (s : CS) : kAug i .add ρ a (.d (.int b)) s = .ok (.nx (ρ.set i (some (.d (.int (a + b)))))) s := rfl
theorem q_augS (i : Nat) (ρ : Env) (a b : Int) (s : CS) : kAug i .sub ρ a (.d (.int b)) s = .ok (.nx (ρ.set i (some (.d (.int (a - b)))))) s := rfl
def kSs (ss : Ss) (f : Fl) (s : CS) : R Fl := match f with
  | .nx ρ2 => exSs C ss ρ2 s
  | .rt v => .ok (.rt v) s
theorem q_ss0 (ρ : Env) (s : CS) : exSs C .nil ρ s = .ok (.nx ρ) s := by rw [exSs]
theorem q_ss (x : S) (xs : Ss) (ρ : Env) (s : CS) : exSs C (.cons x xs) ρ s = (exS C x ρ s).go (kSs C xs) := by
  rw [exSs, go_def]; congr 1
theorem q_ssn (ss : Ss) (ρ : Env) (s : CS) : kSs C ss (.nx ρ) s = exSs C ss ρ s := rfl
theorem q_ssr (ss : Ss) (v : PV) (s : CS) : kSs C ss (.rt v) s = .ok (.rt v) s := rfl
def frzC (i : Nat) (ρ : Env) (k : Nat) (o : Option Cell) (s : CS) : R Fl := match o with
  | some (.lst l) => .ok (.nx (ρ.set i (some (.d (.lst l))))) (s.set k .dead)
  | _ => .bad
theorem frzC_ok (i : Nat) (ρ : Env) (k : Nat) (l : List D) (s : CS) : frzC i ρ k (some (.lst l)) s = .ok (.nx (ρ.set i (some (.d (.lst l))))) (s.set k .dead) := rfl
def frzR (i : Nat) (ρ : Env) (o : Option (Option PV)) (s : CS) : R Fl := match o with
    | some (some (.obj k)) => frzC i ρ k s[k]? s
    | _ => .bad
theorem q_frz (i : Nat) (ρ : Env) (s : CS) : exS C (.frz i) ρ s = frzR i ρ ρ[i]? s := by
  rw [exS]
  unfold frzR frzC
  cases ρ[i]? with
  | none => rfl
  | some p => cases p with
    | none => rfl
    | some v => cases v <;> rfl
theorem frzR_ok (i k : Nat) (ρ : Env) (s : CS) : frzR i ρ (some (some (.obj k))) s = frzC i ρ k s[k]? s := rfl
def kApp2 (ρ : Env) (k : Nat) (y : PV) (s2 : CS) : R Fl := match y with
        | .d y => match s2[k]? with
          | some (.lst l) => if l.length < sizeLine then .ok (.nx ρ) (s2.set k (.lst (l ++ [y]))) else .bad
          | _ => .bad
        | _ => .bad
def kApp1 (v : E) (ρ : Env) (x : PV) (s1 : CS) : R Fl := match x with
    | .obj k => match s1[k]? with
      | some (.lst _) => (evE C v ρ s1).bind (kApp2 ρ k)
      | _ => .bad
    | _ => .bad
theorem q_app (o v : E) (ρ : Env) (s : CS) : exS C (.app o v) ρ s = (evE C o ρ s).go (kApp1 C v ρ) := by rw [exS, go_def]; rfl
def appC (v : E) (ρ : Env) (k : Nat) (o : Option Cell) (s : CS) : R Fl := match o with
  | some (.lst _) => (evE C v ρ s).bind (kApp2 ρ k)
  | _ => .bad
theorem appC_ok (v : E) (ρ : Env) (k : Nat) (l : List D) (s : CS) : appC C v ρ k (some (.lst l)) s = (evE C v ρ s).go (kApp2 ρ k) := by rw [go_def]; rfl
theorem q_app1 (k : Nat) (v : E) (ρ : Env) (s : CS) : kApp1 C v ρ (.obj k) s = appC C v ρ k s[k]? s := rfl
def appD (ρ : Env) (k : Nat) (y : D) (o : Option Cell) (s : CS) : R Fl := match o with
  | some (.lst l) => if l.length < sizeLine then .ok (.nx ρ) (s.set k (.lst (l ++ [y]))) else .bad
  | _ => .bad
theorem q_app2 (k : Nat) (y : D) (ρ : Env) (s : CS) : kApp2 ρ k (.d y) s = appD ρ k y s[k]? s := rfl
theorem appD_ok {ρ : Env} {k : Nat} {y : D} {l : List D} {s : CS} (h : l.length < sizeLine) : appD ρ k y (some (.lst l)) s = .ok (.nx ρ) (s.set k (.lst (l ++ [y]))) := if_pos h
def kExt2 (ρ : Env) (k : Nat) (y : PV) (s2 : CS) : R Fl := match y with
        | .d (.lst ys) => match s2[k]? with
          | some (.lst l) => if l.length + ys.length ≤ sizeLine then .ok (.nx ρ) (s2.set k (.lst (l ++ ys))) else .bad
          | _ => .bad
        | _ => .bad
def kExt1 (v : E) (ρ : Env) (x : PV) (s1 : CS) : R Fl := match x with
    | .obj k => match s1[k]? with
      | some (.lst _) => (evE C v ρ s1).bind (kExt2 ρ k)
      | _ => .bad
    | _ => .bad
theorem q_ext (o v : E) (ρ : Env) (s : CS) : exS C (.ext o v) ρ s = (evE C o ρ s).go (kExt1 C v ρ) := by rw [exS, go_def]; rfl
def extC (v : E) (ρ : Env) (k : Nat) (o : Option Cell) (s : CS) : R Fl := match o with
  | some (.lst _) => (evE C v ρ s).bind (kExt2 ρ k)
  | _ => .bad
theorem extC_ok (v : E) (ρ : Env) (k : Nat) (l : List D) (s : CS) : extC C v ρ k (some (.lst l)) s = (evE C v ρ s).go (kExt2 ρ k) := by rw [go_def]; rfl
theorem q_ext1 (k : Nat) (v : E) (ρ : Env) (s : CS) : kExt1 C v ρ (.obj k) s = extC C v ρ k s[k]? s := rfl
def extD (ρ : Env) (k : Nat) (ys : List D) (o : Option Cell) (s : CS) : R Fl := match o with
  | some (.lst l) => if l.length + ys.length ≤ sizeLine then .ok (.nx ρ) (s.set k (.lst (l ++ ys))) else .bad
  | _ => .bad
theorem q_ext2 (k : Nat) (ys : List D) (ρ : Env) (s : CS) : kExt2 ρ k (.d (.lst ys)) s = extD ρ k ys s[k]? s := rfl
theorem extD_ok {ρ : Env} {k : Nat} {ys l : List D} {s : CS} (h : l.length + ys.length ≤ sizeLine) : extD ρ k ys (some (.lst l)) s = .ok (.nx ρ) (s.set k (.lst (l ++ ys))) := if_pos h
end
/-! defs -/
@[irreducible] def fnEnd (n : Nat) (r : R Fl) : R PV := match r with
  | .ok (.nx _) s1 => leave n (.d .non) s1
  | .ok (.rt v) s1 => leave n v s1
  | .exc c ns vs s1 => .exc c ns vs (s1.take n)
  | .bad => .bad
theorem fnEnd_rt (n : Nat) (v : PV) (s : CS) : fnEnd n (.ok (.rt v) s) = leave n v s := by unfold fnEnd; rfl
theorem fnEnd_nx (n : Nat) (ρ : Env) (s : CS) : fnEnd n (.ok (.nx ρ) s) = leave n (.d .non) s := by unfold fnEnd; rfl
theorem fnEnd_exc (n : Nat) (c : String) (ns : List String) (vs : List D) (s : CS) : fnEnd n (.exc c ns vs s) = .exc c ns vs (s.take n) := by unfold fnEnd; rfl
theorem fnEnd_sat {n : Nat} {r : R Fl} {P : Fl → CS → Prop} {Q : PV → CS → Prop} (h : r.sat P) (g : ∀ fl s, P fl s → (fnEnd n (.ok fl s)).sat Q) : (fnEnd n r).sat Q := by
  obtain ⟨a, s, rfl, h'⟩ := sat_eq h
  exact g a s h'
theorem q_fn {F : Nat → Option Fd} {n f : Nat} {args : List PV} {s : CS} {g : Fd} (hf : F f = some g) (ha : args.length = g.np) : callN F (n + 1) f args s = fnEnd s.length (exSs ⟨callN F n⟩ g.body (args.map some ++ List.replicate (g.nn - args.length) none) s) := by
  rw [callN, hf]
  show runF _ g args s = _
  unfold runF fnEnd
  rw [if_pos ha]
  try rfl
theorem leave_d {n : Nat} {x : D} {s : CS} (h : s.length = n) : leave n (.d x) s = .ok (.d x) s := by
  show R.ok _ (s.take n) = _
  rw [← h, List.take_length]
theorem leave_cut {n : Nat} {x : D} {s : CS} : leave n (.d x) s = .ok (.d x) (s.take n) := rfl
/-! operators -/
theorem b_add (a b : Int) : binop .add (.int a) (.int b) = some (.int (a + b)) := rfl
theorem b_sub (a b : Int) : binop .sub (.int a) (.int b) = some (.int (a - b)) := rfl
theorem b_mulL {a b : Int} (h : a.natAbs < 2 ^ 64) : binop .mul (.int a) (.int b) = some (.int (a * b)) := by
  show (if a.natAbs < 2 ^ 64 ∨ b.natAbs < 2 ^ 64 ∨ _ then _ else _) = _
  rw [if_pos (.inl h)]
theorem b_mulR {a b : Int} (h : b.natAbs < 2 ^ 64) : binop .mul (.int a) (.int b) = some (.int (a * b)) := by
  show (if a.natAbs < 2 ^ 64 ∨ b.natAbs < 2 ^ 64 ∨ _ then _ else _) = _
  rw [if_pos (.inr (.inl h))]
theorem b_mulLL {a b : Int} (h : -1000000000000 < a) (h2 : a < 1000000000000) : binop .mul (.int a) (.int b) = some (.int (a * b)) := b_mulL (by omega)
theorem b_mulRR {a b : Int} (h : -1000000000000 < b) (h2 : b < 1000000000000) : binop .mul (.int a) (.int b) = some (.int (a * b)) := b_mulR (by omega)
theorem b_div {a b : Int} (h : 0 < b) (h2 : b.natAbs.log2 < 9000) : binop .fdiv (.int a) (.int b) = some (.int (a / b)) := by
  show (if 0 < b ∧ b.natAbs.log2 < 9000 then _ else _) = _
  rw [if_pos ⟨h, h2⟩]
theorem b_divL {a b : Int} (h : 0 < b) (h2 : b < 1073741824) : binop .fdiv (.int a) (.int b) = some (.int (a / b)) := b_div h (Nat.lt_of_lt_of_le (log_lt (k := 30) (Int.le_of_lt h) h2 (by decide)) (by decide))
theorem b_mod {a b : Int} (h : 0 < b) : binop .mod (.int a) (.int b) = some (.int (a % b)) := by
  show (if 0 < b then _ else _) = _
  rw [if_pos h]
theorem b_pow {a b : Int} (h : a.natAbs < 2 ^ 64) (h0 : 0 ≤ b) (h1 : b ≤ 1000000) : binop .pow (.int a) (.int b) = some (.int (a ^ b.toNat)) := by
  show (if 0 ≤ b ∧ b ≤ 1000000 ∧ a.natAbs < 2 ^ 64 then _ else _) = _
  rw [if_pos ⟨h0, h1, h⟩]
theorem b_powL {a b : Int} (h : -1073741824 < a) (h2 : a < 1073741824) (h0 : 0 ≤ b) (h1 : b ≤ 1000000) : binop .pow (.int a) (.int b) = some (.int (a ^ b.toNat)) := b_pow (by omega) h0 h1
theorem b_addT {a b : List D} (h : a.length + b.length ≤ 100000) : binop .add (.tup a) (.tup b) = some (.tup (a ++ b)) := by
  show (if a.length + b.length ≤ sizeLine then _ else _) = _
  rw [if_pos (Nat.le_trans h (by decide))]
theorem b_addL {a b : List D} (h : a.length + b.length ≤ 100000) : binop .add (.lst a) (.lst b) = some (.lst (a ++ b)) := by
  show (if a.length + b.length ≤ sizeLine then _ else _) = _
  rw [if_pos (Nat.le_trans h (by decide))]
theorem b_addS {a b : Str} (h : a.length + b.length ≤ 100000) : binop .add (.str a) (.str b) = some (.str (a ++ b)) := by
  show (if a.length + b.length ≤ sizeLine then _ else _) = _
  rw [if_pos (Nat.le_trans h (by decide))]
theorem b_mulI {a : List D} {n : Int} (h : -1000000000000 < n) (h2 : n < 1000000000000) (h3 : a.length * n.toNat ≤ 100000) : binop .mul (.lst a) (.int n) = some (.lst (List.replicate n.toNat a).flatten) := by
  show (if -(2 ^ 63) ≤ n ∧ n < 2 ^ 63 ∧ a.length * n.toNat ≤ sizeLine then _ else _) = _
  rw [if_pos ⟨by omega, by omega, Nat.le_trans h3 (by decide)⟩]
theorem b_mulT1 {x : D} {n : Int} (h : -1000 ≤ n) (h2 : n ≤ 1000) : binop .mul (.tup [x]) (.int n) = some (.tup (List.replicate n.toNat x)) := by
  have e : (List.replicate n.toNat [x]).flatten = List.replicate n.toNat x := by
    induction n.toNat with
    | zero => rfl
    | succ k ih => rw [List.replicate_succ, List.flatten_cons, ih]; rfl
  rw [← e]
  exact if_pos ⟨fun e => (nomatch e), h, h2, by simp⟩
theorem b_mulL1 {x : D} {n : Int} (h : -1000 ≤ n) (h2 : n ≤ 1000) : binop .mul (.lst [x]) (.int n) = some (.lst (List.replicate n.toNat x)) := by
  have e : (List.replicate n.toNat [x]).flatten = List.replicate n.toNat x := by
    induction n.toNat with
    | zero => rfl
    | succ k ih => rw [List.replicate_succ, List.flatten_cons, ih]; rfl
  rw [← e]
  exact if_pos ⟨by omega, by omega, by rw [List.length_singleton, Nat.one_mul]; exact Nat.le_trans (by omega : n.toNat ≤ 1000) (by decide)⟩
theorem c_isB (a b : Bool) : cmpop .isb (.bl a) (.bl b) = some (.bl (decide (a = b))) := rfl
theorem c_nisB (a b : Bool) : cmpop .nisb (.bl a) (.bl b) = some (.bl (!decide (a = b))) := rfl
theorem bls_map : ∀ bs : List Bool, blsOf (bs.map D.bl) = some bs
  | [] => rfl
  | b :: r => by simp [blsOf, bls_map r]
theorem bi_allB (bs : List Bool) : bi .all [.lst (bs.map D.bl)] = some (.bl (bs.all id)) := by
  show (blsOf _).map _ = _
  rw [bls_map]; rfl
theorem bi_anyB (bs : List Bool) : bi .any [.lst (bs.map D.bl)] = some (.bl (bs.any id)) := by
  show (blsOf _).map _ = _
  rw [bls_map]; rfl
theorem bi_strI {i : Int} (h : i.natAbs.log2 < 1920) : bi .str [.int i] = some (.str (toString i)) := if_pos h
theorem bi_strS (z : Str) : bi .str [.str z] = some (.str z) := rfl
theorem c_lt (a b : Int) : cmpop .lt (.int a) (.int b) = some (.bl (decide (a < b))) := rfl
theorem c_le (a b : Int) : cmpop .le (.int a) (.int b) = some (.bl (decide (a ≤ b))) := rfl
theorem c_gt (a b : Int) : cmpop .gt (.int a) (.int b) = some (.bl (decide (b < a))) := rfl
theorem c_ge (a b : Int) : cmpop .ge (.int a) (.int b) = some (.bl (decide (b ≤ a))) := rfl
theorem c_eqI (a b : Int) : cmpop .eq (.int a) (.int b) = some (.bl (decide (a = b))) := by
  show some (D.bl (PyData.eqv (.int a) (.int b))) = _
  simp only [PyData.eqv]
  congr 2
theorem c_neI (a b : Int) : cmpop .ne (.int a) (.int b) = some (.bl (!decide (a = b))) := by
  show some (D.bl (!PyData.eqv (.int a) (.int b))) = _
  simp only [PyData.eqv]
  congr 2
theorem c_eqS (a b : Str) : cmpop .eq (.str a) (.str b) = some (.bl (decide (a = b))) := by
  show some (D.bl (a == b)) = _
  congr 2
theorem c_neS (a b : Str) : cmpop .ne (.str a) (.str b) = some (.bl (!decide (a = b))) := by
  show some (D.bl (!(a == b))) = _
  congr 2
theorem i_lst (l : List D) (i : Int) : ixD (.lst l) (.int i) = L2.atI l i := rfl
theorem i_tup (l : List D) (i : Int) : ixD (.tup l) (.int i) = L2.atI l i := rfl
theorem bi_int (i : Int) : bi .int [.int i] = some (.int i) := rfl
theorem bi_intB (b : Bool) : bi .int [.bl b] = some (.int (if b then 1 else 0)) := rfl
theorem bi_lenL (l : List D) : bi .len [.lst l] = some (.int l.length) := rfl
theorem bi_lenT (l : List D) : bi .len [.tup l] = some (.int l.length) := rfl
theorem bi_abs (i : Int) : bi .abs [.int i] = some (.int (if i < 0 then -i else i)) := rfl
theorem bi_repr (x : D) : bi .repr [x] = (reprD x).map .str := rfl
theorem bi_repr' {x : D} {t : Str} (h : reprD x = some t) : bi .repr [x] = some (.str t) := by rw [bi_repr, h]; rfl
theorem bind1 (i : Nat) (x : D) (ρ : Env) : bindT false [i] x ρ = some (ρ.set i (some (.d x))) := rfl
theorem bindM (is : List Nat) (l : List D) (ρ : Env) : bindT true is (.tup l) ρ = setAll ρ is l := by cases is <;> rfl
/-! items at written places -/
theorem at0 {α : Type} (x : α) (r : List α) : L2.atI (x :: r) 0 = some x := by
  rw [atI_nn (by decide) (by simp only [List.length_cons]; omega)]; rfl
theorem at1 {α : Type} (x y : α) (r : List α) : L2.atI (x :: y :: r) 1 = some y := by
  rw [atI_nn (by decide) (by simp only [List.length_cons]; omega)]; rfl
theorem at2 {α : Type} (x y z : α) (r : List α) : L2.atI (x :: y :: z :: r) 2 = some z := by
  rw [atI_nn (by decide) (by simp only [List.length_cons]; omega)]; rfl
theorem at3 {α : Type} (x y z w : α) (r : List α) : L2.atI (x :: y :: z :: w :: r) 3 = some w := by
  rw [atI_nn (by decide) (by simp only [List.length_cons]; omega)]; rfl
theorem ix0 (n : Nat) : L2.ixN (n + 1) 0 = some 0 := ix_nn (by decide) (by omega)
theorem ix1 (n : Nat) : L2.ixN (n + 2) 1 = some 1 := ix_nn (by decide) (by omega)
theorem ix2 (n : Nat) : L2.ixN (n + 3) 2 = some 2 := ix_nn (by decide) (by omega)
theorem take_set (s : CS) (k : Nat) (c : Cell) : (s.set k c).take s.length = s.set k c := by
  have : (s.set k c).length = s.length := List.length_set
  rw [← this, List.take_length]
theorem toPs_len : ∀ l : List D, (D.toPs l).length = l.length
  | [] => rfl
  | _ :: r => by rw [D.toPs, List.length_cons, List.length_cons, toPs_len r]
theorem ints_lay : ∀ ns : List Int, PyData.canLayAll0 (D.toPs (ns.map D.int)) = true ∧ PyData.depthAll (D.toPs (ns.map D.int)) ≤ 1
  | [] => ⟨by simp [D.toPs, PyData.canLayAll0], by simp [D.toPs, PyData.depthAll]⟩
  | n :: r => by
    have h := ints_lay r
    refine ⟨by simp [D.toPs, D.toP, PyData.canLayAll0, PyData.canLay0, h.1], ?_⟩
    have := h.2
    simp only [List.map_cons, D.toPs, D.toP, PyData.depthAll, PyData.depth]
    omega
theorem shaped_ints (ns : List Int) : SeqAt.shaped (D.lst (ns.map D.int)).toP = true := by
  have h := ints_lay ns
  rw [D.toP]
  unfold SeqAt.shaped
  rw [PyData.canLay0, h.1, Bool.true_and, decide_eq_true_eq]
  simp only [PyData.depth]
  have := h.2
  omega
theorem c_neIN (ns : List Int) : cmpop .ne (.lst (ns.map D.int)) (.lst []) = some (.bl (!decide (ns = []))) := by
  have e : eqS (.lst (ns.map D.int)) (.lst []) = some (decide (ns = [])) := by
    unfold eqS
    rw [shaped_ints, show SeqAt.shaped (D.lst []).toP = true by rfl]
    cases ns with
    | nil => rfl
    | cons n r => simp [D.toP, D.toPs, PyData.eqv, PyData.eqvAll]
  show (((strEq _ _).or (eqS _ _)).map fun c => D.bl !c) = _
  rw [e]; rfl
theorem bi_min2 (a b : Int) : bi .min [.tup [.int a, .int b]] = some (.int (min a b)) := rfl
theorem bi_max2 (a b : Int) : bi .max [.tup [.int a, .int b]] = some (.int (max a b)) := rfl
/-- [int(x) for x in ..] of ints -/
theorem comp_ints {C : Cl} {i : Nat} {ρ : Env} {s : CS} {ns : List Int} (hi : i < ρ.length) (hn : ns.length ≤ 1000) : cmp_ C (.bi .int (.cons (.var i) .nil)) [i] false .nil ρ (ns.map D.int) s = .ok (ns.map D.int) s := by
  unfold cmp_ noX
  rw [comp_map (fun x => x) _ [] (by rw [List.length_map, List.length_nil, Nat.zero_add]; exact Nat.le_trans hn (by decide)) fun x hx => ?_]
  · rw [List.nil_append, List.map_id']
  · obtain ⟨n, _, rfl⟩ := List.mem_map.mp hx
    refine ⟨_, rfl, by rw [q_if0], ?_⟩
    rw [q_bi, q_es, q_var, List.getElem?_set_self hi, varR_ok, go_ok, q_es1, q_es0, go_ok, q_es2, go_ok, q_bi1, rdl1, rdl0, rd_d, consR_ok, biR_ok, bi_int, retD_ok]
theorem cut_len {α : Type} (l : List α) (lo hi : Option Int) : (cutL l lo hi).length ≤ l.length := by
  unfold cutL
  rw [List.length_take, List.length_drop]
  omega
theorem leave_obj {n k : Nat} {s : CS} (h : k = n) (hl : s.length ≤ n + 1) : leave n (.obj k) s = .ok (.obj k) s := by
  show (if k < n then _ else if k = n then R.ok (PV.obj k) (s.take (n + 1)) else _) = _
  rw [if_neg (by omega), if_pos h, List.take_of_length_le hl]
theorem c_neB (a b : Bool) : cmpop .ne (.bl a) (.bl b) = some (.bl (!(a == b))) := by
  have e : eqS (.bl a) (.bl b) = some (a == b) := by
    unfold eqS
    rw [show SeqAt.shaped (D.bl a).toP = true by rfl, show SeqAt.shaped (D.bl b).toP = true by rfl]
    simp [D.toP, PyData.eqv]
  rw [show cmpop .ne (.bl a) (.bl b) = (eqS (.bl a) (.bl b)).map fun c => D.bl !c from rfl, e]; rfl
theorem shaped_t2 (a b : Int) : SeqAt.shaped (D.tup [.int a, .int b]).toP = true := by
  simp [SeqAt.shaped, D.toP, D.toPs, PyData.canLay0, PyData.canLayAll0, PyData.depth, PyData.depthAll]
theorem eqS_t2 (a b c d : Int) : eqS (.tup [.int a, .int b]) (.tup [.int c, .int d]) = some (decide (a = c ∧ b = d)) := by
  unfold eqS
  rw [shaped_t2, shaped_t2]
  simp [D.toP, D.toPs, PyData.eqv, PyData.eqvAll]
  rw [Bool.eq_iff_iff]
  simp
theorem c_neT2 (a b c d : Int) : cmpop .ne (.tup [.int a, .int b]) (.tup [.int c, .int d]) = some (.bl (!decide (a = c ∧ b = d))) := by
  rw [show cmpop .ne (.tup [.int a, .int b]) (.tup [.int c, .int d]) = (eqS (.tup [.int a, .int b]) (.tup [.int c, .int d])).map fun c => D.bl !c from rfl, eqS_t2]; rfl
theorem c_eqT2 (a b c d : Int) : cmpop .eq (.tup [.int a, .int b]) (.tup [.int c, .int d]) = some (.bl (decide (a = c ∧ b = d))) := by
  rw [show cmpop .eq (.tup [.int a, .int b]) (.tup [.int c, .int d]) = (eqS (.tup [.int a, .int b]) (.tup [.int c, .int d])).map D.bl from rfl, eqS_t2]; rfl
theorem c_mem (x : D) (l : List D) : cmpop .mem x (.lst l) = (memD x (.lst l)).map .bl := rfl
/-- lists of data that are looked through -/
theorem shaped_lst {l : List D} {n : Nat} (h : ∀ x ∈ l, x.toP.canLay0 = true ∧ x.toP.depth ≤ n) (hn : n + 1 ≤ 64) : SeqAt.shaped (D.lst l).toP = true := by
  have key : ∀ l : List D, (∀ x ∈ l, x.toP.canLay0 = true ∧ x.toP.depth ≤ n) → PyData.canLayAll0 (D.toPs l) = true ∧ PyData.depthAll (D.toPs l) ≤ n := by
    intro l
    induction l with
    | nil => intro _; exact ⟨by simp [D.toPs, PyData.canLayAll0], by simp [D.toPs, PyData.depthAll]⟩
    | cons x r ih =>
      intro h
      have a := h x List.mem_cons_self
      have b := ih fun y hy => h y (List.mem_cons_of_mem _ hy)
      refine ⟨by simp [D.toPs, PyData.canLayAll0, a.1, b.1], ?_⟩
      simp only [D.toPs, PyData.depthAll]
      have := a.2
      have := b.2
      omega
  obtain ⟨a, b⟩ := key l h
  rw [D.toP]
  unfold SeqAt.shaped
  rw [PyData.canLay0, a, Bool.true_and, decide_eq_true_eq]
  simp only [PyData.depth]
  omega
theorem q_r11L {j : Int} {s : CS} (h : -1000000000000 < j) (h2 : j < 1000000000000) : kR1 (.d (.int j)) s = .ok (rngItems 0 j.toNat) s := q_r11 (decide_eq_true (by omega))
theorem q_r22L {i j : Int} {s : CS} (h : -1000000000000 < i) (h2 : i < 1000000000000) (h3 : -1000000000000 < j) (h4 : j < 1000000000000) : kR22 (.d (.int i)) (.d (.int j)) s = .ok (rngItems i (j - i).toNat) s := q_r22 (decide_eq_true (by omega)) (decide_eq_true (by omega))
/-- a list made of one name's values -/
theorem comp_one {C : Cl} {e : E} {i : Nat} {ρ : Env} {s : CS} {xs : List D} (g : D → D) (hn : xs.length ≤ 100000) (h : ∀ x ∈ xs, evE C e (ρ.set i (some (.d x))) s = .ok (.d (g x)) s) : cmp_ C e [i] false .nil ρ xs s = .ok (xs.map g) s := by
  unfold cmp_ noX
  rw [comp_map g _ [] (by rw [List.length_nil, Nat.zero_add]; exact Nat.le_trans hn (by decide)) fun x hx => ⟨_, rfl, by rw [q_if0], h x hx⟩, List.nil_append]
theorem comp_sel {C : Cl} {e c : E} {i : Nat} {ρ : Env} {s : CS} {xs : List D} (g : D → D) (p : D → Bool) (hn : xs.length ≤ 100000) (hp : ∀ x ∈ xs, evIfs C (.cons c .nil) (ρ.set i (some (.d x))) s = .ok (p x) s) (h : ∀ x ∈ xs, p x = true → evE C e (ρ.set i (some (.d x))) s = .ok (.d (g x)) s) :
    cmp_ C e [i] false (.cons c .nil) ρ xs s = .ok ((xs.filter p).map g) s := by
  unfold cmp_ noX
  rw [comp_filter g p _ [] (by rw [List.length_nil, Nat.zero_add]; exact Nat.le_trans hn (by decide)) fun x hx => ⟨_, rfl, hp x hx, h x hx⟩, List.nil_append]
/-- of two clauses, without tests, steps that leave the store -/
theorem two_flat {t : Env → CS → R Bool} {it1 : Env → CS → R (List D)} {inner : Env → List D → List D → CS → R (List D)} {many : Bool} {tg : List Nat} {ρ : Env} {s : CS} (g : D → List D) (P : List D → Prop) : ∀ (xs acc : List D), P acc → (∀ x ∈ xs, ∀ acc, P acc → P (acc ++ g x)) →
    (∀ x ∈ xs, ∃ ρ' ds, bindT many tg x ρ = some ρ' ∧ t ρ' s = .ok true s ∧ it1 ρ' s = .ok ds s ∧ ∀ acc, P acc → inner ρ' ds acc s = .ok (acc ++ g x) s) → comp2Go t it1 inner many tg ρ xs acc s = .ok (acc ++ xs.flatMap g) s
  | [], acc, _, _, _ => by simp [comp2Go]
  | x :: xs, acc, hp, hg, h => by
    obtain ⟨ρ', ds, h1, h2, h3, h4⟩ := h x List.mem_cons_self
    simp only [comp2Go, h1, h2, R.bind, if_true, h3, h4 acc hp]
    rw [two_flat g P xs (acc ++ g x) (hg x List.mem_cons_self acc hp) (fun y hy => hg y (List.mem_cons_of_mem _ hy)) fun y hy => h y (List.mem_cons_of_mem _ hy)]
    simp
theorem rng_len (lo : Int) (n : Nat) : (rngItems lo n).length = n := by simp [rngItems]
theorem rng_at {lo : Int} {n j : Nat} {x : D} (h : (rngItems lo n)[j]? = some x) : j < n ∧ x = .int (lo + j) := by
  have hj : j < n := by
    have := (List.getElem?_eq_some_iff.mp h).1
    rwa [rng_len] at this
  refine ⟨hj, ?_⟩
  unfold rngItems at h
  rw [List.getElem?_map, List.getElem?_range hj] at h
  cases h; rfl
theorem rng_mem {lo : Int} {n : Nat} {x : D} (h : x ∈ rngItems lo n) : ∃ j : Nat, j < n ∧ x = .int (lo + j) := by
  obtain ⟨j, hj, e⟩ := List.mem_iff_getElem.mp h
  exact ⟨j, rng_at (by rw [List.getElem?_eq_getElem hj, e])⟩
theorem memD_of {a : D} {l : List D} (h : SeqAt.shaped a.toP = true) (h2 : SeqAt.shaped (D.lst l).toP = true) : memD a (.lst l) = some (l.any fun z => PyData.eqv z.toP a.toP) := by
  show (if (SeqAt.shaped a.toP && SeqAt.shaped (D.lst l).toP) = true then _ else _) = _
  rw [if_pos (by rw [h, h2]; rfl)]
theorem last_get (t : CS) (c : Cell) : (t ++ [c])[t.length]? = some c := by simp
theorem last_set (t : CS) (c d : Cell) : (t ++ [c]).set t.length d = t ++ [d] := by simp
theorem rng_ints (lo : Int) (n : Nat) : rngItems lo n = ((List.range n).map fun (i : Nat) => lo + (i : Int)).map D.int := by
  unfold rngItems
  rw [List.map_map]; rfl
theorem c_neLL {l : List D} (h : SeqAt.shaped (D.lst l).toP = true) : cmpop .ne (.lst l) (.lst l) = some (.bl false) := by
  have e : eqS (.lst l) (.lst l) = some true := by
    unfold eqS
    rw [h]
    simp only [Bool.and_self, if_true]
    exact congrArg some (PySem.SeqAt.eqv_refl _ (Bool.and_eq_true_iff.mp h).1)
  rw [show cmpop .ne (.lst l) (.lst l) = (eqS (.lst l) (.lst l)).map fun c => D.bl !c from rfl, e]; rfl
theorem head_of {xs : List D} {p : D → Bool} {g : D → D} {k : Nat} {x : D} (hx : xs[k]? = some x) (hp : p x = true) (hb : ∀ (j : Nat) (y : D), j < k → xs[j]? = some y → p y = false) : L2.atI ((xs.filter p).map g) 0 = some (g x) := by
  have key : ∀ (xs : List D) (k : Nat), xs[k]? = some x → (∀ (j : Nat) (y : D), j < k → xs[j]? = some y → p y = false) → ∃ r, xs.filter p = x :: r := by
    intro xs
    induction xs with
    | nil => intro k h; simp at h
    | cons y r ih =>
      intro k h hb
      cases k with
      | zero =>
        simp at h
        subst h
        exact ⟨r.filter p, by rw [List.filter_cons, if_pos hp]⟩
      | succ k =>
        have hy := hb 0 y (Nat.zero_lt_succ _) rfl
        obtain ⟨q, e⟩ := ih k (by simpa using h) fun j z hj hz => hb (j + 1) z (Nat.succ_lt_succ hj) (by simpa using hz)
        exact ⟨q, by rw [List.filter_cons, if_neg (by rw [hy]; exact Bool.false_ne_true), e]⟩
  obtain ⟨r, e⟩ := key xs k hx hb
  rw [e, List.map_cons, at0]
theorem enum_at {l : List D} {k : Nat} : (enumItems l)[k]? = (l[k]?).map fun x => D.tup [.int (k : Int), x] := by
  unfold enumItems
  rw [List.getElem?_map, List.getElem?_zipIdx]
  cases l[k]? with
  | none => rfl
  | some x => simp
theorem enum_len (l : List D) : (enumItems l).length = l.length := by
  unfold enumItems
  rw [List.length_map, List.length_zipIdx]
/-- a list made of pairs, with a test -/
theorem comp_sel2 {C : Cl} {e c : E} {i j : Nat} {ρ : Env} {s : CS} {xs : List D} (g : D → D) (p : D → Bool) (hn : xs.length ≤ 100000) (hp : ∀ x ∈ xs, ∃ a b, x = .tup [a, b] ∧ evIfs C (.cons c .nil) ((ρ.set i (some (.d a))).set j (some (.d b))) s = .ok (p x) s ∧ (p x = true → evE C e ((ρ.set i (some (.d a))).set j (some (.d b))) s = .ok (.d (g x)) s)) :
    cmp_ C e [i, j] true (.cons c .nil) ρ xs s = .ok ((xs.filter p).map g) s := by
  unfold cmp_ noX
  rw [comp_filter g p _ [] (by rw [List.length_nil, Nat.zero_add]; exact Nat.le_trans hn (by decide)) fun x hx => ?_, List.nil_append]
  obtain ⟨a, b, rfl, h1, h2⟩ := hp x hx
  exact ⟨_, rfl, h1, h2⟩
theorem repI {a : Int} (h : 0 ≤ a) (h2 : a < 2 ^ 200) : ∃ T, reprD (.int a) = some T := by
  have l1 := log_lt h h2 (by decide)
  refine ⟨_, reprD_ok ?_ ?_ ?_⟩
  · have := Nat.lt_of_lt_of_le l1 (by decide : 200 ≤ 1920)
    simp [D.okS, *]
  · simp only [D.toP, PyData.weight]
    split <;> omega
  · simp [D.toP, PyData.depth]
theorem nc0 : ((0 : Nat) : Int) = 0 := rfl
theorem nc1 : ((1 : Nat) : Int) = 1 := rfl
theorem c_neNN : cmpop .ne (.lst []) (.lst []) = some (.bl false) := rfl
theorem c_eqNN : cmpop .eq (.lst []) (.lst []) = some (.bl true) := rfl
/-- the draw's third power -/
theorem pow3_ok {x l a b c : Int} (x0 : 0 ≤ x) (x1 : x < 4294967296) (l0 : 0 ≤ l) (l1 : l ≤ 1000000) (a0 : 0 ≤ a) (a1 : a ≤ 1000000) (b0 : 0 ≤ b) (b1 : b ≤ 1000000) (c0 : 0 ≤ c) (c1 : c ≤ 1000000) : (x * (2 * l + a) + b * l * l + c).natAbs < 18446744073709551616 := by
  have h1 : x * (2 * l + a) ≤ 4294967296 * 3000000 := Int.mul_le_mul (by omega) (by omega) (by omega) (by omega)
  have h2 : 0 ≤ x * (2 * l + a) := Int.mul_nonneg x0 (by omega)
  have h3 : b * l ≤ 1000000 * 1000000 := Int.mul_le_mul b1 l1 l0 (by omega)
  have h4 : 0 ≤ b * l := Int.mul_nonneg b0 l0
  have h5 : b * l * l ≤ 1000000 * 1000000 * 1000000 := Int.mul_le_mul h3 l1 l0 (by omega)
  have h6 : 0 ≤ b * l * l := Int.mul_nonneg h4 l0
  omega
end PD

set_option Elab.async false
set_option linter.all false
set_option autoImplicit false
set_option maxRecDepth 100000
namespace LAW
open PD PySem
def g_is_integer : Fd := ⟨1, 1,
    (.cons (.ret (.and (.cons (.isi (.var 0) .int) (.cons (.not (.isi (.var 0) .bool)) .nil))))
      .nil)⟩
def g_is_within : Fd := ⟨3, 3,
    (.cons (.ifs (.not (.call 0 (.cons (.var 0) .nil))) (.cons (.ret (.lit (.bl false)))
      .nil) .nil)
      (.cons (.ret (.and (.cons (.or (.cons (.isn false (.var 1)) (.cons (.cmp .le (.var 1) (.var 0)) .nil))) (.cons (.or (.cons (.isn false (.var 2)) (.cons (.cmp .le (.var 0) (.var 2)) .nil))) .nil))))
      .nil))⟩
def g_is_letter : Fd := ⟨2, 2,
    (.cons (.ret (.call 1 (.cons (.var 0) (.cons (.lit (.int 0)) (.cons (.bin .sub (.var 1) (.lit (.int 1))) .nil)))))
      .nil)⟩
def g_is_word : Fd := ⟨2, 3,
    (.cons (.ifs (.or (.cons (.not (.isiT (.var 0) [.list, .tuple])) (.cons (.not (.chain .le .le (.lit (.int 1)) (.bi .len (.cons (.var 0) .nil)) (.lit (.int 200)))) .nil))) (.cons (.ret (.lit (.bl false)))
      .nil) .nil)
      (.cons (.ret (.bi .all (.cons (.comp (.call 2 (.cons (.var 2) (.cons (.var 1) .nil))) [2] false (.seq (.var 0)) .nil [2]) .nil)))
      .nil))⟩
def g_need_number : Fd := ⟨4, 4,
    (.cons (.ifs (.not (.call 1 (.cons (.var 0) (.cons (.var 2) (.cons (.var 3) .nil))))) (.cons (.stop)
      .nil) .nil)
      .nil)⟩
def g_need_letters : Fd := ⟨1, 1,
    (.cons (.expr (.call 4 (.cons (.var 0) (.cons (.lit (.str "letters")) (.cons (.lit (.int 1)) (.cons (.lit (.int 6)) .nil))))))
      .nil)⟩
def g_need_word : Fd := ⟨3, 3,
    (.cons (.ifs (.not (.call 3 (.cons (.var 0) (.cons (.var 1) .nil)))) (.cons (.stop)
      .nil) .nil)
      (.cons (.ret (.bi .tuple (.cons (.var 0) .nil)))
      .nil))⟩
def g_words_in : Fd := ⟨2, 6,
    (.cons (.asg 2 (.lst (.cons (.tup .nil) .nil)))
      (.cons (.for [3] false (.rng1 (.var 1)) (.cons (.asg 2 (.comp2 (.tup (.spl (.var 4) (.cons (.var 5) .nil))) [4] false (.seq (.var 2)) .nil [5] false (.rng1 (.var 0)) .nil [5] [4, 5]))
      .nil))
      (.cons (.ret (.var 2))
      .nil)))⟩
def g_counted : Fd := ⟨2, 4,
    (.cons (.asg 2 (.lit (.int 1)))
      (.cons (.for [3] false (.rng1 (.var 1)) (.cons (.asg 2 (.bin .mul (.var 2) (.var 0)))
      .nil))
      (.cons (.ret (.var 2))
      .nil)))⟩
def g_behind : Fd := ⟨2, 3,
    (.cons (.asg 2 (.bin .sub (.bi .len (.cons (.var 1) .nil)) (.lit (.int 1))))
      (.cons (.whl 100000 (.and (.cons (.cmp .ge (.var 2) (.lit (.int 0))) (.cons (.cmp .eq (.idx (.var 1) (.var 2)) (.bin .sub (.var 0) (.lit (.int 1)))) .nil))) (.cons (.aug 2 .sub (.lit (.int 1)))
      .nil))
      (.cons (.ifs (.cmp .lt (.var 2) (.lit (.int 0))) (.cons (.ret (.bin .mul (.tup (.cons (.lit (.int 0)) .nil)) (.bin .add (.bi .len (.cons (.var 1) .nil)) (.lit (.int 1)))))
      .nil) .nil)
      (.cons (.ret (.tup (.spl (.slt (.var 1) .none (.some (.var 2))) (.cons (.bin .add (.idx (.var 1) (.var 2)) (.lit (.int 1))) (.spl (.bin .mul (.tup (.cons (.lit (.int 0)) .nil)) (.bin .sub (.bin .sub (.bi .len (.cons (.var 1) .nil)) (.var 2)) (.lit (.int 1)))) .nil)))))
      .nil))))⟩
def g_all_words : Fd := ⟨2, 2,
    (.cons (.expr (.call 5 (.cons (.var 0) .nil)))
      (.cons (.expr (.call 4 (.cons (.var 1) (.cons (.lit (.str "many")) (.cons (.lit (.int 1)) (.cons (.lit (.int 12)) .nil))))))
      (.cons (.ifs (.cmp .gt (.call 8 (.cons (.var 0) (.cons (.var 1) .nil))) (.lit (.int 4096))) (.cons (.stop)
      .nil) .nil)
      (.cons (.ret (.bi .tuple (.cons (.call 7 (.cons (.var 0) (.cons (.var 1) .nil))) .nil)))
      .nil))))⟩
def g_next_word : Fd := ⟨2, 3,
    (.cons (.expr (.call 5 (.cons (.var 0) .nil)))
      (.cons (.asg 2 (.call 9 (.cons (.var 0) (.cons (.call 6 (.cons (.var 1) (.cons (.var 0) (.cons (.lit (.str "word")) .nil)))) .nil))))
      (.cons (.ifs (.cmp .gt (.bi .len (.cons (.var 2) .nil)) (.lit (.int 200))) (.cons (.stop)
      .nil) .nil)
      (.cons (.ret (.var 2))
      .nil))))⟩
def g_mirrored : Fd := ⟨1, 1,
    (.cons (.ret (.revT (.call 6 (.cons (.var 0) (.cons (.lit (.int 6)) (.cons (.lit (.str "word")) .nil))))))
      .nil)⟩
def g__law_ledger : Fd := ⟨1, 2,
    (.cons (.ret (.new (.lst (.cons (.comp (.bi .int (.cons (.var 1) .nil)) [1] false (.seq (.sli (.var 0) .none (.some (.lit (.int 60))))) .nil [1]) (.cons (.lit (.int 0)) (.cons (.lit (.int 0)) .nil))))))
      .nil)⟩
def g__law_leaf : Fd := ⟨2, 6,
    (.cons (.ifs (.cmp .gt (.idx (.var 0) (.lit (.int 2))) (.lit (.int 0))) (.cons (.asg 5 (.bi .int (.cons (.idx (.var 0) (.lit (.int 2))) .nil)))
      (.cons (.setI (.var 0) (.lit (.int 2)) (.bin .fdiv (.var 5) (.var 1)))
      (.cons (.ret (.bin .mod (.bi .int (.cons (.var 5) .nil)) (.var 1)))
      .nil))) .nil)
      (.cons (.asg 2 (.idx (.var 0) (.lit (.int 1))))
      (.cons (.setI (.var 0) (.lit (.int 1)) (.bin .add (.var 2) (.lit (.int 1))))
      (.cons (.asg 3 (.bin .add (.bin .mul (.lit (.int 80711)) (.var 2)) (.lit (.int 6109))))
      (.cons (.ifs (.cmp .ne (.idx (.var 0) (.lit (.int 0))) (.lst .nil)) (.cons (.asg 3 (.idx (.idx (.var 0) (.lit (.int 0))) (.bin .mod (.bi .int (.cons (.var 2) .nil)) (.bi .len (.cons (.idx (.var 0) (.lit (.int 0))) .nil)))))
      .nil) .nil)
      (.cons (.ifs (.and (.cons (.cmp .lt (.var 2) (.bi .len (.cons (.idx (.var 0) (.lit (.int 0))) .nil))) (.cons (.cmp .ge (.bi .abs (.cons (.var 3) .nil)) (.bin .pow (.lit (.int 10)) (.lit (.int 18)))) .nil))) (.cons (.asg 5 (.bin .add (.bin .mul (.lit (.int 2)) (.bin .sub (.bi .abs (.cons (.var 3) .nil)) (.bin .pow (.lit (.int 10)) (.lit (.int 18))))) (.bi .int (.cons (.cmp .lt (.var 3) (.lit (.int 0))) .nil))))
      (.cons (.setI (.var 0) (.lit (.int 2)) (.bin .fdiv (.bi .int (.cons (.var 5) .nil)) (.var 1)))
      (.cons (.ret (.bin .mod (.bi .int (.cons (.var 5) .nil)) (.var 1)))
      .nil))) .nil)
      (.cons (.asg 4 (.bin .mod (.bi .int (.cons (.bin .pow (.bin .add (.bin .add (.bin .mod (.bi .int (.cons (.var 3) .nil)) (.lit (.int 2147483543))) (.bin .mul (.lit (.int 42373)) (.var 2))) (.lit (.int 6109))) (.lit (.int 5))) .nil)) (.lit (.int 2147483423))))
      (.cons (.asg 4 (.bin .mod (.bi .int (.cons (.bin .pow (.bin .add (.bin .add (.bin .mul (.var 4) (.bin .add (.bin .mul (.lit (.int 2)) (.var 2)) (.lit (.int 5567)))) (.bin .mul (.bin .mul (.lit (.int 80711)) (.var 2)) (.var 2))) (.lit (.int 42373))) (.lit (.int 3))) .nil)) (.lit (.int 2147483587))))
      (.cons (.ret (.bin .mod (.bi .int (.cons (.bin .fdiv (.var 4) (.lit (.int 64))) .nil)) (.var 1)))
      .nil)))))))))⟩
def g__law_one : Fd := ⟨2, 2,
    (.cons (.ret (.idx (.var 1) (.call 14 (.cons (.var 0) (.cons (.bi .len (.cons (.var 1) .nil)) .nil)))))
      .nil)⟩
def g__law_figures : Fd := ⟨3, 5,
    (.cons (.asg 3 (.lst .nil))
      (.cons (.for [4] false (.rng1 (.var 2)) (.cons (.asg 3 (.bin .add (.lst (.cons (.bin .mod (.bi .int (.cons (.var 0) .nil)) (.var 1)) .nil)) (.var 3)))
      (.cons (.asg 0 (.bin .fdiv (.var 0) (.var 1)))
      .nil)))
      (.cons (.ret (.bi .tuple (.cons (.var 3) .nil)))
      .nil)))⟩
def g__law_all_right : Fd := ⟨1, 11,
    (.cons (.asg 1 (.bin .add (.lit (.int 1)) (.call 14 (.cons (.var 0) (.cons (.lit (.int 6)) .nil)))))
      (.cons (.asg 2 (.bin .add (.lit (.int 1)) (.call 14 (.cons (.var 0) (.cons (.idx (.lst (.cons (.lit (.int 12)) (.cons (.lit (.int 7)) (.cons (.lit (.int 5)) (.cons (.lit (.int 4)) (.cons (.lit (.int 3)) (.cons (.lit (.int 3)) .nil))))))) (.bin .sub (.var 1) (.lit (.int 1)))) .nil)))))
      (.cons (.asg 3 (.call 10 (.cons (.var 1) (.cons (.var 2) .nil))))
      (.cons (.asg 4 (.lit (.int 1)))
      (.cons (.for [5] false (.rng1 (.var 2)) (.cons (.asg 4 (.bin .mul (.var 4) (.var 1)))
      .nil))
      (.cons (.asg 6 (.bi .tuple (.cons (.comp (.call 16 (.cons (.var 10) (.cons (.var 1) (.cons (.var 2) .nil)))) [10] false (.rng1 (.var 4)) .nil [10]) .nil)))
      (.cons (.ifs (.or (.cons (.cmp .ne (.bi .repr (.cons (.var 3) .nil)) (.bi .repr (.cons (.var 6) .nil))) (.cons (.cmp .ne (.callk 10 [1, 0] .nil (.cons (.var 2) (.cons (.var 1) .nil)) []) (.var 6)) .nil))) (.cons (.ret (.lit (.bl false)))
      .nil) .nil)
      (.cons (.asg 7 (.call 14 (.cons (.var 0) (.cons (.bi .len (.cons (.var 6) .nil)) .nil))))
      (.cons (.for [8] false (.seq (.tup (.cons (.var 7) (.cons (.bin .sub (.bi .len (.cons (.var 6) .nil)) (.lit (.int 1))) (.cons (.lit (.int 0)) .nil))))) (.cons (.asg 9 (.ite (.cmp .lt (.bin .add (.var 8) (.lit (.int 1))) (.bi .len (.cons (.var 6) .nil))) (.idx (.var 6) (.bin .add (.var 8) (.lit (.int 1)))) (.bin .mul (.tup (.cons (.lit (.int 0)) .nil)) (.bin .add (.var 2) (.lit (.int 1))))))
      (.cons (.ifs (.or (.cons (.cmp .ne (.bi .repr (.cons (.call 11 (.cons (.var 1) (.cons (.bi .list (.cons (.idx (.var 6) (.var 8)) .nil)) .nil))) .nil)) (.bi .repr (.cons (.var 9) .nil))) (.cons (.cmp .ne (.callk 11 [1, 0] .nil (.cons (.idx (.var 6) (.var 8)) (.cons (.var 1) .nil)) []) (.var 9)) .nil))) (.cons (.ret (.lit (.bl false)))
      .nil) .nil)
      .nil)))
      (.cons (.ret (.lit (.bl true)))
      .nil))))))))))⟩
def g__law_one_right : Fd := ⟨1, 10,
    (.cons (.asg 1 (.bin .add (.lit (.int 1)) (.call 14 (.cons (.var 0) (.cons (.lit (.int 6)) .nil)))))
      (.cons (.asg 2 (.call 15 (.cons (.var 0) (.cons (.lst (.cons (.lit (.int 4)) (.cons (.lit (.int 1)) (.cons (.lit (.int 9)) (.cons (.lit (.int 30)) (.cons (.lit (.int 199)) .nil)))))) .nil))))
      (.cons (.asg 3 (.call 14 (.cons (.var 0) (.cons (.bin .add (.var 2) (.lit (.int 1))) .nil))))
      (.cons (.asg 4 (.bin .add (.comp (.call 14 (.cons (.var 0) (.cons (.var 1) .nil))) [9] false (.rng1 (.bin .sub (.var 2) (.var 3))) .nil [9]) (.bin .mul (.lst (.cons (.bin .sub (.var 1) (.lit (.int 1))) .nil)) (.var 3))))
      (.cons (.asg 5 (.bi .repr (.cons (.var 4) .nil)))
      (.cons (.asg2 [6, 8] (.cons (.new (.bi .list (.cons (.var 4) .nil))) (.cons (.bin .sub (.var 2) (.lit (.int 1))) .nil)))
      (.cons (.whl 100000 (.and (.cons (.cmp .ge (.var 8) (.lit (.int 0))) (.cons (.cmp .eq (.idx (.var 6) (.var 8)) (.bin .sub (.var 1) (.lit (.int 1)))) .nil))) (.cons (.setI (.var 6) (.var 8) (.lit (.int 0)))
      (.cons (.asg 8 (.bin .sub (.var 8) (.lit (.int 1))))
      .nil)))
      (.cons (.asg 6 (.ite (.cmp .lt (.var 8) (.lit (.int 0))) (.bin .add (.lst (.cons (.lit (.int 0)) .nil)) (.var 6)) (.bin .add (.bin .add (.sli (.var 6) .none (.some (.var 8))) (.lst (.cons (.bin .add (.idx (.var 6) (.var 8)) (.lit (.int 1))) .nil))) (.sli (.var 6) (.some (.bin .add (.var 8) (.lit (.int 1)))) .none))))
      (.cons (.ifs (.or (.cons (.cmp .ne (.bi .repr (.cons (.call 11 (.cons (.var 1) (.cons (.var 4) .nil))) .nil)) (.bi .repr (.cons (.bi .tuple (.cons (.var 6) .nil)) .nil))) (.cons (.cmp .ne (.bi .repr (.cons (.var 4) .nil)) (.var 5)) .nil))) (.cons (.ret (.lit (.bl false)))
      .nil) .nil)
      (.cons (.asg 7 (.call 12 (.cons (.var 4) .nil)))
      (.cons (.ret (.and (.cons (.cmp .eq (.bi .repr (.cons (.var 7) .nil)) (.bi .repr (.cons (.bi .tuple (.cons (.comp (.idx (.var 4) (.bin .sub (.bin .sub (.var 2) (.lit (.int 1))) (.var 9))) [9] false (.rng1 (.var 2)) .nil [9]) .nil)) .nil))) (.cons (.cmp .eq (.callk 12 [0] .nil (.cons (.var 7) .nil) []) (.bi .tuple (.cons (.var 4) .nil))) .nil))))
      .nil)))))))))))⟩
def g_law : Fd := ⟨1, 3,
    (.cons (.asg 1 (.call 13 (.cons (.var 0) .nil)))
      (.cons (.for [2] false (.rng1 (.lit (.int 2))) (.cons (.ifs (.or (.cons (.not (.call 17 (.cons (.var 1) .nil))) (.cons (.not (.call 18 (.cons (.var 1) .nil))) .nil))) (.cons (.ret (.lit (.bl false)))
      .nil) .nil)
      .nil))
      (.cons (.ret (.and (.cons (.cmp .eq (.call 11 (.cons (.lit (.int 1)) (.cons (.lst (.cons (.lit (.int 0)) .nil)) .nil))) (.tup (.cons (.lit (.int 0)) (.cons (.lit (.int 0)) .nil)))) (.cons (.cmp .eq (.call 12 (.cons (.lst (.cons (.lit (.int 5)) .nil)) .nil)) (.tup (.cons (.lit (.int 5)) .nil))) .nil))))
      .nil)))⟩
end LAW

set_option Elab.async false
set_option linter.all false
set_option autoImplicit false
set_option maxRecDepth 100000
namespace LAW
open PD PySem
/-- the last digits first -/
def ldig (L : Nat) : Nat → Nat → List Int
  | 0, _ => []
  | m + 1, v => ((v % L : Nat) : Int) :: ldig L m (v / L)
theorem ldig_len (L : Nat) : ∀ (m v : Nat), (ldig L m v).length = m
  | 0, _ => rfl
  | m + 1, v => by rw [ldig, List.length_cons, ldig_len L m]
theorem ldig_lt {L : Nat} (h : 0 < L) : ∀ (m v : Nat), ∀ x ∈ ldig L m v, 0 ≤ x ∧ x < (L : Int)
  | 0, _, x, hx => nomatch hx
  | m + 1, v, x, hx => by
    rw [ldig] at hx
    rcases List.mem_cons.mp hx with e | e
    · subst e
      have := Nat.mod_lt v h
      omega
    · exact ldig_lt h m _ x e
theorem ldig_snoc (L : Nat) : ∀ (m v : Nat), ldig L (m + 1) v = ldig L m v ++ [((v / L ^ m % L : Nat) : Int)]
  | 0, v => by simp [ldig]
  | m + 1, v => by
    rw [ldig, ldig_snoc L m (v / L), ldig, Nat.div_div_eq_div_mul, Nat.pow_succ, Nat.mul_comm L]
    rfl
theorem ldig_step {L l : Nat} (h : l < L) (m v : Nat) : ldig L (m + 1) (v * L + l) = (l : Int) :: ldig L m v := by
  rw [ldig, Nat.add_comm (v * L), Nat.add_mul_mod_self_right, Nat.mod_eq_of_lt h, Nat.add_mul_div_right _ _ (by omega), Nat.div_eq_of_lt h, Nat.zero_add]
/-- the next, the last digits first -/
def inc (L : Int) : List Int → List Int
  | [] => [0]
  | x :: r => if x = L - 1 then 0 :: inc L r else (x + 1) :: r
theorem inc_ldig {L : Nat} (h : 0 < L) : ∀ (m v : Nat), v + 1 < L ^ m → inc L (ldig L m v) = ldig L m (v + 1)
  | 0, v, hv => by simp at hv
  | m + 1, v, hv => by
    have e := Nat.div_add_mod v L
    have r := Nat.mod_lt v h
    rw [ldig, ldig, inc]
    generalize v / L = q at *
    generalize hr : v % L = w at *
    by_cases c : w + 1 = L
    · have e2 : v + 1 = 0 + (q + 1) * L := by rw [Nat.add_mul, Nat.mul_comm q]; omega
      rw [if_pos (by omega), e2, Nat.add_mul_mod_self_right, Nat.zero_mod, Nat.add_mul_div_right _ _ h, Nat.zero_div, Nat.zero_add, inc_ldig h m q]
      · rfl
      · rw [e2, Nat.pow_succ, Nat.zero_add] at hv
        exact Nat.lt_of_mul_lt_mul_right hv
    · have e2 : v + 1 = (w + 1) + q * L := by rw [Nat.mul_comm q]; omega
      rw [if_neg (by omega), e2, Nat.add_mul_mod_self_right, Nat.mod_eq_of_lt (by omega), Nat.add_mul_div_right _ _ h, Nat.div_eq_of_lt (by omega), Nat.zero_add]
      rfl
theorem inc_top {L : Nat} (h : 0 < L) : ∀ (m v : Nat), v + 1 = L ^ m → inc L (ldig L m v) = List.replicate (m + 1) 0
  | 0, v, hv => rfl
  | m + 1, v, hv => by
    have e := Nat.div_add_mod v L
    have r := Nat.mod_lt v h
    rw [ldig, inc]
    generalize v / L = q at *
    generalize hr : v % L = w at *
    rw [Nat.pow_succ] at hv
    have c : w + 1 = L := by
      have e2 : (w + 1) + q * L = L ^ m * L := by rw [← hv, Nat.mul_comm q]; omega
      have e3 := congrArg (· % L) e2
      simp only [Nat.add_mul_mod_self_right, Nat.mul_mod_left] at e3
      have := Nat.dvd_of_mod_eq_zero e3
      have := Nat.le_of_dvd (by omega) this
      omega
    have e2 : (q + 1) * L = L ^ m * L := by rw [Nat.add_mul, Nat.mul_comm q]; omega
    rw [if_pos (by omega), inc_top h m q (Nat.eq_of_mul_eq_mul_right h e2)]
    rfl
theorem inc_split (L : Int) : ∀ w : List Int, ∃ t : Nat, (w = List.replicate t (L - 1) ∧ inc L w = List.replicate (t + 1) 0) ∨ ∃ x u, w = List.replicate t (L - 1) ++ x :: u ∧ x ≠ L - 1 ∧ inc L w = List.replicate t 0 ++ (x + 1) :: u
  | [] => ⟨0, .inl ⟨rfl, rfl⟩⟩
  | x :: r => by
    by_cases h : x = L - 1
    · obtain ⟨t, z⟩ := inc_split L r
      refine ⟨t + 1, ?_⟩
      rcases z with ⟨e1, e2⟩ | ⟨y, u, e1, e2, e3⟩
      · exact .inl ⟨by rw [List.replicate_succ, ← e1, h], by rw [inc, if_pos h, e2]; rfl⟩
      · exact .inr ⟨y, u, by rw [List.replicate_succ, List.cons_append, ← e1, h], e2, by rw [inc, if_pos h, e3]; rfl⟩
    · exact ⟨0, .inr ⟨x, r, rfl, h, by rw [inc, if_neg h]; rfl⟩⟩
def dig (L m v : Nat) : List Int := (ldig L m v).reverse
def nxt (L : Int) (w : List Int) : List Int := (inc L w.reverse).reverse
theorem dig_len (L m v : Nat) : (dig L m v).length = m := by rw [dig, List.length_reverse, ldig_len]
theorem dig_lt {L : Nat} (h : 0 < L) (m v : Nat) : ∀ x ∈ dig L m v, 0 ≤ x ∧ x < (L : Int) := fun x hx => ldig_lt h m v x (List.mem_reverse.mp hx)
theorem dig_cons (L m v : Nat) : dig L (m + 1) v = ((v / L ^ m % L : Nat) : Int) :: dig L m v := by rw [dig, ldig_snoc, List.reverse_append]; rfl
theorem dig_step {L l : Nat} (h : l < L) (m v : Nat) : dig L (m + 1) (v * L + l) = dig L m v ++ [(l : Int)] := by rw [dig, ldig_step h, List.reverse_cons]; rfl
theorem nxt_dig {L : Nat} (h : 0 < L) {m v : Nat} (hv : v + 1 < L ^ m) : nxt L (dig L m v) = dig L m (v + 1) := by rw [nxt, dig, List.reverse_reverse, inc_ldig h m v hv]; rfl
theorem nxt_top {L : Nat} (h : 0 < L) {m v : Nat} (hv : v + 1 = L ^ m) : nxt L (dig L m v) = List.replicate (m + 1) 0 := by rw [nxt, dig, List.reverse_reverse, inc_top h m v hv, List.reverse_replicate]
theorem nxt_split (L : Int) (w : List Int) : ∃ t : Nat, (w = List.replicate t (L - 1) ∧ nxt L w = List.replicate (t + 1) 0) ∨ ∃ x u, w = u ++ x :: List.replicate t (L - 1) ∧ x ≠ L - 1 ∧ nxt L w = u ++ (x + 1) :: List.replicate t 0 := by
  obtain ⟨t, z⟩ := inc_split L w.reverse
  refine ⟨t, ?_⟩
  rcases z with ⟨e1, e2⟩ | ⟨x, u, e1, e2, e3⟩
  · exact .inl ⟨by rw [← List.reverse_reverse w, e1, List.reverse_replicate], by rw [nxt, e2, List.reverse_replicate]⟩
  · refine .inr ⟨x, u.reverse, ?_, e2, ?_⟩
    · rw [← List.reverse_reverse w, e1, List.reverse_append, List.reverse_cons, List.reverse_replicate, List.append_assoc]; rfl
    · rw [nxt, e3, List.reverse_append, List.reverse_cons, List.reverse_replicate, List.append_assoc]; rfl
theorem range_mul (a b : Nat) : List.range (a * b) = (List.range a).flatMap fun v => (List.range b).map fun l => v * b + l := by
  induction a with
  | zero => simp
  | succ a ih => rw [Nat.succ_mul, List.range_add, ih, List.range_succ, List.flatMap_append]; simp
/-! texts of words -/
mutual
def smD : D → Bool
  | .int i => decide (i.natAbs < 256)
  | .lst l => smDs l
  | .tup l => smDs l
  | _ => false
def smDs : List D → Bool
  | [] => true
  | x :: r => smD x && smDs r
end
theorem smDs_of {l : List D} (h : ∀ x ∈ l, smD x = true) : smDs l = true := by
  induction l with
  | nil => rfl
  | cons x r ih => rw [smDs, h x List.mem_cons_self, ih fun y hy => h y (List.mem_cons_of_mem _ hy)]; rfl
theorem log8 {i : Int} (h : i.natAbs < 256) : i.natAbs.log2 < 8 := by
  by_cases e : i.natAbs = 0
  · rw [e]; decide
  · exact (Nat.log2_lt e).mpr h
mutual
theorem sm_ok : ∀ d : D, smD d = true → d.plain = true ∧ d.toP.showable = true ∧ d.toP.leavesShort 9 = true ∧ d.toP.canLay0 = true
  | .non, h => by rw [smD] at h <;> first | cases h | (intros; contradiction)
  | .bl _, h => by rw [smD] at h <;> first | cases h | (intros; contradiction)
  | .str _, h => by rw [smD] at h <;> first | cases h | (intros; contradiction)
  | .dct _ _, h => by rw [smD] at h <;> first | cases h | (intros; contradiction)
  | .ins _ _ _, h => by rw [smD] at h <;> first | cases h | (intros; contradiction)
  | .int i, h => by
    rw [smD, decide_eq_true_eq] at h
    have l := log8 h
    refine ⟨rfl, by simp [D.toP, PyData.showable]; omega, ?_, rfl⟩
    rw [D.toP, PyData.leavesShort, PyData.shown, decide_eq_true_eq]
    have e := PySem.int_text_length_le (k := 8) (by decide) l
    show (Str.ofString (toString i)).length ≤ 9
    have e2 : (Str.ofString (toString i)).length = (toString i).length := by
      rw [Str.ofString_eq_toList]
      show (((toString i).toList.map Char.toNat).toArray).size = _
      rw [List.size_toArray, List.length_map, String.length_toList]
    rw [e2]; exact e
  | .lst l, h => by
    rw [smD] at h
    obtain ⟨a, b, c, d⟩ := sms_ok l h
    exact ⟨by rw [D.plain]; exact a, by rw [D.toP, PyData.showable]; exact b, by rw [D.toP, PyData.leavesShort]; exact c, by rw [D.toP, PyData.canLay0]; exact d⟩
  | .tup l, h => by
    rw [smD] at h
    obtain ⟨a, b, c, d⟩ := sms_ok l h
    exact ⟨by rw [D.plain]; exact a, by rw [D.toP, PyData.showable]; exact b, by rw [D.toP, PyData.leavesShort]; exact c, by rw [D.toP, PyData.canLay0]; exact d⟩
theorem sms_ok : ∀ l : List D, smDs l = true → D.plains l = true ∧ PyData.showableAll (D.toPs l) = true ∧ PyData.leavesShortAll 9 (D.toPs l) = true ∧ PyData.canLayAll0 (D.toPs l) = true
  | [], _ => ⟨rfl, by simp [D.toPs, PyData.showableAll], by simp [D.toPs, PyData.leavesShortAll], by simp [D.toPs, PyData.canLayAll0]⟩
  | x :: r, h => by
    rw [smDs, Bool.and_eq_true] at h
    obtain ⟨a, b, c, d⟩ := sm_ok x h.1
    obtain ⟨a', b', c', d'⟩ := sms_ok r h.2
    exact ⟨by rw [D.plains, a, a']; rfl, by simp [D.toPs, PyData.showableAll, b, b'], by simp [D.toPs, PyData.leavesShortAll, c, c'], by simp [D.toPs, PyData.canLayAll0, d, d']⟩
end
theorem repr_sm {d : D} (h : smD d = true) (hw : d.toP.weight ≤ 1048576) (hd : d.toP.depth ≤ 60) : ∃ T, reprD d = some T := by
  obtain ⟨a, b, c, _⟩ := sm_ok d h
  have h3 := PyData.shown_le 9 (by decide) d.toP c
  refine ⟨d.toP.shown, ?_⟩
  unfold reprD
  have e : sizeLine = 16777216 := by decide
  have h4 : d.toP.shown.length ≤ sizeLine := by omega
  simp [a, b, h4, hd]
theorem weights_le {l : List D} {k : Nat} (h : ∀ x ∈ l, x.toP.weight ≤ k) : PyData.weightAll (D.toPs l) ≤ l.length * (k + 1) := by
  induction l with
  | nil => simp [D.toPs, PyData.weightAll]
  | cons x r ih =>
    have a := h x List.mem_cons_self
    have b := ih fun y hy => h y (List.mem_cons_of_mem _ hy)
    simp only [D.toPs, PyData.weightAll, List.length_cons, Nat.succ_mul]
    omega
theorem depths_le {l : List D} {k : Nat} (h : ∀ x ∈ l, x.toP.depth ≤ k) : PyData.depthAll (D.toPs l) ≤ k := by
  induction l with
  | nil => simp [D.toPs, PyData.depthAll]
  | cons x r ih =>
    have a := h x List.mem_cons_self
    have b := ih fun y hy => h y (List.mem_cons_of_mem _ hy)
    simp only [D.toPs, PyData.depthAll]
    omega
theorem int_weight {i : Int} (h : i.natAbs < 256) : (D.int i).toP.weight ≤ 8 := by
  have := log8 h
  simp only [D.toP, PyData.weight]
  split <;> omega
def wd (w : List Int) : D := .tup (w.map .int)
theorem wd_sm {w : List Int} {L : Int} (hL : L ≤ 200) (h : ∀ x ∈ w, 0 ≤ x ∧ x < L) : smDs (w.map D.int) = true := smDs_of fun x hx => by
  obtain ⟨i, hi, rfl⟩ := List.mem_map.mp hx
  have := h i hi
  rw [smD, decide_eq_true_eq]; omega
theorem wd_weight {w : List Int} {L : Int} (hL : L ≤ 200) (h : ∀ x ∈ w, 0 ≤ x ∧ x < L) : PyData.weightAll (D.toPs (w.map D.int)) ≤ w.length * 9 := by
  have := weights_le (l := w.map D.int) (k := 8) fun x hx => by
    obtain ⟨i, hi, rfl⟩ := List.mem_map.mp hx
    have := h i hi
    exact int_weight (by omega)
  rwa [List.length_map] at this
theorem wd_depth (w : List Int) : PyData.depthAll (D.toPs (w.map D.int)) ≤ 1 := (ints_lay w).2
theorem repr_wd {w : List Int} {L : Int} (hL : L ≤ 200) (h : ∀ x ∈ w, 0 ≤ x ∧ x < L) (hl : w.length ≤ 1000) : (∃ T, reprD (wd w) = some T) ∧ ∃ T, reprD (.lst (w.map .int)) = some T := by
  have a := wd_sm hL h
  have b := wd_weight hL h
  have c := wd_depth w
  exact ⟨repr_sm (by rw [wd, smD]; exact a) (by simp only [wd, D.toP, PyData.weight]; omega) (by simp only [wd, D.toP, PyData.depth]; omega), repr_sm (by rw [smD]; exact a) (by simp only [D.toP, PyData.weight]; omega) (by simp only [D.toP, PyData.depth]; omega)⟩
theorem repr_wds {W : List (List Int)} {L : Int} {m : Nat} (hL : L ≤ 200) (h : ∀ w ∈ W, w.length ≤ m ∧ ∀ x ∈ w, 0 ≤ x ∧ x < L) (hl : W.length * (m * 9 + 1) ≤ 1048576) : (∃ T, reprD (.tup (W.map wd)) = some T) ∧ SeqAt.shaped (D.tup (W.map wd)).toP = true := by
  have a : smD (.tup (W.map wd)) = true := by
    rw [smD]
    refine smDs_of fun x hx => ?_
    obtain ⟨w, hw, rfl⟩ := List.mem_map.mp hx
    rw [wd, smD]
    exact wd_sm hL (h w hw).2
  have c : PyData.depthAll (D.toPs (W.map wd)) ≤ 2 := depths_le fun x hx => by
    obtain ⟨w, hw, rfl⟩ := List.mem_map.mp hx
    have := wd_depth w
    simp only [wd, D.toP, PyData.depth]; omega
  refine ⟨repr_sm a ?_ ?_, ?_⟩
  · have := weights_le (l := W.map wd) (k := m * 9) fun x hx => by
      obtain ⟨w, hw, rfl⟩ := List.mem_map.mp hx
      have := wd_weight hL (h w hw).2
      have := (h w hw).1
      simp only [wd, D.toP, PyData.weight]; omega
    rw [List.length_map] at this
    simp only [D.toP, PyData.weight]; omega
  · simp only [D.toP, PyData.depth]; omega
  · unfold SeqAt.shaped
    rw [(sm_ok _ a).2.2.2, Bool.true_and, decide_eq_true_eq]
    simp only [D.toP, PyData.depth]; omega
theorem shaped_wd (w : List Int) : SeqAt.shaped (wd w).toP = true := by
  have := shaped_ints w
  unfold SeqAt.shaped at this ⊢
  simpa only [wd, D.toP, PyData.canLay0, PyData.depth] using this
theorem eqS_refl {d : D} (h : SeqAt.shaped d.toP = true) : eqS d d = some true := by
  unfold eqS
  rw [h]
  simp only [Bool.and_self, if_true]
  exact congrArg some (PySem.SeqAt.eqv_refl _ (Bool.and_eq_true_iff.mp h).1)
theorem c_neTT {l : List D} (h : SeqAt.shaped (D.tup l).toP = true) : cmpop .ne (.tup l) (.tup l) = some (.bl false) := by
  rw [show cmpop .ne (.tup l) (.tup l) = (eqS (.tup l) (.tup l)).map fun c => D.bl !c from rfl, eqS_refl h]; rfl
theorem c_eqTT {l : List D} (h : SeqAt.shaped (D.tup l).toP = true) : cmpop .eq (.tup l) (.tup l) = some (.bl true) := by
  rw [show cmpop .eq (.tup l) (.tup l) = (eqS (.tup l) (.tup l)).map D.bl from rfl, eqS_refl h]; rfl
theorem sat_is {α : Type} {r : R α} {a : α} {s : CS} (h : r.sat fun v t => v = a ∧ t = s) : r = .ok a s := by
  obtain ⟨_, _, e, rfl, rfl⟩ := sat_eq h
  exact e
theorem two_len {t : PD.Env → CS → R Bool} {it1 : PD.Env → CS → R (List D)} {inner : PD.Env → List D → List D → CS → R (List D)} {many : Bool} {tg : List Nat} {ρ : PD.Env} {s : CS} (g : D → List D) (c N : Nat) : ∀ (xs acc : List D), acc.length + xs.length * c ≤ N → (∀ x ∈ xs, (g x).length = c) →
    (∀ x ∈ xs, ∃ ρ' ds, bindT many tg x ρ = some ρ' ∧ t ρ' s = .ok true s ∧ it1 ρ' s = .ok ds s ∧ ∀ acc : List D, acc.length + c ≤ N → inner ρ' ds acc s = .ok (acc ++ g x) s) → comp2Go t it1 inner many tg ρ xs acc s = .ok (acc ++ xs.flatMap g) s
  | [], acc, _, _, _ => by simp [comp2Go]
  | x :: xs, acc, hp, hg, h => by
    obtain ⟨ρ', ds, h1, h2, h3, h4⟩ := h x List.mem_cons_self
    rw [List.length_cons, Nat.succ_mul] at hp
    simp only [comp2Go, h1, h2, R.bind, if_true, h3, h4 acc (by omega)]
    rw [two_len g c N xs (acc ++ g x) (by rw [List.length_append, hg x List.mem_cons_self]; omega) (fun y hy => hg y (List.mem_cons_of_mem _ hy)) fun y hy => h y (List.mem_cons_of_mem _ hy)]
    simp
theorem at_mid {α : Type} (A R : List α) (x : α) {i : Int} (h : i = A.length) : L2.atI (A ++ x :: R) i = some x := by
  subst h
  rw [atI_nn (by omega) (by rw [List.length_append, List.length_cons]; omega)]
  simp
theorem ix_mid {n k : Nat} {i : Int} (h : i = (k : Int)) (hk : k < n) : L2.ixN n i = some k := by
  subst h
  rw [ix_nn (by omega) (by omega)]
  simp
end LAW

set_option Elab.async false
set_option linter.all false
set_option autoImplicit false
set_option maxRecDepth 100000
namespace LAW
open PD PySem
def Fs : List Fd := [g_is_integer, g_is_within, g_is_letter, g_is_word, g_need_number, g_need_letters, g_need_word, g_words_in, g_counted, g_behind, g_all_words, g_next_word, g_mirrored, g__law_ledger, g__law_leaf, g__law_one, g__law_figures, g__law_all_right, g__law_one_right, g_law]
def FF : Nat → Option Fd := fun f => Fs[f]?
theorem f0 : FF 0 = some g_is_integer := rfl
theorem f1 : FF 1 = some g_is_within := rfl
theorem f2 : FF 2 = some g_is_letter := rfl
theorem f3 : FF 3 = some g_is_word := rfl
theorem f4 : FF 4 = some g_need_number := rfl
theorem f5 : FF 5 = some g_need_letters := rfl
theorem f6 : FF 6 = some g_need_word := rfl
theorem f7 : FF 7 = some g_words_in := rfl
theorem f8 : FF 8 = some g_counted := rfl
theorem f9 : FF 9 = some g_behind := rfl
theorem f10 : FF 10 = some g_all_words := rfl
theorem f11 : FF 11 = some g_next_word := rfl
theorem f12 : FF 12 = some g_mirrored := rfl
theorem f13 : FF 13 = some g__law_ledger := rfl
theorem f14 : FF 14 = some g__law_leaf := rfl
theorem f15 : FF 15 = some g__law_one := rfl
theorem f16 : FF 16 = some g__law_figures := rfl
theorem f17 : FF 17 = some g__law_all_right := rfl
theorem f18 : FF 18 = some g__law_one_right := rfl
theorem f19 : FF 19 = some g_law := rfl

theorem isint_ok (n : Nat) (i : Int) (s : CS) : callN FF (n + 1) 0 [.d (.int i)] s = .ok (.d (.bl true)) s := by
  rw [q_fn f0 rfl]
  simp only [g_is_integer, q_lit, q_var, varR_ok, q_bin, q_bin1, q_bin2, q_cmp, q_cmp1, q_cmp2, q_neg, q_neg1, q_isn, q_isn_non, q_isn_bl, q_isn_int, q_isn_str, q_isn_lst, q_isn_tup, q_and, q_or, q_and1, q_or1, q_and2, q_or2, q_kand, q_kor, q_not, q_not1, notR_ok, q_ite, q_ite1, q_tup, q_lst, q_new, q_new1, q_idx, q_idx1, q_idx2, ixR_ok, q_sli, q_sli1, q_sli2, q_sli3, sliR_scr, sliR_lst, q_onone, q_osome, q_os, q_call, q_callk, q_callk1, q_callk2, permR_ok, q_bi, q_bi1, biR_ok, q_isi, q_isi1, isiR_ok, q_isiT, q_isiT1, isiTR_ok, q_chain, q_ch1, q_ch2, q_chC, q_ch3, chB_ok, q_revT, q_revT1, q_rev, q_rev1, revR_ok, q_slt, q_slt1, q_slt2, q_slt3, sltR_ok, q_whl, q_wl1, q_wlB, q_wl2n, q_wl2r, q_aug, augR_ok, q_augA, q_augS, b_addT, b_addL, b_addS, c_isB, c_nisB, bi_allB, bi_anyB, bi_strI, bi_strS, q_lrg, q_lrg1, Int.toNat_natCast, q_comp, q_comp1, q_comp2, q_two, q_two1, q_es0, q_es, q_es1, q_es2, q_spl, q_splL, q_splT, q_spl2, own_app, own_all, own0, own1, consO_ok, rdl0, rdl1, consR_ok, q_seq, q_seqL, q_seqT, q_r1, q_r2, q_r21, q_en, q_en1, q_if0, q_if, q_if1, q_asg, q_asg1, nxR_ok, q_asgT, q_asgT1, q_asg2, q_asg21, setAll0, setAll1, setAllP0, setAllP1, q_set, q_set1, q_set2, q_set3, setC_ok, setR_ok, rd_obj, rdC_l, frzR_ok, frzC_ok, q_app1, q_app2, appC_ok, q_ext1, q_ext2, extC_ok, extD_ok, appD_ok, Nat.sub_zero, Int.zero_add, at0, at1, at2, at3, last_get, last_set, enum_len, ix0, ix1, ix2, b_mulT1, b_mulL1, b_mulL, b_mulR, b_mulLL, b_mulRR, bi_min2, bi_max2, comp_ints, Nat.reduceSub, Nat.sub_self, b_mod, c_neIN, c_neNN, c_eqNN, q_r11L, q_r22L, c_neB, c_neT2, c_eqT2, c_mem, nc0, nc1, Int.cast_ofNat_Int, take_set, List.take_length, List.length_map, b_div, b_divL, b_pow, b_powL, q_expr, q_expr1, q_ret, q_ret1, q_retN, q_pass, q_stop, q_ifs, q_ifs1, q_for, q_for1, q_ss0, q_ss, q_ssn, q_ssr, q_frz, q_app, q_ext, fnEnd_rt, fnEnd_nx, fnEnd_exc, go_ok, go_bad, go_exc, tru_tup, rdC_i, fldR_ok, q_fld, q_fld1, mtR_ok, metR_ok, q_mt2, q_meth, q_meth1, q_mk3, q_mk2, mtKR_ok, metKR_ok, q_methk, q_methk1, tabAt_0, tabAt_1, fldN_1, putN_0, putN_1, madeR_ok, kMade_ok, q_mk, q_mk1, mkPR_ok, q_mkk, q_mkk1, q_mkk2, kMadeM_ok, q_mkM, q_mkM1, iscR_ok, q_isc, q_isc1, isc_ins, isc_non, isc_bl, isc_int, isc_str, isc_lst, isc_tup, isc_dct, setFC_ok, q_setF, q_setF1, q_setF2, String.reduceEq,  br_t, br_f, tru_bl, tru_int, tru_non, tru_lst, rd_d, retD_ok, opD_ok, b_add, b_sub, c_lt, c_le, c_gt, c_ge, c_eqI, c_neI, c_eqS, c_neS, i_lst, i_tup, bi_int, bi_intB, bi_lenL, bi_lenT, bi_abs, bind1, bindM, isK, pickAll, wipeE, leave_cut, q_tup1, q_lst1, dispR_ok, Nat.zero_le, Nat.reduceLeDiff, Nat.reduceAdd, Nat.reduceLT, Int.reduceLT, Int.reduceLE, Nat.reducePow, Int.reducePow, Int.reduceToNat, Int.reduceNeg, Int.reduceAdd, Nat.zero_add, Option.bind_some, Option.map_some, Option.bind, Option.map, List.getElem?_cons_zero, List.getElem?_cons_succ, List.set_cons_zero, List.set_cons_succ, List.map_cons, List.map_nil, List.cons_append, List.nil_append, List.length_cons, List.length_nil, List.replicate_succ, List.replicate_zero, decide_true, decide_false, eq_self, and_self, true_and, and_true, and_false, false_and, not_true_eq_false, not_false_eq_true, beq_self_eq_true, Bool.not_true, Bool.not_false, Bool.and_true, Bool.and_false, if_true, if_false]
theorem within2_ok (n : Nat) (i l u : Int) (s : CS) (h : l ≤ i) (h2 : i ≤ u) : callN FF (n + 2) 1 [.d (.int i), .d (.int l), .d (.int u)] s = .ok (.d (.bl true)) s := by
  rw [q_fn f1 rfl]
  simp only [g_is_within, q_lit, q_var, varR_ok, q_bin, q_bin1, q_bin2, q_cmp, q_cmp1, q_cmp2, q_neg, q_neg1, q_isn, q_isn_non, q_isn_bl, q_isn_int, q_isn_str, q_isn_lst, q_isn_tup, q_and, q_or, q_and1, q_or1, q_and2, q_or2, q_kand, q_kor, q_not, q_not1, notR_ok, q_ite, q_ite1, q_tup, q_lst, q_new, q_new1, q_idx, q_idx1, q_idx2, ixR_ok, q_sli, q_sli1, q_sli2, q_sli3, sliR_scr, sliR_lst, q_onone, q_osome, q_os, q_call, q_callk, q_callk1, q_callk2, permR_ok, q_bi, q_bi1, biR_ok, q_isi, q_isi1, isiR_ok, q_isiT, q_isiT1, isiTR_ok, q_chain, q_ch1, q_ch2, q_chC, q_ch3, chB_ok, q_revT, q_revT1, q_rev, q_rev1, revR_ok, q_slt, q_slt1, q_slt2, q_slt3, sltR_ok, q_whl, q_wl1, q_wlB, q_wl2n, q_wl2r, q_aug, augR_ok, q_augA, q_augS, b_addT, b_addL, b_addS, c_isB, c_nisB, bi_allB, bi_anyB, bi_strI, bi_strS, q_lrg, q_lrg1, Int.toNat_natCast, q_comp, q_comp1, q_comp2, q_two, q_two1, q_es0, q_es, q_es1, q_es2, q_spl, q_splL, q_splT, q_spl2, own_app, own_all, own0, own1, consO_ok, rdl0, rdl1, consR_ok, q_seq, q_seqL, q_seqT, q_r1, q_r2, q_r21, q_en, q_en1, q_if0, q_if, q_if1, q_asg, q_asg1, nxR_ok, q_asgT, q_asgT1, q_asg2, q_asg21, setAll0, setAll1, setAllP0, setAllP1, q_set, q_set1, q_set2, q_set3, setC_ok, setR_ok, rd_obj, rdC_l, frzR_ok, frzC_ok, q_app1, q_app2, appC_ok, q_ext1, q_ext2, extC_ok, extD_ok, appD_ok, Nat.sub_zero, Int.zero_add, at0, at1, at2, at3, last_get, last_set, enum_len, ix0, ix1, ix2, b_mulT1, b_mulL1, b_mulL, b_mulR, b_mulLL, b_mulRR, bi_min2, bi_max2, comp_ints, Nat.reduceSub, Nat.sub_self, b_mod, c_neIN, c_neNN, c_eqNN, q_r11L, q_r22L, c_neB, c_neT2, c_eqT2, c_mem, nc0, nc1, Int.cast_ofNat_Int, take_set, List.take_length, List.length_map, b_div, b_divL, b_pow, b_powL, q_expr, q_expr1, q_ret, q_ret1, q_retN, q_pass, q_stop, q_ifs, q_ifs1, q_for, q_for1, q_ss0, q_ss, q_ssn, q_ssr, q_frz, q_app, q_ext, fnEnd_rt, fnEnd_nx, fnEnd_exc, go_ok, go_bad, go_exc, tru_tup, rdC_i, fldR_ok, q_fld, q_fld1, mtR_ok, metR_ok, q_mt2, q_meth, q_meth1, q_mk3, q_mk2, mtKR_ok, metKR_ok, q_methk, q_methk1, tabAt_0, tabAt_1, fldN_1, putN_0, putN_1, madeR_ok, kMade_ok, q_mk, q_mk1, mkPR_ok, q_mkk, q_mkk1, q_mkk2, kMadeM_ok, q_mkM, q_mkM1, iscR_ok, q_isc, q_isc1, isc_ins, isc_non, isc_bl, isc_int, isc_str, isc_lst, isc_tup, isc_dct, setFC_ok, q_setF, q_setF1, q_setF2, String.reduceEq,  br_t, br_f, tru_bl, tru_int, tru_non, tru_lst, rd_d, retD_ok, opD_ok, b_add, b_sub, c_lt, c_le, c_gt, c_ge, c_eqI, c_neI, c_eqS, c_neS, i_lst, i_tup, bi_int, bi_intB, bi_lenL, bi_lenT, bi_abs, bind1, bindM, isK, pickAll, wipeE, leave_cut, q_tup1, q_lst1, dispR_ok, Nat.zero_le, Nat.reduceLeDiff, Nat.reduceAdd, Nat.reduceLT, Int.reduceLT, Int.reduceLE, Nat.reducePow, Int.reducePow, Int.reduceToNat, Int.reduceNeg, Int.reduceAdd, Nat.zero_add, Option.bind_some, Option.map_some, Option.bind, Option.map, List.getElem?_cons_zero, List.getElem?_cons_succ, List.set_cons_zero, List.set_cons_succ, List.map_cons, List.map_nil, List.cons_append, List.nil_append, List.length_cons, List.length_nil, List.replicate_succ, List.replicate_zero, decide_true, decide_false, eq_self, and_self, true_and, and_true, and_false, false_and, not_true_eq_false, not_false_eq_true, beq_self_eq_true, Bool.not_true, Bool.not_false, Bool.and_true, Bool.and_false, if_true, if_false, isint_ok, h, h2]
theorem isletter_ok (n : Nat) (i L : Int) (s : CS) (h : 0 ≤ i) (h2 : i < L) : callN FF (n + 3) 2 [.d (.int i), .d (.int L)] s = .ok (.d (.bl true)) s := by
  rw [q_fn f2 rfl]
  have h3 : i ≤ L - 1 := by omega
  have a := fun s => within2_ok n i 0 (L - 1) s h h3
  simp only [g_is_letter, q_lit, q_var, varR_ok, q_bin, q_bin1, q_bin2, q_cmp, q_cmp1, q_cmp2, q_neg, q_neg1, q_isn, q_isn_non, q_isn_bl, q_isn_int, q_isn_str, q_isn_lst, q_isn_tup, q_and, q_or, q_and1, q_or1, q_and2, q_or2, q_kand, q_kor, q_not, q_not1, notR_ok, q_ite, q_ite1, q_tup, q_lst, q_new, q_new1, q_idx, q_idx1, q_idx2, ixR_ok, q_sli, q_sli1, q_sli2, q_sli3, sliR_scr, sliR_lst, q_onone, q_osome, q_os, q_call, q_callk, q_callk1, q_callk2, permR_ok, q_bi, q_bi1, biR_ok, q_isi, q_isi1, isiR_ok, q_isiT, q_isiT1, isiTR_ok, q_chain, q_ch1, q_ch2, q_chC, q_ch3, chB_ok, q_revT, q_revT1, q_rev, q_rev1, revR_ok, q_slt, q_slt1, q_slt2, q_slt3, sltR_ok, q_whl, q_wl1, q_wlB, q_wl2n, q_wl2r, q_aug, augR_ok, q_augA, q_augS, b_addT, b_addL, b_addS, c_isB, c_nisB, bi_allB, bi_anyB, bi_strI, bi_strS, q_lrg, q_lrg1, Int.toNat_natCast, q_comp, q_comp1, q_comp2, q_two, q_two1, q_es0, q_es, q_es1, q_es2, q_spl, q_splL, q_splT, q_spl2, own_app, own_all, own0, own1, consO_ok, rdl0, rdl1, consR_ok, q_seq, q_seqL, q_seqT, q_r1, q_r2, q_r21, q_en, q_en1, q_if0, q_if, q_if1, q_asg, q_asg1, nxR_ok, q_asgT, q_asgT1, q_asg2, q_asg21, setAll0, setAll1, setAllP0, setAllP1, q_set, q_set1, q_set2, q_set3, setC_ok, setR_ok, rd_obj, rdC_l, frzR_ok, frzC_ok, q_app1, q_app2, appC_ok, q_ext1, q_ext2, extC_ok, extD_ok, appD_ok, Nat.sub_zero, Int.zero_add, at0, at1, at2, at3, last_get, last_set, enum_len, ix0, ix1, ix2, b_mulT1, b_mulL1, b_mulL, b_mulR, b_mulLL, b_mulRR, bi_min2, bi_max2, comp_ints, Nat.reduceSub, Nat.sub_self, b_mod, c_neIN, c_neNN, c_eqNN, q_r11L, q_r22L, c_neB, c_neT2, c_eqT2, c_mem, nc0, nc1, Int.cast_ofNat_Int, take_set, List.take_length, List.length_map, b_div, b_divL, b_pow, b_powL, q_expr, q_expr1, q_ret, q_ret1, q_retN, q_pass, q_stop, q_ifs, q_ifs1, q_for, q_for1, q_ss0, q_ss, q_ssn, q_ssr, q_frz, q_app, q_ext, fnEnd_rt, fnEnd_nx, fnEnd_exc, go_ok, go_bad, go_exc, tru_tup, rdC_i, fldR_ok, q_fld, q_fld1, mtR_ok, metR_ok, q_mt2, q_meth, q_meth1, q_mk3, q_mk2, mtKR_ok, metKR_ok, q_methk, q_methk1, tabAt_0, tabAt_1, fldN_1, putN_0, putN_1, madeR_ok, kMade_ok, q_mk, q_mk1, mkPR_ok, q_mkk, q_mkk1, q_mkk2, kMadeM_ok, q_mkM, q_mkM1, iscR_ok, q_isc, q_isc1, isc_ins, isc_non, isc_bl, isc_int, isc_str, isc_lst, isc_tup, isc_dct, setFC_ok, q_setF, q_setF1, q_setF2, String.reduceEq,  br_t, br_f, tru_bl, tru_int, tru_non, tru_lst, rd_d, retD_ok, opD_ok, b_add, b_sub, c_lt, c_le, c_gt, c_ge, c_eqI, c_neI, c_eqS, c_neS, i_lst, i_tup, bi_int, bi_intB, bi_lenL, bi_lenT, bi_abs, bind1, bindM, isK, pickAll, wipeE, leave_cut, q_tup1, q_lst1, dispR_ok, Nat.zero_le, Nat.reduceLeDiff, Nat.reduceAdd, Nat.reduceLT, Int.reduceLT, Int.reduceLE, Nat.reducePow, Int.reducePow, Int.reduceToNat, Int.reduceNeg, Int.reduceAdd, Nat.zero_add, Option.bind_some, Option.map_some, Option.bind, Option.map, List.getElem?_cons_zero, List.getElem?_cons_succ, List.set_cons_zero, List.set_cons_succ, List.map_cons, List.map_nil, List.cons_append, List.nil_append, List.length_cons, List.length_nil, List.replicate_succ, List.replicate_zero, decide_true, decide_false, eq_self, and_self, true_and, and_true, and_false, false_and, not_true_eq_false, not_false_eq_true, beq_self_eq_true, Bool.not_true, Bool.not_false, Bool.and_true, Bool.and_false, if_true, if_false, a]
theorem need2_ok (n : Nat) (i l u : Int) (z : Str) (s : CS) (h : l ≤ i) (h2 : i ≤ u) : callN FF (n + 3) 4 [.d (.int i), .d (.str z), .d (.int l), .d (.int u)] s = .ok (.d .non) s := by
  rw [q_fn f4 rfl]
  simp only [g_need_number, q_lit, q_var, varR_ok, q_bin, q_bin1, q_bin2, q_cmp, q_cmp1, q_cmp2, q_neg, q_neg1, q_isn, q_isn_non, q_isn_bl, q_isn_int, q_isn_str, q_isn_lst, q_isn_tup, q_and, q_or, q_and1, q_or1, q_and2, q_or2, q_kand, q_kor, q_not, q_not1, notR_ok, q_ite, q_ite1, q_tup, q_lst, q_new, q_new1, q_idx, q_idx1, q_idx2, ixR_ok, q_sli, q_sli1, q_sli2, q_sli3, sliR_scr, sliR_lst, q_onone, q_osome, q_os, q_call, q_callk, q_callk1, q_callk2, permR_ok, q_bi, q_bi1, biR_ok, q_isi, q_isi1, isiR_ok, q_isiT, q_isiT1, isiTR_ok, q_chain, q_ch1, q_ch2, q_chC, q_ch3, chB_ok, q_revT, q_revT1, q_rev, q_rev1, revR_ok, q_slt, q_slt1, q_slt2, q_slt3, sltR_ok, q_whl, q_wl1, q_wlB, q_wl2n, q_wl2r, q_aug, augR_ok, q_augA, q_augS, b_addT, b_addL, b_addS, c_isB, c_nisB, bi_allB, bi_anyB, bi_strI, bi_strS, q_lrg, q_lrg1, Int.toNat_natCast, q_comp, q_comp1, q_comp2, q_two, q_two1, q_es0, q_es, q_es1, q_es2, q_spl, q_splL, q_splT, q_spl2, own_app, own_all, own0, own1, consO_ok, rdl0, rdl1, consR_ok, q_seq, q_seqL, q_seqT, q_r1, q_r2, q_r21, q_en, q_en1, q_if0, q_if, q_if1, q_asg, q_asg1, nxR_ok, q_asgT, q_asgT1, q_asg2, q_asg21, setAll0, setAll1, setAllP0, setAllP1, q_set, q_set1, q_set2, q_set3, setC_ok, setR_ok, rd_obj, rdC_l, frzR_ok, frzC_ok, q_app1, q_app2, appC_ok, q_ext1, q_ext2, extC_ok, extD_ok, appD_ok, Nat.sub_zero, Int.zero_add, at0, at1, at2, at3, last_get, last_set, enum_len, ix0, ix1, ix2, b_mulT1, b_mulL1, b_mulL, b_mulR, b_mulLL, b_mulRR, bi_min2, bi_max2, comp_ints, Nat.reduceSub, Nat.sub_self, b_mod, c_neIN, c_neNN, c_eqNN, q_r11L, q_r22L, c_neB, c_neT2, c_eqT2, c_mem, nc0, nc1, Int.cast_ofNat_Int, take_set, List.take_length, List.length_map, b_div, b_divL, b_pow, b_powL, q_expr, q_expr1, q_ret, q_ret1, q_retN, q_pass, q_stop, q_ifs, q_ifs1, q_for, q_for1, q_ss0, q_ss, q_ssn, q_ssr, q_frz, q_app, q_ext, fnEnd_rt, fnEnd_nx, fnEnd_exc, go_ok, go_bad, go_exc, tru_tup, rdC_i, fldR_ok, q_fld, q_fld1, mtR_ok, metR_ok, q_mt2, q_meth, q_meth1, q_mk3, q_mk2, mtKR_ok, metKR_ok, q_methk, q_methk1, tabAt_0, tabAt_1, fldN_1, putN_0, putN_1, madeR_ok, kMade_ok, q_mk, q_mk1, mkPR_ok, q_mkk, q_mkk1, q_mkk2, kMadeM_ok, q_mkM, q_mkM1, iscR_ok, q_isc, q_isc1, isc_ins, isc_non, isc_bl, isc_int, isc_str, isc_lst, isc_tup, isc_dct, setFC_ok, q_setF, q_setF1, q_setF2, String.reduceEq,  br_t, br_f, tru_bl, tru_int, tru_non, tru_lst, rd_d, retD_ok, opD_ok, b_add, b_sub, c_lt, c_le, c_gt, c_ge, c_eqI, c_neI, c_eqS, c_neS, i_lst, i_tup, bi_int, bi_intB, bi_lenL, bi_lenT, bi_abs, bind1, bindM, isK, pickAll, wipeE, leave_cut, q_tup1, q_lst1, dispR_ok, Nat.zero_le, Nat.reduceLeDiff, Nat.reduceAdd, Nat.reduceLT, Int.reduceLT, Int.reduceLE, Nat.reducePow, Int.reducePow, Int.reduceToNat, Int.reduceNeg, Int.reduceAdd, Nat.zero_add, Option.bind_some, Option.map_some, Option.bind, Option.map, List.getElem?_cons_zero, List.getElem?_cons_succ, List.set_cons_zero, List.set_cons_succ, List.map_cons, List.map_nil, List.cons_append, List.nil_append, List.length_cons, List.length_nil, List.replicate_succ, List.replicate_zero, decide_true, decide_false, eq_self, and_self, true_and, and_true, and_false, false_and, not_true_eq_false, not_false_eq_true, beq_self_eq_true, Bool.not_true, Bool.not_false, Bool.and_true, Bool.and_false, if_true, if_false, within2_ok, h, h2]
theorem nletters_ok (n : Nat) (L : Int) (s : CS) (h : 1 ≤ L) (h2 : L ≤ 6) : callN FF (n + 4) 5 [.d (.int L)] s = .ok (.d .non) s := by
  rw [q_fn f5 rfl]
  simp only [g_need_letters, q_lit, q_var, varR_ok, q_bin, q_bin1, q_bin2, q_cmp, q_cmp1, q_cmp2, q_neg, q_neg1, q_isn, q_isn_non, q_isn_bl, q_isn_int, q_isn_str, q_isn_lst, q_isn_tup, q_and, q_or, q_and1, q_or1, q_and2, q_or2, q_kand, q_kor, q_not, q_not1, notR_ok, q_ite, q_ite1, q_tup, q_lst, q_new, q_new1, q_idx, q_idx1, q_idx2, ixR_ok, q_sli, q_sli1, q_sli2, q_sli3, sliR_scr, sliR_lst, q_onone, q_osome, q_os, q_call, q_callk, q_callk1, q_callk2, permR_ok, q_bi, q_bi1, biR_ok, q_isi, q_isi1, isiR_ok, q_isiT, q_isiT1, isiTR_ok, q_chain, q_ch1, q_ch2, q_chC, q_ch3, chB_ok, q_revT, q_revT1, q_rev, q_rev1, revR_ok, q_slt, q_slt1, q_slt2, q_slt3, sltR_ok, q_whl, q_wl1, q_wlB, q_wl2n, q_wl2r, q_aug, augR_ok, q_augA, q_augS, b_addT, b_addL, b_addS, c_isB, c_nisB, bi_allB, bi_anyB, bi_strI, bi_strS, q_lrg, q_lrg1, Int.toNat_natCast, q_comp, q_comp1, q_comp2, q_two, q_two1, q_es0, q_es, q_es1, q_es2, q_spl, q_splL, q_splT, q_spl2, own_app, own_all, own0, own1, consO_ok, rdl0, rdl1, consR_ok, q_seq, q_seqL, q_seqT, q_r1, q_r2, q_r21, q_en, q_en1, q_if0, q_if, q_if1, q_asg, q_asg1, nxR_ok, q_asgT, q_asgT1, q_asg2, q_asg21, setAll0, setAll1, setAllP0, setAllP1, q_set, q_set1, q_set2, q_set3, setC_ok, setR_ok, rd_obj, rdC_l, frzR_ok, frzC_ok, q_app1, q_app2, appC_ok, q_ext1, q_ext2, extC_ok, extD_ok, appD_ok, Nat.sub_zero, Int.zero_add, at0, at1, at2, at3, last_get, last_set, enum_len, ix0, ix1, ix2, b_mulT1, b_mulL1, b_mulL, b_mulR, b_mulLL, b_mulRR, bi_min2, bi_max2, comp_ints, Nat.reduceSub, Nat.sub_self, b_mod, c_neIN, c_neNN, c_eqNN, q_r11L, q_r22L, c_neB, c_neT2, c_eqT2, c_mem, nc0, nc1, Int.cast_ofNat_Int, take_set, List.take_length, List.length_map, b_div, b_divL, b_pow, b_powL, q_expr, q_expr1, q_ret, q_ret1, q_retN, q_pass, q_stop, q_ifs, q_ifs1, q_for, q_for1, q_ss0, q_ss, q_ssn, q_ssr, q_frz, q_app, q_ext, fnEnd_rt, fnEnd_nx, fnEnd_exc, go_ok, go_bad, go_exc, tru_tup, rdC_i, fldR_ok, q_fld, q_fld1, mtR_ok, metR_ok, q_mt2, q_meth, q_meth1, q_mk3, q_mk2, mtKR_ok, metKR_ok, q_methk, q_methk1, tabAt_0, tabAt_1, fldN_1, putN_0, putN_1, madeR_ok, kMade_ok, q_mk, q_mk1, mkPR_ok, q_mkk, q_mkk1, q_mkk2, kMadeM_ok, q_mkM, q_mkM1, iscR_ok, q_isc, q_isc1, isc_ins, isc_non, isc_bl, isc_int, isc_str, isc_lst, isc_tup, isc_dct, setFC_ok, q_setF, q_setF1, q_setF2, String.reduceEq,  br_t, br_f, tru_bl, tru_int, tru_non, tru_lst, rd_d, retD_ok, opD_ok, b_add, b_sub, c_lt, c_le, c_gt, c_ge, c_eqI, c_neI, c_eqS, c_neS, i_lst, i_tup, bi_int, bi_intB, bi_lenL, bi_lenT, bi_abs, bind1, bindM, isK, pickAll, wipeE, leave_cut, q_tup1, q_lst1, dispR_ok, Nat.zero_le, Nat.reduceLeDiff, Nat.reduceAdd, Nat.reduceLT, Int.reduceLT, Int.reduceLE, Nat.reducePow, Int.reducePow, Int.reduceToNat, Int.reduceNeg, Int.reduceAdd, Nat.zero_add, Option.bind_some, Option.map_some, Option.bind, Option.map, List.getElem?_cons_zero, List.getElem?_cons_succ, List.set_cons_zero, List.set_cons_succ, List.map_cons, List.map_nil, List.cons_append, List.nil_append, List.length_cons, List.length_nil, List.replicate_succ, List.replicate_zero, decide_true, decide_false, eq_self, and_self, true_and, and_true, and_false, false_and, not_true_eq_false, not_false_eq_true, beq_self_eq_true, Bool.not_true, Bool.not_false, Bool.and_true, Bool.and_false, if_true, if_false, need2_ok, h, h2]
def okW (L : Int) (w : List Int) : Prop := (∀ x ∈ w, 0 ≤ x ∧ x < L) ∧ 1 ≤ w.length ∧ w.length ≤ 200
theorem all_true (xs : List D) : bi .all [.lst (xs.map fun _ => D.bl true)] = some (.bl true) := by
  have := bi_allB (xs.map fun _ => true)
  rw [List.map_map] at this
  rw [show (xs.map fun _ => D.bl true) = xs.map (D.bl ∘ fun _ => true) from rfl, this]
  simp
theorem isword_ok (n : Nat) (w : List Int) (L : Int) (s : CS) (d : D) (hd : d = wd w ∨ d = .lst (w.map .int)) (h : okW L w) : callN FF (n + 4) 3 [.d d, .d (.int L)] s = .ok (.d (.bl true)) s := by
  obtain ⟨h1, h2, h3⟩ := h
  have h2' : (1 : Int) ≤ (w.length : Int) := by omega
  have h3' : (w.length : Int) ≤ 200 := by omega
  have cmp : ∀ ρ : PD.Env, ρ.length = 3 → ρ[1]? = some (some (.d (.int L))) → cmp_ ⟨callN FF (n + 3)⟩ (.call 2 (.cons (.var 2) (.cons (.var 1) .nil))) [2] false .nil ρ (w.map D.int) s = .ok ((w.map D.int).map fun _ => D.bl true) s := fun ρ hl hr => by
    refine comp_one (fun _ => D.bl true) (by rw [List.length_map]; omega) fun x hx => ?_
    obtain ⟨i, hi, rfl⟩ := List.mem_map.mp hx
    have a := fun s => isletter_ok n i L s (h1 i hi).1 (h1 i hi).2
    match ρ, hl, hr with
    | [a0, a1, a2], _, hr =>
      have hr' : a1 = some (.d (.int L)) := by simpa using hr
      subst hr'
      simp only [q_lit, q_var, varR_ok, q_bin, q_bin1, q_bin2, q_cmp, q_cmp1, q_cmp2, q_neg, q_neg1, q_isn, q_isn_non, q_isn_bl, q_isn_int, q_isn_str, q_isn_lst, q_isn_tup, q_and, q_or, q_and1, q_or1, q_and2, q_or2, q_kand, q_kor, q_not, q_not1, notR_ok, q_ite, q_ite1, q_tup, q_lst, q_new, q_new1, q_idx, q_idx1, q_idx2, ixR_ok, q_sli, q_sli1, q_sli2, q_sli3, sliR_scr, sliR_lst, q_onone, q_osome, q_os, q_call, q_callk, q_callk1, q_callk2, permR_ok, q_bi, q_bi1, biR_ok, q_isi, q_isi1, isiR_ok, q_isiT, q_isiT1, isiTR_ok, q_chain, q_ch1, q_ch2, q_chC, q_ch3, chB_ok, q_revT, q_revT1, q_rev, q_rev1, revR_ok, q_slt, q_slt1, q_slt2, q_slt3, sltR_ok, q_whl, q_wl1, q_wlB, q_wl2n, q_wl2r, q_aug, augR_ok, q_augA, q_augS, b_addT, b_addL, b_addS, c_isB, c_nisB, bi_allB, bi_anyB, bi_strI, bi_strS, q_lrg, q_lrg1, Int.toNat_natCast, q_comp, q_comp1, q_comp2, q_two, q_two1, q_es0, q_es, q_es1, q_es2, q_spl, q_splL, q_splT, q_spl2, own_app, own_all, own0, own1, consO_ok, rdl0, rdl1, consR_ok, q_seq, q_seqL, q_seqT, q_r1, q_r2, q_r21, q_en, q_en1, q_if0, q_if, q_if1, q_asg, q_asg1, nxR_ok, q_asgT, q_asgT1, q_asg2, q_asg21, setAll0, setAll1, setAllP0, setAllP1, q_set, q_set1, q_set2, q_set3, setC_ok, setR_ok, rd_obj, rdC_l, frzR_ok, frzC_ok, q_app1, q_app2, appC_ok, q_ext1, q_ext2, extC_ok, extD_ok, appD_ok, Nat.sub_zero, Int.zero_add, at0, at1, at2, at3, last_get, last_set, enum_len, ix0, ix1, ix2, b_mulT1, b_mulL1, b_mulL, b_mulR, b_mulLL, b_mulRR, bi_min2, bi_max2, comp_ints, Nat.reduceSub, Nat.sub_self, b_mod, c_neIN, c_neNN, c_eqNN, q_r11L, q_r22L, c_neB, c_neT2, c_eqT2, c_mem, nc0, nc1, Int.cast_ofNat_Int, take_set, List.take_length, List.length_map, b_div, b_divL, b_pow, b_powL, q_expr, q_expr1, q_ret, q_ret1, q_retN, q_pass, q_stop, q_ifs, q_ifs1, q_for, q_for1, q_ss0, q_ss, q_ssn, q_ssr, q_frz, q_app, q_ext, fnEnd_rt, fnEnd_nx, fnEnd_exc, go_ok, go_bad, go_exc, tru_tup, rdC_i, fldR_ok, q_fld, q_fld1, mtR_ok, metR_ok, q_mt2, q_meth, q_meth1, q_mk3, q_mk2, mtKR_ok, metKR_ok, q_methk, q_methk1, tabAt_0, tabAt_1, fldN_1, putN_0, putN_1, madeR_ok, kMade_ok, q_mk, q_mk1, mkPR_ok, q_mkk, q_mkk1, q_mkk2, kMadeM_ok, q_mkM, q_mkM1, iscR_ok, q_isc, q_isc1, isc_ins, isc_non, isc_bl, isc_int, isc_str, isc_lst, isc_tup, isc_dct, setFC_ok, q_setF, q_setF1, q_setF2, String.reduceEq,  br_t, br_f, tru_bl, tru_int, tru_non, tru_lst, rd_d, retD_ok, opD_ok, b_add, b_sub, c_lt, c_le, c_gt, c_ge, c_eqI, c_neI, c_eqS, c_neS, i_lst, i_tup, bi_int, bi_intB, bi_lenL, bi_lenT, bi_abs, bind1, bindM, isK, pickAll, wipeE, leave_cut, q_tup1, q_lst1, dispR_ok, Nat.zero_le, Nat.reduceLeDiff, Nat.reduceAdd, Nat.reduceLT, Int.reduceLT, Int.reduceLE, Nat.reducePow, Int.reducePow, Int.reduceToNat, Int.reduceNeg, Int.reduceAdd, Nat.zero_add, Option.bind_some, Option.map_some, Option.bind, Option.map, List.getElem?_cons_zero, List.getElem?_cons_succ, List.set_cons_zero, List.set_cons_succ, List.map_cons, List.map_nil, List.cons_append, List.nil_append, List.length_cons, List.length_nil, List.replicate_succ, List.replicate_zero, decide_true, decide_false, eq_self, and_self, true_and, and_true, and_false, false_and, not_true_eq_false, not_false_eq_true, beq_self_eq_true, Bool.not_true, Bool.not_false, Bool.and_true, Bool.and_false, if_true, if_false, a]
  rw [q_fn f3 rfl]
  rcases hd with rfl | rfl
  · simp only [g_is_word, q_lit, q_var, varR_ok, q_bin, q_bin1, q_bin2, q_cmp, q_cmp1, q_cmp2, q_neg, q_neg1, q_isn, q_isn_non, q_isn_bl, q_isn_int, q_isn_str, q_isn_lst, q_isn_tup, q_and, q_or, q_and1, q_or1, q_and2, q_or2, q_kand, q_kor, q_not, q_not1, notR_ok, q_ite, q_ite1, q_tup, q_lst, q_new, q_new1, q_idx, q_idx1, q_idx2, ixR_ok, q_sli, q_sli1, q_sli2, q_sli3, sliR_scr, sliR_lst, q_onone, q_osome, q_os, q_call, q_callk, q_callk1, q_callk2, permR_ok, q_bi, q_bi1, biR_ok, q_isi, q_isi1, isiR_ok, q_isiT, q_isiT1, isiTR_ok, q_chain, q_ch1, q_ch2, q_chC, q_ch3, chB_ok, q_revT, q_revT1, q_rev, q_rev1, revR_ok, q_slt, q_slt1, q_slt2, q_slt3, sltR_ok, q_whl, q_wl1, q_wlB, q_wl2n, q_wl2r, q_aug, augR_ok, q_augA, q_augS, b_addT, b_addL, b_addS, c_isB, c_nisB, bi_allB, bi_anyB, bi_strI, bi_strS, q_lrg, q_lrg1, Int.toNat_natCast, q_comp, q_comp1, q_comp2, q_two, q_two1, q_es0, q_es, q_es1, q_es2, q_spl, q_splL, q_splT, q_spl2, own_app, own_all, own0, own1, consO_ok, rdl0, rdl1, consR_ok, q_seq, q_seqL, q_seqT, q_r1, q_r2, q_r21, q_en, q_en1, q_if0, q_if, q_if1, q_asg, q_asg1, nxR_ok, q_asgT, q_asgT1, q_asg2, q_asg21, setAll0, setAll1, setAllP0, setAllP1, q_set, q_set1, q_set2, q_set3, setC_ok, setR_ok, rd_obj, rdC_l, frzR_ok, frzC_ok, q_app1, q_app2, appC_ok, q_ext1, q_ext2, extC_ok, extD_ok, appD_ok, Nat.sub_zero, Int.zero_add, at0, at1, at2, at3, last_get, last_set, enum_len, ix0, ix1, ix2, b_mulT1, b_mulL1, b_mulL, b_mulR, b_mulLL, b_mulRR, bi_min2, bi_max2, comp_ints, Nat.reduceSub, Nat.sub_self, b_mod, c_neIN, c_neNN, c_eqNN, q_r11L, q_r22L, c_neB, c_neT2, c_eqT2, c_mem, nc0, nc1, Int.cast_ofNat_Int, take_set, List.take_length, List.length_map, b_div, b_divL, b_pow, b_powL, q_expr, q_expr1, q_ret, q_ret1, q_retN, q_pass, q_stop, q_ifs, q_ifs1, q_for, q_for1, q_ss0, q_ss, q_ssn, q_ssr, q_frz, q_app, q_ext, fnEnd_rt, fnEnd_nx, fnEnd_exc, go_ok, go_bad, go_exc, tru_tup, rdC_i, fldR_ok, q_fld, q_fld1, mtR_ok, metR_ok, q_mt2, q_meth, q_meth1, q_mk3, q_mk2, mtKR_ok, metKR_ok, q_methk, q_methk1, tabAt_0, tabAt_1, fldN_1, putN_0, putN_1, madeR_ok, kMade_ok, q_mk, q_mk1, mkPR_ok, q_mkk, q_mkk1, q_mkk2, kMadeM_ok, q_mkM, q_mkM1, iscR_ok, q_isc, q_isc1, isc_ins, isc_non, isc_bl, isc_int, isc_str, isc_lst, isc_tup, isc_dct, setFC_ok, q_setF, q_setF1, q_setF2, String.reduceEq,  br_t, br_f, tru_bl, tru_int, tru_non, tru_lst, rd_d, retD_ok, opD_ok, b_add, b_sub, c_lt, c_le, c_gt, c_ge, c_eqI, c_neI, c_eqS, c_neS, i_lst, i_tup, bi_int, bi_intB, bi_lenL, bi_lenT, bi_abs, bind1, bindM, isK, pickAll, wipeE, leave_cut, q_tup1, q_lst1, dispR_ok, Nat.zero_le, Nat.reduceLeDiff, Nat.reduceAdd, Nat.reduceLT, Int.reduceLT, Int.reduceLE, Nat.reducePow, Int.reducePow, Int.reduceToNat, Int.reduceNeg, Int.reduceAdd, Nat.zero_add, Option.bind_some, Option.map_some, Option.bind, Option.map, List.getElem?_cons_zero, List.getElem?_cons_succ, List.set_cons_zero, List.set_cons_succ, List.map_cons, List.map_nil, List.cons_append, List.nil_append, List.length_cons, List.length_nil, List.replicate_succ, List.replicate_zero, decide_true, decide_false, eq_self, and_self, true_and, and_true, and_false, false_and, not_true_eq_false, not_false_eq_true, beq_self_eq_true, Bool.not_true, Bool.not_false, Bool.and_true, Bool.and_false, if_true, if_false, wd, List.any_cons, List.any_nil, Bool.or_true, Bool.or_false, h2', h3']
    rw [cmp _ rfl rfl]
    simp only [q_lit, q_var, varR_ok, q_bin, q_bin1, q_bin2, q_cmp, q_cmp1, q_cmp2, q_neg, q_neg1, q_isn, q_isn_non, q_isn_bl, q_isn_int, q_isn_str, q_isn_lst, q_isn_tup, q_and, q_or, q_and1, q_or1, q_and2, q_or2, q_kand, q_kor, q_not, q_not1, notR_ok, q_ite, q_ite1, q_tup, q_lst, q_new, q_new1, q_idx, q_idx1, q_idx2, ixR_ok, q_sli, q_sli1, q_sli2, q_sli3, sliR_scr, sliR_lst, q_onone, q_osome, q_os, q_call, q_callk, q_callk1, q_callk2, permR_ok, q_bi, q_bi1, biR_ok, q_isi, q_isi1, isiR_ok, q_isiT, q_isiT1, isiTR_ok, q_chain, q_ch1, q_ch2, q_chC, q_ch3, chB_ok, q_revT, q_revT1, q_rev, q_rev1, revR_ok, q_slt, q_slt1, q_slt2, q_slt3, sltR_ok, q_whl, q_wl1, q_wlB, q_wl2n, q_wl2r, q_aug, augR_ok, q_augA, q_augS, b_addT, b_addL, b_addS, c_isB, c_nisB, bi_allB, bi_anyB, bi_strI, bi_strS, q_lrg, q_lrg1, Int.toNat_natCast, q_comp, q_comp1, q_comp2, q_two, q_two1, q_es0, q_es, q_es1, q_es2, q_spl, q_splL, q_splT, q_spl2, own_app, own_all, own0, own1, consO_ok, rdl0, rdl1, consR_ok, q_seq, q_seqL, q_seqT, q_r1, q_r2, q_r21, q_en, q_en1, q_if0, q_if, q_if1, q_asg, q_asg1, nxR_ok, q_asgT, q_asgT1, q_asg2, q_asg21, setAll0, setAll1, setAllP0, setAllP1, q_set, q_set1, q_set2, q_set3, setC_ok, setR_ok, rd_obj, rdC_l, frzR_ok, frzC_ok, q_app1, q_app2, appC_ok, q_ext1, q_ext2, extC_ok, extD_ok, appD_ok, Nat.sub_zero, Int.zero_add, at0, at1, at2, at3, last_get, last_set, enum_len, ix0, ix1, ix2, b_mulT1, b_mulL1, b_mulL, b_mulR, b_mulLL, b_mulRR, bi_min2, bi_max2, comp_ints, Nat.reduceSub, Nat.sub_self, b_mod, c_neIN, c_neNN, c_eqNN, q_r11L, q_r22L, c_neB, c_neT2, c_eqT2, c_mem, nc0, nc1, Int.cast_ofNat_Int, take_set, List.take_length, List.length_map, b_div, b_divL, b_pow, b_powL, q_expr, q_expr1, q_ret, q_ret1, q_retN, q_pass, q_stop, q_ifs, q_ifs1, q_for, q_for1, q_ss0, q_ss, q_ssn, q_ssr, q_frz, q_app, q_ext, fnEnd_rt, fnEnd_nx, fnEnd_exc, go_ok, go_bad, go_exc, tru_tup, rdC_i, fldR_ok, q_fld, q_fld1, mtR_ok, metR_ok, q_mt2, q_meth, q_meth1, q_mk3, q_mk2, mtKR_ok, metKR_ok, q_methk, q_methk1, tabAt_0, tabAt_1, fldN_1, putN_0, putN_1, madeR_ok, kMade_ok, q_mk, q_mk1, mkPR_ok, q_mkk, q_mkk1, q_mkk2, kMadeM_ok, q_mkM, q_mkM1, iscR_ok, q_isc, q_isc1, isc_ins, isc_non, isc_bl, isc_int, isc_str, isc_lst, isc_tup, isc_dct, setFC_ok, q_setF, q_setF1, q_setF2, String.reduceEq,  br_t, br_f, tru_bl, tru_int, tru_non, tru_lst, rd_d, retD_ok, opD_ok, b_add, b_sub, c_lt, c_le, c_gt, c_ge, c_eqI, c_neI, c_eqS, c_neS, i_lst, i_tup, bi_int, bi_intB, bi_lenL, bi_lenT, bi_abs, bind1, bindM, isK, pickAll, wipeE, leave_cut, q_tup1, q_lst1, dispR_ok, Nat.zero_le, Nat.reduceLeDiff, Nat.reduceAdd, Nat.reduceLT, Int.reduceLT, Int.reduceLE, Nat.reducePow, Int.reducePow, Int.reduceToNat, Int.reduceNeg, Int.reduceAdd, Nat.zero_add, Option.bind_some, Option.map_some, Option.bind, Option.map, List.getElem?_cons_zero, List.getElem?_cons_succ, List.set_cons_zero, List.set_cons_succ, List.map_cons, List.map_nil, List.cons_append, List.nil_append, List.length_cons, List.length_nil, List.replicate_succ, List.replicate_zero, decide_true, decide_false, eq_self, and_self, true_and, and_true, and_false, false_and, not_true_eq_false, not_false_eq_true, beq_self_eq_true, Bool.not_true, Bool.not_false, Bool.and_true, Bool.and_false, if_true, if_false, all_true]
  · simp only [g_is_word, q_lit, q_var, varR_ok, q_bin, q_bin1, q_bin2, q_cmp, q_cmp1, q_cmp2, q_neg, q_neg1, q_isn, q_isn_non, q_isn_bl, q_isn_int, q_isn_str, q_isn_lst, q_isn_tup, q_and, q_or, q_and1, q_or1, q_and2, q_or2, q_kand, q_kor, q_not, q_not1, notR_ok, q_ite, q_ite1, q_tup, q_lst, q_new, q_new1, q_idx, q_idx1, q_idx2, ixR_ok, q_sli, q_sli1, q_sli2, q_sli3, sliR_scr, sliR_lst, q_onone, q_osome, q_os, q_call, q_callk, q_callk1, q_callk2, permR_ok, q_bi, q_bi1, biR_ok, q_isi, q_isi1, isiR_ok, q_isiT, q_isiT1, isiTR_ok, q_chain, q_ch1, q_ch2, q_chC, q_ch3, chB_ok, q_revT, q_revT1, q_rev, q_rev1, revR_ok, q_slt, q_slt1, q_slt2, q_slt3, sltR_ok, q_whl, q_wl1, q_wlB, q_wl2n, q_wl2r, q_aug, augR_ok, q_augA, q_augS, b_addT, b_addL, b_addS, c_isB, c_nisB, bi_allB, bi_anyB, bi_strI, bi_strS, q_lrg, q_lrg1, Int.toNat_natCast, q_comp, q_comp1, q_comp2, q_two, q_two1, q_es0, q_es, q_es1, q_es2, q_spl, q_splL, q_splT, q_spl2, own_app, own_all, own0, own1, consO_ok, rdl0, rdl1, consR_ok, q_seq, q_seqL, q_seqT, q_r1, q_r2, q_r21, q_en, q_en1, q_if0, q_if, q_if1, q_asg, q_asg1, nxR_ok, q_asgT, q_asgT1, q_asg2, q_asg21, setAll0, setAll1, setAllP0, setAllP1, q_set, q_set1, q_set2, q_set3, setC_ok, setR_ok, rd_obj, rdC_l, frzR_ok, frzC_ok, q_app1, q_app2, appC_ok, q_ext1, q_ext2, extC_ok, extD_ok, appD_ok, Nat.sub_zero, Int.zero_add, at0, at1, at2, at3, last_get, last_set, enum_len, ix0, ix1, ix2, b_mulT1, b_mulL1, b_mulL, b_mulR, b_mulLL, b_mulRR, bi_min2, bi_max2, comp_ints, Nat.reduceSub, Nat.sub_self, b_mod, c_neIN, c_neNN, c_eqNN, q_r11L, q_r22L, c_neB, c_neT2, c_eqT2, c_mem, nc0, nc1, Int.cast_ofNat_Int, take_set, List.take_length, List.length_map, b_div, b_divL, b_pow, b_powL, q_expr, q_expr1, q_ret, q_ret1, q_retN, q_pass, q_stop, q_ifs, q_ifs1, q_for, q_for1, q_ss0, q_ss, q_ssn, q_ssr, q_frz, q_app, q_ext, fnEnd_rt, fnEnd_nx, fnEnd_exc, go_ok, go_bad, go_exc, tru_tup, rdC_i, fldR_ok, q_fld, q_fld1, mtR_ok, metR_ok, q_mt2, q_meth, q_meth1, q_mk3, q_mk2, mtKR_ok, metKR_ok, q_methk, q_methk1, tabAt_0, tabAt_1, fldN_1, putN_0, putN_1, madeR_ok, kMade_ok, q_mk, q_mk1, mkPR_ok, q_mkk, q_mkk1, q_mkk2, kMadeM_ok, q_mkM, q_mkM1, iscR_ok, q_isc, q_isc1, isc_ins, isc_non, isc_bl, isc_int, isc_str, isc_lst, isc_tup, isc_dct, setFC_ok, q_setF, q_setF1, q_setF2, String.reduceEq,  br_t, br_f, tru_bl, tru_int, tru_non, tru_lst, rd_d, retD_ok, opD_ok, b_add, b_sub, c_lt, c_le, c_gt, c_ge, c_eqI, c_neI, c_eqS, c_neS, i_lst, i_tup, bi_int, bi_intB, bi_lenL, bi_lenT, bi_abs, bind1, bindM, isK, pickAll, wipeE, leave_cut, q_tup1, q_lst1, dispR_ok, Nat.zero_le, Nat.reduceLeDiff, Nat.reduceAdd, Nat.reduceLT, Int.reduceLT, Int.reduceLE, Nat.reducePow, Int.reducePow, Int.reduceToNat, Int.reduceNeg, Int.reduceAdd, Nat.zero_add, Option.bind_some, Option.map_some, Option.bind, Option.map, List.getElem?_cons_zero, List.getElem?_cons_succ, List.set_cons_zero, List.set_cons_succ, List.map_cons, List.map_nil, List.cons_append, List.nil_append, List.length_cons, List.length_nil, List.replicate_succ, List.replicate_zero, decide_true, decide_false, eq_self, and_self, true_and, and_true, and_false, false_and, not_true_eq_false, not_false_eq_true, beq_self_eq_true, Bool.not_true, Bool.not_false, Bool.and_true, Bool.and_false, if_true, if_false, List.any_cons, List.any_nil, Bool.or_true, Bool.or_false, h2', h3']
    rw [cmp _ rfl rfl]
    simp only [q_lit, q_var, varR_ok, q_bin, q_bin1, q_bin2, q_cmp, q_cmp1, q_cmp2, q_neg, q_neg1, q_isn, q_isn_non, q_isn_bl, q_isn_int, q_isn_str, q_isn_lst, q_isn_tup, q_and, q_or, q_and1, q_or1, q_and2, q_or2, q_kand, q_kor, q_not, q_not1, notR_ok, q_ite, q_ite1, q_tup, q_lst, q_new, q_new1, q_idx, q_idx1, q_idx2, ixR_ok, q_sli, q_sli1, q_sli2, q_sli3, sliR_scr, sliR_lst, q_onone, q_osome, q_os, q_call, q_callk, q_callk1, q_callk2, permR_ok, q_bi, q_bi1, biR_ok, q_isi, q_isi1, isiR_ok, q_isiT, q_isiT1, isiTR_ok, q_chain, q_ch1, q_ch2, q_chC, q_ch3, chB_ok, q_revT, q_revT1, q_rev, q_rev1, revR_ok, q_slt, q_slt1, q_slt2, q_slt3, sltR_ok, q_whl, q_wl1, q_wlB, q_wl2n, q_wl2r, q_aug, augR_ok, q_augA, q_augS, b_addT, b_addL, b_addS, c_isB, c_nisB, bi_allB, bi_anyB, bi_strI, bi_strS, q_lrg, q_lrg1, Int.toNat_natCast, q_comp, q_comp1, q_comp2, q_two, q_two1, q_es0, q_es, q_es1, q_es2, q_spl, q_splL, q_splT, q_spl2, own_app, own_all, own0, own1, consO_ok, rdl0, rdl1, consR_ok, q_seq, q_seqL, q_seqT, q_r1, q_r2, q_r21, q_en, q_en1, q_if0, q_if, q_if1, q_asg, q_asg1, nxR_ok, q_asgT, q_asgT1, q_asg2, q_asg21, setAll0, setAll1, setAllP0, setAllP1, q_set, q_set1, q_set2, q_set3, setC_ok, setR_ok, rd_obj, rdC_l, frzR_ok, frzC_ok, q_app1, q_app2, appC_ok, q_ext1, q_ext2, extC_ok, extD_ok, appD_ok, Nat.sub_zero, Int.zero_add, at0, at1, at2, at3, last_get, last_set, enum_len, ix0, ix1, ix2, b_mulT1, b_mulL1, b_mulL, b_mulR, b_mulLL, b_mulRR, bi_min2, bi_max2, comp_ints, Nat.reduceSub, Nat.sub_self, b_mod, c_neIN, c_neNN, c_eqNN, q_r11L, q_r22L, c_neB, c_neT2, c_eqT2, c_mem, nc0, nc1, Int.cast_ofNat_Int, take_set, List.take_length, List.length_map, b_div, b_divL, b_pow, b_powL, q_expr, q_expr1, q_ret, q_ret1, q_retN, q_pass, q_stop, q_ifs, q_ifs1, q_for, q_for1, q_ss0, q_ss, q_ssn, q_ssr, q_frz, q_app, q_ext, fnEnd_rt, fnEnd_nx, fnEnd_exc, go_ok, go_bad, go_exc, tru_tup, rdC_i, fldR_ok, q_fld, q_fld1, mtR_ok, metR_ok, q_mt2, q_meth, q_meth1, q_mk3, q_mk2, mtKR_ok, metKR_ok, q_methk, q_methk1, tabAt_0, tabAt_1, fldN_1, putN_0, putN_1, madeR_ok, kMade_ok, q_mk, q_mk1, mkPR_ok, q_mkk, q_mkk1, q_mkk2, kMadeM_ok, q_mkM, q_mkM1, iscR_ok, q_isc, q_isc1, isc_ins, isc_non, isc_bl, isc_int, isc_str, isc_lst, isc_tup, isc_dct, setFC_ok, q_setF, q_setF1, q_setF2, String.reduceEq,  br_t, br_f, tru_bl, tru_int, tru_non, tru_lst, rd_d, retD_ok, opD_ok, b_add, b_sub, c_lt, c_le, c_gt, c_ge, c_eqI, c_neI, c_eqS, c_neS, i_lst, i_tup, bi_int, bi_intB, bi_lenL, bi_lenT, bi_abs, bind1, bindM, isK, pickAll, wipeE, leave_cut, q_tup1, q_lst1, dispR_ok, Nat.zero_le, Nat.reduceLeDiff, Nat.reduceAdd, Nat.reduceLT, Int.reduceLT, Int.reduceLE, Nat.reducePow, Int.reducePow, Int.reduceToNat, Int.reduceNeg, Int.reduceAdd, Nat.zero_add, Option.bind_some, Option.map_some, Option.bind, Option.map, List.getElem?_cons_zero, List.getElem?_cons_succ, List.set_cons_zero, List.set_cons_succ, List.map_cons, List.map_nil, List.cons_append, List.nil_append, List.length_cons, List.length_nil, List.replicate_succ, List.replicate_zero, decide_true, decide_false, eq_self, and_self, true_and, and_true, and_false, false_and, not_true_eq_false, not_false_eq_true, beq_self_eq_true, Bool.not_true, Bool.not_false, Bool.and_true, Bool.and_false, if_true, if_false, all_true]
theorem bi_tupT (l : List D) : bi .tuple [.tup l] = some (.tup l) := rfl
theorem bi_tupL (l : List D) : bi .tuple [.lst l] = some (.tup l) := rfl
theorem bi_lisT (l : List D) : bi .list [.tup l] = some (.lst l) := rfl
theorem bi_lisL (l : List D) : bi .list [.lst l] = some (.lst l) := rfl
theorem needw_ok (n : Nat) (w : List Int) (L : Int) (z : Str) (s : CS) (d : D) (hd : d = wd w ∨ d = .lst (w.map .int)) (h : okW L w) : callN FF (n + 5) 6 [.d d, .d (.int L), .d (.str z)] s = .ok (.d (wd w)) s := by
  have a := fun s => isword_ok n w L s d hd h
  rw [q_fn f6 rfl]
  rcases hd with rfl | rfl
  · simp only [wd] at a ⊢
    simp only [g_need_word, q_lit, q_var, varR_ok, q_bin, q_bin1, q_bin2, q_cmp, q_cmp1, q_cmp2, q_neg, q_neg1, q_isn, q_isn_non, q_isn_bl, q_isn_int, q_isn_str, q_isn_lst, q_isn_tup, q_and, q_or, q_and1, q_or1, q_and2, q_or2, q_kand, q_kor, q_not, q_not1, notR_ok, q_ite, q_ite1, q_tup, q_lst, q_new, q_new1, q_idx, q_idx1, q_idx2, ixR_ok, q_sli, q_sli1, q_sli2, q_sli3, sliR_scr, sliR_lst, q_onone, q_osome, q_os, q_call, q_callk, q_callk1, q_callk2, permR_ok, q_bi, q_bi1, biR_ok, q_isi, q_isi1, isiR_ok, q_isiT, q_isiT1, isiTR_ok, q_chain, q_ch1, q_ch2, q_chC, q_ch3, chB_ok, q_revT, q_revT1, q_rev, q_rev1, revR_ok, q_slt, q_slt1, q_slt2, q_slt3, sltR_ok, q_whl, q_wl1, q_wlB, q_wl2n, q_wl2r, q_aug, augR_ok, q_augA, q_augS, b_addT, b_addL, b_addS, c_isB, c_nisB, bi_allB, bi_anyB, bi_strI, bi_strS, q_lrg, q_lrg1, Int.toNat_natCast, q_comp, q_comp1, q_comp2, q_two, q_two1, q_es0, q_es, q_es1, q_es2, q_spl, q_splL, q_splT, q_spl2, own_app, own_all, own0, own1, consO_ok, rdl0, rdl1, consR_ok, q_seq, q_seqL, q_seqT, q_r1, q_r2, q_r21, q_en, q_en1, q_if0, q_if, q_if1, q_asg, q_asg1, nxR_ok, q_asgT, q_asgT1, q_asg2, q_asg21, setAll0, setAll1, setAllP0, setAllP1, q_set, q_set1, q_set2, q_set3, setC_ok, setR_ok, rd_obj, rdC_l, frzR_ok, frzC_ok, q_app1, q_app2, appC_ok, q_ext1, q_ext2, extC_ok, extD_ok, appD_ok, Nat.sub_zero, Int.zero_add, at0, at1, at2, at3, last_get, last_set, enum_len, ix0, ix1, ix2, b_mulT1, b_mulL1, b_mulL, b_mulR, b_mulLL, b_mulRR, bi_min2, bi_max2, comp_ints, Nat.reduceSub, Nat.sub_self, b_mod, c_neIN, c_neNN, c_eqNN, q_r11L, q_r22L, c_neB, c_neT2, c_eqT2, c_mem, nc0, nc1, Int.cast_ofNat_Int, take_set, List.take_length, List.length_map, b_div, b_divL, b_pow, b_powL, q_expr, q_expr1, q_ret, q_ret1, q_retN, q_pass, q_stop, q_ifs, q_ifs1, q_for, q_for1, q_ss0, q_ss, q_ssn, q_ssr, q_frz, q_app, q_ext, fnEnd_rt, fnEnd_nx, fnEnd_exc, go_ok, go_bad, go_exc, tru_tup, rdC_i, fldR_ok, q_fld, q_fld1, mtR_ok, metR_ok, q_mt2, q_meth, q_meth1, q_mk3, q_mk2, mtKR_ok, metKR_ok, q_methk, q_methk1, tabAt_0, tabAt_1, fldN_1, putN_0, putN_1, madeR_ok, kMade_ok, q_mk, q_mk1, mkPR_ok, q_mkk, q_mkk1, q_mkk2, kMadeM_ok, q_mkM, q_mkM1, iscR_ok, q_isc, q_isc1, isc_ins, isc_non, isc_bl, isc_int, isc_str, isc_lst, isc_tup, isc_dct, setFC_ok, q_setF, q_setF1, q_setF2, String.reduceEq,  br_t, br_f, tru_bl, tru_int, tru_non, tru_lst, rd_d, retD_ok, opD_ok, b_add, b_sub, c_lt, c_le, c_gt, c_ge, c_eqI, c_neI, c_eqS, c_neS, i_lst, i_tup, bi_int, bi_intB, bi_lenL, bi_lenT, bi_abs, bind1, bindM, isK, pickAll, wipeE, leave_cut, q_tup1, q_lst1, dispR_ok, Nat.zero_le, Nat.reduceLeDiff, Nat.reduceAdd, Nat.reduceLT, Int.reduceLT, Int.reduceLE, Nat.reducePow, Int.reducePow, Int.reduceToNat, Int.reduceNeg, Int.reduceAdd, Nat.zero_add, Option.bind_some, Option.map_some, Option.bind, Option.map, List.getElem?_cons_zero, List.getElem?_cons_succ, List.set_cons_zero, List.set_cons_succ, List.map_cons, List.map_nil, List.cons_append, List.nil_append, List.length_cons, List.length_nil, List.replicate_succ, List.replicate_zero, decide_true, decide_false, eq_self, and_self, true_and, and_true, and_false, false_and, not_true_eq_false, not_false_eq_true, beq_self_eq_true, Bool.not_true, Bool.not_false, Bool.and_true, Bool.and_false, if_true, if_false, a, bi_tupT]
  · simp only [g_need_word, q_lit, q_var, varR_ok, q_bin, q_bin1, q_bin2, q_cmp, q_cmp1, q_cmp2, q_neg, q_neg1, q_isn, q_isn_non, q_isn_bl, q_isn_int, q_isn_str, q_isn_lst, q_isn_tup, q_and, q_or, q_and1, q_or1, q_and2, q_or2, q_kand, q_kor, q_not, q_not1, notR_ok, q_ite, q_ite1, q_tup, q_lst, q_new, q_new1, q_idx, q_idx1, q_idx2, ixR_ok, q_sli, q_sli1, q_sli2, q_sli3, sliR_scr, sliR_lst, q_onone, q_osome, q_os, q_call, q_callk, q_callk1, q_callk2, permR_ok, q_bi, q_bi1, biR_ok, q_isi, q_isi1, isiR_ok, q_isiT, q_isiT1, isiTR_ok, q_chain, q_ch1, q_ch2, q_chC, q_ch3, chB_ok, q_revT, q_revT1, q_rev, q_rev1, revR_ok, q_slt, q_slt1, q_slt2, q_slt3, sltR_ok, q_whl, q_wl1, q_wlB, q_wl2n, q_wl2r, q_aug, augR_ok, q_augA, q_augS, b_addT, b_addL, b_addS, c_isB, c_nisB, bi_allB, bi_anyB, bi_strI, bi_strS, q_lrg, q_lrg1, Int.toNat_natCast, q_comp, q_comp1, q_comp2, q_two, q_two1, q_es0, q_es, q_es1, q_es2, q_spl, q_splL, q_splT, q_spl2, own_app, own_all, own0, own1, consO_ok, rdl0, rdl1, consR_ok, q_seq, q_seqL, q_seqT, q_r1, q_r2, q_r21, q_en, q_en1, q_if0, q_if, q_if1, q_asg, q_asg1, nxR_ok, q_asgT, q_asgT1, q_asg2, q_asg21, setAll0, setAll1, setAllP0, setAllP1, q_set, q_set1, q_set2, q_set3, setC_ok, setR_ok, rd_obj, rdC_l, frzR_ok, frzC_ok, q_app1, q_app2, appC_ok, q_ext1, q_ext2, extC_ok, extD_ok, appD_ok, Nat.sub_zero, Int.zero_add, at0, at1, at2, at3, last_get, last_set, enum_len, ix0, ix1, ix2, b_mulT1, b_mulL1, b_mulL, b_mulR, b_mulLL, b_mulRR, bi_min2, bi_max2, comp_ints, Nat.reduceSub, Nat.sub_self, b_mod, c_neIN, c_neNN, c_eqNN, q_r11L, q_r22L, c_neB, c_neT2, c_eqT2, c_mem, nc0, nc1, Int.cast_ofNat_Int, take_set, List.take_length, List.length_map, b_div, b_divL, b_pow, b_powL, q_expr, q_expr1, q_ret, q_ret1, q_retN, q_pass, q_stop, q_ifs, q_ifs1, q_for, q_for1, q_ss0, q_ss, q_ssn, q_ssr, q_frz, q_app, q_ext, fnEnd_rt, fnEnd_nx, fnEnd_exc, go_ok, go_bad, go_exc, tru_tup, rdC_i, fldR_ok, q_fld, q_fld1, mtR_ok, metR_ok, q_mt2, q_meth, q_meth1, q_mk3, q_mk2, mtKR_ok, metKR_ok, q_methk, q_methk1, tabAt_0, tabAt_1, fldN_1, putN_0, putN_1, madeR_ok, kMade_ok, q_mk, q_mk1, mkPR_ok, q_mkk, q_mkk1, q_mkk2, kMadeM_ok, q_mkM, q_mkM1, iscR_ok, q_isc, q_isc1, isc_ins, isc_non, isc_bl, isc_int, isc_str, isc_lst, isc_tup, isc_dct, setFC_ok, q_setF, q_setF1, q_setF2, String.reduceEq,  br_t, br_f, tru_bl, tru_int, tru_non, tru_lst, rd_d, retD_ok, opD_ok, b_add, b_sub, c_lt, c_le, c_gt, c_ge, c_eqI, c_neI, c_eqS, c_neS, i_lst, i_tup, bi_int, bi_intB, bi_lenL, bi_lenT, bi_abs, bind1, bindM, isK, pickAll, wipeE, leave_cut, q_tup1, q_lst1, dispR_ok, Nat.zero_le, Nat.reduceLeDiff, Nat.reduceAdd, Nat.reduceLT, Int.reduceLT, Int.reduceLE, Nat.reducePow, Int.reducePow, Int.reduceToNat, Int.reduceNeg, Int.reduceAdd, Nat.zero_add, Option.bind_some, Option.map_some, Option.bind, Option.map, List.getElem?_cons_zero, List.getElem?_cons_succ, List.set_cons_zero, List.set_cons_succ, List.map_cons, List.map_nil, List.cons_append, List.nil_append, List.length_cons, List.length_nil, List.replicate_succ, List.replicate_zero, decide_true, decide_false, eq_self, and_self, true_and, and_true, and_false, false_and, not_true_eq_false, not_false_eq_true, beq_self_eq_true, Bool.not_true, Bool.not_false, Bool.and_true, Bool.and_false, if_true, if_false, a, wd, bi_tupL]
theorem counted_ok (n L m : Nat) (s : CS) (hL : L ≤ 6) (hm : m ≤ 12) : callN FF (n + 1) 8 [.d (.int L), .d (.int m)] s = .ok (.d (.int ((L ^ m : Nat) : Int))) s := by
  rw [q_fn f8 rfl]
  have l1 : (-1000000000000 : Int) < (L : Int) := by omega
  have l2 : (L : Int) < 1000000000000 := by omega
  have m1 : (-1000000000000 : Int) < (m : Int) := by omega
  have m2 : (m : Int) < 1000000000000 := by omega
  simp only [g_counted, q_lit, q_var, varR_ok, q_bin, q_bin1, q_bin2, q_cmp, q_cmp1, q_cmp2, q_neg, q_neg1, q_isn, q_isn_non, q_isn_bl, q_isn_int, q_isn_str, q_isn_lst, q_isn_tup, q_and, q_or, q_and1, q_or1, q_and2, q_or2, q_kand, q_kor, q_not, q_not1, notR_ok, q_ite, q_ite1, q_tup, q_lst, q_new, q_new1, q_idx, q_idx1, q_idx2, ixR_ok, q_sli, q_sli1, q_sli2, q_sli3, sliR_scr, sliR_lst, q_onone, q_osome, q_os, q_call, q_callk, q_callk1, q_callk2, permR_ok, q_bi, q_bi1, biR_ok, q_isi, q_isi1, isiR_ok, q_isiT, q_isiT1, isiTR_ok, q_chain, q_ch1, q_ch2, q_chC, q_ch3, chB_ok, q_revT, q_revT1, q_rev, q_rev1, revR_ok, q_slt, q_slt1, q_slt2, q_slt3, sltR_ok, q_whl, q_wl1, q_wlB, q_wl2n, q_wl2r, q_aug, augR_ok, q_augA, q_augS, b_addT, b_addL, b_addS, c_isB, c_nisB, bi_allB, bi_anyB, bi_strI, bi_strS, q_lrg, q_lrg1, Int.toNat_natCast, q_comp, q_comp1, q_comp2, q_two, q_two1, q_es0, q_es, q_es1, q_es2, q_spl, q_splL, q_splT, q_spl2, own_app, own_all, own0, own1, consO_ok, rdl0, rdl1, consR_ok, q_seq, q_seqL, q_seqT, q_r1, q_r2, q_r21, q_en, q_en1, q_if0, q_if, q_if1, q_asg, q_asg1, nxR_ok, q_asgT, q_asgT1, q_asg2, q_asg21, setAll0, setAll1, setAllP0, setAllP1, q_set, q_set1, q_set2, q_set3, setC_ok, setR_ok, rd_obj, rdC_l, frzR_ok, frzC_ok, q_app1, q_app2, appC_ok, q_ext1, q_ext2, extC_ok, extD_ok, appD_ok, Nat.sub_zero, Int.zero_add, at0, at1, at2, at3, last_get, last_set, enum_len, ix0, ix1, ix2, b_mulT1, b_mulL1, b_mulL, b_mulR, b_mulLL, b_mulRR, bi_min2, bi_max2, comp_ints, Nat.reduceSub, Nat.sub_self, b_mod, c_neIN, c_neNN, c_eqNN, q_r11L, q_r22L, c_neB, c_neT2, c_eqT2, c_mem, nc0, nc1, Int.cast_ofNat_Int, take_set, List.take_length, List.length_map, b_div, b_divL, b_pow, b_powL, q_expr, q_expr1, q_ret, q_ret1, q_retN, q_pass, q_stop, q_ifs, q_ifs1, q_for, q_for1, q_ss0, q_ss, q_ssn, q_ssr, q_frz, q_app, q_ext, fnEnd_rt, fnEnd_nx, fnEnd_exc, go_ok, go_bad, go_exc, tru_tup, rdC_i, fldR_ok, q_fld, q_fld1, mtR_ok, metR_ok, q_mt2, q_meth, q_meth1, q_mk3, q_mk2, mtKR_ok, metKR_ok, q_methk, q_methk1, tabAt_0, tabAt_1, fldN_1, putN_0, putN_1, madeR_ok, kMade_ok, q_mk, q_mk1, mkPR_ok, q_mkk, q_mkk1, q_mkk2, kMadeM_ok, q_mkM, q_mkM1, iscR_ok, q_isc, q_isc1, isc_ins, isc_non, isc_bl, isc_int, isc_str, isc_lst, isc_tup, isc_dct, setFC_ok, q_setF, q_setF1, q_setF2, String.reduceEq,  br_t, br_f, tru_bl, tru_int, tru_non, tru_lst, rd_d, retD_ok, opD_ok, b_add, b_sub, c_lt, c_le, c_gt, c_ge, c_eqI, c_neI, c_eqS, c_neS, i_lst, i_tup, bi_int, bi_intB, bi_lenL, bi_lenT, bi_abs, bind1, bindM, isK, pickAll, wipeE, leave_cut, q_tup1, q_lst1, dispR_ok, Nat.zero_le, Nat.reduceLeDiff, Nat.reduceAdd, Nat.reduceLT, Int.reduceLT, Int.reduceLE, Nat.reducePow, Int.reducePow, Int.reduceToNat, Int.reduceNeg, Int.reduceAdd, Nat.zero_add, Option.bind_some, Option.map_some, Option.bind, Option.map, List.getElem?_cons_zero, List.getElem?_cons_succ, List.set_cons_zero, List.set_cons_succ, List.map_cons, List.map_nil, List.cons_append, List.nil_append, List.length_cons, List.length_nil, List.replicate_succ, List.replicate_zero, decide_true, decide_false, eq_self, and_self, true_and, and_true, and_false, false_and, not_true_eq_false, not_false_eq_true, beq_self_eq_true, Bool.not_true, Bool.not_false, Bool.and_true, Bool.and_false, if_true, if_false, m1, m2]
  refine sat_is (fnEnd_sat (P := fun fl t => fl = .rt (.d (.int ((L ^ m : Nat) : Int))) ∧ t = s) (go_sat (P := fun fl t => ∃ a, fl = .nx [some (.d (.int L)), some (.d (.int m)), some (.d (.int ((L ^ m : Nat) : Int))), a] ∧ t = s) ?_ ?_) ?_)
  · rw [for_def]
    refine for_inv (fun i ρ t => ∃ a, ρ = [some (.d (.int L)), some (.d (.int m)), some (.d (.int ((L ^ i : Nat) : Int))), a] ∧ t = s) _ 0 _ _ ⟨_, rfl, rfl⟩ ?_ ?_
    · rintro j x ρ t _ hx ⟨a, rfl, rfl⟩
      refine ⟨_, rfl, ?_⟩
      simp only [q_lit, q_var, varR_ok, q_bin, q_bin1, q_bin2, q_cmp, q_cmp1, q_cmp2, q_neg, q_neg1, q_isn, q_isn_non, q_isn_bl, q_isn_int, q_isn_str, q_isn_lst, q_isn_tup, q_and, q_or, q_and1, q_or1, q_and2, q_or2, q_kand, q_kor, q_not, q_not1, notR_ok, q_ite, q_ite1, q_tup, q_lst, q_new, q_new1, q_idx, q_idx1, q_idx2, ixR_ok, q_sli, q_sli1, q_sli2, q_sli3, sliR_scr, sliR_lst, q_onone, q_osome, q_os, q_call, q_callk, q_callk1, q_callk2, permR_ok, q_bi, q_bi1, biR_ok, q_isi, q_isi1, isiR_ok, q_isiT, q_isiT1, isiTR_ok, q_chain, q_ch1, q_ch2, q_chC, q_ch3, chB_ok, q_revT, q_revT1, q_rev, q_rev1, revR_ok, q_slt, q_slt1, q_slt2, q_slt3, sltR_ok, q_whl, q_wl1, q_wlB, q_wl2n, q_wl2r, q_aug, augR_ok, q_augA, q_augS, b_addT, b_addL, b_addS, c_isB, c_nisB, bi_allB, bi_anyB, bi_strI, bi_strS, q_lrg, q_lrg1, Int.toNat_natCast, q_comp, q_comp1, q_comp2, q_two, q_two1, q_es0, q_es, q_es1, q_es2, q_spl, q_splL, q_splT, q_spl2, own_app, own_all, own0, own1, consO_ok, rdl0, rdl1, consR_ok, q_seq, q_seqL, q_seqT, q_r1, q_r2, q_r21, q_en, q_en1, q_if0, q_if, q_if1, q_asg, q_asg1, nxR_ok, q_asgT, q_asgT1, q_asg2, q_asg21, setAll0, setAll1, setAllP0, setAllP1, q_set, q_set1, q_set2, q_set3, setC_ok, setR_ok, rd_obj, rdC_l, frzR_ok, frzC_ok, q_app1, q_app2, appC_ok, q_ext1, q_ext2, extC_ok, extD_ok, appD_ok, Nat.sub_zero, Int.zero_add, at0, at1, at2, at3, last_get, last_set, enum_len, ix0, ix1, ix2, b_mulT1, b_mulL1, b_mulL, b_mulR, b_mulLL, b_mulRR, bi_min2, bi_max2, comp_ints, Nat.reduceSub, Nat.sub_self, b_mod, c_neIN, c_neNN, c_eqNN, q_r11L, q_r22L, c_neB, c_neT2, c_eqT2, c_mem, nc0, nc1, Int.cast_ofNat_Int, take_set, List.take_length, List.length_map, b_div, b_divL, b_pow, b_powL, q_expr, q_expr1, q_ret, q_ret1, q_retN, q_pass, q_stop, q_ifs, q_ifs1, q_for, q_for1, q_ss0, q_ss, q_ssn, q_ssr, q_frz, q_app, q_ext, fnEnd_rt, fnEnd_nx, fnEnd_exc, go_ok, go_bad, go_exc, tru_tup, rdC_i, fldR_ok, q_fld, q_fld1, mtR_ok, metR_ok, q_mt2, q_meth, q_meth1, q_mk3, q_mk2, mtKR_ok, metKR_ok, q_methk, q_methk1, tabAt_0, tabAt_1, fldN_1, putN_0, putN_1, madeR_ok, kMade_ok, q_mk, q_mk1, mkPR_ok, q_mkk, q_mkk1, q_mkk2, kMadeM_ok, q_mkM, q_mkM1, iscR_ok, q_isc, q_isc1, isc_ins, isc_non, isc_bl, isc_int, isc_str, isc_lst, isc_tup, isc_dct, setFC_ok, q_setF, q_setF1, q_setF2, String.reduceEq,  br_t, br_f, tru_bl, tru_int, tru_non, tru_lst, rd_d, retD_ok, opD_ok, b_add, b_sub, c_lt, c_le, c_gt, c_ge, c_eqI, c_neI, c_eqS, c_neS, i_lst, i_tup, bi_int, bi_intB, bi_lenL, bi_lenT, bi_abs, bind1, bindM, isK, pickAll, wipeE, leave_cut, q_tup1, q_lst1, dispR_ok, Nat.zero_le, Nat.reduceLeDiff, Nat.reduceAdd, Nat.reduceLT, Int.reduceLT, Int.reduceLE, Nat.reducePow, Int.reducePow, Int.reduceToNat, Int.reduceNeg, Int.reduceAdd, Nat.zero_add, Option.bind_some, Option.map_some, Option.bind, Option.map, List.getElem?_cons_zero, List.getElem?_cons_succ, List.set_cons_zero, List.set_cons_succ, List.map_cons, List.map_nil, List.cons_append, List.nil_append, List.length_cons, List.length_nil, List.replicate_succ, List.replicate_zero, decide_true, decide_false, eq_self, and_self, true_and, and_true, and_false, false_and, not_true_eq_false, not_false_eq_true, beq_self_eq_true, Bool.not_true, Bool.not_false, Bool.and_true, Bool.and_false, if_true, if_false, l1, l2]
      exact sat_ok ⟨_, by rw [Nat.pow_succ, Int.natCast_mul], rfl⟩
    · rintro ρ t ⟨a, rfl, rfl⟩
      rw [rng_len, Nat.zero_add]
      exact ⟨a, rfl, rfl⟩
  · rintro fl t ⟨a, rfl, rfl⟩
    simp only [q_lit, q_var, varR_ok, q_bin, q_bin1, q_bin2, q_cmp, q_cmp1, q_cmp2, q_neg, q_neg1, q_isn, q_isn_non, q_isn_bl, q_isn_int, q_isn_str, q_isn_lst, q_isn_tup, q_and, q_or, q_and1, q_or1, q_and2, q_or2, q_kand, q_kor, q_not, q_not1, notR_ok, q_ite, q_ite1, q_tup, q_lst, q_new, q_new1, q_idx, q_idx1, q_idx2, ixR_ok, q_sli, q_sli1, q_sli2, q_sli3, sliR_scr, sliR_lst, q_onone, q_osome, q_os, q_call, q_callk, q_callk1, q_callk2, permR_ok, q_bi, q_bi1, biR_ok, q_isi, q_isi1, isiR_ok, q_isiT, q_isiT1, isiTR_ok, q_chain, q_ch1, q_ch2, q_chC, q_ch3, chB_ok, q_revT, q_revT1, q_rev, q_rev1, revR_ok, q_slt, q_slt1, q_slt2, q_slt3, sltR_ok, q_whl, q_wl1, q_wlB, q_wl2n, q_wl2r, q_aug, augR_ok, q_augA, q_augS, b_addT, b_addL, b_addS, c_isB, c_nisB, bi_allB, bi_anyB, bi_strI, bi_strS, q_lrg, q_lrg1, Int.toNat_natCast, q_comp, q_comp1, q_comp2, q_two, q_two1, q_es0, q_es, q_es1, q_es2, q_spl, q_splL, q_splT, q_spl2, own_app, own_all, own0, own1, consO_ok, rdl0, rdl1, consR_ok, q_seq, q_seqL, q_seqT, q_r1, q_r2, q_r21, q_en, q_en1, q_if0, q_if, q_if1, q_asg, q_asg1, nxR_ok, q_asgT, q_asgT1, q_asg2, q_asg21, setAll0, setAll1, setAllP0, setAllP1, q_set, q_set1, q_set2, q_set3, setC_ok, setR_ok, rd_obj, rdC_l, frzR_ok, frzC_ok, q_app1, q_app2, appC_ok, q_ext1, q_ext2, extC_ok, extD_ok, appD_ok, Nat.sub_zero, Int.zero_add, at0, at1, at2, at3, last_get, last_set, enum_len, ix0, ix1, ix2, b_mulT1, b_mulL1, b_mulL, b_mulR, b_mulLL, b_mulRR, bi_min2, bi_max2, comp_ints, Nat.reduceSub, Nat.sub_self, b_mod, c_neIN, c_neNN, c_eqNN, q_r11L, q_r22L, c_neB, c_neT2, c_eqT2, c_mem, nc0, nc1, Int.cast_ofNat_Int, take_set, List.take_length, List.length_map, b_div, b_divL, b_pow, b_powL, q_expr, q_expr1, q_ret, q_ret1, q_retN, q_pass, q_stop, q_ifs, q_ifs1, q_for, q_for1, q_ss0, q_ss, q_ssn, q_ssr, q_frz, q_app, q_ext, fnEnd_rt, fnEnd_nx, fnEnd_exc, go_ok, go_bad, go_exc, tru_tup, rdC_i, fldR_ok, q_fld, q_fld1, mtR_ok, metR_ok, q_mt2, q_meth, q_meth1, q_mk3, q_mk2, mtKR_ok, metKR_ok, q_methk, q_methk1, tabAt_0, tabAt_1, fldN_1, putN_0, putN_1, madeR_ok, kMade_ok, q_mk, q_mk1, mkPR_ok, q_mkk, q_mkk1, q_mkk2, kMadeM_ok, q_mkM, q_mkM1, iscR_ok, q_isc, q_isc1, isc_ins, isc_non, isc_bl, isc_int, isc_str, isc_lst, isc_tup, isc_dct, setFC_ok, q_setF, q_setF1, q_setF2, String.reduceEq,  br_t, br_f, tru_bl, tru_int, tru_non, tru_lst, rd_d, retD_ok, opD_ok, b_add, b_sub, c_lt, c_le, c_gt, c_ge, c_eqI, c_neI, c_eqS, c_neS, i_lst, i_tup, bi_int, bi_intB, bi_lenL, bi_lenT, bi_abs, bind1, bindM, isK, pickAll, wipeE, leave_cut, q_tup1, q_lst1, dispR_ok, Nat.zero_le, Nat.reduceLeDiff, Nat.reduceAdd, Nat.reduceLT, Int.reduceLT, Int.reduceLE, Nat.reducePow, Int.reducePow, Int.reduceToNat, Int.reduceNeg, Int.reduceAdd, Nat.zero_add, Option.bind_some, Option.map_some, Option.bind, Option.map, List.getElem?_cons_zero, List.getElem?_cons_succ, List.set_cons_zero, List.set_cons_succ, List.map_cons, List.map_nil, List.cons_append, List.nil_append, List.length_cons, List.length_nil, List.replicate_succ, List.replicate_zero, decide_true, decide_false, eq_self, and_self, true_and, and_true, and_false, false_and, not_true_eq_false, not_false_eq_true, beq_self_eq_true, Bool.not_true, Bool.not_false, Bool.and_true, Bool.and_false, if_true, if_false]
    exact sat_ok ⟨rfl, rfl⟩
  · rintro fl t ⟨rfl, rfl⟩
    simp only [q_lit, q_var, varR_ok, q_bin, q_bin1, q_bin2, q_cmp, q_cmp1, q_cmp2, q_neg, q_neg1, q_isn, q_isn_non, q_isn_bl, q_isn_int, q_isn_str, q_isn_lst, q_isn_tup, q_and, q_or, q_and1, q_or1, q_and2, q_or2, q_kand, q_kor, q_not, q_not1, notR_ok, q_ite, q_ite1, q_tup, q_lst, q_new, q_new1, q_idx, q_idx1, q_idx2, ixR_ok, q_sli, q_sli1, q_sli2, q_sli3, sliR_scr, sliR_lst, q_onone, q_osome, q_os, q_call, q_callk, q_callk1, q_callk2, permR_ok, q_bi, q_bi1, biR_ok, q_isi, q_isi1, isiR_ok, q_isiT, q_isiT1, isiTR_ok, q_chain, q_ch1, q_ch2, q_chC, q_ch3, chB_ok, q_revT, q_revT1, q_rev, q_rev1, revR_ok, q_slt, q_slt1, q_slt2, q_slt3, sltR_ok, q_whl, q_wl1, q_wlB, q_wl2n, q_wl2r, q_aug, augR_ok, q_augA, q_augS, b_addT, b_addL, b_addS, c_isB, c_nisB, bi_allB, bi_anyB, bi_strI, bi_strS, q_lrg, q_lrg1, Int.toNat_natCast, q_comp, q_comp1, q_comp2, q_two, q_two1, q_es0, q_es, q_es1, q_es2, q_spl, q_splL, q_splT, q_spl2, own_app, own_all, own0, own1, consO_ok, rdl0, rdl1, consR_ok, q_seq, q_seqL, q_seqT, q_r1, q_r2, q_r21, q_en, q_en1, q_if0, q_if, q_if1, q_asg, q_asg1, nxR_ok, q_asgT, q_asgT1, q_asg2, q_asg21, setAll0, setAll1, setAllP0, setAllP1, q_set, q_set1, q_set2, q_set3, setC_ok, setR_ok, rd_obj, rdC_l, frzR_ok, frzC_ok, q_app1, q_app2, appC_ok, q_ext1, q_ext2, extC_ok, extD_ok, appD_ok, Nat.sub_zero, Int.zero_add, at0, at1, at2, at3, last_get, last_set, enum_len, ix0, ix1, ix2, b_mulT1, b_mulL1, b_mulL, b_mulR, b_mulLL, b_mulRR, bi_min2, bi_max2, comp_ints, Nat.reduceSub, Nat.sub_self, b_mod, c_neIN, c_neNN, c_eqNN, q_r11L, q_r22L, c_neB, c_neT2, c_eqT2, c_mem, nc0, nc1, Int.cast_ofNat_Int, take_set, List.take_length, List.length_map, b_div, b_divL, b_pow, b_powL, q_expr, q_expr1, q_ret, q_ret1, q_retN, q_pass, q_stop, q_ifs, q_ifs1, q_for, q_for1, q_ss0, q_ss, q_ssn, q_ssr, q_frz, q_app, q_ext, fnEnd_rt, fnEnd_nx, fnEnd_exc, go_ok, go_bad, go_exc, tru_tup, rdC_i, fldR_ok, q_fld, q_fld1, mtR_ok, metR_ok, q_mt2, q_meth, q_meth1, q_mk3, q_mk2, mtKR_ok, metKR_ok, q_methk, q_methk1, tabAt_0, tabAt_1, fldN_1, putN_0, putN_1, madeR_ok, kMade_ok, q_mk, q_mk1, mkPR_ok, q_mkk, q_mkk1, q_mkk2, kMadeM_ok, q_mkM, q_mkM1, iscR_ok, q_isc, q_isc1, isc_ins, isc_non, isc_bl, isc_int, isc_str, isc_lst, isc_tup, isc_dct, setFC_ok, q_setF, q_setF1, q_setF2, String.reduceEq,  br_t, br_f, tru_bl, tru_int, tru_non, tru_lst, rd_d, retD_ok, opD_ok, b_add, b_sub, c_lt, c_le, c_gt, c_ge, c_eqI, c_neI, c_eqS, c_neS, i_lst, i_tup, bi_int, bi_intB, bi_lenL, bi_lenT, bi_abs, bind1, bindM, isK, pickAll, wipeE, leave_cut, q_tup1, q_lst1, dispR_ok, Nat.zero_le, Nat.reduceLeDiff, Nat.reduceAdd, Nat.reduceLT, Int.reduceLT, Int.reduceLE, Nat.reducePow, Int.reducePow, Int.reduceToNat, Int.reduceNeg, Int.reduceAdd, Nat.zero_add, Option.bind_some, Option.map_some, Option.bind, Option.map, List.getElem?_cons_zero, List.getElem?_cons_succ, List.set_cons_zero, List.set_cons_succ, List.map_cons, List.map_nil, List.cons_append, List.nil_append, List.length_cons, List.length_nil, List.replicate_succ, List.replicate_zero, decide_true, decide_false, eq_self, and_self, true_and, and_true, and_false, false_and, not_true_eq_false, not_false_eq_true, beq_self_eq_true, Bool.not_true, Bool.not_false, Bool.and_true, Bool.and_false, if_true, if_false]
    exact sat_ok ⟨rfl, rfl⟩
def allW (L m : Nat) : List (List Int) := (List.range (L ^ m)).map (dig L m)
theorem allW_len (L m : Nat) : (allW L m).length = L ^ m := by simp [allW]
def addD (x l : D) : D := match x with
  | .tup w => .tup (w ++ [l])
  | _ => .non
theorem allW_step (L m : Nat) : (allW L (m + 1)).map wd = ((allW L m).map wd).flatMap fun x => (rngItems 0 L).map (addD x) := by
  unfold allW
  rw [Nat.pow_succ, range_mul, List.map_map, List.map_map, List.map_flatMap, List.flatMap_map]
  congr 1; funext v
  unfold rngItems
  rw [List.map_map, List.map_map]
  refine List.map_congr_left fun l hl => ?_
  have := List.mem_range.mp hl
  simp only [Function.comp, addD, wd, dig_step this, List.map_append, List.map_cons, List.map_nil, Int.zero_add]
theorem words_ok (n L m : Nat) (s : CS) (hL : L ≤ 6) (hm : m ≤ 12) (hs : L = 0 ∨ L ^ m ≤ 256) : callN FF (n + 1) 7 [.d (.int L), .d (.int m)] s = .ok (.d (.lst ((allW L m).map wd))) s := by
  rw [q_fn f7 rfl]
  have l1 : (-1000000000000 : Int) < (L : Int) := by omega
  have l2 : (L : Int) < 1000000000000 := by omega
  have m1 : (-1000000000000 : Int) < (m : Int) := by omega
  have m2 : (m : Int) < 1000000000000 := by omega
  simp only [g_words_in, q_lit, q_var, varR_ok, q_bin, q_bin1, q_bin2, q_cmp, q_cmp1, q_cmp2, q_neg, q_neg1, q_isn, q_isn_non, q_isn_bl, q_isn_int, q_isn_str, q_isn_lst, q_isn_tup, q_and, q_or, q_and1, q_or1, q_and2, q_or2, q_kand, q_kor, q_not, q_not1, notR_ok, q_ite, q_ite1, q_tup, q_lst, q_new, q_new1, q_idx, q_idx1, q_idx2, ixR_ok, q_sli, q_sli1, q_sli2, q_sli3, sliR_scr, sliR_lst, q_onone, q_osome, q_os, q_call, q_callk, q_callk1, q_callk2, permR_ok, q_bi, q_bi1, biR_ok, q_isi, q_isi1, isiR_ok, q_isiT, q_isiT1, isiTR_ok, q_chain, q_ch1, q_ch2, q_chC, q_ch3, chB_ok, q_revT, q_revT1, q_rev, q_rev1, revR_ok, q_slt, q_slt1, q_slt2, q_slt3, sltR_ok, q_whl, q_wl1, q_wlB, q_wl2n, q_wl2r, q_aug, augR_ok, q_augA, q_augS, b_addT, b_addL, b_addS, c_isB, c_nisB, bi_allB, bi_anyB, bi_strI, bi_strS, q_lrg, q_lrg1, Int.toNat_natCast, q_comp, q_comp1, q_comp2, q_two, q_two1, q_es0, q_es, q_es1, q_es2, q_spl, q_splL, q_splT, q_spl2, own_app, own_all, own0, own1, consO_ok, rdl0, rdl1, consR_ok, q_seq, q_seqL, q_seqT, q_r1, q_r2, q_r21, q_en, q_en1, q_if0, q_if, q_if1, q_asg, q_asg1, nxR_ok, q_asgT, q_asgT1, q_asg2, q_asg21, setAll0, setAll1, setAllP0, setAllP1, q_set, q_set1, q_set2, q_set3, setC_ok, setR_ok, rd_obj, rdC_l, frzR_ok, frzC_ok, q_app1, q_app2, appC_ok, q_ext1, q_ext2, extC_ok, extD_ok, appD_ok, Nat.sub_zero, Int.zero_add, at0, at1, at2, at3, last_get, last_set, enum_len, ix0, ix1, ix2, b_mulT1, b_mulL1, b_mulL, b_mulR, b_mulLL, b_mulRR, bi_min2, bi_max2, comp_ints, Nat.reduceSub, Nat.sub_self, b_mod, c_neIN, c_neNN, c_eqNN, q_r11L, q_r22L, c_neB, c_neT2, c_eqT2, c_mem, nc0, nc1, Int.cast_ofNat_Int, take_set, List.take_length, List.length_map, b_div, b_divL, b_pow, b_powL, q_expr, q_expr1, q_ret, q_ret1, q_retN, q_pass, q_stop, q_ifs, q_ifs1, q_for, q_for1, q_ss0, q_ss, q_ssn, q_ssr, q_frz, q_app, q_ext, fnEnd_rt, fnEnd_nx, fnEnd_exc, go_ok, go_bad, go_exc, tru_tup, rdC_i, fldR_ok, q_fld, q_fld1, mtR_ok, metR_ok, q_mt2, q_meth, q_meth1, q_mk3, q_mk2, mtKR_ok, metKR_ok, q_methk, q_methk1, tabAt_0, tabAt_1, fldN_1, putN_0, putN_1, madeR_ok, kMade_ok, q_mk, q_mk1, mkPR_ok, q_mkk, q_mkk1, q_mkk2, kMadeM_ok, q_mkM, q_mkM1, iscR_ok, q_isc, q_isc1, isc_ins, isc_non, isc_bl, isc_int, isc_str, isc_lst, isc_tup, isc_dct, setFC_ok, q_setF, q_setF1, q_setF2, String.reduceEq,  br_t, br_f, tru_bl, tru_int, tru_non, tru_lst, rd_d, retD_ok, opD_ok, b_add, b_sub, c_lt, c_le, c_gt, c_ge, c_eqI, c_neI, c_eqS, c_neS, i_lst, i_tup, bi_int, bi_intB, bi_lenL, bi_lenT, bi_abs, bind1, bindM, isK, pickAll, wipeE, leave_cut, q_tup1, q_lst1, dispR_ok, Nat.zero_le, Nat.reduceLeDiff, Nat.reduceAdd, Nat.reduceLT, Int.reduceLT, Int.reduceLE, Nat.reducePow, Int.reducePow, Int.reduceToNat, Int.reduceNeg, Int.reduceAdd, Nat.zero_add, Option.bind_some, Option.map_some, Option.bind, Option.map, List.getElem?_cons_zero, List.getElem?_cons_succ, List.set_cons_zero, List.set_cons_succ, List.map_cons, List.map_nil, List.cons_append, List.nil_append, List.length_cons, List.length_nil, List.replicate_succ, List.replicate_zero, decide_true, decide_false, eq_self, and_self, true_and, and_true, and_false, false_and, not_true_eq_false, not_false_eq_true, beq_self_eq_true, Bool.not_true, Bool.not_false, Bool.and_true, Bool.and_false, if_true, if_false, m1, m2]
  refine sat_is (fnEnd_sat (P := fun fl t => fl = .rt (.d (.lst ((allW L m).map wd))) ∧ t = s) (go_sat (P := fun fl t => ∃ a b c, fl = .nx [some (.d (.int L)), some (.d (.int m)), some (.d (.lst ((allW L m).map wd))), a, b, c] ∧ t = s) ?_ ?_) ?_)
  · rw [for_def]
    refine for_inv (fun i ρ t => ∃ a b c, ρ = [some (.d (.int L)), some (.d (.int m)), some (.d (.lst ((allW L i).map wd))), a, b, c] ∧ t = s) _ 0 _ _ ⟨_, _, _, rfl, rfl⟩ ?_ ?_
    · rintro j x ρ t _ hx ⟨a, b, c, rfl, rfl⟩
      obtain ⟨hj, rfl⟩ := rng_at hx
      refine ⟨_, rfl, ?_⟩
      simp only [q_lit, q_var, varR_ok, q_bin, q_bin1, q_bin2, q_cmp, q_cmp1, q_cmp2, q_neg, q_neg1, q_isn, q_isn_non, q_isn_bl, q_isn_int, q_isn_str, q_isn_lst, q_isn_tup, q_and, q_or, q_and1, q_or1, q_and2, q_or2, q_kand, q_kor, q_not, q_not1, notR_ok, q_ite, q_ite1, q_tup, q_lst, q_new, q_new1, q_idx, q_idx1, q_idx2, ixR_ok, q_sli, q_sli1, q_sli2, q_sli3, sliR_scr, sliR_lst, q_onone, q_osome, q_os, q_call, q_callk, q_callk1, q_callk2, permR_ok, q_bi, q_bi1, biR_ok, q_isi, q_isi1, isiR_ok, q_isiT, q_isiT1, isiTR_ok, q_chain, q_ch1, q_ch2, q_chC, q_ch3, chB_ok, q_revT, q_revT1, q_rev, q_rev1, revR_ok, q_slt, q_slt1, q_slt2, q_slt3, sltR_ok, q_whl, q_wl1, q_wlB, q_wl2n, q_wl2r, q_aug, augR_ok, q_augA, q_augS, b_addT, b_addL, b_addS, c_isB, c_nisB, bi_allB, bi_anyB, bi_strI, bi_strS, q_lrg, q_lrg1, Int.toNat_natCast, q_comp, q_comp1, q_comp2, q_two, q_two1, q_es0, q_es, q_es1, q_es2, q_spl, q_splL, q_splT, q_spl2, own_app, own_all, own0, own1, consO_ok, rdl0, rdl1, consR_ok, q_seq, q_seqL, q_seqT, q_r1, q_r2, q_r21, q_en, q_en1, q_if0, q_if, q_if1, q_asg, q_asg1, nxR_ok, q_asgT, q_asgT1, q_asg2, q_asg21, setAll0, setAll1, setAllP0, setAllP1, q_set, q_set1, q_set2, q_set3, setC_ok, setR_ok, rd_obj, rdC_l, frzR_ok, frzC_ok, q_app1, q_app2, appC_ok, q_ext1, q_ext2, extC_ok, extD_ok, appD_ok, Nat.sub_zero, Int.zero_add, at0, at1, at2, at3, last_get, last_set, enum_len, ix0, ix1, ix2, b_mulT1, b_mulL1, b_mulL, b_mulR, b_mulLL, b_mulRR, bi_min2, bi_max2, comp_ints, Nat.reduceSub, Nat.sub_self, b_mod, c_neIN, c_neNN, c_eqNN, q_r11L, q_r22L, c_neB, c_neT2, c_eqT2, c_mem, nc0, nc1, Int.cast_ofNat_Int, take_set, List.take_length, List.length_map, b_div, b_divL, b_pow, b_powL, q_expr, q_expr1, q_ret, q_ret1, q_retN, q_pass, q_stop, q_ifs, q_ifs1, q_for, q_for1, q_ss0, q_ss, q_ssn, q_ssr, q_frz, q_app, q_ext, fnEnd_rt, fnEnd_nx, fnEnd_exc, go_ok, go_bad, go_exc, tru_tup, rdC_i, fldR_ok, q_fld, q_fld1, mtR_ok, metR_ok, q_mt2, q_meth, q_meth1, q_mk3, q_mk2, mtKR_ok, metKR_ok, q_methk, q_methk1, tabAt_0, tabAt_1, fldN_1, putN_0, putN_1, madeR_ok, kMade_ok, q_mk, q_mk1, mkPR_ok, q_mkk, q_mkk1, q_mkk2, kMadeM_ok, q_mkM, q_mkM1, iscR_ok, q_isc, q_isc1, isc_ins, isc_non, isc_bl, isc_int, isc_str, isc_lst, isc_tup, isc_dct, setFC_ok, q_setF, q_setF1, q_setF2, String.reduceEq,  br_t, br_f, tru_bl, tru_int, tru_non, tru_lst, rd_d, retD_ok, opD_ok, b_add, b_sub, c_lt, c_le, c_gt, c_ge, c_eqI, c_neI, c_eqS, c_neS, i_lst, i_tup, bi_int, bi_intB, bi_lenL, bi_lenT, bi_abs, bind1, bindM, isK, pickAll, wipeE, leave_cut, q_tup1, q_lst1, dispR_ok, Nat.zero_le, Nat.reduceLeDiff, Nat.reduceAdd, Nat.reduceLT, Int.reduceLT, Int.reduceLE, Nat.reducePow, Int.reducePow, Int.reduceToNat, Int.reduceNeg, Int.reduceAdd, Nat.zero_add, Option.bind_some, Option.map_some, Option.bind, Option.map, List.getElem?_cons_zero, List.getElem?_cons_succ, List.set_cons_zero, List.set_cons_succ, List.map_cons, List.map_nil, List.cons_append, List.nil_append, List.length_cons, List.length_nil, List.replicate_succ, List.replicate_zero, decide_true, decide_false, eq_self, and_self, true_and, and_true, and_false, false_and, not_true_eq_false, not_false_eq_true, beq_self_eq_true, Bool.not_true, Bool.not_false, Bool.and_true, Bool.and_false, if_true, if_false, cmp2_def]
      have big : L ^ j * L ≤ 256 := by
        rcases hs with rfl | hs
        · simp
        · rw [← Nat.pow_succ]
          by_cases z : L = 0
          · subst z; simp
          · exact Nat.le_trans (Nat.pow_le_pow_right (by omega) (by omega)) hs
      rw [two_len (fun x => (rngItems 0 L).map (addD x)) L 256]
      · rw [List.nil_append, ← allW_step]
        simp only [noX, q_lit, q_var, varR_ok, q_bin, q_bin1, q_bin2, q_cmp, q_cmp1, q_cmp2, q_neg, q_neg1, q_isn, q_isn_non, q_isn_bl, q_isn_int, q_isn_str, q_isn_lst, q_isn_tup, q_and, q_or, q_and1, q_or1, q_and2, q_or2, q_kand, q_kor, q_not, q_not1, notR_ok, q_ite, q_ite1, q_tup, q_lst, q_new, q_new1, q_idx, q_idx1, q_idx2, ixR_ok, q_sli, q_sli1, q_sli2, q_sli3, sliR_scr, sliR_lst, q_onone, q_osome, q_os, q_call, q_callk, q_callk1, q_callk2, permR_ok, q_bi, q_bi1, biR_ok, q_isi, q_isi1, isiR_ok, q_isiT, q_isiT1, isiTR_ok, q_chain, q_ch1, q_ch2, q_chC, q_ch3, chB_ok, q_revT, q_revT1, q_rev, q_rev1, revR_ok, q_slt, q_slt1, q_slt2, q_slt3, sltR_ok, q_whl, q_wl1, q_wlB, q_wl2n, q_wl2r, q_aug, augR_ok, q_augA, q_augS, b_addT, b_addL, b_addS, c_isB, c_nisB, bi_allB, bi_anyB, bi_strI, bi_strS, q_lrg, q_lrg1, Int.toNat_natCast, q_comp, q_comp1, q_comp2, q_two, q_two1, q_es0, q_es, q_es1, q_es2, q_spl, q_splL, q_splT, q_spl2, own_app, own_all, own0, own1, consO_ok, rdl0, rdl1, consR_ok, q_seq, q_seqL, q_seqT, q_r1, q_r2, q_r21, q_en, q_en1, q_if0, q_if, q_if1, q_asg, q_asg1, nxR_ok, q_asgT, q_asgT1, q_asg2, q_asg21, setAll0, setAll1, setAllP0, setAllP1, q_set, q_set1, q_set2, q_set3, setC_ok, setR_ok, rd_obj, rdC_l, frzR_ok, frzC_ok, q_app1, q_app2, appC_ok, q_ext1, q_ext2, extC_ok, extD_ok, appD_ok, Nat.sub_zero, Int.zero_add, at0, at1, at2, at3, last_get, last_set, enum_len, ix0, ix1, ix2, b_mulT1, b_mulL1, b_mulL, b_mulR, b_mulLL, b_mulRR, bi_min2, bi_max2, comp_ints, Nat.reduceSub, Nat.sub_self, b_mod, c_neIN, c_neNN, c_eqNN, q_r11L, q_r22L, c_neB, c_neT2, c_eqT2, c_mem, nc0, nc1, Int.cast_ofNat_Int, take_set, List.take_length, List.length_map, b_div, b_divL, b_pow, b_powL, q_expr, q_expr1, q_ret, q_ret1, q_retN, q_pass, q_stop, q_ifs, q_ifs1, q_for, q_for1, q_ss0, q_ss, q_ssn, q_ssr, q_frz, q_app, q_ext, fnEnd_rt, fnEnd_nx, fnEnd_exc, go_ok, go_bad, go_exc, tru_tup, rdC_i, fldR_ok, q_fld, q_fld1, mtR_ok, metR_ok, q_mt2, q_meth, q_meth1, q_mk3, q_mk2, mtKR_ok, metKR_ok, q_methk, q_methk1, tabAt_0, tabAt_1, fldN_1, putN_0, putN_1, madeR_ok, kMade_ok, q_mk, q_mk1, mkPR_ok, q_mkk, q_mkk1, q_mkk2, kMadeM_ok, q_mkM, q_mkM1, iscR_ok, q_isc, q_isc1, isc_ins, isc_non, isc_bl, isc_int, isc_str, isc_lst, isc_tup, isc_dct, setFC_ok, q_setF, q_setF1, q_setF2, String.reduceEq,  br_t, br_f, tru_bl, tru_int, tru_non, tru_lst, rd_d, retD_ok, opD_ok, b_add, b_sub, c_lt, c_le, c_gt, c_ge, c_eqI, c_neI, c_eqS, c_neS, i_lst, i_tup, bi_int, bi_intB, bi_lenL, bi_lenT, bi_abs, bind1, bindM, isK, pickAll, wipeE, leave_cut, q_tup1, q_lst1, dispR_ok, Nat.zero_le, Nat.reduceLeDiff, Nat.reduceAdd, Nat.reduceLT, Int.reduceLT, Int.reduceLE, Nat.reducePow, Int.reducePow, Int.reduceToNat, Int.reduceNeg, Int.reduceAdd, Nat.zero_add, Option.bind_some, Option.map_some, Option.bind, Option.map, List.getElem?_cons_zero, List.getElem?_cons_succ, List.set_cons_zero, List.set_cons_succ, List.map_cons, List.map_nil, List.cons_append, List.nil_append, List.length_cons, List.length_nil, List.replicate_succ, List.replicate_zero, decide_true, decide_false, eq_self, and_self, true_and, and_true, and_false, false_and, not_true_eq_false, not_false_eq_true, beq_self_eq_true, Bool.not_true, Bool.not_false, Bool.and_true, Bool.and_false, if_true, if_false]
        exact sat_ok ⟨_, _, _, rfl, rfl⟩
      · rw [List.length_map, allW_len, List.length_nil, Nat.zero_add]; exact big
      · intro x _; rw [List.length_map, rng_len]
      · intro x hx
        obtain ⟨w, hw, rfl⟩ := List.mem_map.mp hx
        have hwl : w.length ≤ 20 := by
          unfold allW at hw
          obtain ⟨v, _, rfl⟩ := List.mem_map.mp hw
          rw [dig_len]; omega
        refine ⟨_, rngItems 0 L, rfl, ?_, ?_, fun acc ha => ?_⟩
        · rfl
        · simp only [q_lit, q_var, varR_ok, q_bin, q_bin1, q_bin2, q_cmp, q_cmp1, q_cmp2, q_neg, q_neg1, q_isn, q_isn_non, q_isn_bl, q_isn_int, q_isn_str, q_isn_lst, q_isn_tup, q_and, q_or, q_and1, q_or1, q_and2, q_or2, q_kand, q_kor, q_not, q_not1, notR_ok, q_ite, q_ite1, q_tup, q_lst, q_new, q_new1, q_idx, q_idx1, q_idx2, ixR_ok, q_sli, q_sli1, q_sli2, q_sli3, sliR_scr, sliR_lst, q_onone, q_osome, q_os, q_call, q_callk, q_callk1, q_callk2, permR_ok, q_bi, q_bi1, biR_ok, q_isi, q_isi1, isiR_ok, q_isiT, q_isiT1, isiTR_ok, q_chain, q_ch1, q_ch2, q_chC, q_ch3, chB_ok, q_revT, q_revT1, q_rev, q_rev1, revR_ok, q_slt, q_slt1, q_slt2, q_slt3, sltR_ok, q_whl, q_wl1, q_wlB, q_wl2n, q_wl2r, q_aug, augR_ok, q_augA, q_augS, b_addT, b_addL, b_addS, c_isB, c_nisB, bi_allB, bi_anyB, bi_strI, bi_strS, q_lrg, q_lrg1, Int.toNat_natCast, q_comp, q_comp1, q_comp2, q_two, q_two1, q_es0, q_es, q_es1, q_es2, q_spl, q_splL, q_splT, q_spl2, own_app, own_all, own0, own1, consO_ok, rdl0, rdl1, consR_ok, q_seq, q_seqL, q_seqT, q_r1, q_r2, q_r21, q_en, q_en1, q_if0, q_if, q_if1, q_asg, q_asg1, nxR_ok, q_asgT, q_asgT1, q_asg2, q_asg21, setAll0, setAll1, setAllP0, setAllP1, q_set, q_set1, q_set2, q_set3, setC_ok, setR_ok, rd_obj, rdC_l, frzR_ok, frzC_ok, q_app1, q_app2, appC_ok, q_ext1, q_ext2, extC_ok, extD_ok, appD_ok, Nat.sub_zero, Int.zero_add, at0, at1, at2, at3, last_get, last_set, enum_len, ix0, ix1, ix2, b_mulT1, b_mulL1, b_mulL, b_mulR, b_mulLL, b_mulRR, bi_min2, bi_max2, comp_ints, Nat.reduceSub, Nat.sub_self, b_mod, c_neIN, c_neNN, c_eqNN, q_r11L, q_r22L, c_neB, c_neT2, c_eqT2, c_mem, nc0, nc1, Int.cast_ofNat_Int, take_set, List.take_length, List.length_map, b_div, b_divL, b_pow, b_powL, q_expr, q_expr1, q_ret, q_ret1, q_retN, q_pass, q_stop, q_ifs, q_ifs1, q_for, q_for1, q_ss0, q_ss, q_ssn, q_ssr, q_frz, q_app, q_ext, fnEnd_rt, fnEnd_nx, fnEnd_exc, go_ok, go_bad, go_exc, tru_tup, rdC_i, fldR_ok, q_fld, q_fld1, mtR_ok, metR_ok, q_mt2, q_meth, q_meth1, q_mk3, q_mk2, mtKR_ok, metKR_ok, q_methk, q_methk1, tabAt_0, tabAt_1, fldN_1, putN_0, putN_1, madeR_ok, kMade_ok, q_mk, q_mk1, mkPR_ok, q_mkk, q_mkk1, q_mkk2, kMadeM_ok, q_mkM, q_mkM1, iscR_ok, q_isc, q_isc1, isc_ins, isc_non, isc_bl, isc_int, isc_str, isc_lst, isc_tup, isc_dct, setFC_ok, q_setF, q_setF1, q_setF2, String.reduceEq,  br_t, br_f, tru_bl, tru_int, tru_non, tru_lst, rd_d, retD_ok, opD_ok, b_add, b_sub, c_lt, c_le, c_gt, c_ge, c_eqI, c_neI, c_eqS, c_neS, i_lst, i_tup, bi_int, bi_intB, bi_lenL, bi_lenT, bi_abs, bind1, bindM, isK, pickAll, wipeE, leave_cut, q_tup1, q_lst1, dispR_ok, Nat.zero_le, Nat.reduceLeDiff, Nat.reduceAdd, Nat.reduceLT, Int.reduceLT, Int.reduceLE, Nat.reducePow, Int.reducePow, Int.reduceToNat, Int.reduceNeg, Int.reduceAdd, Nat.zero_add, Option.bind_some, Option.map_some, Option.bind, Option.map, List.getElem?_cons_zero, List.getElem?_cons_succ, List.set_cons_zero, List.set_cons_succ, List.map_cons, List.map_nil, List.cons_append, List.nil_append, List.length_cons, List.length_nil, List.replicate_succ, List.replicate_zero, decide_true, decide_false, eq_self, and_self, true_and, and_true, and_false, false_and, not_true_eq_false, not_false_eq_true, beq_self_eq_true, Bool.not_true, Bool.not_false, Bool.and_true, Bool.and_false, if_true, if_false, l1, l2]
        · refine comp_map (addD (wd w)) _ _ (by rw [rng_len]; exact Nat.le_trans ha (by decide)) fun y hy => ⟨_, rfl, rfl, ?_⟩
          have hl3 : w.length + 1 ≤ 1000 := by omega
          simp only [q_lit, q_var, varR_ok, q_bin, q_bin1, q_bin2, q_cmp, q_cmp1, q_cmp2, q_neg, q_neg1, q_isn, q_isn_non, q_isn_bl, q_isn_int, q_isn_str, q_isn_lst, q_isn_tup, q_and, q_or, q_and1, q_or1, q_and2, q_or2, q_kand, q_kor, q_not, q_not1, notR_ok, q_ite, q_ite1, q_tup, q_lst, q_new, q_new1, q_idx, q_idx1, q_idx2, ixR_ok, q_sli, q_sli1, q_sli2, q_sli3, sliR_scr, sliR_lst, q_onone, q_osome, q_os, q_call, q_callk, q_callk1, q_callk2, permR_ok, q_bi, q_bi1, biR_ok, q_isi, q_isi1, isiR_ok, q_isiT, q_isiT1, isiTR_ok, q_chain, q_ch1, q_ch2, q_chC, q_ch3, chB_ok, q_revT, q_revT1, q_rev, q_rev1, revR_ok, q_slt, q_slt1, q_slt2, q_slt3, sltR_ok, q_whl, q_wl1, q_wlB, q_wl2n, q_wl2r, q_aug, augR_ok, q_augA, q_augS, b_addT, b_addL, b_addS, c_isB, c_nisB, bi_allB, bi_anyB, bi_strI, bi_strS, q_lrg, q_lrg1, Int.toNat_natCast, q_comp, q_comp1, q_comp2, q_two, q_two1, q_es0, q_es, q_es1, q_es2, q_spl, q_splL, q_splT, q_spl2, own_app, own_all, own0, own1, consO_ok, rdl0, rdl1, consR_ok, q_seq, q_seqL, q_seqT, q_r1, q_r2, q_r21, q_en, q_en1, q_if0, q_if, q_if1, q_asg, q_asg1, nxR_ok, q_asgT, q_asgT1, q_asg2, q_asg21, setAll0, setAll1, setAllP0, setAllP1, q_set, q_set1, q_set2, q_set3, setC_ok, setR_ok, rd_obj, rdC_l, frzR_ok, frzC_ok, q_app1, q_app2, appC_ok, q_ext1, q_ext2, extC_ok, extD_ok, appD_ok, Nat.sub_zero, Int.zero_add, at0, at1, at2, at3, last_get, last_set, enum_len, ix0, ix1, ix2, b_mulT1, b_mulL1, b_mulL, b_mulR, b_mulLL, b_mulRR, bi_min2, bi_max2, comp_ints, Nat.reduceSub, Nat.sub_self, b_mod, c_neIN, c_neNN, c_eqNN, q_r11L, q_r22L, c_neB, c_neT2, c_eqT2, c_mem, nc0, nc1, Int.cast_ofNat_Int, take_set, List.take_length, List.length_map, b_div, b_divL, b_pow, b_powL, q_expr, q_expr1, q_ret, q_ret1, q_retN, q_pass, q_stop, q_ifs, q_ifs1, q_for, q_for1, q_ss0, q_ss, q_ssn, q_ssr, q_frz, q_app, q_ext, fnEnd_rt, fnEnd_nx, fnEnd_exc, go_ok, go_bad, go_exc, tru_tup, rdC_i, fldR_ok, q_fld, q_fld1, mtR_ok, metR_ok, q_mt2, q_meth, q_meth1, q_mk3, q_mk2, mtKR_ok, metKR_ok, q_methk, q_methk1, tabAt_0, tabAt_1, fldN_1, putN_0, putN_1, madeR_ok, kMade_ok, q_mk, q_mk1, mkPR_ok, q_mkk, q_mkk1, q_mkk2, kMadeM_ok, q_mkM, q_mkM1, iscR_ok, q_isc, q_isc1, isc_ins, isc_non, isc_bl, isc_int, isc_str, isc_lst, isc_tup, isc_dct, setFC_ok, q_setF, q_setF1, q_setF2, String.reduceEq,  br_t, br_f, tru_bl, tru_int, tru_non, tru_lst, rd_d, retD_ok, opD_ok, b_add, b_sub, c_lt, c_le, c_gt, c_ge, c_eqI, c_neI, c_eqS, c_neS, i_lst, i_tup, bi_int, bi_intB, bi_lenL, bi_lenT, bi_abs, bind1, bindM, isK, pickAll, wipeE, leave_cut, q_tup1, q_lst1, dispR_ok, Nat.zero_le, Nat.reduceLeDiff, Nat.reduceAdd, Nat.reduceLT, Int.reduceLT, Int.reduceLE, Nat.reducePow, Int.reducePow, Int.reduceToNat, Int.reduceNeg, Int.reduceAdd, Nat.zero_add, Option.bind_some, Option.map_some, Option.bind, Option.map, List.getElem?_cons_zero, List.getElem?_cons_succ, List.set_cons_zero, List.set_cons_succ, List.map_cons, List.map_nil, List.cons_append, List.nil_append, List.length_cons, List.length_nil, List.replicate_succ, List.replicate_zero, decide_true, decide_false, eq_self, and_self, true_and, and_true, and_false, false_and, not_true_eq_false, not_false_eq_true, beq_self_eq_true, Bool.not_true, Bool.not_false, Bool.and_true, Bool.and_false, if_true, if_false, wd, addD, hl3, List.length_append]
    · rintro ρ t ⟨a, b, c, rfl, rfl⟩
      rw [rng_len, Nat.zero_add]
      exact ⟨a, b, c, rfl, rfl⟩
  · rintro fl t ⟨a, b, c, rfl, rfl⟩
    simp only [q_lit, q_var, varR_ok, q_bin, q_bin1, q_bin2, q_cmp, q_cmp1, q_cmp2, q_neg, q_neg1, q_isn, q_isn_non, q_isn_bl, q_isn_int, q_isn_str, q_isn_lst, q_isn_tup, q_and, q_or, q_and1, q_or1, q_and2, q_or2, q_kand, q_kor, q_not, q_not1, notR_ok, q_ite, q_ite1, q_tup, q_lst, q_new, q_new1, q_idx, q_idx1, q_idx2, ixR_ok, q_sli, q_sli1, q_sli2, q_sli3, sliR_scr, sliR_lst, q_onone, q_osome, q_os, q_call, q_callk, q_callk1, q_callk2, permR_ok, q_bi, q_bi1, biR_ok, q_isi, q_isi1, isiR_ok, q_isiT, q_isiT1, isiTR_ok, q_chain, q_ch1, q_ch2, q_chC, q_ch3, chB_ok, q_revT, q_revT1, q_rev, q_rev1, revR_ok, q_slt, q_slt1, q_slt2, q_slt3, sltR_ok, q_whl, q_wl1, q_wlB, q_wl2n, q_wl2r, q_aug, augR_ok, q_augA, q_augS, b_addT, b_addL, b_addS, c_isB, c_nisB, bi_allB, bi_anyB, bi_strI, bi_strS, q_lrg, q_lrg1, Int.toNat_natCast, q_comp, q_comp1, q_comp2, q_two, q_two1, q_es0, q_es, q_es1, q_es2, q_spl, q_splL, q_splT, q_spl2, own_app, own_all, own0, own1, consO_ok, rdl0, rdl1, consR_ok, q_seq, q_seqL, q_seqT, q_r1, q_r2, q_r21, q_en, q_en1, q_if0, q_if, q_if1, q_asg, q_asg1, nxR_ok, q_asgT, q_asgT1, q_asg2, q_asg21, setAll0, setAll1, setAllP0, setAllP1, q_set, q_set1, q_set2, q_set3, setC_ok, setR_ok, rd_obj, rdC_l, frzR_ok, frzC_ok, q_app1, q_app2, appC_ok, q_ext1, q_ext2, extC_ok, extD_ok, appD_ok, Nat.sub_zero, Int.zero_add, at0, at1, at2, at3, last_get, last_set, enum_len, ix0, ix1, ix2, b_mulT1, b_mulL1, b_mulL, b_mulR, b_mulLL, b_mulRR, bi_min2, bi_max2, comp_ints, Nat.reduceSub, Nat.sub_self, b_mod, c_neIN, c_neNN, c_eqNN, q_r11L, q_r22L, c_neB, c_neT2, c_eqT2, c_mem, nc0, nc1, Int.cast_ofNat_Int, take_set, List.take_length, List.length_map, b_div, b_divL, b_pow, b_powL, q_expr, q_expr1, q_ret, q_ret1, q_retN, q_pass, q_stop, q_ifs, q_ifs1, q_for, q_for1, q_ss0, q_ss, q_ssn, q_ssr, q_frz, q_app, q_ext, fnEnd_rt, fnEnd_nx, fnEnd_exc, go_ok, go_bad, go_exc, tru_tup, rdC_i, fldR_ok, q_fld, q_fld1, mtR_ok, metR_ok, q_mt2, q_meth, q_meth1, q_mk3, q_mk2, mtKR_ok, metKR_ok, q_methk, q_methk1, tabAt_0, tabAt_1, fldN_1, putN_0, putN_1, madeR_ok, kMade_ok, q_mk, q_mk1, mkPR_ok, q_mkk, q_mkk1, q_mkk2, kMadeM_ok, q_mkM, q_mkM1, iscR_ok, q_isc, q_isc1, isc_ins, isc_non, isc_bl, isc_int, isc_str, isc_lst, isc_tup, isc_dct, setFC_ok, q_setF, q_setF1, q_setF2, String.reduceEq,  br_t, br_f, tru_bl, tru_int, tru_non, tru_lst, rd_d, retD_ok, opD_ok, b_add, b_sub, c_lt, c_le, c_gt, c_ge, c_eqI, c_neI, c_eqS, c_neS, i_lst, i_tup, bi_int, bi_intB, bi_lenL, bi_lenT, bi_abs, bind1, bindM, isK, pickAll, wipeE, leave_cut, q_tup1, q_lst1, dispR_ok, Nat.zero_le, Nat.reduceLeDiff, Nat.reduceAdd, Nat.reduceLT, Int.reduceLT, Int.reduceLE, Nat.reducePow, Int.reducePow, Int.reduceToNat, Int.reduceNeg, Int.reduceAdd, Nat.zero_add, Option.bind_some, Option.map_some, Option.bind, Option.map, List.getElem?_cons_zero, List.getElem?_cons_succ, List.set_cons_zero, List.set_cons_succ, List.map_cons, List.map_nil, List.cons_append, List.nil_append, List.length_cons, List.length_nil, List.replicate_succ, List.replicate_zero, decide_true, decide_false, eq_self, and_self, true_and, and_true, and_false, false_and, not_true_eq_false, not_false_eq_true, beq_self_eq_true, Bool.not_true, Bool.not_false, Bool.and_true, Bool.and_false, if_true, if_false]
    exact sat_ok ⟨rfl, rfl⟩
  · rintro fl t ⟨rfl, rfl⟩
    simp only [q_lit, q_var, varR_ok, q_bin, q_bin1, q_bin2, q_cmp, q_cmp1, q_cmp2, q_neg, q_neg1, q_isn, q_isn_non, q_isn_bl, q_isn_int, q_isn_str, q_isn_lst, q_isn_tup, q_and, q_or, q_and1, q_or1, q_and2, q_or2, q_kand, q_kor, q_not, q_not1, notR_ok, q_ite, q_ite1, q_tup, q_lst, q_new, q_new1, q_idx, q_idx1, q_idx2, ixR_ok, q_sli, q_sli1, q_sli2, q_sli3, sliR_scr, sliR_lst, q_onone, q_osome, q_os, q_call, q_callk, q_callk1, q_callk2, permR_ok, q_bi, q_bi1, biR_ok, q_isi, q_isi1, isiR_ok, q_isiT, q_isiT1, isiTR_ok, q_chain, q_ch1, q_ch2, q_chC, q_ch3, chB_ok, q_revT, q_revT1, q_rev, q_rev1, revR_ok, q_slt, q_slt1, q_slt2, q_slt3, sltR_ok, q_whl, q_wl1, q_wlB, q_wl2n, q_wl2r, q_aug, augR_ok, q_augA, q_augS, b_addT, b_addL, b_addS, c_isB, c_nisB, bi_allB, bi_anyB, bi_strI, bi_strS, q_lrg, q_lrg1, Int.toNat_natCast, q_comp, q_comp1, q_comp2, q_two, q_two1, q_es0, q_es, q_es1, q_es2, q_spl, q_splL, q_splT, q_spl2, own_app, own_all, own0, own1, consO_ok, rdl0, rdl1, consR_ok, q_seq, q_seqL, q_seqT, q_r1, q_r2, q_r21, q_en, q_en1, q_if0, q_if, q_if1, q_asg, q_asg1, nxR_ok, q_asgT, q_asgT1, q_asg2, q_asg21, setAll0, setAll1, setAllP0, setAllP1, q_set, q_set1, q_set2, q_set3, setC_ok, setR_ok, rd_obj, rdC_l, frzR_ok, frzC_ok, q_app1, q_app2, appC_ok, q_ext1, q_ext2, extC_ok, extD_ok, appD_ok, Nat.sub_zero, Int.zero_add, at0, at1, at2, at3, last_get, last_set, enum_len, ix0, ix1, ix2, b_mulT1, b_mulL1, b_mulL, b_mulR, b_mulLL, b_mulRR, bi_min2, bi_max2, comp_ints, Nat.reduceSub, Nat.sub_self, b_mod, c_neIN, c_neNN, c_eqNN, q_r11L, q_r22L, c_neB, c_neT2, c_eqT2, c_mem, nc0, nc1, Int.cast_ofNat_Int, take_set, List.take_length, List.length_map, b_div, b_divL, b_pow, b_powL, q_expr, q_expr1, q_ret, q_ret1, q_retN, q_pass, q_stop, q_ifs, q_ifs1, q_for, q_for1, q_ss0, q_ss, q_ssn, q_ssr, q_frz, q_app, q_ext, fnEnd_rt, fnEnd_nx, fnEnd_exc, go_ok, go_bad, go_exc, tru_tup, rdC_i, fldR_ok, q_fld, q_fld1, mtR_ok, metR_ok, q_mt2, q_meth, q_meth1, q_mk3, q_mk2, mtKR_ok, metKR_ok, q_methk, q_methk1, tabAt_0, tabAt_1, fldN_1, putN_0, putN_1, madeR_ok, kMade_ok, q_mk, q_mk1, mkPR_ok, q_mkk, q_mkk1, q_mkk2, kMadeM_ok, q_mkM, q_mkM1, iscR_ok, q_isc, q_isc1, isc_ins, isc_non, isc_bl, isc_int, isc_str, isc_lst, isc_tup, isc_dct, setFC_ok, q_setF, q_setF1, q_setF2, String.reduceEq,  br_t, br_f, tru_bl, tru_int, tru_non, tru_lst, rd_d, retD_ok, opD_ok, b_add, b_sub, c_lt, c_le, c_gt, c_ge, c_eqI, c_neI, c_eqS, c_neS, i_lst, i_tup, bi_int, bi_intB, bi_lenL, bi_lenT, bi_abs, bind1, bindM, isK, pickAll, wipeE, leave_cut, q_tup1, q_lst1, dispR_ok, Nat.zero_le, Nat.reduceLeDiff, Nat.reduceAdd, Nat.reduceLT, Int.reduceLT, Int.reduceLE, Nat.reducePow, Int.reducePow, Int.reduceToNat, Int.reduceNeg, Int.reduceAdd, Nat.zero_add, Option.bind_some, Option.map_some, Option.bind, Option.map, List.getElem?_cons_zero, List.getElem?_cons_succ, List.set_cons_zero, List.set_cons_succ, List.map_cons, List.map_nil, List.cons_append, List.nil_append, List.length_cons, List.length_nil, List.replicate_succ, List.replicate_zero, decide_true, decide_false, eq_self, and_self, true_and, and_true, and_false, false_and, not_true_eq_false, not_false_eq_true, beq_self_eq_true, Bool.not_true, Bool.not_false, Bool.and_true, Bool.and_false, if_true, if_false]
    exact sat_ok ⟨rfl, rfl⟩
end LAW

set_option Elab.async false
set_option linter.all false
set_option autoImplicit false
set_option maxRecDepth 100000
namespace LAW
open PD PySem
/-! the next word -/
theorem rep_at {A : List D} {y : D} {t j : Nat} {R : List D} (h : 1 ≤ j) (h2 : j ≤ t) {i : Int} (hi : i = (A.length : Int) + j - 1) : L2.atI (A ++ (List.replicate t y ++ R)) i = some y := by
  subst hi
  rw [atI_nn (by omega) (by rw [List.length_append, List.length_append, List.length_replicate]; omega)]
  rw [List.getElem?_append_right (by omega), List.getElem?_append_left (by rw [List.length_replicate]; omega), List.getElem?_replicate, if_pos (by omega)]
def cB : E := .and (.cons (.cmp .ge (.var 2) (.lit (.int 0))) (.cons (.cmp .eq (.idx (.var 1) (.var 2)) (.bin .sub (.var 0) (.lit (.int 1)))) .nil))
def bB : Ss := .cons (.aug 2 .sub (.lit (.int 1))) .nil
theorem down_ok (n N t : Nat) (W : List D) (a L : Int) (s : CS) (hW : ∀ k : Int, 1 ≤ k → k ≤ t → L2.atI W (a + k - 1) = some (.int (L - 1))) (ha : 0 ≤ a) (h0 : a = 0 ∨ ∃ x : Int, L2.atI W (a - 1) = some (.int x) ∧ x ≠ L - 1 ∧ 1 ≤ a) : ∀ (j : Nat) (p : Int), j ≤ t → p = a + j - 1 →
    whl_ ⟨callN FF n⟩ cB bB (N + j + 1) [some (.d (.int L)), some (.d (.tup W)), some (.d (.int p))] s = .ok (.nx [some (.d (.int L)), some (.d (.tup W)), some (.d (.int (a - 1)))]) s
  | 0, p, _, hp => by
    have hp : p = a - 1 := by omega
    subst hp
    rw [whl_turn]
    rcases h0 with rfl | ⟨x, e, hx, h1⟩
    · simp only [cB, bB, q_lit, q_var, varR_ok, q_bin, q_bin1, q_bin2, q_cmp, q_cmp1, q_cmp2, q_neg, q_neg1, q_isn, q_isn_non, q_isn_bl, q_isn_int, q_isn_str, q_isn_lst, q_isn_tup, q_and, q_or, q_and1, q_or1, q_and2, q_or2, q_kand, q_kor, q_not, q_not1, notR_ok, q_ite, q_ite1, q_tup, q_lst, q_new, q_new1, q_idx, q_idx1, q_idx2, ixR_ok, q_sli, q_sli1, q_sli2, q_sli3, sliR_scr, sliR_lst, q_onone, q_osome, q_os, q_call, q_callk, q_callk1, q_callk2, permR_ok, q_bi, q_bi1, biR_ok, q_isi, q_isi1, isiR_ok, q_isiT, q_isiT1, isiTR_ok, q_chain, q_ch1, q_ch2, q_chC, q_ch3, chB_ok, q_revT, q_revT1, q_rev, q_rev1, revR_ok, q_slt, q_slt1, q_slt2, q_slt3, sltR_ok, q_whl, q_wl1, q_wlB, q_wl2n, q_wl2r, q_aug, augR_ok, q_augA, q_augS, b_addT, b_addL, b_addS, c_isB, c_nisB, bi_allB, bi_anyB, bi_strI, bi_strS, q_lrg, q_lrg1, Int.toNat_natCast, q_comp, q_comp1, q_comp2, q_two, q_two1, q_es0, q_es, q_es1, q_es2, q_spl, q_splL, q_splT, q_spl2, own_app, own_all, own0, own1, consO_ok, rdl0, rdl1, consR_ok, q_seq, q_seqL, q_seqT, q_r1, q_r2, q_r21, q_en, q_en1, q_if0, q_if, q_if1, q_asg, q_asg1, nxR_ok, q_asgT, q_asgT1, q_asg2, q_asg21, setAll0, setAll1, setAllP0, setAllP1, q_set, q_set1, q_set2, q_set3, setC_ok, setR_ok, rd_obj, rdC_l, frzR_ok, frzC_ok, q_app1, q_app2, appC_ok, q_ext1, q_ext2, extC_ok, extD_ok, appD_ok, Nat.sub_zero, Int.zero_add, at0, at1, at2, at3, last_get, last_set, enum_len, ix0, ix1, ix2, b_mulT1, b_mulL1, b_mulL, b_mulR, b_mulLL, b_mulRR, bi_min2, bi_max2, comp_ints, Nat.reduceSub, Nat.sub_self, b_mod, c_neIN, c_neNN, c_eqNN, q_r11L, q_r22L, c_neB, c_neT2, c_eqT2, c_mem, nc0, nc1, Int.cast_ofNat_Int, take_set, List.take_length, List.length_map, b_div, b_divL, b_pow, b_powL, q_expr, q_expr1, q_ret, q_ret1, q_retN, q_pass, q_stop, q_ifs, q_ifs1, q_for, q_for1, q_ss0, q_ss, q_ssn, q_ssr, q_frz, q_app, q_ext, fnEnd_rt, fnEnd_nx, fnEnd_exc, go_ok, go_bad, go_exc, tru_tup, rdC_i, fldR_ok, q_fld, q_fld1, mtR_ok, metR_ok, q_mt2, q_meth, q_meth1, q_mk3, q_mk2, mtKR_ok, metKR_ok, q_methk, q_methk1, tabAt_0, tabAt_1, fldN_1, putN_0, putN_1, madeR_ok, kMade_ok, q_mk, q_mk1, mkPR_ok, q_mkk, q_mkk1, q_mkk2, kMadeM_ok, q_mkM, q_mkM1, iscR_ok, q_isc, q_isc1, isc_ins, isc_non, isc_bl, isc_int, isc_str, isc_lst, isc_tup, isc_dct, setFC_ok, q_setF, q_setF1, q_setF2, String.reduceEq,  br_t, br_f, tru_bl, tru_int, tru_non, tru_lst, rd_d, retD_ok, opD_ok, b_add, b_sub, c_lt, c_le, c_gt, c_ge, c_eqI, c_neI, c_eqS, c_neS, i_lst, i_tup, bi_int, bi_intB, bi_lenL, bi_lenT, bi_abs, bind1, bindM, isK, pickAll, wipeE, leave_cut, q_tup1, q_lst1, dispR_ok, Nat.zero_le, Nat.reduceLeDiff, Nat.reduceAdd, Nat.reduceLT, Int.reduceLT, Int.reduceLE, Nat.reducePow, Int.reducePow, Int.reduceToNat, Int.reduceNeg, Int.reduceAdd, Nat.zero_add, Option.bind_some, Option.map_some, Option.bind, Option.map, List.getElem?_cons_zero, List.getElem?_cons_succ, List.set_cons_zero, List.set_cons_succ, List.map_cons, List.map_nil, List.cons_append, List.nil_append, List.length_cons, List.length_nil, List.replicate_succ, List.replicate_zero, decide_true, decide_false, eq_self, and_self, true_and, and_true, and_false, false_and, not_true_eq_false, not_false_eq_true, beq_self_eq_true, Bool.not_true, Bool.not_false, Bool.and_true, Bool.and_false, if_true, if_false, Int.zero_sub]
    · have g1 : (0 : Int) ≤ a - 1 := by omega
      simp only [cB, bB, q_lit, q_var, varR_ok, q_bin, q_bin1, q_bin2, q_cmp, q_cmp1, q_cmp2, q_neg, q_neg1, q_isn, q_isn_non, q_isn_bl, q_isn_int, q_isn_str, q_isn_lst, q_isn_tup, q_and, q_or, q_and1, q_or1, q_and2, q_or2, q_kand, q_kor, q_not, q_not1, notR_ok, q_ite, q_ite1, q_tup, q_lst, q_new, q_new1, q_idx, q_idx1, q_idx2, ixR_ok, q_sli, q_sli1, q_sli2, q_sli3, sliR_scr, sliR_lst, q_onone, q_osome, q_os, q_call, q_callk, q_callk1, q_callk2, permR_ok, q_bi, q_bi1, biR_ok, q_isi, q_isi1, isiR_ok, q_isiT, q_isiT1, isiTR_ok, q_chain, q_ch1, q_ch2, q_chC, q_ch3, chB_ok, q_revT, q_revT1, q_rev, q_rev1, revR_ok, q_slt, q_slt1, q_slt2, q_slt3, sltR_ok, q_whl, q_wl1, q_wlB, q_wl2n, q_wl2r, q_aug, augR_ok, q_augA, q_augS, b_addT, b_addL, b_addS, c_isB, c_nisB, bi_allB, bi_anyB, bi_strI, bi_strS, q_lrg, q_lrg1, Int.toNat_natCast, q_comp, q_comp1, q_comp2, q_two, q_two1, q_es0, q_es, q_es1, q_es2, q_spl, q_splL, q_splT, q_spl2, own_app, own_all, own0, own1, consO_ok, rdl0, rdl1, consR_ok, q_seq, q_seqL, q_seqT, q_r1, q_r2, q_r21, q_en, q_en1, q_if0, q_if, q_if1, q_asg, q_asg1, nxR_ok, q_asgT, q_asgT1, q_asg2, q_asg21, setAll0, setAll1, setAllP0, setAllP1, q_set, q_set1, q_set2, q_set3, setC_ok, setR_ok, rd_obj, rdC_l, frzR_ok, frzC_ok, q_app1, q_app2, appC_ok, q_ext1, q_ext2, extC_ok, extD_ok, appD_ok, Nat.sub_zero, Int.zero_add, at0, at1, at2, at3, last_get, last_set, enum_len, ix0, ix1, ix2, b_mulT1, b_mulL1, b_mulL, b_mulR, b_mulLL, b_mulRR, bi_min2, bi_max2, comp_ints, Nat.reduceSub, Nat.sub_self, b_mod, c_neIN, c_neNN, c_eqNN, q_r11L, q_r22L, c_neB, c_neT2, c_eqT2, c_mem, nc0, nc1, Int.cast_ofNat_Int, take_set, List.take_length, List.length_map, b_div, b_divL, b_pow, b_powL, q_expr, q_expr1, q_ret, q_ret1, q_retN, q_pass, q_stop, q_ifs, q_ifs1, q_for, q_for1, q_ss0, q_ss, q_ssn, q_ssr, q_frz, q_app, q_ext, fnEnd_rt, fnEnd_nx, fnEnd_exc, go_ok, go_bad, go_exc, tru_tup, rdC_i, fldR_ok, q_fld, q_fld1, mtR_ok, metR_ok, q_mt2, q_meth, q_meth1, q_mk3, q_mk2, mtKR_ok, metKR_ok, q_methk, q_methk1, tabAt_0, tabAt_1, fldN_1, putN_0, putN_1, madeR_ok, kMade_ok, q_mk, q_mk1, mkPR_ok, q_mkk, q_mkk1, q_mkk2, kMadeM_ok, q_mkM, q_mkM1, iscR_ok, q_isc, q_isc1, isc_ins, isc_non, isc_bl, isc_int, isc_str, isc_lst, isc_tup, isc_dct, setFC_ok, q_setF, q_setF1, q_setF2, String.reduceEq,  br_t, br_f, tru_bl, tru_int, tru_non, tru_lst, rd_d, retD_ok, opD_ok, b_add, b_sub, c_lt, c_le, c_gt, c_ge, c_eqI, c_neI, c_eqS, c_neS, i_lst, i_tup, bi_int, bi_intB, bi_lenL, bi_lenT, bi_abs, bind1, bindM, isK, pickAll, wipeE, leave_cut, q_tup1, q_lst1, dispR_ok, Nat.zero_le, Nat.reduceLeDiff, Nat.reduceAdd, Nat.reduceLT, Int.reduceLT, Int.reduceLE, Nat.reducePow, Int.reducePow, Int.reduceToNat, Int.reduceNeg, Int.reduceAdd, Nat.zero_add, Option.bind_some, Option.map_some, Option.bind, Option.map, List.getElem?_cons_zero, List.getElem?_cons_succ, List.set_cons_zero, List.set_cons_succ, List.map_cons, List.map_nil, List.cons_append, List.nil_append, List.length_cons, List.length_nil, List.replicate_succ, List.replicate_zero, decide_true, decide_false, eq_self, and_self, true_and, and_true, and_false, false_and, not_true_eq_false, not_false_eq_true, beq_self_eq_true, Bool.not_true, Bool.not_false, Bool.and_true, Bool.and_false, if_true, if_false, g1, e, hx]
  | j + 1, p, hj, hp => by
    rw [whl_turn]
    have g1 : (0 : Int) ≤ p := by omega
    have g2 : L2.atI W p = some (.int (L - 1)) := by
      have := hW (j + 1 : Int) (by omega) (by omega)
      rw [hp]; exact this
    have ih := down_ok n N t W a L s hW ha h0 j (p - 1) (by omega) (by omega)
    rw [show N + (j + 1) = N + j + 1 by omega]
    simp only [cB, bB] at ih ⊢
    simp only [q_lit, q_var, varR_ok, q_bin, q_bin1, q_bin2, q_cmp, q_cmp1, q_cmp2, q_neg, q_neg1, q_isn, q_isn_non, q_isn_bl, q_isn_int, q_isn_str, q_isn_lst, q_isn_tup, q_and, q_or, q_and1, q_or1, q_and2, q_or2, q_kand, q_kor, q_not, q_not1, notR_ok, q_ite, q_ite1, q_tup, q_lst, q_new, q_new1, q_idx, q_idx1, q_idx2, ixR_ok, q_sli, q_sli1, q_sli2, q_sli3, sliR_scr, sliR_lst, q_onone, q_osome, q_os, q_call, q_callk, q_callk1, q_callk2, permR_ok, q_bi, q_bi1, biR_ok, q_isi, q_isi1, isiR_ok, q_isiT, q_isiT1, isiTR_ok, q_chain, q_ch1, q_ch2, q_chC, q_ch3, chB_ok, q_revT, q_revT1, q_rev, q_rev1, revR_ok, q_slt, q_slt1, q_slt2, q_slt3, sltR_ok, q_whl, q_wl1, q_wlB, q_wl2n, q_wl2r, q_aug, augR_ok, q_augA, q_augS, b_addT, b_addL, b_addS, c_isB, c_nisB, bi_allB, bi_anyB, bi_strI, bi_strS, q_lrg, q_lrg1, Int.toNat_natCast, q_comp, q_comp1, q_comp2, q_two, q_two1, q_es0, q_es, q_es1, q_es2, q_spl, q_splL, q_splT, q_spl2, own_app, own_all, own0, own1, consO_ok, rdl0, rdl1, consR_ok, q_seq, q_seqL, q_seqT, q_r1, q_r2, q_r21, q_en, q_en1, q_if0, q_if, q_if1, q_asg, q_asg1, nxR_ok, q_asgT, q_asgT1, q_asg2, q_asg21, setAll0, setAll1, setAllP0, setAllP1, q_set, q_set1, q_set2, q_set3, setC_ok, setR_ok, rd_obj, rdC_l, frzR_ok, frzC_ok, q_app1, q_app2, appC_ok, q_ext1, q_ext2, extC_ok, extD_ok, appD_ok, Nat.sub_zero, Int.zero_add, at0, at1, at2, at3, last_get, last_set, enum_len, ix0, ix1, ix2, b_mulT1, b_mulL1, b_mulL, b_mulR, b_mulLL, b_mulRR, bi_min2, bi_max2, comp_ints, Nat.reduceSub, Nat.sub_self, b_mod, c_neIN, c_neNN, c_eqNN, q_r11L, q_r22L, c_neB, c_neT2, c_eqT2, c_mem, nc0, nc1, Int.cast_ofNat_Int, take_set, List.take_length, List.length_map, b_div, b_divL, b_pow, b_powL, q_expr, q_expr1, q_ret, q_ret1, q_retN, q_pass, q_stop, q_ifs, q_ifs1, q_for, q_for1, q_ss0, q_ss, q_ssn, q_ssr, q_frz, q_app, q_ext, fnEnd_rt, fnEnd_nx, fnEnd_exc, go_ok, go_bad, go_exc, tru_tup, rdC_i, fldR_ok, q_fld, q_fld1, mtR_ok, metR_ok, q_mt2, q_meth, q_meth1, q_mk3, q_mk2, mtKR_ok, metKR_ok, q_methk, q_methk1, tabAt_0, tabAt_1, fldN_1, putN_0, putN_1, madeR_ok, kMade_ok, q_mk, q_mk1, mkPR_ok, q_mkk, q_mkk1, q_mkk2, kMadeM_ok, q_mkM, q_mkM1, iscR_ok, q_isc, q_isc1, isc_ins, isc_non, isc_bl, isc_int, isc_str, isc_lst, isc_tup, isc_dct, setFC_ok, q_setF, q_setF1, q_setF2, String.reduceEq,  br_t, br_f, tru_bl, tru_int, tru_non, tru_lst, rd_d, retD_ok, opD_ok, b_add, b_sub, c_lt, c_le, c_gt, c_ge, c_eqI, c_neI, c_eqS, c_neS, i_lst, i_tup, bi_int, bi_intB, bi_lenL, bi_lenT, bi_abs, bind1, bindM, isK, pickAll, wipeE, leave_cut, q_tup1, q_lst1, dispR_ok, Nat.zero_le, Nat.reduceLeDiff, Nat.reduceAdd, Nat.reduceLT, Int.reduceLT, Int.reduceLE, Nat.reducePow, Int.reducePow, Int.reduceToNat, Int.reduceNeg, Int.reduceAdd, Nat.zero_add, Option.bind_some, Option.map_some, Option.bind, Option.map, List.getElem?_cons_zero, List.getElem?_cons_succ, List.set_cons_zero, List.set_cons_succ, List.map_cons, List.map_nil, List.cons_append, List.nil_append, List.length_cons, List.length_nil, List.replicate_succ, List.replicate_zero, decide_true, decide_false, eq_self, and_self, true_and, and_true, and_false, false_and, not_true_eq_false, not_false_eq_true, beq_self_eq_true, Bool.not_true, Bool.not_false, Bool.and_true, Bool.and_false, if_true, if_false, g1, g2]
    exact ih
theorem cut_pre {α : Type} (A R : List α) {i : Int} (h : i = A.length) : cutL (A ++ R) none (some i) = A := by
  subst h
  unfold cutL
  rw [HT.sIx_none, HT.sIx_nat, List.drop_zero, Nat.sub_zero, Nat.min_eq_left (by rw [List.length_append]; omega)]
  simp
theorem cut_suf {α : Type} (A R : List α) {i : Int} (h : i = A.length) : cutL (A ++ R) (some i) none = R := by
  subst h
  unfold cutL
  rw [HT.sIx_none, HT.sIx_nat, Nat.min_eq_left (by rw [List.length_append]; omega), List.drop_left]
  exact List.take_of_length_le (by rw [List.length_append]; omega)
theorem own_rep (t : Nat) (x : D) : ownAll (List.replicate t (PV.d x) ++ []) = some (List.replicate t x) := by
  have := own_all (List.replicate t x)
  rw [List.map_replicate] at this
  rw [List.append_nil]; exact this
theorem behind_ok (n : Nat) (w : List Int) (L : Int) (s : CS) (hl : w.length ≤ 200) : callN FF (n + 1) 9 [.d (.int L), .d (wd w)] s = .ok (.d (wd (nxt L w))) s := by
  rw [q_fn f9 rfl]
  obtain ⟨t, z⟩ := nxt_split L w
  rcases z with ⟨e1, e2⟩ | ⟨x, u, e1, hx, e2⟩
  · rw [e2]
    have hlen : w.length = t := by rw [e1, List.length_replicate]
    have lp := down_ok n (100000 - t - 1) t (w.map D.int) 0 L s (fun k h1 h2 => by
      have := rep_at (A := []) (y := .int (L - 1)) (t := t) (j := k.toNat) (R := []) (by omega) (by omega) (i := 0 + k - 1) (by simp; omega)
      rw [List.append_nil, List.nil_append] at this
      rw [e1, List.map_replicate]
      exact this) (by decide) (.inl rfl) t ((t : Int) - 1) (Nat.le_refl _) (by omega)
    rw [show 100000 - t - 1 + t + 1 = 100000 by omega] at lp
    simp only [cB, bB] at lp
    have b1 : (-1000 : Int) ≤ (t : Int) + 1 := by omega
    have b2 : (t : Int) + 1 ≤ 1000 := by omega
    have e3 : ((t : Int) + 1).toNat = t + 1 := by omega
    simp only [g_behind, q_lit, q_var, varR_ok, q_bin, q_bin1, q_bin2, q_cmp, q_cmp1, q_cmp2, q_neg, q_neg1, q_isn, q_isn_non, q_isn_bl, q_isn_int, q_isn_str, q_isn_lst, q_isn_tup, q_and, q_or, q_and1, q_or1, q_and2, q_or2, q_kand, q_kor, q_not, q_not1, notR_ok, q_ite, q_ite1, q_tup, q_lst, q_new, q_new1, q_idx, q_idx1, q_idx2, ixR_ok, q_sli, q_sli1, q_sli2, q_sli3, sliR_scr, sliR_lst, q_onone, q_osome, q_os, q_call, q_callk, q_callk1, q_callk2, permR_ok, q_bi, q_bi1, biR_ok, q_isi, q_isi1, isiR_ok, q_isiT, q_isiT1, isiTR_ok, q_chain, q_ch1, q_ch2, q_chC, q_ch3, chB_ok, q_revT, q_revT1, q_rev, q_rev1, revR_ok, q_slt, q_slt1, q_slt2, q_slt3, sltR_ok, q_whl, q_wl1, q_wlB, q_wl2n, q_wl2r, q_aug, augR_ok, q_augA, q_augS, b_addT, b_addL, b_addS, c_isB, c_nisB, bi_allB, bi_anyB, bi_strI, bi_strS, q_lrg, q_lrg1, Int.toNat_natCast, q_comp, q_comp1, q_comp2, q_two, q_two1, q_es0, q_es, q_es1, q_es2, q_spl, q_splL, q_splT, q_spl2, own_app, own_all, own0, own1, consO_ok, rdl0, rdl1, consR_ok, q_seq, q_seqL, q_seqT, q_r1, q_r2, q_r21, q_en, q_en1, q_if0, q_if, q_if1, q_asg, q_asg1, nxR_ok, q_asgT, q_asgT1, q_asg2, q_asg21, setAll0, setAll1, setAllP0, setAllP1, q_set, q_set1, q_set2, q_set3, setC_ok, setR_ok, rd_obj, rdC_l, frzR_ok, frzC_ok, q_app1, q_app2, appC_ok, q_ext1, q_ext2, extC_ok, extD_ok, appD_ok, Nat.sub_zero, Int.zero_add, at0, at1, at2, at3, last_get, last_set, enum_len, ix0, ix1, ix2, b_mulT1, b_mulL1, b_mulL, b_mulR, b_mulLL, b_mulRR, bi_min2, bi_max2, comp_ints, Nat.reduceSub, Nat.sub_self, b_mod, c_neIN, c_neNN, c_eqNN, q_r11L, q_r22L, c_neB, c_neT2, c_eqT2, c_mem, nc0, nc1, Int.cast_ofNat_Int, take_set, List.take_length, List.length_map, b_div, b_divL, b_pow, b_powL, q_expr, q_expr1, q_ret, q_ret1, q_retN, q_pass, q_stop, q_ifs, q_ifs1, q_for, q_for1, q_ss0, q_ss, q_ssn, q_ssr, q_frz, q_app, q_ext, fnEnd_rt, fnEnd_nx, fnEnd_exc, go_ok, go_bad, go_exc, tru_tup, rdC_i, fldR_ok, q_fld, q_fld1, mtR_ok, metR_ok, q_mt2, q_meth, q_meth1, q_mk3, q_mk2, mtKR_ok, metKR_ok, q_methk, q_methk1, tabAt_0, tabAt_1, fldN_1, putN_0, putN_1, madeR_ok, kMade_ok, q_mk, q_mk1, mkPR_ok, q_mkk, q_mkk1, q_mkk2, kMadeM_ok, q_mkM, q_mkM1, iscR_ok, q_isc, q_isc1, isc_ins, isc_non, isc_bl, isc_int, isc_str, isc_lst, isc_tup, isc_dct, setFC_ok, q_setF, q_setF1, q_setF2, String.reduceEq,  br_t, br_f, tru_bl, tru_int, tru_non, tru_lst, rd_d, retD_ok, opD_ok, b_add, b_sub, c_lt, c_le, c_gt, c_ge, c_eqI, c_neI, c_eqS, c_neS, i_lst, i_tup, bi_int, bi_intB, bi_lenL, bi_lenT, bi_abs, bind1, bindM, isK, pickAll, wipeE, leave_cut, q_tup1, q_lst1, dispR_ok, Nat.zero_le, Nat.reduceLeDiff, Nat.reduceAdd, Nat.reduceLT, Int.reduceLT, Int.reduceLE, Nat.reducePow, Int.reducePow, Int.reduceToNat, Int.reduceNeg, Int.reduceAdd, Nat.zero_add, Option.bind_some, Option.map_some, Option.bind, Option.map, List.getElem?_cons_zero, List.getElem?_cons_succ, List.set_cons_zero, List.set_cons_succ, List.map_cons, List.map_nil, List.cons_append, List.nil_append, List.length_cons, List.length_nil, List.replicate_succ, List.replicate_zero, decide_true, decide_false, eq_self, and_self, true_and, and_true, and_false, false_and, not_true_eq_false, not_false_eq_true, beq_self_eq_true, Bool.not_true, Bool.not_false, Bool.and_true, Bool.and_false, if_true, if_false, wd, hlen]
    rw [lp]
    simp only [q_lit, q_var, varR_ok, q_bin, q_bin1, q_bin2, q_cmp, q_cmp1, q_cmp2, q_neg, q_neg1, q_isn, q_isn_non, q_isn_bl, q_isn_int, q_isn_str, q_isn_lst, q_isn_tup, q_and, q_or, q_and1, q_or1, q_and2, q_or2, q_kand, q_kor, q_not, q_not1, notR_ok, q_ite, q_ite1, q_tup, q_lst, q_new, q_new1, q_idx, q_idx1, q_idx2, ixR_ok, q_sli, q_sli1, q_sli2, q_sli3, sliR_scr, sliR_lst, q_onone, q_osome, q_os, q_call, q_callk, q_callk1, q_callk2, permR_ok, q_bi, q_bi1, biR_ok, q_isi, q_isi1, isiR_ok, q_isiT, q_isiT1, isiTR_ok, q_chain, q_ch1, q_ch2, q_chC, q_ch3, chB_ok, q_revT, q_revT1, q_rev, q_rev1, revR_ok, q_slt, q_slt1, q_slt2, q_slt3, sltR_ok, q_whl, q_wl1, q_wlB, q_wl2n, q_wl2r, q_aug, augR_ok, q_augA, q_augS, b_addT, b_addL, b_addS, c_isB, c_nisB, bi_allB, bi_anyB, bi_strI, bi_strS, q_lrg, q_lrg1, Int.toNat_natCast, q_comp, q_comp1, q_comp2, q_two, q_two1, q_es0, q_es, q_es1, q_es2, q_spl, q_splL, q_splT, q_spl2, own_app, own_all, own0, own1, consO_ok, rdl0, rdl1, consR_ok, q_seq, q_seqL, q_seqT, q_r1, q_r2, q_r21, q_en, q_en1, q_if0, q_if, q_if1, q_asg, q_asg1, nxR_ok, q_asgT, q_asgT1, q_asg2, q_asg21, setAll0, setAll1, setAllP0, setAllP1, q_set, q_set1, q_set2, q_set3, setC_ok, setR_ok, rd_obj, rdC_l, frzR_ok, frzC_ok, q_app1, q_app2, appC_ok, q_ext1, q_ext2, extC_ok, extD_ok, appD_ok, Nat.sub_zero, Int.zero_add, at0, at1, at2, at3, last_get, last_set, enum_len, ix0, ix1, ix2, b_mulT1, b_mulL1, b_mulL, b_mulR, b_mulLL, b_mulRR, bi_min2, bi_max2, comp_ints, Nat.reduceSub, Nat.sub_self, b_mod, c_neIN, c_neNN, c_eqNN, q_r11L, q_r22L, c_neB, c_neT2, c_eqT2, c_mem, nc0, nc1, Int.cast_ofNat_Int, take_set, List.take_length, List.length_map, b_div, b_divL, b_pow, b_powL, q_expr, q_expr1, q_ret, q_ret1, q_retN, q_pass, q_stop, q_ifs, q_ifs1, q_for, q_for1, q_ss0, q_ss, q_ssn, q_ssr, q_frz, q_app, q_ext, fnEnd_rt, fnEnd_nx, fnEnd_exc, go_ok, go_bad, go_exc, tru_tup, rdC_i, fldR_ok, q_fld, q_fld1, mtR_ok, metR_ok, q_mt2, q_meth, q_meth1, q_mk3, q_mk2, mtKR_ok, metKR_ok, q_methk, q_methk1, tabAt_0, tabAt_1, fldN_1, putN_0, putN_1, madeR_ok, kMade_ok, q_mk, q_mk1, mkPR_ok, q_mkk, q_mkk1, q_mkk2, kMadeM_ok, q_mkM, q_mkM1, iscR_ok, q_isc, q_isc1, isc_ins, isc_non, isc_bl, isc_int, isc_str, isc_lst, isc_tup, isc_dct, setFC_ok, q_setF, q_setF1, q_setF2, String.reduceEq,  br_t, br_f, tru_bl, tru_int, tru_non, tru_lst, rd_d, retD_ok, opD_ok, b_add, b_sub, c_lt, c_le, c_gt, c_ge, c_eqI, c_neI, c_eqS, c_neS, i_lst, i_tup, bi_int, bi_intB, bi_lenL, bi_lenT, bi_abs, bind1, bindM, isK, pickAll, wipeE, leave_cut, q_tup1, q_lst1, dispR_ok, Nat.zero_le, Nat.reduceLeDiff, Nat.reduceAdd, Nat.reduceLT, Int.reduceLT, Int.reduceLE, Nat.reducePow, Int.reducePow, Int.reduceToNat, Int.reduceNeg, Int.reduceAdd, Nat.zero_add, Option.bind_some, Option.map_some, Option.bind, Option.map, List.getElem?_cons_zero, List.getElem?_cons_succ, List.set_cons_zero, List.set_cons_succ, List.map_cons, List.map_nil, List.cons_append, List.nil_append, List.length_cons, List.length_nil, List.replicate_succ, List.replicate_zero, decide_true, decide_false, eq_self, and_self, true_and, and_true, and_false, false_and, not_true_eq_false, not_false_eq_true, beq_self_eq_true, Bool.not_true, Bool.not_false, Bool.and_true, Bool.and_false, if_true, if_false, Int.zero_sub, hlen, b1, b2, e3, List.map_replicate]
  · have hlen : w.length = u.length + (t + 1) := by
      rw [e1, List.length_append, List.length_cons, List.length_replicate]
    have lp := down_ok n (100000 - t - 1) t (w.map D.int) ((u.length : Int) + 1) L s (fun k h1 h2 => by
      have := rep_at (A := (u ++ [x]).map D.int) (y := .int (L - 1)) (t := t) (j := k.toNat) (R := []) (by omega) (by omega) (i := (u.length : Int) + 1 + k - 1) (by rw [List.length_map, List.length_append, List.length_singleton]; omega)
      rw [List.append_nil] at this
      rw [e1, show u ++ x :: List.replicate t (L - 1) = u ++ [x] ++ List.replicate t (L - 1) by rw [List.append_assoc]; rfl, List.map_append, List.map_replicate]
      exact this) (by omega) (.inr ⟨x, by
        rw [e1, List.map_append]
        exact at_mid _ _ _ (by rw [List.length_map]; omega), hx, by omega⟩) t ((u.length : Int) + t) (Nat.le_refl _) (by omega)
    rw [show 100000 - t - 1 + t + 1 = 100000 by omega, show (u.length : Int) + 1 - 1 = (u.length : Int) by omega] at lp
    simp only [cB, bB] at lp
    have a1 : L2.atI (w.map D.int) (u.length : Int) = some (.int x) := by
      rw [e1, List.map_append]
      exact at_mid _ _ _ (by rw [List.length_map])
    have a2 : cutL (w.map D.int) none (some (u.length : Int)) = u.map D.int := by
      rw [e1, List.map_append]
      exact cut_pre _ _ (by rw [List.length_map])
    have el3 : ((u.length + (t + 1) : Nat) : Int) - 1 = (u.length : Int) + t := by omega
    have el4 : ((u.length + (t + 1) : Nat) : Int) - (u.length : Int) - 1 = (t : Int) := by omega
    have n1 : ¬ (u.length : Int) < 0 := by omega
    have b1 : (-1000 : Int) ≤ (t : Int) := by omega
    have b2 : (t : Int) ≤ 1000 := by omega
    have d1 : u.length + (t + 1) ≤ 1000 := by omega
    rw [e2]
    simp only [g_behind, q_lit, q_var, varR_ok, q_bin, q_bin1, q_bin2, q_cmp, q_cmp1, q_cmp2, q_neg, q_neg1, q_isn, q_isn_non, q_isn_bl, q_isn_int, q_isn_str, q_isn_lst, q_isn_tup, q_and, q_or, q_and1, q_or1, q_and2, q_or2, q_kand, q_kor, q_not, q_not1, notR_ok, q_ite, q_ite1, q_tup, q_lst, q_new, q_new1, q_idx, q_idx1, q_idx2, ixR_ok, q_sli, q_sli1, q_sli2, q_sli3, sliR_scr, sliR_lst, q_onone, q_osome, q_os, q_call, q_callk, q_callk1, q_callk2, permR_ok, q_bi, q_bi1, biR_ok, q_isi, q_isi1, isiR_ok, q_isiT, q_isiT1, isiTR_ok, q_chain, q_ch1, q_ch2, q_chC, q_ch3, chB_ok, q_revT, q_revT1, q_rev, q_rev1, revR_ok, q_slt, q_slt1, q_slt2, q_slt3, sltR_ok, q_whl, q_wl1, q_wlB, q_wl2n, q_wl2r, q_aug, augR_ok, q_augA, q_augS, b_addT, b_addL, b_addS, c_isB, c_nisB, bi_allB, bi_anyB, bi_strI, bi_strS, q_lrg, q_lrg1, Int.toNat_natCast, q_comp, q_comp1, q_comp2, q_two, q_two1, q_es0, q_es, q_es1, q_es2, q_spl, q_splL, q_splT, q_spl2, own_app, own_all, own0, own1, consO_ok, rdl0, rdl1, consR_ok, q_seq, q_seqL, q_seqT, q_r1, q_r2, q_r21, q_en, q_en1, q_if0, q_if, q_if1, q_asg, q_asg1, nxR_ok, q_asgT, q_asgT1, q_asg2, q_asg21, setAll0, setAll1, setAllP0, setAllP1, q_set, q_set1, q_set2, q_set3, setC_ok, setR_ok, rd_obj, rdC_l, frzR_ok, frzC_ok, q_app1, q_app2, appC_ok, q_ext1, q_ext2, extC_ok, extD_ok, appD_ok, Nat.sub_zero, Int.zero_add, at0, at1, at2, at3, last_get, last_set, enum_len, ix0, ix1, ix2, b_mulT1, b_mulL1, b_mulL, b_mulR, b_mulLL, b_mulRR, bi_min2, bi_max2, comp_ints, Nat.reduceSub, Nat.sub_self, b_mod, c_neIN, c_neNN, c_eqNN, q_r11L, q_r22L, c_neB, c_neT2, c_eqT2, c_mem, nc0, nc1, Int.cast_ofNat_Int, take_set, List.take_length, List.length_map, b_div, b_divL, b_pow, b_powL, q_expr, q_expr1, q_ret, q_ret1, q_retN, q_pass, q_stop, q_ifs, q_ifs1, q_for, q_for1, q_ss0, q_ss, q_ssn, q_ssr, q_frz, q_app, q_ext, fnEnd_rt, fnEnd_nx, fnEnd_exc, go_ok, go_bad, go_exc, tru_tup, rdC_i, fldR_ok, q_fld, q_fld1, mtR_ok, metR_ok, q_mt2, q_meth, q_meth1, q_mk3, q_mk2, mtKR_ok, metKR_ok, q_methk, q_methk1, tabAt_0, tabAt_1, fldN_1, putN_0, putN_1, madeR_ok, kMade_ok, q_mk, q_mk1, mkPR_ok, q_mkk, q_mkk1, q_mkk2, kMadeM_ok, q_mkM, q_mkM1, iscR_ok, q_isc, q_isc1, isc_ins, isc_non, isc_bl, isc_int, isc_str, isc_lst, isc_tup, isc_dct, setFC_ok, q_setF, q_setF1, q_setF2, String.reduceEq,  br_t, br_f, tru_bl, tru_int, tru_non, tru_lst, rd_d, retD_ok, opD_ok, b_add, b_sub, c_lt, c_le, c_gt, c_ge, c_eqI, c_neI, c_eqS, c_neS, i_lst, i_tup, bi_int, bi_intB, bi_lenL, bi_lenT, bi_abs, bind1, bindM, isK, pickAll, wipeE, leave_cut, q_tup1, q_lst1, dispR_ok, Nat.zero_le, Nat.reduceLeDiff, Nat.reduceAdd, Nat.reduceLT, Int.reduceLT, Int.reduceLE, Nat.reducePow, Int.reducePow, Int.reduceToNat, Int.reduceNeg, Int.reduceAdd, Nat.zero_add, Option.bind_some, Option.map_some, Option.bind, Option.map, List.getElem?_cons_zero, List.getElem?_cons_succ, List.set_cons_zero, List.set_cons_succ, List.map_cons, List.map_nil, List.cons_append, List.nil_append, List.length_cons, List.length_nil, List.replicate_succ, List.replicate_zero, decide_true, decide_false, eq_self, and_self, true_and, and_true, and_false, false_and, not_true_eq_false, not_false_eq_true, beq_self_eq_true, Bool.not_true, Bool.not_false, Bool.and_true, Bool.and_false, if_true, if_false, wd, hlen, el3]
    rw [lp]
    simp only [q_lit, q_var, varR_ok, q_bin, q_bin1, q_bin2, q_cmp, q_cmp1, q_cmp2, q_neg, q_neg1, q_isn, q_isn_non, q_isn_bl, q_isn_int, q_isn_str, q_isn_lst, q_isn_tup, q_and, q_or, q_and1, q_or1, q_and2, q_or2, q_kand, q_kor, q_not, q_not1, notR_ok, q_ite, q_ite1, q_tup, q_lst, q_new, q_new1, q_idx, q_idx1, q_idx2, ixR_ok, q_sli, q_sli1, q_sli2, q_sli3, sliR_scr, sliR_lst, q_onone, q_osome, q_os, q_call, q_callk, q_callk1, q_callk2, permR_ok, q_bi, q_bi1, biR_ok, q_isi, q_isi1, isiR_ok, q_isiT, q_isiT1, isiTR_ok, q_chain, q_ch1, q_ch2, q_chC, q_ch3, chB_ok, q_revT, q_revT1, q_rev, q_rev1, revR_ok, q_slt, q_slt1, q_slt2, q_slt3, sltR_ok, q_whl, q_wl1, q_wlB, q_wl2n, q_wl2r, q_aug, augR_ok, q_augA, q_augS, b_addT, b_addL, b_addS, c_isB, c_nisB, bi_allB, bi_anyB, bi_strI, bi_strS, q_lrg, q_lrg1, Int.toNat_natCast, q_comp, q_comp1, q_comp2, q_two, q_two1, q_es0, q_es, q_es1, q_es2, q_spl, q_splL, q_splT, q_spl2, own_app, own_all, own0, own1, consO_ok, rdl0, rdl1, consR_ok, q_seq, q_seqL, q_seqT, q_r1, q_r2, q_r21, q_en, q_en1, q_if0, q_if, q_if1, q_asg, q_asg1, nxR_ok, q_asgT, q_asgT1, q_asg2, q_asg21, setAll0, setAll1, setAllP0, setAllP1, q_set, q_set1, q_set2, q_set3, setC_ok, setR_ok, rd_obj, rdC_l, frzR_ok, frzC_ok, q_app1, q_app2, appC_ok, q_ext1, q_ext2, extC_ok, extD_ok, appD_ok, Nat.sub_zero, Int.zero_add, at0, at1, at2, at3, last_get, last_set, enum_len, ix0, ix1, ix2, b_mulT1, b_mulL1, b_mulL, b_mulR, b_mulLL, b_mulRR, bi_min2, bi_max2, comp_ints, Nat.reduceSub, Nat.sub_self, b_mod, c_neIN, c_neNN, c_eqNN, q_r11L, q_r22L, c_neB, c_neT2, c_eqT2, c_mem, nc0, nc1, Int.cast_ofNat_Int, take_set, List.take_length, List.length_map, b_div, b_divL, b_pow, b_powL, q_expr, q_expr1, q_ret, q_ret1, q_retN, q_pass, q_stop, q_ifs, q_ifs1, q_for, q_for1, q_ss0, q_ss, q_ssn, q_ssr, q_frz, q_app, q_ext, fnEnd_rt, fnEnd_nx, fnEnd_exc, go_ok, go_bad, go_exc, tru_tup, rdC_i, fldR_ok, q_fld, q_fld1, mtR_ok, metR_ok, q_mt2, q_meth, q_meth1, q_mk3, q_mk2, mtKR_ok, metKR_ok, q_methk, q_methk1, tabAt_0, tabAt_1, fldN_1, putN_0, putN_1, madeR_ok, kMade_ok, q_mk, q_mk1, mkPR_ok, q_mkk, q_mkk1, q_mkk2, kMadeM_ok, q_mkM, q_mkM1, iscR_ok, q_isc, q_isc1, isc_ins, isc_non, isc_bl, isc_int, isc_str, isc_lst, isc_tup, isc_dct, setFC_ok, q_setF, q_setF1, q_setF2, String.reduceEq,  br_t, br_f, tru_bl, tru_int, tru_non, tru_lst, rd_d, retD_ok, opD_ok, b_add, b_sub, c_lt, c_le, c_gt, c_ge, c_eqI, c_neI, c_eqS, c_neS, i_lst, i_tup, bi_int, bi_intB, bi_lenL, bi_lenT, bi_abs, bind1, bindM, isK, pickAll, wipeE, leave_cut, q_tup1, q_lst1, dispR_ok, Nat.zero_le, Nat.reduceLeDiff, Nat.reduceAdd, Nat.reduceLT, Int.reduceLT, Int.reduceLE, Nat.reducePow, Int.reducePow, Int.reduceToNat, Int.reduceNeg, Int.reduceAdd, Nat.zero_add, Option.bind_some, Option.map_some, Option.bind, Option.map, List.getElem?_cons_zero, List.getElem?_cons_succ, List.set_cons_zero, List.set_cons_succ, List.map_cons, List.map_nil, List.cons_append, List.nil_append, List.length_cons, List.length_nil, List.replicate_succ, List.replicate_zero, decide_true, decide_false, eq_self, and_self, true_and, and_true, and_false, false_and, not_true_eq_false, not_false_eq_true, beq_self_eq_true, Bool.not_true, Bool.not_false, Bool.and_true, Bool.and_false, if_true, if_false, n1, a1, a2, hlen, el4, b1, b2, List.length_append, List.length_replicate, d1, Int.toNat_natCast, own_app, own_all, own_rep, Nat.add_zero, List.map_append, List.map_replicate]
theorem nxt_okW {L : Int} (hL : 1 ≤ L) {w : List Int} (h : okW L w) : (∀ x ∈ nxt L w, 0 ≤ x ∧ x < L) ∧ (nxt L w).length ≤ w.length + 1 := by
  obtain ⟨h1, h2, h3⟩ := h
  obtain ⟨t, z⟩ := nxt_split L w
  rcases z with ⟨e1, e2⟩ | ⟨x, u, e1, hx, e2⟩
  · rw [e2, e1]
    refine ⟨fun y hy => ?_, by simp⟩
    have := List.eq_of_mem_replicate hy
    omega
  · rw [e2]
    rw [e1] at h1
    refine ⟨fun y hy => ?_, by rw [e1]; simp⟩
    rcases List.mem_append.mp hy with q | q
    · exact h1 y (List.mem_append_left _ q)
    · rcases List.mem_cons.mp q with q | q
      · have := h1 x (List.mem_append_right _ List.mem_cons_self)
        omega
      · have := List.eq_of_mem_replicate q
        omega
theorem nextw_ok (n : Nat) (w : List Int) (L : Int) (s : CS) (d : D) (hd : d = wd w ∨ d = .lst (w.map .int)) (h1 : 1 ≤ L) (h6 : L ≤ 6) (h : okW L w) (hl : w.length ≤ 199) : callN FF (n + 6) 11 [.d (.int L), .d d] s = .ok (.d (wd (nxt L w))) s := by
  rw [q_fn f11 rfl]
  have a := fun s => nletters_ok (n + 1) L s h1 h6
  have b := fun s => needw_ok n w L "word" s d hd h
  have c := fun s => behind_ok (n + 4) w L s (by omega)
  have k := (nxt_okW h1 h).2
  have k2 : ¬ (200 : Int) < ((nxt L w).length : Int) := by omega
  simp only [wd] at b c
  simp only [g_next_word, q_lit, q_var, varR_ok, q_bin, q_bin1, q_bin2, q_cmp, q_cmp1, q_cmp2, q_neg, q_neg1, q_isn, q_isn_non, q_isn_bl, q_isn_int, q_isn_str, q_isn_lst, q_isn_tup, q_and, q_or, q_and1, q_or1, q_and2, q_or2, q_kand, q_kor, q_not, q_not1, notR_ok, q_ite, q_ite1, q_tup, q_lst, q_new, q_new1, q_idx, q_idx1, q_idx2, ixR_ok, q_sli, q_sli1, q_sli2, q_sli3, sliR_scr, sliR_lst, q_onone, q_osome, q_os, q_call, q_callk, q_callk1, q_callk2, permR_ok, q_bi, q_bi1, biR_ok, q_isi, q_isi1, isiR_ok, q_isiT, q_isiT1, isiTR_ok, q_chain, q_ch1, q_ch2, q_chC, q_ch3, chB_ok, q_revT, q_revT1, q_rev, q_rev1, revR_ok, q_slt, q_slt1, q_slt2, q_slt3, sltR_ok, q_whl, q_wl1, q_wlB, q_wl2n, q_wl2r, q_aug, augR_ok, q_augA, q_augS, b_addT, b_addL, b_addS, c_isB, c_nisB, bi_allB, bi_anyB, bi_strI, bi_strS, q_lrg, q_lrg1, Int.toNat_natCast, q_comp, q_comp1, q_comp2, q_two, q_two1, q_es0, q_es, q_es1, q_es2, q_spl, q_splL, q_splT, q_spl2, own_app, own_all, own0, own1, consO_ok, rdl0, rdl1, consR_ok, q_seq, q_seqL, q_seqT, q_r1, q_r2, q_r21, q_en, q_en1, q_if0, q_if, q_if1, q_asg, q_asg1, nxR_ok, q_asgT, q_asgT1, q_asg2, q_asg21, setAll0, setAll1, setAllP0, setAllP1, q_set, q_set1, q_set2, q_set3, setC_ok, setR_ok, rd_obj, rdC_l, frzR_ok, frzC_ok, q_app1, q_app2, appC_ok, q_ext1, q_ext2, extC_ok, extD_ok, appD_ok, Nat.sub_zero, Int.zero_add, at0, at1, at2, at3, last_get, last_set, enum_len, ix0, ix1, ix2, b_mulT1, b_mulL1, b_mulL, b_mulR, b_mulLL, b_mulRR, bi_min2, bi_max2, comp_ints, Nat.reduceSub, Nat.sub_self, b_mod, c_neIN, c_neNN, c_eqNN, q_r11L, q_r22L, c_neB, c_neT2, c_eqT2, c_mem, nc0, nc1, Int.cast_ofNat_Int, take_set, List.take_length, List.length_map, b_div, b_divL, b_pow, b_powL, q_expr, q_expr1, q_ret, q_ret1, q_retN, q_pass, q_stop, q_ifs, q_ifs1, q_for, q_for1, q_ss0, q_ss, q_ssn, q_ssr, q_frz, q_app, q_ext, fnEnd_rt, fnEnd_nx, fnEnd_exc, go_ok, go_bad, go_exc, tru_tup, rdC_i, fldR_ok, q_fld, q_fld1, mtR_ok, metR_ok, q_mt2, q_meth, q_meth1, q_mk3, q_mk2, mtKR_ok, metKR_ok, q_methk, q_methk1, tabAt_0, tabAt_1, fldN_1, putN_0, putN_1, madeR_ok, kMade_ok, q_mk, q_mk1, mkPR_ok, q_mkk, q_mkk1, q_mkk2, kMadeM_ok, q_mkM, q_mkM1, iscR_ok, q_isc, q_isc1, isc_ins, isc_non, isc_bl, isc_int, isc_str, isc_lst, isc_tup, isc_dct, setFC_ok, q_setF, q_setF1, q_setF2, String.reduceEq,  br_t, br_f, tru_bl, tru_int, tru_non, tru_lst, rd_d, retD_ok, opD_ok, b_add, b_sub, c_lt, c_le, c_gt, c_ge, c_eqI, c_neI, c_eqS, c_neS, i_lst, i_tup, bi_int, bi_intB, bi_lenL, bi_lenT, bi_abs, bind1, bindM, isK, pickAll, wipeE, leave_cut, q_tup1, q_lst1, dispR_ok, Nat.zero_le, Nat.reduceLeDiff, Nat.reduceAdd, Nat.reduceLT, Int.reduceLT, Int.reduceLE, Nat.reducePow, Int.reducePow, Int.reduceToNat, Int.reduceNeg, Int.reduceAdd, Nat.zero_add, Option.bind_some, Option.map_some, Option.bind, Option.map, List.getElem?_cons_zero, List.getElem?_cons_succ, List.set_cons_zero, List.set_cons_succ, List.map_cons, List.map_nil, List.cons_append, List.nil_append, List.length_cons, List.length_nil, List.replicate_succ, List.replicate_zero, decide_true, decide_false, eq_self, and_self, true_and, and_true, and_false, false_and, not_true_eq_false, not_false_eq_true, beq_self_eq_true, Bool.not_true, Bool.not_false, Bool.and_true, Bool.and_false, if_true, if_false, a, b, c, wd, k2]
theorem mirr_ok (n : Nat) (w : List Int) (s : CS) (d : D) (hd : d = wd w ∨ d = .lst (w.map .int)) (h : okW 6 w) : callN FF (n + 6) 12 [.d d] s = .ok (.d (wd w.reverse)) s := by
  rw [q_fn f12 rfl]
  have b := fun s => needw_ok n w 6 "word" s d hd h
  simp only [wd] at b
  simp only [g_mirrored, q_lit, q_var, varR_ok, q_bin, q_bin1, q_bin2, q_cmp, q_cmp1, q_cmp2, q_neg, q_neg1, q_isn, q_isn_non, q_isn_bl, q_isn_int, q_isn_str, q_isn_lst, q_isn_tup, q_and, q_or, q_and1, q_or1, q_and2, q_or2, q_kand, q_kor, q_not, q_not1, notR_ok, q_ite, q_ite1, q_tup, q_lst, q_new, q_new1, q_idx, q_idx1, q_idx2, ixR_ok, q_sli, q_sli1, q_sli2, q_sli3, sliR_scr, sliR_lst, q_onone, q_osome, q_os, q_call, q_callk, q_callk1, q_callk2, permR_ok, q_bi, q_bi1, biR_ok, q_isi, q_isi1, isiR_ok, q_isiT, q_isiT1, isiTR_ok, q_chain, q_ch1, q_ch2, q_chC, q_ch3, chB_ok, q_revT, q_revT1, q_rev, q_rev1, revR_ok, q_slt, q_slt1, q_slt2, q_slt3, sltR_ok, q_whl, q_wl1, q_wlB, q_wl2n, q_wl2r, q_aug, augR_ok, q_augA, q_augS, b_addT, b_addL, b_addS, c_isB, c_nisB, bi_allB, bi_anyB, bi_strI, bi_strS, q_lrg, q_lrg1, Int.toNat_natCast, q_comp, q_comp1, q_comp2, q_two, q_two1, q_es0, q_es, q_es1, q_es2, q_spl, q_splL, q_splT, q_spl2, own_app, own_all, own0, own1, consO_ok, rdl0, rdl1, consR_ok, q_seq, q_seqL, q_seqT, q_r1, q_r2, q_r21, q_en, q_en1, q_if0, q_if, q_if1, q_asg, q_asg1, nxR_ok, q_asgT, q_asgT1, q_asg2, q_asg21, setAll0, setAll1, setAllP0, setAllP1, q_set, q_set1, q_set2, q_set3, setC_ok, setR_ok, rd_obj, rdC_l, frzR_ok, frzC_ok, q_app1, q_app2, appC_ok, q_ext1, q_ext2, extC_ok, extD_ok, appD_ok, Nat.sub_zero, Int.zero_add, at0, at1, at2, at3, last_get, last_set, enum_len, ix0, ix1, ix2, b_mulT1, b_mulL1, b_mulL, b_mulR, b_mulLL, b_mulRR, bi_min2, bi_max2, comp_ints, Nat.reduceSub, Nat.sub_self, b_mod, c_neIN, c_neNN, c_eqNN, q_r11L, q_r22L, c_neB, c_neT2, c_eqT2, c_mem, nc0, nc1, Int.cast_ofNat_Int, take_set, List.take_length, List.length_map, b_div, b_divL, b_pow, b_powL, q_expr, q_expr1, q_ret, q_ret1, q_retN, q_pass, q_stop, q_ifs, q_ifs1, q_for, q_for1, q_ss0, q_ss, q_ssn, q_ssr, q_frz, q_app, q_ext, fnEnd_rt, fnEnd_nx, fnEnd_exc, go_ok, go_bad, go_exc, tru_tup, rdC_i, fldR_ok, q_fld, q_fld1, mtR_ok, metR_ok, q_mt2, q_meth, q_meth1, q_mk3, q_mk2, mtKR_ok, metKR_ok, q_methk, q_methk1, tabAt_0, tabAt_1, fldN_1, putN_0, putN_1, madeR_ok, kMade_ok, q_mk, q_mk1, mkPR_ok, q_mkk, q_mkk1, q_mkk2, kMadeM_ok, q_mkM, q_mkM1, iscR_ok, q_isc, q_isc1, isc_ins, isc_non, isc_bl, isc_int, isc_str, isc_lst, isc_tup, isc_dct, setFC_ok, q_setF, q_setF1, q_setF2, String.reduceEq,  br_t, br_f, tru_bl, tru_int, tru_non, tru_lst, rd_d, retD_ok, opD_ok, b_add, b_sub, c_lt, c_le, c_gt, c_ge, c_eqI, c_neI, c_eqS, c_neS, i_lst, i_tup, bi_int, bi_intB, bi_lenL, bi_lenT, bi_abs, bind1, bindM, isK, pickAll, wipeE, leave_cut, q_tup1, q_lst1, dispR_ok, Nat.zero_le, Nat.reduceLeDiff, Nat.reduceAdd, Nat.reduceLT, Int.reduceLT, Int.reduceLE, Nat.reducePow, Int.reducePow, Int.reduceToNat, Int.reduceNeg, Int.reduceAdd, Nat.zero_add, Option.bind_some, Option.map_some, Option.bind, Option.map, List.getElem?_cons_zero, List.getElem?_cons_succ, List.set_cons_zero, List.set_cons_succ, List.map_cons, List.map_nil, List.cons_append, List.nil_append, List.length_cons, List.length_nil, List.replicate_succ, List.replicate_zero, decide_true, decide_false, eq_self, and_self, true_and, and_true, and_false, false_and, not_true_eq_false, not_false_eq_true, beq_self_eq_true, Bool.not_true, Bool.not_false, Bool.and_true, Bool.and_false, if_true, if_false, b, wd, List.map_reverse]
end LAW

set_option Elab.async false
set_option linter.all false
set_option autoImplicit false
set_option maxRecDepth 100000
namespace LAW
open PD PySem
set_option maxHeartbeats 1000000 in
theorem draw_ok (n : Nat) (s : CS) (k : Nat) (m lap rest : Int) (ns : List Int) (hk : s[k]? = some (.lst [.lst (ns.map .int), .int lap, .int rest])) (hm : 0 < m) (hm2 : m.natAbs.log2 < 9000) (hl : 0 ≤ lap) (hl2 : lap ≤ 1000000) (hr : 0 ≤ rest) :
    ∃ r lap' rest', callN FF (n + 1) 14 [.obj k, .d (.int m)] s = .ok (.d (.int r)) (s.set k (.lst [.lst (ns.map .int), .int lap', .int rest'])) ∧ 0 ≤ r ∧ r < m ∧ lap ≤ lap' ∧ lap' ≤ lap + 1 ∧ 0 ≤ rest' := by
  have hkl : k < s.length := (List.getElem?_eq_some_iff.mp hk).1
  have hml : (m.natAbs).log2 < 9000 := hm2
  have hlN : lap.natAbs < 18446744073709551616 := by omega
  have p5 : ∀ c : Int, (c % 2147483543 + 42373 * lap + 6109).natAbs < 18446744073709551616 := fun c => by omega
  have p3 : ∀ c : Int, (c % 2147483423 * (2 * lap + 5567) + 80711 * lap * lap + 42373).natAbs < 18446744073709551616 := fun c => pow3_ok (by omega) (by omega) hl hl2 (by omega) (by omega) (by omega) (by omega) (by omega) (by omega)
  have pm : ∀ c : Int, (c % 2147483423).natAbs < 18446744073709551616 := fun c => by omega
  rw [q_fn f14 rfl]
  by_cases h1 : 0 < rest
  · refine ⟨rest % m, lap, rest / m, ?_, Int.emod_nonneg _ (by omega), Int.emod_lt_of_pos _ hm, by omega, by omega, Int.ediv_nonneg hr (by omega)⟩
    simp only [g__law_leaf, q_lit, q_var, varR_ok, q_bin, q_bin1, q_bin2, q_cmp, q_cmp1, q_cmp2, q_neg, q_neg1, q_isn, q_isn_non, q_isn_bl, q_isn_int, q_isn_str, q_isn_lst, q_isn_tup, q_and, q_or, q_and1, q_or1, q_and2, q_or2, q_kand, q_kor, q_not, q_not1, notR_ok, q_ite, q_ite1, q_tup, q_lst, q_new, q_new1, q_idx, q_idx1, q_idx2, ixR_ok, q_sli, q_sli1, q_sli2, q_sli3, sliR_scr, sliR_lst, q_onone, q_osome, q_os, q_call, q_callk, q_callk1, q_callk2, permR_ok, q_bi, q_bi1, biR_ok, q_isi, q_isi1, isiR_ok, q_isiT, q_isiT1, isiTR_ok, q_chain, q_ch1, q_ch2, q_chC, q_ch3, chB_ok, q_revT, q_revT1, q_rev, q_rev1, revR_ok, q_slt, q_slt1, q_slt2, q_slt3, sltR_ok, q_whl, q_wl1, q_wlB, q_wl2n, q_wl2r, q_aug, augR_ok, q_augA, q_augS, b_addT, b_addL, b_addS, c_isB, c_nisB, bi_allB, bi_anyB, bi_strI, bi_strS, q_lrg, q_lrg1, Int.toNat_natCast, q_comp, q_comp1, q_comp2, q_two, q_two1, q_es0, q_es, q_es1, q_es2, q_spl, q_splL, q_splT, q_spl2, own_app, own_all, own0, own1, consO_ok, rdl0, rdl1, consR_ok, q_seq, q_seqL, q_seqT, q_r1, q_r2, q_r21, q_en, q_en1, q_if0, q_if, q_if1, q_asg, q_asg1, nxR_ok, q_asgT, q_asgT1, q_asg2, q_asg21, setAll0, setAll1, setAllP0, setAllP1, q_set, q_set1, q_set2, q_set3, setC_ok, setR_ok, rd_obj, rdC_l, frzR_ok, frzC_ok, q_app1, q_app2, appC_ok, q_ext1, q_ext2, extC_ok, extD_ok, appD_ok, Nat.sub_zero, Int.zero_add, at0, at1, at2, at3, last_get, last_set, enum_len, ix0, ix1, ix2, b_mulT1, b_mulL1, b_mulL, b_mulR, b_mulLL, b_mulRR, bi_min2, bi_max2, comp_ints, Nat.reduceSub, Nat.sub_self, b_mod, c_neIN, c_neNN, c_eqNN, q_r11L, q_r22L, c_neB, c_neT2, c_eqT2, c_mem, nc0, nc1, Int.cast_ofNat_Int, take_set, List.take_length, List.length_map, b_div, b_divL, b_pow, b_powL, q_expr, q_expr1, q_ret, q_ret1, q_retN, q_pass, q_stop, q_ifs, q_ifs1, q_for, q_for1, q_ss0, q_ss, q_ssn, q_ssr, q_frz, q_app, q_ext, fnEnd_rt, fnEnd_nx, fnEnd_exc, go_ok, go_bad, go_exc, tru_tup, rdC_i, fldR_ok, q_fld, q_fld1, mtR_ok, metR_ok, q_mt2, q_meth, q_meth1, q_mk3, q_mk2, mtKR_ok, metKR_ok, q_methk, q_methk1, tabAt_0, tabAt_1, fldN_1, putN_0, putN_1, madeR_ok, kMade_ok, q_mk, q_mk1, mkPR_ok, q_mkk, q_mkk1, q_mkk2, kMadeM_ok, q_mkM, q_mkM1, iscR_ok, q_isc, q_isc1, isc_ins, isc_non, isc_bl, isc_int, isc_str, isc_lst, isc_tup, isc_dct, setFC_ok, q_setF, q_setF1, q_setF2, String.reduceEq,  br_t, br_f, tru_bl, tru_int, tru_non, tru_lst, rd_d, retD_ok, opD_ok, b_add, b_sub, c_lt, c_le, c_gt, c_ge, c_eqI, c_neI, c_eqS, c_neS, i_lst, i_tup, bi_int, bi_intB, bi_lenL, bi_lenT, bi_abs, bind1, bindM, isK, pickAll, wipeE, leave_cut, q_tup1, q_lst1, dispR_ok, Nat.zero_le, Nat.reduceLeDiff, Nat.reduceAdd, Nat.reduceLT, Int.reduceLT, Int.reduceLE, Nat.reducePow, Int.reducePow, Int.reduceToNat, Int.reduceNeg, Int.reduceAdd, Nat.zero_add, Option.bind_some, Option.map_some, Option.bind, Option.map, List.getElem?_cons_zero, List.getElem?_cons_succ, List.set_cons_zero, List.set_cons_succ, List.map_cons, List.map_nil, List.cons_append, List.nil_append, List.length_cons, List.length_nil, List.replicate_succ, List.replicate_zero, decide_true, decide_false, eq_self, and_self, true_and, and_true, and_false, false_and, not_true_eq_false, not_false_eq_true, beq_self_eq_true, Bool.not_true, Bool.not_false, Bool.and_true, Bool.and_false, if_true, if_false, hk, hkl, hm, hm2, List.getElem?_set_self, List.set_set, h1]
  · have fin : ∀ (x : Int), ∃ r lap' rest', R.ok (PV.d (.int (x / 64 % m))) (s.set k (.lst [.lst (ns.map .int), .int (lap + 1), .int rest])) = .ok (.d (.int r)) (s.set k (.lst [.lst (ns.map .int), .int lap', .int rest'])) ∧ 0 ≤ r ∧ r < m ∧ lap ≤ lap' ∧ lap' ≤ lap + 1 ∧ 0 ≤ rest' := fun x =>
      ⟨_, _, _, rfl, Int.emod_nonneg _ (by omega), Int.emod_lt_of_pos _ hm, by omega, by omega, hr⟩
    by_cases hn : ns = []
    · subst hn
      have h2 : ¬ lap < 0 := by omega
      simp only [g__law_leaf, q_lit, q_var, varR_ok, q_bin, q_bin1, q_bin2, q_cmp, q_cmp1, q_cmp2, q_neg, q_neg1, q_isn, q_isn_non, q_isn_bl, q_isn_int, q_isn_str, q_isn_lst, q_isn_tup, q_and, q_or, q_and1, q_or1, q_and2, q_or2, q_kand, q_kor, q_not, q_not1, notR_ok, q_ite, q_ite1, q_tup, q_lst, q_new, q_new1, q_idx, q_idx1, q_idx2, ixR_ok, q_sli, q_sli1, q_sli2, q_sli3, sliR_scr, sliR_lst, q_onone, q_osome, q_os, q_call, q_callk, q_callk1, q_callk2, permR_ok, q_bi, q_bi1, biR_ok, q_isi, q_isi1, isiR_ok, q_isiT, q_isiT1, isiTR_ok, q_chain, q_ch1, q_ch2, q_chC, q_ch3, chB_ok, q_revT, q_revT1, q_rev, q_rev1, revR_ok, q_slt, q_slt1, q_slt2, q_slt3, sltR_ok, q_whl, q_wl1, q_wlB, q_wl2n, q_wl2r, q_aug, augR_ok, q_augA, q_augS, b_addT, b_addL, b_addS, c_isB, c_nisB, bi_allB, bi_anyB, bi_strI, bi_strS, q_lrg, q_lrg1, Int.toNat_natCast, q_comp, q_comp1, q_comp2, q_two, q_two1, q_es0, q_es, q_es1, q_es2, q_spl, q_splL, q_splT, q_spl2, own_app, own_all, own0, own1, consO_ok, rdl0, rdl1, consR_ok, q_seq, q_seqL, q_seqT, q_r1, q_r2, q_r21, q_en, q_en1, q_if0, q_if, q_if1, q_asg, q_asg1, nxR_ok, q_asgT, q_asgT1, q_asg2, q_asg21, setAll0, setAll1, setAllP0, setAllP1, q_set, q_set1, q_set2, q_set3, setC_ok, setR_ok, rd_obj, rdC_l, frzR_ok, frzC_ok, q_app1, q_app2, appC_ok, q_ext1, q_ext2, extC_ok, extD_ok, appD_ok, Nat.sub_zero, Int.zero_add, at0, at1, at2, at3, last_get, last_set, enum_len, ix0, ix1, ix2, b_mulT1, b_mulL1, b_mulL, b_mulR, b_mulLL, b_mulRR, bi_min2, bi_max2, comp_ints, Nat.reduceSub, Nat.sub_self, b_mod, c_neIN, c_neNN, c_eqNN, q_r11L, q_r22L, c_neB, c_neT2, c_eqT2, c_mem, nc0, nc1, Int.cast_ofNat_Int, take_set, List.take_length, List.length_map, b_div, b_divL, b_pow, b_powL, q_expr, q_expr1, q_ret, q_ret1, q_retN, q_pass, q_stop, q_ifs, q_ifs1, q_for, q_for1, q_ss0, q_ss, q_ssn, q_ssr, q_frz, q_app, q_ext, fnEnd_rt, fnEnd_nx, fnEnd_exc, go_ok, go_bad, go_exc, tru_tup, rdC_i, fldR_ok, q_fld, q_fld1, mtR_ok, metR_ok, q_mt2, q_meth, q_meth1, q_mk3, q_mk2, mtKR_ok, metKR_ok, q_methk, q_methk1, tabAt_0, tabAt_1, fldN_1, putN_0, putN_1, madeR_ok, kMade_ok, q_mk, q_mk1, mkPR_ok, q_mkk, q_mkk1, q_mkk2, kMadeM_ok, q_mkM, q_mkM1, iscR_ok, q_isc, q_isc1, isc_ins, isc_non, isc_bl, isc_int, isc_str, isc_lst, isc_tup, isc_dct, setFC_ok, q_setF, q_setF1, q_setF2, String.reduceEq,  br_t, br_f, tru_bl, tru_int, tru_non, tru_lst, rd_d, retD_ok, opD_ok, b_add, b_sub, c_lt, c_le, c_gt, c_ge, c_eqI, c_neI, c_eqS, c_neS, i_lst, i_tup, bi_int, bi_intB, bi_lenL, bi_lenT, bi_abs, bind1, bindM, isK, pickAll, wipeE, leave_cut, q_tup1, q_lst1, dispR_ok, Nat.zero_le, Nat.reduceLeDiff, Nat.reduceAdd, Nat.reduceLT, Int.reduceLT, Int.reduceLE, Nat.reducePow, Int.reducePow, Int.reduceToNat, Int.reduceNeg, Int.reduceAdd, Nat.zero_add, Option.bind_some, Option.map_some, Option.bind, Option.map, List.getElem?_cons_zero, List.getElem?_cons_succ, List.set_cons_zero, List.set_cons_succ, List.map_cons, List.map_nil, List.cons_append, List.nil_append, List.length_cons, List.length_nil, List.replicate_succ, List.replicate_zero, decide_true, decide_false, eq_self, and_self, true_and, and_true, and_false, false_and, not_true_eq_false, not_false_eq_true, beq_self_eq_true, Bool.not_true, Bool.not_false, Bool.and_true, Bool.and_false, if_true, if_false, hk, hkl, hm, hm2, List.getElem?_set_self, List.set_set, h1, h2, p5, p3, pm, hlN]
      exact fin _
    · have hp : 0 < ns.length := List.length_pos_iff.mpr hn
      have hp2 : (0 : Int) < (ns.length : Int) := by omega
      obtain ⟨c, hc⟩ : ∃ c, L2.atI (ns.map D.int) (lap % (ns.length : Int)) = some (D.int c) := ⟨_, atI_ints (Int.emod_nonneg _ (by omega)) (Int.emod_lt_of_pos _ hp2)⟩
      by_cases h2 : lap < (ns.length : Int)
      · by_cases h3 : 1000000000000000000 ≤ (if c < 0 then -c else c)
        · have h4 : 0 ≤ 2 * ((if c < 0 then -c else c) - 1000000000000000000) + (if (decide (c < 0)) = true then 1 else 0) := by
            split <;> omega
          refine ⟨_, lap + 1, (2 * ((if c < 0 then -c else c) - 1000000000000000000) + (if (decide (c < 0)) = true then 1 else 0)) / m, ?_, Int.emod_nonneg (2 * ((if c < 0 then -c else c) - 1000000000000000000) + (if (decide (c < 0)) = true then 1 else 0)) (by omega), Int.emod_lt_of_pos _ hm, by omega, by omega, Int.ediv_nonneg h4 (by omega)⟩
          simp only [g__law_leaf, q_lit, q_var, varR_ok, q_bin, q_bin1, q_bin2, q_cmp, q_cmp1, q_cmp2, q_neg, q_neg1, q_isn, q_isn_non, q_isn_bl, q_isn_int, q_isn_str, q_isn_lst, q_isn_tup, q_and, q_or, q_and1, q_or1, q_and2, q_or2, q_kand, q_kor, q_not, q_not1, notR_ok, q_ite, q_ite1, q_tup, q_lst, q_new, q_new1, q_idx, q_idx1, q_idx2, ixR_ok, q_sli, q_sli1, q_sli2, q_sli3, sliR_scr, sliR_lst, q_onone, q_osome, q_os, q_call, q_callk, q_callk1, q_callk2, permR_ok, q_bi, q_bi1, biR_ok, q_isi, q_isi1, isiR_ok, q_isiT, q_isiT1, isiTR_ok, q_chain, q_ch1, q_ch2, q_chC, q_ch3, chB_ok, q_revT, q_revT1, q_rev, q_rev1, revR_ok, q_slt, q_slt1, q_slt2, q_slt3, sltR_ok, q_whl, q_wl1, q_wlB, q_wl2n, q_wl2r, q_aug, augR_ok, q_augA, q_augS, b_addT, b_addL, b_addS, c_isB, c_nisB, bi_allB, bi_anyB, bi_strI, bi_strS, q_lrg, q_lrg1, Int.toNat_natCast, q_comp, q_comp1, q_comp2, q_two, q_two1, q_es0, q_es, q_es1, q_es2, q_spl, q_splL, q_splT, q_spl2, own_app, own_all, own0, own1, consO_ok, rdl0, rdl1, consR_ok, q_seq, q_seqL, q_seqT, q_r1, q_r2, q_r21, q_en, q_en1, q_if0, q_if, q_if1, q_asg, q_asg1, nxR_ok, q_asgT, q_asgT1, q_asg2, q_asg21, setAll0, setAll1, setAllP0, setAllP1, q_set, q_set1, q_set2, q_set3, setC_ok, setR_ok, rd_obj, rdC_l, frzR_ok, frzC_ok, q_app1, q_app2, appC_ok, q_ext1, q_ext2, extC_ok, extD_ok, appD_ok, Nat.sub_zero, Int.zero_add, at0, at1, at2, at3, last_get, last_set, enum_len, ix0, ix1, ix2, b_mulT1, b_mulL1, b_mulL, b_mulR, b_mulLL, b_mulRR, bi_min2, bi_max2, comp_ints, Nat.reduceSub, Nat.sub_self, b_mod, c_neIN, c_neNN, c_eqNN, q_r11L, q_r22L, c_neB, c_neT2, c_eqT2, c_mem, nc0, nc1, Int.cast_ofNat_Int, take_set, List.take_length, List.length_map, b_div, b_divL, b_pow, b_powL, q_expr, q_expr1, q_ret, q_ret1, q_retN, q_pass, q_stop, q_ifs, q_ifs1, q_for, q_for1, q_ss0, q_ss, q_ssn, q_ssr, q_frz, q_app, q_ext, fnEnd_rt, fnEnd_nx, fnEnd_exc, go_ok, go_bad, go_exc, tru_tup, rdC_i, fldR_ok, q_fld, q_fld1, mtR_ok, metR_ok, q_mt2, q_meth, q_meth1, q_mk3, q_mk2, mtKR_ok, metKR_ok, q_methk, q_methk1, tabAt_0, tabAt_1, fldN_1, putN_0, putN_1, madeR_ok, kMade_ok, q_mk, q_mk1, mkPR_ok, q_mkk, q_mkk1, q_mkk2, kMadeM_ok, q_mkM, q_mkM1, iscR_ok, q_isc, q_isc1, isc_ins, isc_non, isc_bl, isc_int, isc_str, isc_lst, isc_tup, isc_dct, setFC_ok, q_setF, q_setF1, q_setF2, String.reduceEq,  br_t, br_f, tru_bl, tru_int, tru_non, tru_lst, rd_d, retD_ok, opD_ok, b_add, b_sub, c_lt, c_le, c_gt, c_ge, c_eqI, c_neI, c_eqS, c_neS, i_lst, i_tup, bi_int, bi_intB, bi_lenL, bi_lenT, bi_abs, bind1, bindM, isK, pickAll, wipeE, leave_cut, q_tup1, q_lst1, dispR_ok, Nat.zero_le, Nat.reduceLeDiff, Nat.reduceAdd, Nat.reduceLT, Int.reduceLT, Int.reduceLE, Nat.reducePow, Int.reducePow, Int.reduceToNat, Int.reduceNeg, Int.reduceAdd, Nat.zero_add, Option.bind_some, Option.map_some, Option.bind, Option.map, List.getElem?_cons_zero, List.getElem?_cons_succ, List.set_cons_zero, List.set_cons_succ, List.map_cons, List.map_nil, List.cons_append, List.nil_append, List.length_cons, List.length_nil, List.replicate_succ, List.replicate_zero, decide_true, decide_false, eq_self, and_self, true_and, and_true, and_false, false_and, not_true_eq_false, not_false_eq_true, beq_self_eq_true, Bool.not_true, Bool.not_false, Bool.and_true, Bool.and_false, if_true, if_false, hk, hkl, hm, hm2, List.getElem?_set_self, List.set_set, h1, h2, h3, hn, hp2, hc, p5, p3, pm, hlN]
        · simp only [g__law_leaf, q_lit, q_var, varR_ok, q_bin, q_bin1, q_bin2, q_cmp, q_cmp1, q_cmp2, q_neg, q_neg1, q_isn, q_isn_non, q_isn_bl, q_isn_int, q_isn_str, q_isn_lst, q_isn_tup, q_and, q_or, q_and1, q_or1, q_and2, q_or2, q_kand, q_kor, q_not, q_not1, notR_ok, q_ite, q_ite1, q_tup, q_lst, q_new, q_new1, q_idx, q_idx1, q_idx2, ixR_ok, q_sli, q_sli1, q_sli2, q_sli3, sliR_scr, sliR_lst, q_onone, q_osome, q_os, q_call, q_callk, q_callk1, q_callk2, permR_ok, q_bi, q_bi1, biR_ok, q_isi, q_isi1, isiR_ok, q_isiT, q_isiT1, isiTR_ok, q_chain, q_ch1, q_ch2, q_chC, q_ch3, chB_ok, q_revT, q_revT1, q_rev, q_rev1, revR_ok, q_slt, q_slt1, q_slt2, q_slt3, sltR_ok, q_whl, q_wl1, q_wlB, q_wl2n, q_wl2r, q_aug, augR_ok, q_augA, q_augS, b_addT, b_addL, b_addS, c_isB, c_nisB, bi_allB, bi_anyB, bi_strI, bi_strS, q_lrg, q_lrg1, Int.toNat_natCast, q_comp, q_comp1, q_comp2, q_two, q_two1, q_es0, q_es, q_es1, q_es2, q_spl, q_splL, q_splT, q_spl2, own_app, own_all, own0, own1, consO_ok, rdl0, rdl1, consR_ok, q_seq, q_seqL, q_seqT, q_r1, q_r2, q_r21, q_en, q_en1, q_if0, q_if, q_if1, q_asg, q_asg1, nxR_ok, q_asgT, q_asgT1, q_asg2, q_asg21, setAll0, setAll1, setAllP0, setAllP1, q_set, q_set1, q_set2, q_set3, setC_ok, setR_ok, rd_obj, rdC_l, frzR_ok, frzC_ok, q_app1, q_app2, appC_ok, q_ext1, q_ext2, extC_ok, extD_ok, appD_ok, Nat.sub_zero, Int.zero_add, at0, at1, at2, at3, last_get, last_set, enum_len, ix0, ix1, ix2, b_mulT1, b_mulL1, b_mulL, b_mulR, b_mulLL, b_mulRR, bi_min2, bi_max2, comp_ints, Nat.reduceSub, Nat.sub_self, b_mod, c_neIN, c_neNN, c_eqNN, q_r11L, q_r22L, c_neB, c_neT2, c_eqT2, c_mem, nc0, nc1, Int.cast_ofNat_Int, take_set, List.take_length, List.length_map, b_div, b_divL, b_pow, b_powL, q_expr, q_expr1, q_ret, q_ret1, q_retN, q_pass, q_stop, q_ifs, q_ifs1, q_for, q_for1, q_ss0, q_ss, q_ssn, q_ssr, q_frz, q_app, q_ext, fnEnd_rt, fnEnd_nx, fnEnd_exc, go_ok, go_bad, go_exc, tru_tup, rdC_i, fldR_ok, q_fld, q_fld1, mtR_ok, metR_ok, q_mt2, q_meth, q_meth1, q_mk3, q_mk2, mtKR_ok, metKR_ok, q_methk, q_methk1, tabAt_0, tabAt_1, fldN_1, putN_0, putN_1, madeR_ok, kMade_ok, q_mk, q_mk1, mkPR_ok, q_mkk, q_mkk1, q_mkk2, kMadeM_ok, q_mkM, q_mkM1, iscR_ok, q_isc, q_isc1, isc_ins, isc_non, isc_bl, isc_int, isc_str, isc_lst, isc_tup, isc_dct, setFC_ok, q_setF, q_setF1, q_setF2, String.reduceEq,  br_t, br_f, tru_bl, tru_int, tru_non, tru_lst, rd_d, retD_ok, opD_ok, b_add, b_sub, c_lt, c_le, c_gt, c_ge, c_eqI, c_neI, c_eqS, c_neS, i_lst, i_tup, bi_int, bi_intB, bi_lenL, bi_lenT, bi_abs, bind1, bindM, isK, pickAll, wipeE, leave_cut, q_tup1, q_lst1, dispR_ok, Nat.zero_le, Nat.reduceLeDiff, Nat.reduceAdd, Nat.reduceLT, Int.reduceLT, Int.reduceLE, Nat.reducePow, Int.reducePow, Int.reduceToNat, Int.reduceNeg, Int.reduceAdd, Nat.zero_add, Option.bind_some, Option.map_some, Option.bind, Option.map, List.getElem?_cons_zero, List.getElem?_cons_succ, List.set_cons_zero, List.set_cons_succ, List.map_cons, List.map_nil, List.cons_append, List.nil_append, List.length_cons, List.length_nil, List.replicate_succ, List.replicate_zero, decide_true, decide_false, eq_self, and_self, true_and, and_true, and_false, false_and, not_true_eq_false, not_false_eq_true, beq_self_eq_true, Bool.not_true, Bool.not_false, Bool.and_true, Bool.and_false, if_true, if_false, hk, hkl, hm, hm2, List.getElem?_set_self, List.set_set, h1, h2, h3, hn, hp2, hc, p5, p3, pm, hlN]
          exact fin _
      · simp only [g__law_leaf, q_lit, q_var, varR_ok, q_bin, q_bin1, q_bin2, q_cmp, q_cmp1, q_cmp2, q_neg, q_neg1, q_isn, q_isn_non, q_isn_bl, q_isn_int, q_isn_str, q_isn_lst, q_isn_tup, q_and, q_or, q_and1, q_or1, q_and2, q_or2, q_kand, q_kor, q_not, q_not1, notR_ok, q_ite, q_ite1, q_tup, q_lst, q_new, q_new1, q_idx, q_idx1, q_idx2, ixR_ok, q_sli, q_sli1, q_sli2, q_sli3, sliR_scr, sliR_lst, q_onone, q_osome, q_os, q_call, q_callk, q_callk1, q_callk2, permR_ok, q_bi, q_bi1, biR_ok, q_isi, q_isi1, isiR_ok, q_isiT, q_isiT1, isiTR_ok, q_chain, q_ch1, q_ch2, q_chC, q_ch3, chB_ok, q_revT, q_revT1, q_rev, q_rev1, revR_ok, q_slt, q_slt1, q_slt2, q_slt3, sltR_ok, q_whl, q_wl1, q_wlB, q_wl2n, q_wl2r, q_aug, augR_ok, q_augA, q_augS, b_addT, b_addL, b_addS, c_isB, c_nisB, bi_allB, bi_anyB, bi_strI, bi_strS, q_lrg, q_lrg1, Int.toNat_natCast, q_comp, q_comp1, q_comp2, q_two, q_two1, q_es0, q_es, q_es1, q_es2, q_spl, q_splL, q_splT, q_spl2, own_app, own_all, own0, own1, consO_ok, rdl0, rdl1, consR_ok, q_seq, q_seqL, q_seqT, q_r1, q_r2, q_r21, q_en, q_en1, q_if0, q_if, q_if1, q_asg, q_asg1, nxR_ok, q_asgT, q_asgT1, q_asg2, q_asg21, setAll0, setAll1, setAllP0, setAllP1, q_set, q_set1, q_set2, q_set3, setC_ok, setR_ok, rd_obj, rdC_l, frzR_ok, frzC_ok, q_app1, q_app2, appC_ok, q_ext1, q_ext2, extC_ok, extD_ok, appD_ok, Nat.sub_zero, Int.zero_add, at0, at1, at2, at3, last_get, last_set, enum_len, ix0, ix1, ix2, b_mulT1, b_mulL1, b_mulL, b_mulR, b_mulLL, b_mulRR, bi_min2, bi_max2, comp_ints, Nat.reduceSub, Nat.sub_self, b_mod, c_neIN, c_neNN, c_eqNN, q_r11L, q_r22L, c_neB, c_neT2, c_eqT2, c_mem, nc0, nc1, Int.cast_ofNat_Int, take_set, List.take_length, List.length_map, b_div, b_divL, b_pow, b_powL, q_expr, q_expr1, q_ret, q_ret1, q_retN, q_pass, q_stop, q_ifs, q_ifs1, q_for, q_for1, q_ss0, q_ss, q_ssn, q_ssr, q_frz, q_app, q_ext, fnEnd_rt, fnEnd_nx, fnEnd_exc, go_ok, go_bad, go_exc, tru_tup, rdC_i, fldR_ok, q_fld, q_fld1, mtR_ok, metR_ok, q_mt2, q_meth, q_meth1, q_mk3, q_mk2, mtKR_ok, metKR_ok, q_methk, q_methk1, tabAt_0, tabAt_1, fldN_1, putN_0, putN_1, madeR_ok, kMade_ok, q_mk, q_mk1, mkPR_ok, q_mkk, q_mkk1, q_mkk2, kMadeM_ok, q_mkM, q_mkM1, iscR_ok, q_isc, q_isc1, isc_ins, isc_non, isc_bl, isc_int, isc_str, isc_lst, isc_tup, isc_dct, setFC_ok, q_setF, q_setF1, q_setF2, String.reduceEq,  br_t, br_f, tru_bl, tru_int, tru_non, tru_lst, rd_d, retD_ok, opD_ok, b_add, b_sub, c_lt, c_le, c_gt, c_ge, c_eqI, c_neI, c_eqS, c_neS, i_lst, i_tup, bi_int, bi_intB, bi_lenL, bi_lenT, bi_abs, bind1, bindM, isK, pickAll, wipeE, leave_cut, q_tup1, q_lst1, dispR_ok, Nat.zero_le, Nat.reduceLeDiff, Nat.reduceAdd, Nat.reduceLT, Int.reduceLT, Int.reduceLE, Nat.reducePow, Int.reducePow, Int.reduceToNat, Int.reduceNeg, Int.reduceAdd, Nat.zero_add, Option.bind_some, Option.map_some, Option.bind, Option.map, List.getElem?_cons_zero, List.getElem?_cons_succ, List.set_cons_zero, List.set_cons_succ, List.map_cons, List.map_nil, List.cons_append, List.nil_append, List.length_cons, List.length_nil, List.replicate_succ, List.replicate_zero, decide_true, decide_false, eq_self, and_self, true_and, and_true, and_false, false_and, not_true_eq_false, not_false_eq_true, beq_self_eq_true, Bool.not_true, Bool.not_false, Bool.and_true, Bool.and_false, if_true, if_false, hk, hkl, hm, hm2, List.getElem?_set_self, List.set_set, h1, h2, hn, hp2, hc, p5, p3, pm, hlN]
        exact fin _
theorem of_ok (n : Nat) (s : CS) (k : Nat) (lap rest : Int) (ns : List Int) (ds : List D) (hk : s[k]? = some (.lst [.lst (ns.map .int), .int lap, .int rest])) (hd : ds ≠ []) (hd2 : ds.length ≤ 1000) (hl : 0 ≤ lap) (hl2 : lap ≤ 1000000) (hr : 0 ≤ rest) :
    ∃ x lap' rest', callN FF (n + 2) 15 [.obj k, .d (.lst ds)] s = .ok (.d x) (s.set k (.lst [.lst (ns.map .int), .int lap', .int rest'])) ∧ x ∈ ds ∧ lap ≤ lap' ∧ lap' ≤ lap + 1 ∧ 0 ≤ rest' := by
  have hp : 0 < ds.length := List.length_pos_iff.mpr hd
  obtain ⟨r, lap', rest', e, h1, h2, h3, h4, h5⟩ := draw_ok n s k ds.length lap rest ns hk (by omega) (div_log (by omega) (by omega)) hl hl2 hr
  have hi : r.toNat < ds.length := by omega
  have ha : L2.atI ds r = some ds[r.toNat] := by rw [atI_nn h1 h2, List.getElem?_eq_getElem hi]
  refine ⟨ds[r.toNat], lap', rest', ?_, List.getElem_mem _, h3, h4, h5⟩
  rw [q_fn f15 rfl]
  simp only [g__law_one, q_lit, q_var, varR_ok, q_bin, q_bin1, q_bin2, q_cmp, q_cmp1, q_cmp2, q_neg, q_neg1, q_isn, q_isn_non, q_isn_bl, q_isn_int, q_isn_str, q_isn_lst, q_isn_tup, q_and, q_or, q_and1, q_or1, q_and2, q_or2, q_kand, q_kor, q_not, q_not1, notR_ok, q_ite, q_ite1, q_tup, q_lst, q_new, q_new1, q_idx, q_idx1, q_idx2, ixR_ok, q_sli, q_sli1, q_sli2, q_sli3, sliR_scr, sliR_lst, q_onone, q_osome, q_os, q_call, q_callk, q_callk1, q_callk2, permR_ok, q_bi, q_bi1, biR_ok, q_isi, q_isi1, isiR_ok, q_isiT, q_isiT1, isiTR_ok, q_chain, q_ch1, q_ch2, q_chC, q_ch3, chB_ok, q_revT, q_revT1, q_rev, q_rev1, revR_ok, q_slt, q_slt1, q_slt2, q_slt3, sltR_ok, q_whl, q_wl1, q_wlB, q_wl2n, q_wl2r, q_aug, augR_ok, q_augA, q_augS, b_addT, b_addL, b_addS, c_isB, c_nisB, bi_allB, bi_anyB, bi_strI, bi_strS, q_lrg, q_lrg1, Int.toNat_natCast, q_comp, q_comp1, q_comp2, q_two, q_two1, q_es0, q_es, q_es1, q_es2, q_spl, q_splL, q_splT, q_spl2, own_app, own_all, own0, own1, consO_ok, rdl0, rdl1, consR_ok, q_seq, q_seqL, q_seqT, q_r1, q_r2, q_r21, q_en, q_en1, q_if0, q_if, q_if1, q_asg, q_asg1, nxR_ok, q_asgT, q_asgT1, q_asg2, q_asg21, setAll0, setAll1, setAllP0, setAllP1, q_set, q_set1, q_set2, q_set3, setC_ok, setR_ok, rd_obj, rdC_l, frzR_ok, frzC_ok, q_app1, q_app2, appC_ok, q_ext1, q_ext2, extC_ok, extD_ok, appD_ok, Nat.sub_zero, Int.zero_add, at0, at1, at2, at3, last_get, last_set, enum_len, ix0, ix1, ix2, b_mulT1, b_mulL1, b_mulL, b_mulR, b_mulLL, b_mulRR, bi_min2, bi_max2, comp_ints, Nat.reduceSub, Nat.sub_self, b_mod, c_neIN, c_neNN, c_eqNN, q_r11L, q_r22L, c_neB, c_neT2, c_eqT2, c_mem, nc0, nc1, Int.cast_ofNat_Int, take_set, List.take_length, List.length_map, b_div, b_divL, b_pow, b_powL, q_expr, q_expr1, q_ret, q_ret1, q_retN, q_pass, q_stop, q_ifs, q_ifs1, q_for, q_for1, q_ss0, q_ss, q_ssn, q_ssr, q_frz, q_app, q_ext, fnEnd_rt, fnEnd_nx, fnEnd_exc, go_ok, go_bad, go_exc, tru_tup, rdC_i, fldR_ok, q_fld, q_fld1, mtR_ok, metR_ok, q_mt2, q_meth, q_meth1, q_mk3, q_mk2, mtKR_ok, metKR_ok, q_methk, q_methk1, tabAt_0, tabAt_1, fldN_1, putN_0, putN_1, madeR_ok, kMade_ok, q_mk, q_mk1, mkPR_ok, q_mkk, q_mkk1, q_mkk2, kMadeM_ok, q_mkM, q_mkM1, iscR_ok, q_isc, q_isc1, isc_ins, isc_non, isc_bl, isc_int, isc_str, isc_lst, isc_tup, isc_dct, setFC_ok, q_setF, q_setF1, q_setF2, String.reduceEq,  br_t, br_f, tru_bl, tru_int, tru_non, tru_lst, rd_d, retD_ok, opD_ok, b_add, b_sub, c_lt, c_le, c_gt, c_ge, c_eqI, c_neI, c_eqS, c_neS, i_lst, i_tup, bi_int, bi_intB, bi_lenL, bi_lenT, bi_abs, bind1, bindM, isK, pickAll, wipeE, leave_cut, q_tup1, q_lst1, dispR_ok, Nat.zero_le, Nat.reduceLeDiff, Nat.reduceAdd, Nat.reduceLT, Int.reduceLT, Int.reduceLE, Nat.reducePow, Int.reducePow, Int.reduceToNat, Int.reduceNeg, Int.reduceAdd, Nat.zero_add, Option.bind_some, Option.map_some, Option.bind, Option.map, List.getElem?_cons_zero, List.getElem?_cons_succ, List.set_cons_zero, List.set_cons_succ, List.map_cons, List.map_nil, List.cons_append, List.nil_append, List.length_cons, List.length_nil, List.replicate_succ, List.replicate_zero, decide_true, decide_false, eq_self, and_self, true_and, and_true, and_false, false_and, not_true_eq_false, not_false_eq_true, beq_self_eq_true, Bool.not_true, Bool.not_false, Bool.and_true, Bool.and_false, if_true, if_false, e, ha]
theorem stair_ok (n : Nat) (ns : List Int) (hn : ns.length ≤ 63) : callN FF (n + 1) 13 [.scr ns] [] = .ok (.obj 0) [.lst [.lst ((cutL ns none (some 60)).map D.int), .int 0, .int 0]] := by
  rw [q_fn f13 rfl]
  have hl : (cutL ns none (some 60)).length ≤ 1000 := Nat.le_trans (cut_len _ _ _) (by omega)
  simp only [g__law_ledger, q_lit, q_var, varR_ok, q_bin, q_bin1, q_bin2, q_cmp, q_cmp1, q_cmp2, q_neg, q_neg1, q_isn, q_isn_non, q_isn_bl, q_isn_int, q_isn_str, q_isn_lst, q_isn_tup, q_and, q_or, q_and1, q_or1, q_and2, q_or2, q_kand, q_kor, q_not, q_not1, notR_ok, q_ite, q_ite1, q_tup, q_lst, q_new, q_new1, q_idx, q_idx1, q_idx2, ixR_ok, q_sli, q_sli1, q_sli2, q_sli3, sliR_scr, sliR_lst, q_onone, q_osome, q_os, q_call, q_callk, q_callk1, q_callk2, permR_ok, q_bi, q_bi1, biR_ok, q_isi, q_isi1, isiR_ok, q_isiT, q_isiT1, isiTR_ok, q_chain, q_ch1, q_ch2, q_chC, q_ch3, chB_ok, q_revT, q_revT1, q_rev, q_rev1, revR_ok, q_slt, q_slt1, q_slt2, q_slt3, sltR_ok, q_whl, q_wl1, q_wlB, q_wl2n, q_wl2r, q_aug, augR_ok, q_augA, q_augS, b_addT, b_addL, b_addS, c_isB, c_nisB, bi_allB, bi_anyB, bi_strI, bi_strS, q_lrg, q_lrg1, Int.toNat_natCast, q_comp, q_comp1, q_comp2, q_two, q_two1, q_es0, q_es, q_es1, q_es2, q_spl, q_splL, q_splT, q_spl2, own_app, own_all, own0, own1, consO_ok, rdl0, rdl1, consR_ok, q_seq, q_seqL, q_seqT, q_r1, q_r2, q_r21, q_en, q_en1, q_if0, q_if, q_if1, q_asg, q_asg1, nxR_ok, q_asgT, q_asgT1, q_asg2, q_asg21, setAll0, setAll1, setAllP0, setAllP1, q_set, q_set1, q_set2, q_set3, setC_ok, setR_ok, rd_obj, rdC_l, frzR_ok, frzC_ok, q_app1, q_app2, appC_ok, q_ext1, q_ext2, extC_ok, extD_ok, appD_ok, Nat.sub_zero, Int.zero_add, at0, at1, at2, at3, last_get, last_set, enum_len, ix0, ix1, ix2, b_mulT1, b_mulL1, b_mulL, b_mulR, b_mulLL, b_mulRR, bi_min2, bi_max2, comp_ints, Nat.reduceSub, Nat.sub_self, b_mod, c_neIN, c_neNN, c_eqNN, q_r11L, q_r22L, c_neB, c_neT2, c_eqT2, c_mem, nc0, nc1, Int.cast_ofNat_Int, take_set, List.take_length, List.length_map, b_div, b_divL, b_pow, b_powL, q_expr, q_expr1, q_ret, q_ret1, q_retN, q_pass, q_stop, q_ifs, q_ifs1, q_for, q_for1, q_ss0, q_ss, q_ssn, q_ssr, q_frz, q_app, q_ext, fnEnd_rt, fnEnd_nx, fnEnd_exc, go_ok, go_bad, go_exc, tru_tup, rdC_i, fldR_ok, q_fld, q_fld1, mtR_ok, metR_ok, q_mt2, q_meth, q_meth1, q_mk3, q_mk2, mtKR_ok, metKR_ok, q_methk, q_methk1, tabAt_0, tabAt_1, fldN_1, putN_0, putN_1, madeR_ok, kMade_ok, q_mk, q_mk1, mkPR_ok, q_mkk, q_mkk1, q_mkk2, kMadeM_ok, q_mkM, q_mkM1, iscR_ok, q_isc, q_isc1, isc_ins, isc_non, isc_bl, isc_int, isc_str, isc_lst, isc_tup, isc_dct, setFC_ok, q_setF, q_setF1, q_setF2, String.reduceEq,  br_t, br_f, tru_bl, tru_int, tru_non, tru_lst, rd_d, retD_ok, opD_ok, b_add, b_sub, c_lt, c_le, c_gt, c_ge, c_eqI, c_neI, c_eqS, c_neS, i_lst, i_tup, bi_int, bi_intB, bi_lenL, bi_lenT, bi_abs, bind1, bindM, isK, pickAll, wipeE, leave_cut, q_tup1, q_lst1, dispR_ok, Nat.zero_le, Nat.reduceLeDiff, Nat.reduceAdd, Nat.reduceLT, Int.reduceLT, Int.reduceLE, Nat.reducePow, Int.reducePow, Int.reduceToNat, Int.reduceNeg, Int.reduceAdd, Nat.zero_add, Option.bind_some, Option.map_some, Option.bind, Option.map, List.getElem?_cons_zero, List.getElem?_cons_succ, List.set_cons_zero, List.set_cons_succ, List.map_cons, List.map_nil, List.cons_append, List.nil_append, List.length_cons, List.length_nil, List.replicate_succ, List.replicate_zero, decide_true, decide_false, eq_self, and_self, true_and, and_true, and_false, false_and, not_true_eq_false, not_false_eq_true, beq_self_eq_true, Bool.not_true, Bool.not_false, Bool.and_true, Bool.and_false, if_true, if_false, hl]
  exact leave_obj rfl (by simp)
theorem figs_ok (n L m v : Nat) (s : CS) (hL : 0 < L) (hL6 : L ≤ 6) (hm : m ≤ 12) : callN FF (n + 1) 16 [.d (.int v), .d (.int L), .d (.int m)] s = .ok (.d (wd (dig L m v))) s := by
  rw [q_fn f16 rfl]
  have l1 : (0 : Int) < (L : Int) := by omega
  have l2 : (L : Int) < 1073741824 := by omega
  have m1 : (-1000000000000 : Int) < (m : Int) := by omega
  have m2 : (m : Int) < 1000000000000 := by omega
  simp only [g__law_figures, q_lit, q_var, varR_ok, q_bin, q_bin1, q_bin2, q_cmp, q_cmp1, q_cmp2, q_neg, q_neg1, q_isn, q_isn_non, q_isn_bl, q_isn_int, q_isn_str, q_isn_lst, q_isn_tup, q_and, q_or, q_and1, q_or1, q_and2, q_or2, q_kand, q_kor, q_not, q_not1, notR_ok, q_ite, q_ite1, q_tup, q_lst, q_new, q_new1, q_idx, q_idx1, q_idx2, ixR_ok, q_sli, q_sli1, q_sli2, q_sli3, sliR_scr, sliR_lst, q_onone, q_osome, q_os, q_call, q_callk, q_callk1, q_callk2, permR_ok, q_bi, q_bi1, biR_ok, q_isi, q_isi1, isiR_ok, q_isiT, q_isiT1, isiTR_ok, q_chain, q_ch1, q_ch2, q_chC, q_ch3, chB_ok, q_revT, q_revT1, q_rev, q_rev1, revR_ok, q_slt, q_slt1, q_slt2, q_slt3, sltR_ok, q_whl, q_wl1, q_wlB, q_wl2n, q_wl2r, q_aug, augR_ok, q_augA, q_augS, b_addT, b_addL, b_addS, c_isB, c_nisB, bi_allB, bi_anyB, bi_strI, bi_strS, q_lrg, q_lrg1, Int.toNat_natCast, q_comp, q_comp1, q_comp2, q_two, q_two1, q_es0, q_es, q_es1, q_es2, q_spl, q_splL, q_splT, q_spl2, own_app, own_all, own0, own1, consO_ok, rdl0, rdl1, consR_ok, q_seq, q_seqL, q_seqT, q_r1, q_r2, q_r21, q_en, q_en1, q_if0, q_if, q_if1, q_asg, q_asg1, nxR_ok, q_asgT, q_asgT1, q_asg2, q_asg21, setAll0, setAll1, setAllP0, setAllP1, q_set, q_set1, q_set2, q_set3, setC_ok, setR_ok, rd_obj, rdC_l, frzR_ok, frzC_ok, q_app1, q_app2, appC_ok, q_ext1, q_ext2, extC_ok, extD_ok, appD_ok, Nat.sub_zero, Int.zero_add, at0, at1, at2, at3, last_get, last_set, enum_len, ix0, ix1, ix2, b_mulT1, b_mulL1, b_mulL, b_mulR, b_mulLL, b_mulRR, bi_min2, bi_max2, comp_ints, Nat.reduceSub, Nat.sub_self, b_mod, c_neIN, c_neNN, c_eqNN, q_r11L, q_r22L, c_neB, c_neT2, c_eqT2, c_mem, nc0, nc1, Int.cast_ofNat_Int, take_set, List.take_length, List.length_map, b_div, b_divL, b_pow, b_powL, q_expr, q_expr1, q_ret, q_ret1, q_retN, q_pass, q_stop, q_ifs, q_ifs1, q_for, q_for1, q_ss0, q_ss, q_ssn, q_ssr, q_frz, q_app, q_ext, fnEnd_rt, fnEnd_nx, fnEnd_exc, go_ok, go_bad, go_exc, tru_tup, rdC_i, fldR_ok, q_fld, q_fld1, mtR_ok, metR_ok, q_mt2, q_meth, q_meth1, q_mk3, q_mk2, mtKR_ok, metKR_ok, q_methk, q_methk1, tabAt_0, tabAt_1, fldN_1, putN_0, putN_1, madeR_ok, kMade_ok, q_mk, q_mk1, mkPR_ok, q_mkk, q_mkk1, q_mkk2, kMadeM_ok, q_mkM, q_mkM1, iscR_ok, q_isc, q_isc1, isc_ins, isc_non, isc_bl, isc_int, isc_str, isc_lst, isc_tup, isc_dct, setFC_ok, q_setF, q_setF1, q_setF2, String.reduceEq,  br_t, br_f, tru_bl, tru_int, tru_non, tru_lst, rd_d, retD_ok, opD_ok, b_add, b_sub, c_lt, c_le, c_gt, c_ge, c_eqI, c_neI, c_eqS, c_neS, i_lst, i_tup, bi_int, bi_intB, bi_lenL, bi_lenT, bi_abs, bind1, bindM, isK, pickAll, wipeE, leave_cut, q_tup1, q_lst1, dispR_ok, Nat.zero_le, Nat.reduceLeDiff, Nat.reduceAdd, Nat.reduceLT, Int.reduceLT, Int.reduceLE, Nat.reducePow, Int.reducePow, Int.reduceToNat, Int.reduceNeg, Int.reduceAdd, Nat.zero_add, Option.bind_some, Option.map_some, Option.bind, Option.map, List.getElem?_cons_zero, List.getElem?_cons_succ, List.set_cons_zero, List.set_cons_succ, List.map_cons, List.map_nil, List.cons_append, List.nil_append, List.length_cons, List.length_nil, List.replicate_succ, List.replicate_zero, decide_true, decide_false, eq_self, and_self, true_and, and_true, and_false, false_and, not_true_eq_false, not_false_eq_true, beq_self_eq_true, Bool.not_true, Bool.not_false, Bool.and_true, Bool.and_false, if_true, if_false, m1, m2]
  refine sat_is (fnEnd_sat (P := fun fl t => fl = .rt (.d (wd (dig L m v))) ∧ t = s) (go_sat (P := fun fl t => ∃ a b, fl = .nx [a, some (.d (.int L)), some (.d (.int m)), some (.d (.lst ((dig L m v).map .int))), b] ∧ t = s) ?_ ?_) ?_)
  · rw [for_def]
    refine for_inv (fun i ρ t => ∃ b, ρ = [some (.d (.int ((v / L ^ i : Nat) : Int))), some (.d (.int L)), some (.d (.int m)), some (.d (.lst ((dig L i v).map .int))), b] ∧ t = s) _ 0 _ _ ⟨_, by rw [Nat.pow_zero, Nat.div_one]; rfl, rfl⟩ ?_ ?_
    · rintro j x ρ t _ hx ⟨b, rfl, rfl⟩
      obtain ⟨hj, rfl⟩ := rng_at hx
      refine ⟨_, rfl, ?_⟩
      have d1 : 1 + j ≤ 100000 := by omega
      simp only [q_lit, q_var, varR_ok, q_bin, q_bin1, q_bin2, q_cmp, q_cmp1, q_cmp2, q_neg, q_neg1, q_isn, q_isn_non, q_isn_bl, q_isn_int, q_isn_str, q_isn_lst, q_isn_tup, q_and, q_or, q_and1, q_or1, q_and2, q_or2, q_kand, q_kor, q_not, q_not1, notR_ok, q_ite, q_ite1, q_tup, q_lst, q_new, q_new1, q_idx, q_idx1, q_idx2, ixR_ok, q_sli, q_sli1, q_sli2, q_sli3, sliR_scr, sliR_lst, q_onone, q_osome, q_os, q_call, q_callk, q_callk1, q_callk2, permR_ok, q_bi, q_bi1, biR_ok, q_isi, q_isi1, isiR_ok, q_isiT, q_isiT1, isiTR_ok, q_chain, q_ch1, q_ch2, q_chC, q_ch3, chB_ok, q_revT, q_revT1, q_rev, q_rev1, revR_ok, q_slt, q_slt1, q_slt2, q_slt3, sltR_ok, q_whl, q_wl1, q_wlB, q_wl2n, q_wl2r, q_aug, augR_ok, q_augA, q_augS, b_addT, b_addL, b_addS, c_isB, c_nisB, bi_allB, bi_anyB, bi_strI, bi_strS, q_lrg, q_lrg1, Int.toNat_natCast, q_comp, q_comp1, q_comp2, q_two, q_two1, q_es0, q_es, q_es1, q_es2, q_spl, q_splL, q_splT, q_spl2, own_app, own_all, own0, own1, consO_ok, rdl0, rdl1, consR_ok, q_seq, q_seqL, q_seqT, q_r1, q_r2, q_r21, q_en, q_en1, q_if0, q_if, q_if1, q_asg, q_asg1, nxR_ok, q_asgT, q_asgT1, q_asg2, q_asg21, setAll0, setAll1, setAllP0, setAllP1, q_set, q_set1, q_set2, q_set3, setC_ok, setR_ok, rd_obj, rdC_l, frzR_ok, frzC_ok, q_app1, q_app2, appC_ok, q_ext1, q_ext2, extC_ok, extD_ok, appD_ok, Nat.sub_zero, Int.zero_add, at0, at1, at2, at3, last_get, last_set, enum_len, ix0, ix1, ix2, b_mulT1, b_mulL1, b_mulL, b_mulR, b_mulLL, b_mulRR, bi_min2, bi_max2, comp_ints, Nat.reduceSub, Nat.sub_self, b_mod, c_neIN, c_neNN, c_eqNN, q_r11L, q_r22L, c_neB, c_neT2, c_eqT2, c_mem, nc0, nc1, Int.cast_ofNat_Int, take_set, List.take_length, List.length_map, b_div, b_divL, b_pow, b_powL, q_expr, q_expr1, q_ret, q_ret1, q_retN, q_pass, q_stop, q_ifs, q_ifs1, q_for, q_for1, q_ss0, q_ss, q_ssn, q_ssr, q_frz, q_app, q_ext, fnEnd_rt, fnEnd_nx, fnEnd_exc, go_ok, go_bad, go_exc, tru_tup, rdC_i, fldR_ok, q_fld, q_fld1, mtR_ok, metR_ok, q_mt2, q_meth, q_meth1, q_mk3, q_mk2, mtKR_ok, metKR_ok, q_methk, q_methk1, tabAt_0, tabAt_1, fldN_1, putN_0, putN_1, madeR_ok, kMade_ok, q_mk, q_mk1, mkPR_ok, q_mkk, q_mkk1, q_mkk2, kMadeM_ok, q_mkM, q_mkM1, iscR_ok, q_isc, q_isc1, isc_ins, isc_non, isc_bl, isc_int, isc_str, isc_lst, isc_tup, isc_dct, setFC_ok, q_setF, q_setF1, q_setF2, String.reduceEq,  br_t, br_f, tru_bl, tru_int, tru_non, tru_lst, rd_d, retD_ok, opD_ok, b_add, b_sub, c_lt, c_le, c_gt, c_ge, c_eqI, c_neI, c_eqS, c_neS, i_lst, i_tup, bi_int, bi_intB, bi_lenL, bi_lenT, bi_abs, bind1, bindM, isK, pickAll, wipeE, leave_cut, q_tup1, q_lst1, dispR_ok, Nat.zero_le, Nat.reduceLeDiff, Nat.reduceAdd, Nat.reduceLT, Int.reduceLT, Int.reduceLE, Nat.reducePow, Int.reducePow, Int.reduceToNat, Int.reduceNeg, Int.reduceAdd, Nat.zero_add, Option.bind_some, Option.map_some, Option.bind, Option.map, List.getElem?_cons_zero, List.getElem?_cons_succ, List.set_cons_zero, List.set_cons_succ, List.map_cons, List.map_nil, List.cons_append, List.nil_append, List.length_cons, List.length_nil, List.replicate_succ, List.replicate_zero, decide_true, decide_false, eq_self, and_self, true_and, and_true, and_false, false_and, not_true_eq_false, not_false_eq_true, beq_self_eq_true, Bool.not_true, Bool.not_false, Bool.and_true, Bool.and_false, if_true, if_false, l1, l2, dig_len, Nat.zero_add, d1]
      refine sat_ok ⟨some (.d (.int (j : Int))), ?_, rfl⟩
      rw [dig_cons, Nat.pow_succ, ← Nat.div_div_eq_div_mul, Int.natCast_ediv, Int.natCast_emod]
      rfl
    · rintro ρ t ⟨b, rfl, rfl⟩
      rw [rng_len, Nat.zero_add]
      exact ⟨_, b, rfl, rfl⟩
  · rintro fl t ⟨a, b, rfl, rfl⟩
    simp only [q_lit, q_var, varR_ok, q_bin, q_bin1, q_bin2, q_cmp, q_cmp1, q_cmp2, q_neg, q_neg1, q_isn, q_isn_non, q_isn_bl, q_isn_int, q_isn_str, q_isn_lst, q_isn_tup, q_and, q_or, q_and1, q_or1, q_and2, q_or2, q_kand, q_kor, q_not, q_not1, notR_ok, q_ite, q_ite1, q_tup, q_lst, q_new, q_new1, q_idx, q_idx1, q_idx2, ixR_ok, q_sli, q_sli1, q_sli2, q_sli3, sliR_scr, sliR_lst, q_onone, q_osome, q_os, q_call, q_callk, q_callk1, q_callk2, permR_ok, q_bi, q_bi1, biR_ok, q_isi, q_isi1, isiR_ok, q_isiT, q_isiT1, isiTR_ok, q_chain, q_ch1, q_ch2, q_chC, q_ch3, chB_ok, q_revT, q_revT1, q_rev, q_rev1, revR_ok, q_slt, q_slt1, q_slt2, q_slt3, sltR_ok, q_whl, q_wl1, q_wlB, q_wl2n, q_wl2r, q_aug, augR_ok, q_augA, q_augS, b_addT, b_addL, b_addS, c_isB, c_nisB, bi_allB, bi_anyB, bi_strI, bi_strS, q_lrg, q_lrg1, Int.toNat_natCast, q_comp, q_comp1, q_comp2, q_two, q_two1, q_es0, q_es, q_es1, q_es2, q_spl, q_splL, q_splT, q_spl2, own_app, own_all, own0, own1, consO_ok, rdl0, rdl1, consR_ok, q_seq, q_seqL, q_seqT, q_r1, q_r2, q_r21, q_en, q_en1, q_if0, q_if, q_if1, q_asg, q_asg1, nxR_ok, q_asgT, q_asgT1, q_asg2, q_asg21, setAll0, setAll1, setAllP0, setAllP1, q_set, q_set1, q_set2, q_set3, setC_ok, setR_ok, rd_obj, rdC_l, frzR_ok, frzC_ok, q_app1, q_app2, appC_ok, q_ext1, q_ext2, extC_ok, extD_ok, appD_ok, Nat.sub_zero, Int.zero_add, at0, at1, at2, at3, last_get, last_set, enum_len, ix0, ix1, ix2, b_mulT1, b_mulL1, b_mulL, b_mulR, b_mulLL, b_mulRR, bi_min2, bi_max2, comp_ints, Nat.reduceSub, Nat.sub_self, b_mod, c_neIN, c_neNN, c_eqNN, q_r11L, q_r22L, c_neB, c_neT2, c_eqT2, c_mem, nc0, nc1, Int.cast_ofNat_Int, take_set, List.take_length, List.length_map, b_div, b_divL, b_pow, b_powL, q_expr, q_expr1, q_ret, q_ret1, q_retN, q_pass, q_stop, q_ifs, q_ifs1, q_for, q_for1, q_ss0, q_ss, q_ssn, q_ssr, q_frz, q_app, q_ext, fnEnd_rt, fnEnd_nx, fnEnd_exc, go_ok, go_bad, go_exc, tru_tup, rdC_i, fldR_ok, q_fld, q_fld1, mtR_ok, metR_ok, q_mt2, q_meth, q_meth1, q_mk3, q_mk2, mtKR_ok, metKR_ok, q_methk, q_methk1, tabAt_0, tabAt_1, fldN_1, putN_0, putN_1, madeR_ok, kMade_ok, q_mk, q_mk1, mkPR_ok, q_mkk, q_mkk1, q_mkk2, kMadeM_ok, q_mkM, q_mkM1, iscR_ok, q_isc, q_isc1, isc_ins, isc_non, isc_bl, isc_int, isc_str, isc_lst, isc_tup, isc_dct, setFC_ok, q_setF, q_setF1, q_setF2, String.reduceEq,  br_t, br_f, tru_bl, tru_int, tru_non, tru_lst, rd_d, retD_ok, opD_ok, b_add, b_sub, c_lt, c_le, c_gt, c_ge, c_eqI, c_neI, c_eqS, c_neS, i_lst, i_tup, bi_int, bi_intB, bi_lenL, bi_lenT, bi_abs, bind1, bindM, isK, pickAll, wipeE, leave_cut, q_tup1, q_lst1, dispR_ok, Nat.zero_le, Nat.reduceLeDiff, Nat.reduceAdd, Nat.reduceLT, Int.reduceLT, Int.reduceLE, Nat.reducePow, Int.reducePow, Int.reduceToNat, Int.reduceNeg, Int.reduceAdd, Nat.zero_add, Option.bind_some, Option.map_some, Option.bind, Option.map, List.getElem?_cons_zero, List.getElem?_cons_succ, List.set_cons_zero, List.set_cons_succ, List.map_cons, List.map_nil, List.cons_append, List.nil_append, List.length_cons, List.length_nil, List.replicate_succ, List.replicate_zero, decide_true, decide_false, eq_self, and_self, true_and, and_true, and_false, false_and, not_true_eq_false, not_false_eq_true, beq_self_eq_true, Bool.not_true, Bool.not_false, Bool.and_true, Bool.and_false, if_true, if_false, bi_tupL]
    exact sat_ok ⟨rfl, rfl⟩
  · rintro fl t ⟨rfl, rfl⟩
    simp only [q_lit, q_var, varR_ok, q_bin, q_bin1, q_bin2, q_cmp, q_cmp1, q_cmp2, q_neg, q_neg1, q_isn, q_isn_non, q_isn_bl, q_isn_int, q_isn_str, q_isn_lst, q_isn_tup, q_and, q_or, q_and1, q_or1, q_and2, q_or2, q_kand, q_kor, q_not, q_not1, notR_ok, q_ite, q_ite1, q_tup, q_lst, q_new, q_new1, q_idx, q_idx1, q_idx2, ixR_ok, q_sli, q_sli1, q_sli2, q_sli3, sliR_scr, sliR_lst, q_onone, q_osome, q_os, q_call, q_callk, q_callk1, q_callk2, permR_ok, q_bi, q_bi1, biR_ok, q_isi, q_isi1, isiR_ok, q_isiT, q_isiT1, isiTR_ok, q_chain, q_ch1, q_ch2, q_chC, q_ch3, chB_ok, q_revT, q_revT1, q_rev, q_rev1, revR_ok, q_slt, q_slt1, q_slt2, q_slt3, sltR_ok, q_whl, q_wl1, q_wlB, q_wl2n, q_wl2r, q_aug, augR_ok, q_augA, q_augS, b_addT, b_addL, b_addS, c_isB, c_nisB, bi_allB, bi_anyB, bi_strI, bi_strS, q_lrg, q_lrg1, Int.toNat_natCast, q_comp, q_comp1, q_comp2, q_two, q_two1, q_es0, q_es, q_es1, q_es2, q_spl, q_splL, q_splT, q_spl2, own_app, own_all, own0, own1, consO_ok, rdl0, rdl1, consR_ok, q_seq, q_seqL, q_seqT, q_r1, q_r2, q_r21, q_en, q_en1, q_if0, q_if, q_if1, q_asg, q_asg1, nxR_ok, q_asgT, q_asgT1, q_asg2, q_asg21, setAll0, setAll1, setAllP0, setAllP1, q_set, q_set1, q_set2, q_set3, setC_ok, setR_ok, rd_obj, rdC_l, frzR_ok, frzC_ok, q_app1, q_app2, appC_ok, q_ext1, q_ext2, extC_ok, extD_ok, appD_ok, Nat.sub_zero, Int.zero_add, at0, at1, at2, at3, last_get, last_set, enum_len, ix0, ix1, ix2, b_mulT1, b_mulL1, b_mulL, b_mulR, b_mulLL, b_mulRR, bi_min2, bi_max2, comp_ints, Nat.reduceSub, Nat.sub_self, b_mod, c_neIN, c_neNN, c_eqNN, q_r11L, q_r22L, c_neB, c_neT2, c_eqT2, c_mem, nc0, nc1, Int.cast_ofNat_Int, take_set, List.take_length, List.length_map, b_div, b_divL, b_pow, b_powL, q_expr, q_expr1, q_ret, q_ret1, q_retN, q_pass, q_stop, q_ifs, q_ifs1, q_for, q_for1, q_ss0, q_ss, q_ssn, q_ssr, q_frz, q_app, q_ext, fnEnd_rt, fnEnd_nx, fnEnd_exc, go_ok, go_bad, go_exc, tru_tup, rdC_i, fldR_ok, q_fld, q_fld1, mtR_ok, metR_ok, q_mt2, q_meth, q_meth1, q_mk3, q_mk2, mtKR_ok, metKR_ok, q_methk, q_methk1, tabAt_0, tabAt_1, fldN_1, putN_0, putN_1, madeR_ok, kMade_ok, q_mk, q_mk1, mkPR_ok, q_mkk, q_mkk1, q_mkk2, kMadeM_ok, q_mkM, q_mkM1, iscR_ok, q_isc, q_isc1, isc_ins, isc_non, isc_bl, isc_int, isc_str, isc_lst, isc_tup, isc_dct, setFC_ok, q_setF, q_setF1, q_setF2, String.reduceEq,  br_t, br_f, tru_bl, tru_int, tru_non, tru_lst, rd_d, retD_ok, opD_ok, b_add, b_sub, c_lt, c_le, c_gt, c_ge, c_eqI, c_neI, c_eqS, c_neS, i_lst, i_tup, bi_int, bi_intB, bi_lenL, bi_lenT, bi_abs, bind1, bindM, isK, pickAll, wipeE, leave_cut, q_tup1, q_lst1, dispR_ok, Nat.zero_le, Nat.reduceLeDiff, Nat.reduceAdd, Nat.reduceLT, Int.reduceLT, Int.reduceLE, Nat.reducePow, Int.reducePow, Int.reduceToNat, Int.reduceNeg, Int.reduceAdd, Nat.zero_add, Option.bind_some, Option.map_some, Option.bind, Option.map, List.getElem?_cons_zero, List.getElem?_cons_succ, List.set_cons_zero, List.set_cons_succ, List.map_cons, List.map_nil, List.cons_append, List.nil_append, List.length_cons, List.length_nil, List.replicate_succ, List.replicate_zero, decide_true, decide_false, eq_self, and_self, true_and, and_true, and_false, false_and, not_true_eq_false, not_false_eq_true, beq_self_eq_true, Bool.not_true, Bool.not_false, Bool.and_true, Bool.and_false, if_true, if_false]
    exact sat_ok ⟨rfl, rfl⟩
theorem allw_ok (n L m : Nat) (s : CS) (hL : 0 < L) (hL6 : L ≤ 6) (hm : 0 < m) (hm2 : m ≤ 12) (hs : L ^ m ≤ 256) : callN FF (n + 5) 10 [.d (.int L), .d (.int m)] s = .ok (.d (.tup ((allW L m).map wd))) s := by
  rw [q_fn f10 rfl]
  have a := fun s => nletters_ok n L s (by omega) (by omega)
  have b := fun s => need2_ok (n + 1) m 1 12 "many" s (by omega) (by omega)
  have c := fun s => counted_ok (n + 3) L m s hL6 hm2
  have d := fun s => words_ok (n + 3) L m s hL6 hm2 (.inr hs)
  have e : ¬ (4096 : Int) < ((L ^ m : Nat) : Int) := by omega
  simp only [g_all_words, q_lit, q_var, varR_ok, q_bin, q_bin1, q_bin2, q_cmp, q_cmp1, q_cmp2, q_neg, q_neg1, q_isn, q_isn_non, q_isn_bl, q_isn_int, q_isn_str, q_isn_lst, q_isn_tup, q_and, q_or, q_and1, q_or1, q_and2, q_or2, q_kand, q_kor, q_not, q_not1, notR_ok, q_ite, q_ite1, q_tup, q_lst, q_new, q_new1, q_idx, q_idx1, q_idx2, ixR_ok, q_sli, q_sli1, q_sli2, q_sli3, sliR_scr, sliR_lst, q_onone, q_osome, q_os, q_call, q_callk, q_callk1, q_callk2, permR_ok, q_bi, q_bi1, biR_ok, q_isi, q_isi1, isiR_ok, q_isiT, q_isiT1, isiTR_ok, q_chain, q_ch1, q_ch2, q_chC, q_ch3, chB_ok, q_revT, q_revT1, q_rev, q_rev1, revR_ok, q_slt, q_slt1, q_slt2, q_slt3, sltR_ok, q_whl, q_wl1, q_wlB, q_wl2n, q_wl2r, q_aug, augR_ok, q_augA, q_augS, b_addT, b_addL, b_addS, c_isB, c_nisB, bi_allB, bi_anyB, bi_strI, bi_strS, q_lrg, q_lrg1, Int.toNat_natCast, q_comp, q_comp1, q_comp2, q_two, q_two1, q_es0, q_es, q_es1, q_es2, q_spl, q_splL, q_splT, q_spl2, own_app, own_all, own0, own1, consO_ok, rdl0, rdl1, consR_ok, q_seq, q_seqL, q_seqT, q_r1, q_r2, q_r21, q_en, q_en1, q_if0, q_if, q_if1, q_asg, q_asg1, nxR_ok, q_asgT, q_asgT1, q_asg2, q_asg21, setAll0, setAll1, setAllP0, setAllP1, q_set, q_set1, q_set2, q_set3, setC_ok, setR_ok, rd_obj, rdC_l, frzR_ok, frzC_ok, q_app1, q_app2, appC_ok, q_ext1, q_ext2, extC_ok, extD_ok, appD_ok, Nat.sub_zero, Int.zero_add, at0, at1, at2, at3, last_get, last_set, enum_len, ix0, ix1, ix2, b_mulT1, b_mulL1, b_mulL, b_mulR, b_mulLL, b_mulRR, bi_min2, bi_max2, comp_ints, Nat.reduceSub, Nat.sub_self, b_mod, c_neIN, c_neNN, c_eqNN, q_r11L, q_r22L, c_neB, c_neT2, c_eqT2, c_mem, nc0, nc1, Int.cast_ofNat_Int, take_set, List.take_length, List.length_map, b_div, b_divL, b_pow, b_powL, q_expr, q_expr1, q_ret, q_ret1, q_retN, q_pass, q_stop, q_ifs, q_ifs1, q_for, q_for1, q_ss0, q_ss, q_ssn, q_ssr, q_frz, q_app, q_ext, fnEnd_rt, fnEnd_nx, fnEnd_exc, go_ok, go_bad, go_exc, tru_tup, rdC_i, fldR_ok, q_fld, q_fld1, mtR_ok, metR_ok, q_mt2, q_meth, q_meth1, q_mk3, q_mk2, mtKR_ok, metKR_ok, q_methk, q_methk1, tabAt_0, tabAt_1, fldN_1, putN_0, putN_1, madeR_ok, kMade_ok, q_mk, q_mk1, mkPR_ok, q_mkk, q_mkk1, q_mkk2, kMadeM_ok, q_mkM, q_mkM1, iscR_ok, q_isc, q_isc1, isc_ins, isc_non, isc_bl, isc_int, isc_str, isc_lst, isc_tup, isc_dct, setFC_ok, q_setF, q_setF1, q_setF2, String.reduceEq,  br_t, br_f, tru_bl, tru_int, tru_non, tru_lst, rd_d, retD_ok, opD_ok, b_add, b_sub, c_lt, c_le, c_gt, c_ge, c_eqI, c_neI, c_eqS, c_neS, i_lst, i_tup, bi_int, bi_intB, bi_lenL, bi_lenT, bi_abs, bind1, bindM, isK, pickAll, wipeE, leave_cut, q_tup1, q_lst1, dispR_ok, Nat.zero_le, Nat.reduceLeDiff, Nat.reduceAdd, Nat.reduceLT, Int.reduceLT, Int.reduceLE, Nat.reducePow, Int.reducePow, Int.reduceToNat, Int.reduceNeg, Int.reduceAdd, Nat.zero_add, Option.bind_some, Option.map_some, Option.bind, Option.map, List.getElem?_cons_zero, List.getElem?_cons_succ, List.set_cons_zero, List.set_cons_succ, List.map_cons, List.map_nil, List.cons_append, List.nil_append, List.length_cons, List.length_nil, List.replicate_succ, List.replicate_zero, decide_true, decide_false, eq_self, and_self, true_and, and_true, and_false, false_and, not_true_eq_false, not_false_eq_true, beq_self_eq_true, Bool.not_true, Bool.not_false, Bool.and_true, Bool.and_false, if_true, if_false, a, b, c, d, e, bi_tupL]
def st0 (ns : List Int) (lap rest : Int) : Cell := .lst [.lst (ns.map .int), .int lap, .int rest]
def Good (v : PV) (B : Int) (ns : List Int) (s : CS) : Prop := ∃ lap rest, v = .d (.bl true) ∧ s = [st0 ns lap rest] ∧ 0 ≤ lap ∧ lap ≤ B ∧ 0 ≤ rest
def figD (L m : Nat) : D → D
  | .int v => wd (dig L m v.toNat)
  | _ => .non
theorem due_all (L m : Nat) : (rngItems 0 (L ^ m)).map (figD L m) = (allW L m).map wd := by
  unfold rngItems allW
  rw [List.map_map, List.map_map]
  refine List.map_congr_left fun v _ => ?_
  simp only [Function.comp, figD, Int.zero_add, Int.toNat_natCast]
theorem lots : ∀ L : Nat, 0 < L → L ≤ 6 → ∃ x : Int, L2.atI [D.int 12, .int 7, .int 5, .int 4, .int 3, .int 3] ((L : Int) - 1) = some (.int x) ∧ 0 < x ∧ x ≤ 12 ∧ ∀ m : Nat, (m : Int) ≤ x → L ^ m ≤ 256 := by
  intro L h1 h2
  have p : ∀ {L k m : Nat}, 0 < L → m ≤ k → L ^ k ≤ 256 → L ^ m ≤ 256 := fun h a b => Nat.le_trans (Nat.pow_le_pow_right h a) b
  rcases (show L = 1 ∨ L = 2 ∨ L = 3 ∨ L = 4 ∨ L = 5 ∨ L = 6 by omega) with rfl | rfl | rfl | rfl | rfl | rfl
  · exact ⟨12, rfl, by decide, by decide, fun m h => p (k := 12) (by decide) (by omega) (by decide)⟩
  · exact ⟨7, rfl, by decide, by decide, fun m h => p (k := 7) (by decide) (by omega) (by decide)⟩
  · exact ⟨5, rfl, by decide, by decide, fun m h => p (k := 5) (by decide) (by omega) (by decide)⟩
  · exact ⟨4, rfl, by decide, by decide, fun m h => p (k := 4) (by decide) (by omega) (by decide)⟩
  · exact ⟨3, rfl, by decide, by decide, fun m h => p (k := 3) (by decide) (by omega) (by decide)⟩
  · exact ⟨3, rfl, by decide, by decide, fun m h => p (k := 3) (by decide) (by omega) (by decide)⟩
set_option maxHeartbeats 4000000 in
theorem allright_ok (n : Nat) (ns : List Int) (lap rest : Int) (h0 : 0 ≤ lap) (h1 : lap ≤ 900000) (h2 : 0 ≤ rest) : (callN FF (n + 8) 17 [.obj 0] [st0 ns lap rest]).sat fun v s => Good v (lap + 3) ns s := by
  rw [q_fn f17 rfl]
  obtain ⟨r1, lap1, rest1, e1, r10, r11, k1, k2, k3⟩ := draw_ok (n + 6) [st0 ns lap rest] 0 6 lap rest ns rfl (by decide) (by decide) h0 (by omega) h2
  obtain ⟨L, hL⟩ : ∃ L : Nat, (L : Int) = 1 + r1 := ⟨(1 + r1).toNat, by omega⟩
  obtain ⟨x, ex, x0, x12, hx⟩ := lots L (by omega) (by omega)
  obtain ⟨r2, lap2, rest2, e2, r20, r21, k4, k5, k6⟩ := draw_ok (n + 6) [st0 ns lap1 rest1] 0 x lap1 rest1 ns rfl x0 (div_log (by omega) (by omega)) (by omega) (by omega) k3
  obtain ⟨m, hm⟩ : ∃ m : Nat, (m : Int) = 1 + r2 := ⟨(1 + r2).toNat, by omega⟩
  have big := hx m (by omega)
  have aw := fun s => allw_ok (n + 2) L m s (by omega) (by omega) (by omega) (by omega) big
  have l1 : (-1000000000000 : Int) < (L : Int) := by omega
  have l2 : (L : Int) < 1000000000000 := by omega
  have m1 : (-1000000000000 : Int) < (m : Int) := by omega
  have m2 : (m : Int) < 1000000000000 := by omega
  simp only [st0, List.set_cons_zero] at e1 e2
  simp only [g__law_all_right, q_lit, q_var, varR_ok, q_bin, q_bin1, q_bin2, q_cmp, q_cmp1, q_cmp2, q_neg, q_neg1, q_isn, q_isn_non, q_isn_bl, q_isn_int, q_isn_str, q_isn_lst, q_isn_tup, q_and, q_or, q_and1, q_or1, q_and2, q_or2, q_kand, q_kor, q_not, q_not1, notR_ok, q_ite, q_ite1, q_tup, q_lst, q_new, q_new1, q_idx, q_idx1, q_idx2, ixR_ok, q_sli, q_sli1, q_sli2, q_sli3, sliR_scr, sliR_lst, q_onone, q_osome, q_os, q_call, q_callk, q_callk1, q_callk2, permR_ok, q_bi, q_bi1, biR_ok, q_isi, q_isi1, isiR_ok, q_isiT, q_isiT1, isiTR_ok, q_chain, q_ch1, q_ch2, q_chC, q_ch3, chB_ok, q_revT, q_revT1, q_rev, q_rev1, revR_ok, q_slt, q_slt1, q_slt2, q_slt3, sltR_ok, q_whl, q_wl1, q_wlB, q_wl2n, q_wl2r, q_aug, augR_ok, q_augA, q_augS, b_addT, b_addL, b_addS, c_isB, c_nisB, bi_allB, bi_anyB, bi_strI, bi_strS, q_lrg, q_lrg1, Int.toNat_natCast, q_comp, q_comp1, q_comp2, q_two, q_two1, q_es0, q_es, q_es1, q_es2, q_spl, q_splL, q_splT, q_spl2, own_app, own_all, own0, own1, consO_ok, rdl0, rdl1, consR_ok, q_seq, q_seqL, q_seqT, q_r1, q_r2, q_r21, q_en, q_en1, q_if0, q_if, q_if1, q_asg, q_asg1, nxR_ok, q_asgT, q_asgT1, q_asg2, q_asg21, setAll0, setAll1, setAllP0, setAllP1, q_set, q_set1, q_set2, q_set3, setC_ok, setR_ok, rd_obj, rdC_l, frzR_ok, frzC_ok, q_app1, q_app2, appC_ok, q_ext1, q_ext2, extC_ok, extD_ok, appD_ok, Nat.sub_zero, Int.zero_add, at0, at1, at2, at3, last_get, last_set, enum_len, ix0, ix1, ix2, b_mulT1, b_mulL1, b_mulL, b_mulR, b_mulLL, b_mulRR, bi_min2, bi_max2, comp_ints, Nat.reduceSub, Nat.sub_self, b_mod, c_neIN, c_neNN, c_eqNN, q_r11L, q_r22L, c_neB, c_neT2, c_eqT2, c_mem, nc0, nc1, Int.cast_ofNat_Int, take_set, List.take_length, List.length_map, b_div, b_divL, b_pow, b_powL, q_expr, q_expr1, q_ret, q_ret1, q_retN, q_pass, q_stop, q_ifs, q_ifs1, q_for, q_for1, q_ss0, q_ss, q_ssn, q_ssr, q_frz, q_app, q_ext, fnEnd_rt, fnEnd_nx, fnEnd_exc, go_ok, go_bad, go_exc, tru_tup, rdC_i, fldR_ok, q_fld, q_fld1, mtR_ok, metR_ok, q_mt2, q_meth, q_meth1, q_mk3, q_mk2, mtKR_ok, metKR_ok, q_methk, q_methk1, tabAt_0, tabAt_1, fldN_1, putN_0, putN_1, madeR_ok, kMade_ok, q_mk, q_mk1, mkPR_ok, q_mkk, q_mkk1, q_mkk2, kMadeM_ok, q_mkM, q_mkM1, iscR_ok, q_isc, q_isc1, isc_ins, isc_non, isc_bl, isc_int, isc_str, isc_lst, isc_tup, isc_dct, setFC_ok, q_setF, q_setF1, q_setF2, String.reduceEq,  br_t, br_f, tru_bl, tru_int, tru_non, tru_lst, rd_d, retD_ok, opD_ok, b_add, b_sub, c_lt, c_le, c_gt, c_ge, c_eqI, c_neI, c_eqS, c_neS, i_lst, i_tup, bi_int, bi_intB, bi_lenL, bi_lenT, bi_abs, bind1, bindM, isK, pickAll, wipeE, leave_cut, q_tup1, q_lst1, dispR_ok, Nat.zero_le, Nat.reduceLeDiff, Nat.reduceAdd, Nat.reduceLT, Int.reduceLT, Int.reduceLE, Nat.reducePow, Int.reducePow, Int.reduceToNat, Int.reduceNeg, Int.reduceAdd, Nat.zero_add, Option.bind_some, Option.map_some, Option.bind, Option.map, List.getElem?_cons_zero, List.getElem?_cons_succ, List.set_cons_zero, List.set_cons_succ, List.map_cons, List.map_nil, List.cons_append, List.nil_append, List.length_cons, List.length_nil, List.replicate_succ, List.replicate_zero, decide_true, decide_false, eq_self, and_self, true_and, and_true, and_false, false_and, not_true_eq_false, not_false_eq_true, beq_self_eq_true, Bool.not_true, Bool.not_false, Bool.and_true, Bool.and_false, if_true, if_false, st0, e1, ← hL, ex, e2, ← hm, aw, m1, m2]
  refine fnEnd_sat (P := fun fl s => ∃ lap rest, fl = .rt (.d (.bl true)) ∧ s = [st0 ns lap rest] ∧ 0 ≤ lap ∧ lap ≤ lap2 + 1 ∧ 0 ≤ rest) (go_sat (P := fun fl s => ∃ a, fl = .nx [some (.obj 0), some (.d (.int L)), some (.d (.int m)), some (.d (.tup ((allW L m).map wd))), some (.d (.int ((L ^ m : Nat) : Int))), a, none, none, none, none, none] ∧ s = [st0 ns lap2 rest2]) ?_ ?_) ?_
  · rw [for_def]
    refine for_inv (fun i ρ s => ∃ a, ρ = [some (.obj 0), some (.d (.int L)), some (.d (.int m)), some (.d (.tup ((allW L m).map wd))), some (.d (.int ((L ^ i : Nat) : Int))), a, none, none, none, none, none] ∧ s = [st0 ns lap2 rest2]) _ 0 _ _ ⟨_, rfl, rfl⟩ ?_ ?_
    · rintro j x ρ t _ hx ⟨a, rfl, rfl⟩
      refine ⟨_, rfl, ?_⟩
      simp only [q_lit, q_var, varR_ok, q_bin, q_bin1, q_bin2, q_cmp, q_cmp1, q_cmp2, q_neg, q_neg1, q_isn, q_isn_non, q_isn_bl, q_isn_int, q_isn_str, q_isn_lst, q_isn_tup, q_and, q_or, q_and1, q_or1, q_and2, q_or2, q_kand, q_kor, q_not, q_not1, notR_ok, q_ite, q_ite1, q_tup, q_lst, q_new, q_new1, q_idx, q_idx1, q_idx2, ixR_ok, q_sli, q_sli1, q_sli2, q_sli3, sliR_scr, sliR_lst, q_onone, q_osome, q_os, q_call, q_callk, q_callk1, q_callk2, permR_ok, q_bi, q_bi1, biR_ok, q_isi, q_isi1, isiR_ok, q_isiT, q_isiT1, isiTR_ok, q_chain, q_ch1, q_ch2, q_chC, q_ch3, chB_ok, q_revT, q_revT1, q_rev, q_rev1, revR_ok, q_slt, q_slt1, q_slt2, q_slt3, sltR_ok, q_whl, q_wl1, q_wlB, q_wl2n, q_wl2r, q_aug, augR_ok, q_augA, q_augS, b_addT, b_addL, b_addS, c_isB, c_nisB, bi_allB, bi_anyB, bi_strI, bi_strS, q_lrg, q_lrg1, Int.toNat_natCast, q_comp, q_comp1, q_comp2, q_two, q_two1, q_es0, q_es, q_es1, q_es2, q_spl, q_splL, q_splT, q_spl2, own_app, own_all, own0, own1, consO_ok, rdl0, rdl1, consR_ok, q_seq, q_seqL, q_seqT, q_r1, q_r2, q_r21, q_en, q_en1, q_if0, q_if, q_if1, q_asg, q_asg1, nxR_ok, q_asgT, q_asgT1, q_asg2, q_asg21, setAll0, setAll1, setAllP0, setAllP1, q_set, q_set1, q_set2, q_set3, setC_ok, setR_ok, rd_obj, rdC_l, frzR_ok, frzC_ok, q_app1, q_app2, appC_ok, q_ext1, q_ext2, extC_ok, extD_ok, appD_ok, Nat.sub_zero, Int.zero_add, at0, at1, at2, at3, last_get, last_set, enum_len, ix0, ix1, ix2, b_mulT1, b_mulL1, b_mulL, b_mulR, b_mulLL, b_mulRR, bi_min2, bi_max2, comp_ints, Nat.reduceSub, Nat.sub_self, b_mod, c_neIN, c_neNN, c_eqNN, q_r11L, q_r22L, c_neB, c_neT2, c_eqT2, c_mem, nc0, nc1, Int.cast_ofNat_Int, take_set, List.take_length, List.length_map, b_div, b_divL, b_pow, b_powL, q_expr, q_expr1, q_ret, q_ret1, q_retN, q_pass, q_stop, q_ifs, q_ifs1, q_for, q_for1, q_ss0, q_ss, q_ssn, q_ssr, q_frz, q_app, q_ext, fnEnd_rt, fnEnd_nx, fnEnd_exc, go_ok, go_bad, go_exc, tru_tup, rdC_i, fldR_ok, q_fld, q_fld1, mtR_ok, metR_ok, q_mt2, q_meth, q_meth1, q_mk3, q_mk2, mtKR_ok, metKR_ok, q_methk, q_methk1, tabAt_0, tabAt_1, fldN_1, putN_0, putN_1, madeR_ok, kMade_ok, q_mk, q_mk1, mkPR_ok, q_mkk, q_mkk1, q_mkk2, kMadeM_ok, q_mkM, q_mkM1, iscR_ok, q_isc, q_isc1, isc_ins, isc_non, isc_bl, isc_int, isc_str, isc_lst, isc_tup, isc_dct, setFC_ok, q_setF, q_setF1, q_setF2, String.reduceEq,  br_t, br_f, tru_bl, tru_int, tru_non, tru_lst, rd_d, retD_ok, opD_ok, b_add, b_sub, c_lt, c_le, c_gt, c_ge, c_eqI, c_neI, c_eqS, c_neS, i_lst, i_tup, bi_int, bi_intB, bi_lenL, bi_lenT, bi_abs, bind1, bindM, isK, pickAll, wipeE, leave_cut, q_tup1, q_lst1, dispR_ok, Nat.zero_le, Nat.reduceLeDiff, Nat.reduceAdd, Nat.reduceLT, Int.reduceLT, Int.reduceLE, Nat.reducePow, Int.reducePow, Int.reduceToNat, Int.reduceNeg, Int.reduceAdd, Nat.zero_add, Option.bind_some, Option.map_some, Option.bind, Option.map, List.getElem?_cons_zero, List.getElem?_cons_succ, List.set_cons_zero, List.set_cons_succ, List.map_cons, List.map_nil, List.cons_append, List.nil_append, List.length_cons, List.length_nil, List.replicate_succ, List.replicate_zero, decide_true, decide_false, eq_self, and_self, true_and, and_true, and_false, false_and, not_true_eq_false, not_false_eq_true, beq_self_eq_true, Bool.not_true, Bool.not_false, Bool.and_true, Bool.and_false, if_true, if_false, l1, l2]
      exact sat_ok ⟨_, by rw [Nat.pow_succ, Int.natCast_mul], rfl⟩
    · rintro ρ t ⟨a, rfl, rfl⟩
      rw [rng_len, Nat.zero_add]
      exact ⟨a, rfl, rfl⟩
  · rintro fl s ⟨a, rfl, rfl⟩
    have b1 : (-1000000000000 : Int) < ((L ^ m : Nat) : Int) := by omega
    have b2 : ((L ^ m : Nat) : Int) < 1000000000000 := by omega
    simp only [q_lit, q_var, varR_ok, q_bin, q_bin1, q_bin2, q_cmp, q_cmp1, q_cmp2, q_neg, q_neg1, q_isn, q_isn_non, q_isn_bl, q_isn_int, q_isn_str, q_isn_lst, q_isn_tup, q_and, q_or, q_and1, q_or1, q_and2, q_or2, q_kand, q_kor, q_not, q_not1, notR_ok, q_ite, q_ite1, q_tup, q_lst, q_new, q_new1, q_idx, q_idx1, q_idx2, ixR_ok, q_sli, q_sli1, q_sli2, q_sli3, sliR_scr, sliR_lst, q_onone, q_osome, q_os, q_call, q_callk, q_callk1, q_callk2, permR_ok, q_bi, q_bi1, biR_ok, q_isi, q_isi1, isiR_ok, q_isiT, q_isiT1, isiTR_ok, q_chain, q_ch1, q_ch2, q_chC, q_ch3, chB_ok, q_revT, q_revT1, q_rev, q_rev1, revR_ok, q_slt, q_slt1, q_slt2, q_slt3, sltR_ok, q_whl, q_wl1, q_wlB, q_wl2n, q_wl2r, q_aug, augR_ok, q_augA, q_augS, b_addT, b_addL, b_addS, c_isB, c_nisB, bi_allB, bi_anyB, bi_strI, bi_strS, q_lrg, q_lrg1, Int.toNat_natCast, q_comp, q_comp1, q_comp2, q_two, q_two1, q_es0, q_es, q_es1, q_es2, q_spl, q_splL, q_splT, q_spl2, own_app, own_all, own0, own1, consO_ok, rdl0, rdl1, consR_ok, q_seq, q_seqL, q_seqT, q_r1, q_r2, q_r21, q_en, q_en1, q_if0, q_if, q_if1, q_asg, q_asg1, nxR_ok, q_asgT, q_asgT1, q_asg2, q_asg21, setAll0, setAll1, setAllP0, setAllP1, q_set, q_set1, q_set2, q_set3, setC_ok, setR_ok, rd_obj, rdC_l, frzR_ok, frzC_ok, q_app1, q_app2, appC_ok, q_ext1, q_ext2, extC_ok, extD_ok, appD_ok, Nat.sub_zero, Int.zero_add, at0, at1, at2, at3, last_get, last_set, enum_len, ix0, ix1, ix2, b_mulT1, b_mulL1, b_mulL, b_mulR, b_mulLL, b_mulRR, bi_min2, bi_max2, comp_ints, Nat.reduceSub, Nat.sub_self, b_mod, c_neIN, c_neNN, c_eqNN, q_r11L, q_r22L, c_neB, c_neT2, c_eqT2, c_mem, nc0, nc1, Int.cast_ofNat_Int, take_set, List.take_length, List.length_map, b_div, b_divL, b_pow, b_powL, q_expr, q_expr1, q_ret, q_ret1, q_retN, q_pass, q_stop, q_ifs, q_ifs1, q_for, q_for1, q_ss0, q_ss, q_ssn, q_ssr, q_frz, q_app, q_ext, fnEnd_rt, fnEnd_nx, fnEnd_exc, go_ok, go_bad, go_exc, tru_tup, rdC_i, fldR_ok, q_fld, q_fld1, mtR_ok, metR_ok, q_mt2, q_meth, q_meth1, q_mk3, q_mk2, mtKR_ok, metKR_ok, q_methk, q_methk1, tabAt_0, tabAt_1, fldN_1, putN_0, putN_1, madeR_ok, kMade_ok, q_mk, q_mk1, mkPR_ok, q_mkk, q_mkk1, q_mkk2, kMadeM_ok, q_mkM, q_mkM1, iscR_ok, q_isc, q_isc1, isc_ins, isc_non, isc_bl, isc_int, isc_str, isc_lst, isc_tup, isc_dct, setFC_ok, q_setF, q_setF1, q_setF2, String.reduceEq,  br_t, br_f, tru_bl, tru_int, tru_non, tru_lst, rd_d, retD_ok, opD_ok, b_add, b_sub, c_lt, c_le, c_gt, c_ge, c_eqI, c_neI, c_eqS, c_neS, i_lst, i_tup, bi_int, bi_intB, bi_lenL, bi_lenT, bi_abs, bind1, bindM, isK, pickAll, wipeE, leave_cut, q_tup1, q_lst1, dispR_ok, Nat.zero_le, Nat.reduceLeDiff, Nat.reduceAdd, Nat.reduceLT, Int.reduceLT, Int.reduceLE, Nat.reducePow, Int.reducePow, Int.reduceToNat, Int.reduceNeg, Int.reduceAdd, Nat.zero_add, Option.bind_some, Option.map_some, Option.bind, Option.map, List.getElem?_cons_zero, List.getElem?_cons_succ, List.set_cons_zero, List.set_cons_succ, List.map_cons, List.map_nil, List.cons_append, List.nil_append, List.length_cons, List.length_nil, List.replicate_succ, List.replicate_zero, decide_true, decide_false, eq_self, and_self, true_and, and_true, and_false, false_and, not_true_eq_false, not_false_eq_true, beq_self_eq_true, Bool.not_true, Bool.not_false, Bool.and_true, Bool.and_false, if_true, if_false, b1, b2]
    rw [comp_one (figD L m) (by rw [rng_len]; omega) fun x hx => ?_]
    rotate_left
    · obtain ⟨v, hv, rfl⟩ := rng_mem hx
      have f := fun s => figs_ok (n + 6) L m v s (by omega) (by omega) (by omega)
      simp only [q_lit, q_var, varR_ok, q_bin, q_bin1, q_bin2, q_cmp, q_cmp1, q_cmp2, q_neg, q_neg1, q_isn, q_isn_non, q_isn_bl, q_isn_int, q_isn_str, q_isn_lst, q_isn_tup, q_and, q_or, q_and1, q_or1, q_and2, q_or2, q_kand, q_kor, q_not, q_not1, notR_ok, q_ite, q_ite1, q_tup, q_lst, q_new, q_new1, q_idx, q_idx1, q_idx2, ixR_ok, q_sli, q_sli1, q_sli2, q_sli3, sliR_scr, sliR_lst, q_onone, q_osome, q_os, q_call, q_callk, q_callk1, q_callk2, permR_ok, q_bi, q_bi1, biR_ok, q_isi, q_isi1, isiR_ok, q_isiT, q_isiT1, isiTR_ok, q_chain, q_ch1, q_ch2, q_chC, q_ch3, chB_ok, q_revT, q_revT1, q_rev, q_rev1, revR_ok, q_slt, q_slt1, q_slt2, q_slt3, sltR_ok, q_whl, q_wl1, q_wlB, q_wl2n, q_wl2r, q_aug, augR_ok, q_augA, q_augS, b_addT, b_addL, b_addS, c_isB, c_nisB, bi_allB, bi_anyB, bi_strI, bi_strS, q_lrg, q_lrg1, Int.toNat_natCast, q_comp, q_comp1, q_comp2, q_two, q_two1, q_es0, q_es, q_es1, q_es2, q_spl, q_splL, q_splT, q_spl2, own_app, own_all, own0, own1, consO_ok, rdl0, rdl1, consR_ok, q_seq, q_seqL, q_seqT, q_r1, q_r2, q_r21, q_en, q_en1, q_if0, q_if, q_if1, q_asg, q_asg1, nxR_ok, q_asgT, q_asgT1, q_asg2, q_asg21, setAll0, setAll1, setAllP0, setAllP1, q_set, q_set1, q_set2, q_set3, setC_ok, setR_ok, rd_obj, rdC_l, frzR_ok, frzC_ok, q_app1, q_app2, appC_ok, q_ext1, q_ext2, extC_ok, extD_ok, appD_ok, Nat.sub_zero, Int.zero_add, at0, at1, at2, at3, last_get, last_set, enum_len, ix0, ix1, ix2, b_mulT1, b_mulL1, b_mulL, b_mulR, b_mulLL, b_mulRR, bi_min2, bi_max2, comp_ints, Nat.reduceSub, Nat.sub_self, b_mod, c_neIN, c_neNN, c_eqNN, q_r11L, q_r22L, c_neB, c_neT2, c_eqT2, c_mem, nc0, nc1, Int.cast_ofNat_Int, take_set, List.take_length, List.length_map, b_div, b_divL, b_pow, b_powL, q_expr, q_expr1, q_ret, q_ret1, q_retN, q_pass, q_stop, q_ifs, q_ifs1, q_for, q_for1, q_ss0, q_ss, q_ssn, q_ssr, q_frz, q_app, q_ext, fnEnd_rt, fnEnd_nx, fnEnd_exc, go_ok, go_bad, go_exc, tru_tup, rdC_i, fldR_ok, q_fld, q_fld1, mtR_ok, metR_ok, q_mt2, q_meth, q_meth1, q_mk3, q_mk2, mtKR_ok, metKR_ok, q_methk, q_methk1, tabAt_0, tabAt_1, fldN_1, putN_0, putN_1, madeR_ok, kMade_ok, q_mk, q_mk1, mkPR_ok, q_mkk, q_mkk1, q_mkk2, kMadeM_ok, q_mkM, q_mkM1, iscR_ok, q_isc, q_isc1, isc_ins, isc_non, isc_bl, isc_int, isc_str, isc_lst, isc_tup, isc_dct, setFC_ok, q_setF, q_setF1, q_setF2, String.reduceEq,  br_t, br_f, tru_bl, tru_int, tru_non, tru_lst, rd_d, retD_ok, opD_ok, b_add, b_sub, c_lt, c_le, c_gt, c_ge, c_eqI, c_neI, c_eqS, c_neS, i_lst, i_tup, bi_int, bi_intB, bi_lenL, bi_lenT, bi_abs, bind1, bindM, isK, pickAll, wipeE, leave_cut, q_tup1, q_lst1, dispR_ok, Nat.zero_le, Nat.reduceLeDiff, Nat.reduceAdd, Nat.reduceLT, Int.reduceLT, Int.reduceLE, Nat.reducePow, Int.reducePow, Int.reduceToNat, Int.reduceNeg, Int.reduceAdd, Nat.zero_add, Option.bind_some, Option.map_some, Option.bind, Option.map, List.getElem?_cons_zero, List.getElem?_cons_succ, List.set_cons_zero, List.set_cons_succ, List.map_cons, List.map_nil, List.cons_append, List.nil_append, List.length_cons, List.length_nil, List.replicate_succ, List.replicate_zero, decide_true, decide_false, eq_self, and_self, true_and, and_true, and_false, false_and, not_true_eq_false, not_false_eq_true, beq_self_eq_true, Bool.not_true, Bool.not_false, Bool.and_true, Bool.and_false, if_true, if_false, f, figD]
    rw [due_all]
    have hLL : (L : Int) ≤ 200 := by omega
    have hW : ∀ w ∈ allW L m, w.length ≤ m ∧ ∀ x ∈ w, 0 ≤ x ∧ x < (L : Int) := fun w hw => by
      unfold allW at hw
      obtain ⟨v, _, rfl⟩ := List.mem_map.mp hw
      exact ⟨by rw [dig_len]; omega, dig_lt (by omega) m v⟩
    obtain ⟨⟨T, hT⟩, sh⟩ := repr_wds hLL hW (by rw [allW_len]; exact Nat.le_trans (Nat.mul_le_mul big (Nat.le_refl _)) (by omega))
    have pos : 0 < L ^ m := Nat.pow_pos (by omega)
    obtain ⟨r3, lap3, rest3, e3, r30, r31, k7, k8, k9⟩ := draw_ok (n + 6) [st0 ns lap2 rest2] 0 ((L ^ m : Nat) : Int) lap2 rest2 ns rfl (by omega) (div_log (by omega) (by omega)) (by omega) (by omega) k6
    simp only [st0, List.set_cons_zero] at e3
    simp only [q_lit, q_var, varR_ok, q_bin, q_bin1, q_bin2, q_cmp, q_cmp1, q_cmp2, q_neg, q_neg1, q_isn, q_isn_non, q_isn_bl, q_isn_int, q_isn_str, q_isn_lst, q_isn_tup, q_and, q_or, q_and1, q_or1, q_and2, q_or2, q_kand, q_kor, q_not, q_not1, notR_ok, q_ite, q_ite1, q_tup, q_lst, q_new, q_new1, q_idx, q_idx1, q_idx2, ixR_ok, q_sli, q_sli1, q_sli2, q_sli3, sliR_scr, sliR_lst, q_onone, q_osome, q_os, q_call, q_callk, q_callk1, q_callk2, permR_ok, q_bi, q_bi1, biR_ok, q_isi, q_isi1, isiR_ok, q_isiT, q_isiT1, isiTR_ok, q_chain, q_ch1, q_ch2, q_chC, q_ch3, chB_ok, q_revT, q_revT1, q_rev, q_rev1, revR_ok, q_slt, q_slt1, q_slt2, q_slt3, sltR_ok, q_whl, q_wl1, q_wlB, q_wl2n, q_wl2r, q_aug, augR_ok, q_augA, q_augS, b_addT, b_addL, b_addS, c_isB, c_nisB, bi_allB, bi_anyB, bi_strI, bi_strS, q_lrg, q_lrg1, Int.toNat_natCast, q_comp, q_comp1, q_comp2, q_two, q_two1, q_es0, q_es, q_es1, q_es2, q_spl, q_splL, q_splT, q_spl2, own_app, own_all, own0, own1, consO_ok, rdl0, rdl1, consR_ok, q_seq, q_seqL, q_seqT, q_r1, q_r2, q_r21, q_en, q_en1, q_if0, q_if, q_if1, q_asg, q_asg1, nxR_ok, q_asgT, q_asgT1, q_asg2, q_asg21, setAll0, setAll1, setAllP0, setAllP1, q_set, q_set1, q_set2, q_set3, setC_ok, setR_ok, rd_obj, rdC_l, frzR_ok, frzC_ok, q_app1, q_app2, appC_ok, q_ext1, q_ext2, extC_ok, extD_ok, appD_ok, Nat.sub_zero, Int.zero_add, at0, at1, at2, at3, last_get, last_set, enum_len, ix0, ix1, ix2, b_mulT1, b_mulL1, b_mulL, b_mulR, b_mulLL, b_mulRR, bi_min2, bi_max2, comp_ints, Nat.reduceSub, Nat.sub_self, b_mod, c_neIN, c_neNN, c_eqNN, q_r11L, q_r22L, c_neB, c_neT2, c_eqT2, c_mem, nc0, nc1, Int.cast_ofNat_Int, take_set, List.take_length, List.length_map, b_div, b_divL, b_pow, b_powL, q_expr, q_expr1, q_ret, q_ret1, q_retN, q_pass, q_stop, q_ifs, q_ifs1, q_for, q_for1, q_ss0, q_ss, q_ssn, q_ssr, q_frz, q_app, q_ext, fnEnd_rt, fnEnd_nx, fnEnd_exc, go_ok, go_bad, go_exc, tru_tup, rdC_i, fldR_ok, q_fld, q_fld1, mtR_ok, metR_ok, q_mt2, q_meth, q_meth1, q_mk3, q_mk2, mtKR_ok, metKR_ok, q_methk, q_methk1, tabAt_0, tabAt_1, fldN_1, putN_0, putN_1, madeR_ok, kMade_ok, q_mk, q_mk1, mkPR_ok, q_mkk, q_mkk1, q_mkk2, kMadeM_ok, q_mkM, q_mkM1, iscR_ok, q_isc, q_isc1, isc_ins, isc_non, isc_bl, isc_int, isc_str, isc_lst, isc_tup, isc_dct, setFC_ok, q_setF, q_setF1, q_setF2, String.reduceEq,  br_t, br_f, tru_bl, tru_int, tru_non, tru_lst, rd_d, retD_ok, opD_ok, b_add, b_sub, c_lt, c_le, c_gt, c_ge, c_eqI, c_neI, c_eqS, c_neS, i_lst, i_tup, bi_int, bi_intB, bi_lenL, bi_lenT, bi_abs, bind1, bindM, isK, pickAll, wipeE, leave_cut, q_tup1, q_lst1, dispR_ok, Nat.zero_le, Nat.reduceLeDiff, Nat.reduceAdd, Nat.reduceLT, Int.reduceLT, Int.reduceLE, Nat.reducePow, Int.reducePow, Int.reduceToNat, Int.reduceNeg, Int.reduceAdd, Nat.zero_add, Option.bind_some, Option.map_some, Option.bind, Option.map, List.getElem?_cons_zero, List.getElem?_cons_succ, List.set_cons_zero, List.set_cons_succ, List.map_cons, List.map_nil, List.cons_append, List.nil_append, List.length_cons, List.length_nil, List.replicate_succ, List.replicate_zero, decide_true, decide_false, eq_self, and_self, true_and, and_true, and_false, false_and, not_true_eq_false, not_false_eq_true, beq_self_eq_true, Bool.not_true, Bool.not_false, Bool.and_true, Bool.and_false, if_true, if_false, bi_tupL, bi_repr' hT, c_neTT sh, aw, allW_len, st0, e3]
    refine go_sat (P := fun fl s => ∃ ρ, fl = .nx ρ ∧ s = [st0 ns lap3 rest3]) ?_ ?_
    · rw [for_def]
      refine for_inv (fun i ρ s => ∃ a b c, ρ = [some (.obj 0), some (.d (.int L)), some (.d (.int m)), some (.d (.tup ((allW L m).map wd))), some (.d (.int ((L ^ m : Nat) : Int))), a, some (.d (.tup ((allW L m).map wd))), some (.d (.int r3)), b, c, none] ∧ s = [st0 ns lap3 rest3]) _ 0 _ _ ⟨_, _, _, rfl, rfl⟩ ?_ ?_
      · rintro j x ρ t _ hx ⟨a, b, c, rfl, rfl⟩
        obtain ⟨v, rfl, hv⟩ : ∃ v : Nat, x = .int v ∧ v < L ^ m := by
          have hx := List.mem_of_getElem? hx
          simp only [List.mem_cons, List.not_mem_nil, or_false] at hx
          rcases hx with rfl | rfl | rfl
          · exact ⟨r3.toNat, by rw [show ((r3.toNat : Nat) : Int) = r3 by omega], by omega⟩
          · exact ⟨L ^ m - 1, by congr 1; omega, by omega⟩
          · exact ⟨0, rfl, pos⟩
        refine ⟨_, rfl, ?_⟩
        have gl : ∀ u : Nat, u < L ^ m → L2.atI ((allW L m).map wd) (u : Int) = some (wd (dig L m u)) := fun u hu => by
          rw [atI_nn (by omega) (by rw [List.length_map, allW_len]; omega), List.getElem?_map, Int.toNat_natCast]
          unfold allW
          rw [List.getElem?_map, List.getElem?_range hu]; rfl
        have okw : okW L (dig L m v) := ⟨dig_lt (by omega) m v, by rw [dig_len]; omega, by rw [dig_len]; omega⟩
        have nw := fun s => nextw_ok (n + 1) (dig L m v) L s _ (.inr rfl) (by omega) (by omega) okw (by rw [dig_len]; omega)
        have nw2 := fun s => nextw_ok (n + 1) (dig L m v) L s _ (.inl rfl) (by omega) (by omega) okw (by rw [dig_len]; omega)
        have nok := nxt_okW (by omega) okw
        obtain ⟨⟨T2, hT2⟩, _⟩ := repr_wd hLL nok.1 (by rw [dig_len] at nok; omega)
        have sh2 := shaped_wd (nxt L (dig L m v))
        have gv := gl v hv
        by_cases hv2 : v + 1 < L ^ m
        · have gv2 := gl (v + 1) hv2
          rw [← nxt_dig (by omega) hv2] at gv2
          have c1 : (v : Int) + 1 < ((L ^ m : Nat) : Int) := by omega
          rw [show ((v + 1 : Nat) : Int) = (v : Int) + 1 by omega] at gv2
          simp only [wd] at gv gv2 nw nw2 hT2 sh2
          simp only [q_lit, q_var, varR_ok, q_bin, q_bin1, q_bin2, q_cmp, q_cmp1, q_cmp2, q_neg, q_neg1, q_isn, q_isn_non, q_isn_bl, q_isn_int, q_isn_str, q_isn_lst, q_isn_tup, q_and, q_or, q_and1, q_or1, q_and2, q_or2, q_kand, q_kor, q_not, q_not1, notR_ok, q_ite, q_ite1, q_tup, q_lst, q_new, q_new1, q_idx, q_idx1, q_idx2, ixR_ok, q_sli, q_sli1, q_sli2, q_sli3, sliR_scr, sliR_lst, q_onone, q_osome, q_os, q_call, q_callk, q_callk1, q_callk2, permR_ok, q_bi, q_bi1, biR_ok, q_isi, q_isi1, isiR_ok, q_isiT, q_isiT1, isiTR_ok, q_chain, q_ch1, q_ch2, q_chC, q_ch3, chB_ok, q_revT, q_revT1, q_rev, q_rev1, revR_ok, q_slt, q_slt1, q_slt2, q_slt3, sltR_ok, q_whl, q_wl1, q_wlB, q_wl2n, q_wl2r, q_aug, augR_ok, q_augA, q_augS, b_addT, b_addL, b_addS, c_isB, c_nisB, bi_allB, bi_anyB, bi_strI, bi_strS, q_lrg, q_lrg1, Int.toNat_natCast, q_comp, q_comp1, q_comp2, q_two, q_two1, q_es0, q_es, q_es1, q_es2, q_spl, q_splL, q_splT, q_spl2, own_app, own_all, own0, own1, consO_ok, rdl0, rdl1, consR_ok, q_seq, q_seqL, q_seqT, q_r1, q_r2, q_r21, q_en, q_en1, q_if0, q_if, q_if1, q_asg, q_asg1, nxR_ok, q_asgT, q_asgT1, q_asg2, q_asg21, setAll0, setAll1, setAllP0, setAllP1, q_set, q_set1, q_set2, q_set3, setC_ok, setR_ok, rd_obj, rdC_l, frzR_ok, frzC_ok, q_app1, q_app2, appC_ok, q_ext1, q_ext2, extC_ok, extD_ok, appD_ok, Nat.sub_zero, Int.zero_add, at0, at1, at2, at3, last_get, last_set, enum_len, ix0, ix1, ix2, b_mulT1, b_mulL1, b_mulL, b_mulR, b_mulLL, b_mulRR, bi_min2, bi_max2, comp_ints, Nat.reduceSub, Nat.sub_self, b_mod, c_neIN, c_neNN, c_eqNN, q_r11L, q_r22L, c_neB, c_neT2, c_eqT2, c_mem, nc0, nc1, Int.cast_ofNat_Int, take_set, List.take_length, List.length_map, b_div, b_divL, b_pow, b_powL, q_expr, q_expr1, q_ret, q_ret1, q_retN, q_pass, q_stop, q_ifs, q_ifs1, q_for, q_for1, q_ss0, q_ss, q_ssn, q_ssr, q_frz, q_app, q_ext, fnEnd_rt, fnEnd_nx, fnEnd_exc, go_ok, go_bad, go_exc, tru_tup, rdC_i, fldR_ok, q_fld, q_fld1, mtR_ok, metR_ok, q_mt2, q_meth, q_meth1, q_mk3, q_mk2, mtKR_ok, metKR_ok, q_methk, q_methk1, tabAt_0, tabAt_1, fldN_1, putN_0, putN_1, madeR_ok, kMade_ok, q_mk, q_mk1, mkPR_ok, q_mkk, q_mkk1, q_mkk2, kMadeM_ok, q_mkM, q_mkM1, iscR_ok, q_isc, q_isc1, isc_ins, isc_non, isc_bl, isc_int, isc_str, isc_lst, isc_tup, isc_dct, setFC_ok, q_setF, q_setF1, q_setF2, String.reduceEq,  br_t, br_f, tru_bl, tru_int, tru_non, tru_lst, rd_d, retD_ok, opD_ok, b_add, b_sub, c_lt, c_le, c_gt, c_ge, c_eqI, c_neI, c_eqS, c_neS, i_lst, i_tup, bi_int, bi_intB, bi_lenL, bi_lenT, bi_abs, bind1, bindM, isK, pickAll, wipeE, leave_cut, q_tup1, q_lst1, dispR_ok, Nat.zero_le, Nat.reduceLeDiff, Nat.reduceAdd, Nat.reduceLT, Int.reduceLT, Int.reduceLE, Nat.reducePow, Int.reducePow, Int.reduceToNat, Int.reduceNeg, Int.reduceAdd, Nat.zero_add, Option.bind_some, Option.map_some, Option.bind, Option.map, List.getElem?_cons_zero, List.getElem?_cons_succ, List.set_cons_zero, List.set_cons_succ, List.map_cons, List.map_nil, List.cons_append, List.nil_append, List.length_cons, List.length_nil, List.replicate_succ, List.replicate_zero, decide_true, decide_false, eq_self, and_self, true_and, and_true, and_false, false_and, not_true_eq_false, not_false_eq_true, beq_self_eq_true, Bool.not_true, Bool.not_false, Bool.and_true, Bool.and_false, if_true, if_false, allW_len, c1, gv, gv2, bi_lisT, nw, nw2, bi_repr' hT2, c_neTT sh2, st0]
          exact sat_ok ⟨_, _, _, rfl, rfl⟩
        · have top := nxt_top (L := L) (m := m) (v := v) (by omega) (by omega)
          have c1 : ¬ (v : Int) + 1 < ((L ^ m : Nat) : Int) := by omega
          have b3 : (-1000 : Int) ≤ (m : Int) + 1 := by omega
          have b4 : (m : Int) + 1 ≤ 1000 := by omega
          have b5 : ((m : Int) + 1).toNat = m + 1 := by omega
          rw [top] at nw nw2 hT2 sh2
          simp only [wd, List.map_replicate, List.replicate_succ, List.map_cons] at gv nw nw2 hT2 sh2
          simp only [q_lit, q_var, varR_ok, q_bin, q_bin1, q_bin2, q_cmp, q_cmp1, q_cmp2, q_neg, q_neg1, q_isn, q_isn_non, q_isn_bl, q_isn_int, q_isn_str, q_isn_lst, q_isn_tup, q_and, q_or, q_and1, q_or1, q_and2, q_or2, q_kand, q_kor, q_not, q_not1, notR_ok, q_ite, q_ite1, q_tup, q_lst, q_new, q_new1, q_idx, q_idx1, q_idx2, ixR_ok, q_sli, q_sli1, q_sli2, q_sli3, sliR_scr, sliR_lst, q_onone, q_osome, q_os, q_call, q_callk, q_callk1, q_callk2, permR_ok, q_bi, q_bi1, biR_ok, q_isi, q_isi1, isiR_ok, q_isiT, q_isiT1, isiTR_ok, q_chain, q_ch1, q_ch2, q_chC, q_ch3, chB_ok, q_revT, q_revT1, q_rev, q_rev1, revR_ok, q_slt, q_slt1, q_slt2, q_slt3, sltR_ok, q_whl, q_wl1, q_wlB, q_wl2n, q_wl2r, q_aug, augR_ok, q_augA, q_augS, b_addT, b_addL, b_addS, c_isB, c_nisB, bi_allB, bi_anyB, bi_strI, bi_strS, q_lrg, q_lrg1, Int.toNat_natCast, q_comp, q_comp1, q_comp2, q_two, q_two1, q_es0, q_es, q_es1, q_es2, q_spl, q_splL, q_splT, q_spl2, own_app, own_all, own0, own1, consO_ok, rdl0, rdl1, consR_ok, q_seq, q_seqL, q_seqT, q_r1, q_r2, q_r21, q_en, q_en1, q_if0, q_if, q_if1, q_asg, q_asg1, nxR_ok, q_asgT, q_asgT1, q_asg2, q_asg21, setAll0, setAll1, setAllP0, setAllP1, q_set, q_set1, q_set2, q_set3, setC_ok, setR_ok, rd_obj, rdC_l, frzR_ok, frzC_ok, q_app1, q_app2, appC_ok, q_ext1, q_ext2, extC_ok, extD_ok, appD_ok, Nat.sub_zero, Int.zero_add, at0, at1, at2, at3, last_get, last_set, enum_len, ix0, ix1, ix2, b_mulT1, b_mulL1, b_mulL, b_mulR, b_mulLL, b_mulRR, bi_min2, bi_max2, comp_ints, Nat.reduceSub, Nat.sub_self, b_mod, c_neIN, c_neNN, c_eqNN, q_r11L, q_r22L, c_neB, c_neT2, c_eqT2, c_mem, nc0, nc1, Int.cast_ofNat_Int, take_set, List.take_length, List.length_map, b_div, b_divL, b_pow, b_powL, q_expr, q_expr1, q_ret, q_ret1, q_retN, q_pass, q_stop, q_ifs, q_ifs1, q_for, q_for1, q_ss0, q_ss, q_ssn, q_ssr, q_frz, q_app, q_ext, fnEnd_rt, fnEnd_nx, fnEnd_exc, go_ok, go_bad, go_exc, tru_tup, rdC_i, fldR_ok, q_fld, q_fld1, mtR_ok, metR_ok, q_mt2, q_meth, q_meth1, q_mk3, q_mk2, mtKR_ok, metKR_ok, q_methk, q_methk1, tabAt_0, tabAt_1, fldN_1, putN_0, putN_1, madeR_ok, kMade_ok, q_mk, q_mk1, mkPR_ok, q_mkk, q_mkk1, q_mkk2, kMadeM_ok, q_mkM, q_mkM1, iscR_ok, q_isc, q_isc1, isc_ins, isc_non, isc_bl, isc_int, isc_str, isc_lst, isc_tup, isc_dct, setFC_ok, q_setF, q_setF1, q_setF2, String.reduceEq,  br_t, br_f, tru_bl, tru_int, tru_non, tru_lst, rd_d, retD_ok, opD_ok, b_add, b_sub, c_lt, c_le, c_gt, c_ge, c_eqI, c_neI, c_eqS, c_neS, i_lst, i_tup, bi_int, bi_intB, bi_lenL, bi_lenT, bi_abs, bind1, bindM, isK, pickAll, wipeE, leave_cut, q_tup1, q_lst1, dispR_ok, Nat.zero_le, Nat.reduceLeDiff, Nat.reduceAdd, Nat.reduceLT, Int.reduceLT, Int.reduceLE, Nat.reducePow, Int.reducePow, Int.reduceToNat, Int.reduceNeg, Int.reduceAdd, Nat.zero_add, Option.bind_some, Option.map_some, Option.bind, Option.map, List.getElem?_cons_zero, List.getElem?_cons_succ, List.set_cons_zero, List.set_cons_succ, List.map_cons, List.map_nil, List.cons_append, List.nil_append, List.length_cons, List.length_nil, List.replicate_succ, List.replicate_zero, decide_true, decide_false, eq_self, and_self, true_and, and_true, and_false, false_and, not_true_eq_false, not_false_eq_true, beq_self_eq_true, Bool.not_true, Bool.not_false, Bool.and_true, Bool.and_false, if_true, if_false, allW_len, c1, gv, bi_lisT, nw, nw2, b3, b4, b5, bi_repr' hT2, c_neTT sh2, st0]
          refine sat_ok ?_
          exact ⟨_, _, _, rfl, rfl⟩
      · rintro ρ t ⟨a, b, c, rfl, rfl⟩
        exact ⟨_, rfl, rfl⟩
    · rintro fl s ⟨ρ, rfl, rfl⟩
      simp only [q_lit, q_var, varR_ok, q_bin, q_bin1, q_bin2, q_cmp, q_cmp1, q_cmp2, q_neg, q_neg1, q_isn, q_isn_non, q_isn_bl, q_isn_int, q_isn_str, q_isn_lst, q_isn_tup, q_and, q_or, q_and1, q_or1, q_and2, q_or2, q_kand, q_kor, q_not, q_not1, notR_ok, q_ite, q_ite1, q_tup, q_lst, q_new, q_new1, q_idx, q_idx1, q_idx2, ixR_ok, q_sli, q_sli1, q_sli2, q_sli3, sliR_scr, sliR_lst, q_onone, q_osome, q_os, q_call, q_callk, q_callk1, q_callk2, permR_ok, q_bi, q_bi1, biR_ok, q_isi, q_isi1, isiR_ok, q_isiT, q_isiT1, isiTR_ok, q_chain, q_ch1, q_ch2, q_chC, q_ch3, chB_ok, q_revT, q_revT1, q_rev, q_rev1, revR_ok, q_slt, q_slt1, q_slt2, q_slt3, sltR_ok, q_whl, q_wl1, q_wlB, q_wl2n, q_wl2r, q_aug, augR_ok, q_augA, q_augS, b_addT, b_addL, b_addS, c_isB, c_nisB, bi_allB, bi_anyB, bi_strI, bi_strS, q_lrg, q_lrg1, Int.toNat_natCast, q_comp, q_comp1, q_comp2, q_two, q_two1, q_es0, q_es, q_es1, q_es2, q_spl, q_splL, q_splT, q_spl2, own_app, own_all, own0, own1, consO_ok, rdl0, rdl1, consR_ok, q_seq, q_seqL, q_seqT, q_r1, q_r2, q_r21, q_en, q_en1, q_if0, q_if, q_if1, q_asg, q_asg1, nxR_ok, q_asgT, q_asgT1, q_asg2, q_asg21, setAll0, setAll1, setAllP0, setAllP1, q_set, q_set1, q_set2, q_set3, setC_ok, setR_ok, rd_obj, rdC_l, frzR_ok, frzC_ok, q_app1, q_app2, appC_ok, q_ext1, q_ext2, extC_ok, extD_ok, appD_ok, Nat.sub_zero, Int.zero_add, at0, at1, at2, at3, last_get, last_set, enum_len, ix0, ix1, ix2, b_mulT1, b_mulL1, b_mulL, b_mulR, b_mulLL, b_mulRR, bi_min2, bi_max2, comp_ints, Nat.reduceSub, Nat.sub_self, b_mod, c_neIN, c_neNN, c_eqNN, q_r11L, q_r22L, c_neB, c_neT2, c_eqT2, c_mem, nc0, nc1, Int.cast_ofNat_Int, take_set, List.take_length, List.length_map, b_div, b_divL, b_pow, b_powL, q_expr, q_expr1, q_ret, q_ret1, q_retN, q_pass, q_stop, q_ifs, q_ifs1, q_for, q_for1, q_ss0, q_ss, q_ssn, q_ssr, q_frz, q_app, q_ext, fnEnd_rt, fnEnd_nx, fnEnd_exc, go_ok, go_bad, go_exc, tru_tup, rdC_i, fldR_ok, q_fld, q_fld1, mtR_ok, metR_ok, q_mt2, q_meth, q_meth1, q_mk3, q_mk2, mtKR_ok, metKR_ok, q_methk, q_methk1, tabAt_0, tabAt_1, fldN_1, putN_0, putN_1, madeR_ok, kMade_ok, q_mk, q_mk1, mkPR_ok, q_mkk, q_mkk1, q_mkk2, kMadeM_ok, q_mkM, q_mkM1, iscR_ok, q_isc, q_isc1, isc_ins, isc_non, isc_bl, isc_int, isc_str, isc_lst, isc_tup, isc_dct, setFC_ok, q_setF, q_setF1, q_setF2, String.reduceEq,  br_t, br_f, tru_bl, tru_int, tru_non, tru_lst, rd_d, retD_ok, opD_ok, b_add, b_sub, c_lt, c_le, c_gt, c_ge, c_eqI, c_neI, c_eqS, c_neS, i_lst, i_tup, bi_int, bi_intB, bi_lenL, bi_lenT, bi_abs, bind1, bindM, isK, pickAll, wipeE, leave_cut, q_tup1, q_lst1, dispR_ok, Nat.zero_le, Nat.reduceLeDiff, Nat.reduceAdd, Nat.reduceLT, Int.reduceLT, Int.reduceLE, Nat.reducePow, Int.reducePow, Int.reduceToNat, Int.reduceNeg, Int.reduceAdd, Nat.zero_add, Option.bind_some, Option.map_some, Option.bind, Option.map, List.getElem?_cons_zero, List.getElem?_cons_succ, List.set_cons_zero, List.set_cons_succ, List.map_cons, List.map_nil, List.cons_append, List.nil_append, List.length_cons, List.length_nil, List.replicate_succ, List.replicate_zero, decide_true, decide_false, eq_self, and_self, true_and, and_true, and_false, false_and, not_true_eq_false, not_false_eq_true, beq_self_eq_true, Bool.not_true, Bool.not_false, Bool.and_true, Bool.and_false, if_true, if_false]
      exact sat_ok ⟨lap3, rest3, rfl, rfl, by omega, by omega, k9⟩
  · rintro fl s ⟨lap', rest', rfl, rfl, g1, g2, g3⟩
    simp only [q_lit, q_var, varR_ok, q_bin, q_bin1, q_bin2, q_cmp, q_cmp1, q_cmp2, q_neg, q_neg1, q_isn, q_isn_non, q_isn_bl, q_isn_int, q_isn_str, q_isn_lst, q_isn_tup, q_and, q_or, q_and1, q_or1, q_and2, q_or2, q_kand, q_kor, q_not, q_not1, notR_ok, q_ite, q_ite1, q_tup, q_lst, q_new, q_new1, q_idx, q_idx1, q_idx2, ixR_ok, q_sli, q_sli1, q_sli2, q_sli3, sliR_scr, sliR_lst, q_onone, q_osome, q_os, q_call, q_callk, q_callk1, q_callk2, permR_ok, q_bi, q_bi1, biR_ok, q_isi, q_isi1, isiR_ok, q_isiT, q_isiT1, isiTR_ok, q_chain, q_ch1, q_ch2, q_chC, q_ch3, chB_ok, q_revT, q_revT1, q_rev, q_rev1, revR_ok, q_slt, q_slt1, q_slt2, q_slt3, sltR_ok, q_whl, q_wl1, q_wlB, q_wl2n, q_wl2r, q_aug, augR_ok, q_augA, q_augS, b_addT, b_addL, b_addS, c_isB, c_nisB, bi_allB, bi_anyB, bi_strI, bi_strS, q_lrg, q_lrg1, Int.toNat_natCast, q_comp, q_comp1, q_comp2, q_two, q_two1, q_es0, q_es, q_es1, q_es2, q_spl, q_splL, q_splT, q_spl2, own_app, own_all, own0, own1, consO_ok, rdl0, rdl1, consR_ok, q_seq, q_seqL, q_seqT, q_r1, q_r2, q_r21, q_en, q_en1, q_if0, q_if, q_if1, q_asg, q_asg1, nxR_ok, q_asgT, q_asgT1, q_asg2, q_asg21, setAll0, setAll1, setAllP0, setAllP1, q_set, q_set1, q_set2, q_set3, setC_ok, setR_ok, rd_obj, rdC_l, frzR_ok, frzC_ok, q_app1, q_app2, appC_ok, q_ext1, q_ext2, extC_ok, extD_ok, appD_ok, Nat.sub_zero, Int.zero_add, at0, at1, at2, at3, last_get, last_set, enum_len, ix0, ix1, ix2, b_mulT1, b_mulL1, b_mulL, b_mulR, b_mulLL, b_mulRR, bi_min2, bi_max2, comp_ints, Nat.reduceSub, Nat.sub_self, b_mod, c_neIN, c_neNN, c_eqNN, q_r11L, q_r22L, c_neB, c_neT2, c_eqT2, c_mem, nc0, nc1, Int.cast_ofNat_Int, take_set, List.take_length, List.length_map, b_div, b_divL, b_pow, b_powL, q_expr, q_expr1, q_ret, q_ret1, q_retN, q_pass, q_stop, q_ifs, q_ifs1, q_for, q_for1, q_ss0, q_ss, q_ssn, q_ssr, q_frz, q_app, q_ext, fnEnd_rt, fnEnd_nx, fnEnd_exc, go_ok, go_bad, go_exc, tru_tup, rdC_i, fldR_ok, q_fld, q_fld1, mtR_ok, metR_ok, q_mt2, q_meth, q_meth1, q_mk3, q_mk2, mtKR_ok, metKR_ok, q_methk, q_methk1, tabAt_0, tabAt_1, fldN_1, putN_0, putN_1, madeR_ok, kMade_ok, q_mk, q_mk1, mkPR_ok, q_mkk, q_mkk1, q_mkk2, kMadeM_ok, q_mkM, q_mkM1, iscR_ok, q_isc, q_isc1, isc_ins, isc_non, isc_bl, isc_int, isc_str, isc_lst, isc_tup, isc_dct, setFC_ok, q_setF, q_setF1, q_setF2, String.reduceEq,  br_t, br_f, tru_bl, tru_int, tru_non, tru_lst, rd_d, retD_ok, opD_ok, b_add, b_sub, c_lt, c_le, c_gt, c_ge, c_eqI, c_neI, c_eqS, c_neS, i_lst, i_tup, bi_int, bi_intB, bi_lenL, bi_lenT, bi_abs, bind1, bindM, isK, pickAll, wipeE, leave_cut, q_tup1, q_lst1, dispR_ok, Nat.zero_le, Nat.reduceLeDiff, Nat.reduceAdd, Nat.reduceLT, Int.reduceLT, Int.reduceLE, Nat.reducePow, Int.reducePow, Int.reduceToNat, Int.reduceNeg, Int.reduceAdd, Nat.zero_add, Option.bind_some, Option.map_some, Option.bind, Option.map, List.getElem?_cons_zero, List.getElem?_cons_succ, List.set_cons_zero, List.set_cons_succ, List.map_cons, List.map_nil, List.cons_append, List.nil_append, List.length_cons, List.length_nil, List.replicate_succ, List.replicate_zero, decide_true, decide_false, eq_self, and_self, true_and, and_true, and_false, false_and, not_true_eq_false, not_false_eq_true, beq_self_eq_true, Bool.not_true, Bool.not_false, Bool.and_true, Bool.and_false, if_true, if_false]
    exact sat_ok ⟨lap', rest', rfl, rfl, g1, by omega, g3⟩
/-! one word -/
def cO : E := .and (.cons (.cmp .ge (.var 8) (.lit (.int 0))) (.cons (.cmp .eq (.idx (.var 6) (.var 8)) (.bin .sub (.var 1) (.lit (.int 1)))) .nil))
def bO : Ss := .cons (.setI (.var 6) (.var 8) (.lit (.int 0))) (.cons (.asg 8 (.bin .sub (.var 8) (.lit (.int 1)))) .nil)
theorem set_mid {α : Type} (A R : List α) (x y : α) : (A ++ x :: R).set A.length y = A ++ y :: R := by
  rw [List.set_append_right (h := Nat.le_refl _), Nat.sub_self]; rfl
def sliO (l h : Option Int) (o : Option Cell) (s : CS) : R PV := match o with
  | some (.lst xs) => .ok (.d (.lst (cutL xs l h))) s
  | _ => .bad
theorem sliO_ok (l h : Option Int) (xs : List D) (s : CS) : sliO l h (some (.lst xs)) s = .ok (.d (.lst (cutL xs l h))) s := rfl
theorem sliR_obj (k : Nat) (l h : Option Int) (s : CS) : sliR (.obj k) l h s = sliO l h s[k]? s := by
  unfold sliR sliO
  simp only [rd_obj]
  cases s[k]? with
  | none => rfl
  | some c => cases c <;> rfl
theorem zero_ok (n N : Nat) (A : List D) (L : Int) (c0 : Cell) (v0 v2 v3 v4 v5 v7 v9 : Option PV) (h0 : A = [] ∨ ∃ u x, A = u ++ [.int x] ∧ x ≠ L - 1) : ∀ (j i : Nat) (p : Int), p = (A.length : Int) + j - 1 →
    whl_ ⟨callN FF n⟩ cO bO (N + j + 1) [v0, some (.d (.int L)), v2, v3, v4, v5, some (.obj 1), v7, some (.d (.int p)), v9] [c0, .lst (A ++ (List.replicate j (D.int (L - 1)) ++ List.replicate i (D.int 0)))] =
      .ok (.nx [v0, some (.d (.int L)), v2, v3, v4, v5, some (.obj 1), v7, some (.d (.int ((A.length : Int) - 1))), v9]) [c0, .lst (A ++ List.replicate (j + i) (D.int 0))]
  | 0, i, p, hp => by
    have hp : p = (A.length : Int) - 1 := by omega
    subst hp
    rw [whl_turn, Nat.zero_add]
    simp only [List.replicate_zero, List.nil_append]
    rcases h0 with rfl | ⟨u, x, rfl, hx⟩
    · simp only [cO, bO, q_lit, q_var, varR_ok, q_bin, q_bin1, q_bin2, q_cmp, q_cmp1, q_cmp2, q_neg, q_neg1, q_isn, q_isn_non, q_isn_bl, q_isn_int, q_isn_str, q_isn_lst, q_isn_tup, q_and, q_or, q_and1, q_or1, q_and2, q_or2, q_kand, q_kor, q_not, q_not1, notR_ok, q_ite, q_ite1, q_tup, q_lst, q_new, q_new1, q_idx, q_idx1, q_idx2, ixR_ok, q_sli, q_sli1, q_sli2, q_sli3, sliR_scr, sliR_lst, q_onone, q_osome, q_os, q_call, q_callk, q_callk1, q_callk2, permR_ok, q_bi, q_bi1, biR_ok, q_isi, q_isi1, isiR_ok, q_isiT, q_isiT1, isiTR_ok, q_chain, q_ch1, q_ch2, q_chC, q_ch3, chB_ok, q_revT, q_revT1, q_rev, q_rev1, revR_ok, q_slt, q_slt1, q_slt2, q_slt3, sltR_ok, q_whl, q_wl1, q_wlB, q_wl2n, q_wl2r, q_aug, augR_ok, q_augA, q_augS, b_addT, b_addL, b_addS, c_isB, c_nisB, bi_allB, bi_anyB, bi_strI, bi_strS, q_lrg, q_lrg1, Int.toNat_natCast, q_comp, q_comp1, q_comp2, q_two, q_two1, q_es0, q_es, q_es1, q_es2, q_spl, q_splL, q_splT, q_spl2, own_app, own_all, own0, own1, consO_ok, rdl0, rdl1, consR_ok, q_seq, q_seqL, q_seqT, q_r1, q_r2, q_r21, q_en, q_en1, q_if0, q_if, q_if1, q_asg, q_asg1, nxR_ok, q_asgT, q_asgT1, q_asg2, q_asg21, setAll0, setAll1, setAllP0, setAllP1, q_set, q_set1, q_set2, q_set3, setC_ok, setR_ok, rd_obj, rdC_l, frzR_ok, frzC_ok, q_app1, q_app2, appC_ok, q_ext1, q_ext2, extC_ok, extD_ok, appD_ok, Nat.sub_zero, Int.zero_add, at0, at1, at2, at3, last_get, last_set, enum_len, ix0, ix1, ix2, b_mulT1, b_mulL1, b_mulL, b_mulR, b_mulLL, b_mulRR, bi_min2, bi_max2, comp_ints, Nat.reduceSub, Nat.sub_self, b_mod, c_neIN, c_neNN, c_eqNN, q_r11L, q_r22L, c_neB, c_neT2, c_eqT2, c_mem, nc0, nc1, Int.cast_ofNat_Int, take_set, List.take_length, List.length_map, b_div, b_divL, b_pow, b_powL, q_expr, q_expr1, q_ret, q_ret1, q_retN, q_pass, q_stop, q_ifs, q_ifs1, q_for, q_for1, q_ss0, q_ss, q_ssn, q_ssr, q_frz, q_app, q_ext, fnEnd_rt, fnEnd_nx, fnEnd_exc, go_ok, go_bad, go_exc, tru_tup, rdC_i, fldR_ok, q_fld, q_fld1, mtR_ok, metR_ok, q_mt2, q_meth, q_meth1, q_mk3, q_mk2, mtKR_ok, metKR_ok, q_methk, q_methk1, tabAt_0, tabAt_1, fldN_1, putN_0, putN_1, madeR_ok, kMade_ok, q_mk, q_mk1, mkPR_ok, q_mkk, q_mkk1, q_mkk2, kMadeM_ok, q_mkM, q_mkM1, iscR_ok, q_isc, q_isc1, isc_ins, isc_non, isc_bl, isc_int, isc_str, isc_lst, isc_tup, isc_dct, setFC_ok, q_setF, q_setF1, q_setF2, String.reduceEq,  br_t, br_f, tru_bl, tru_int, tru_non, tru_lst, rd_d, retD_ok, opD_ok, b_add, b_sub, c_lt, c_le, c_gt, c_ge, c_eqI, c_neI, c_eqS, c_neS, i_lst, i_tup, bi_int, bi_intB, bi_lenL, bi_lenT, bi_abs, bind1, bindM, isK, pickAll, wipeE, leave_cut, q_tup1, q_lst1, dispR_ok, Nat.zero_le, Nat.reduceLeDiff, Nat.reduceAdd, Nat.reduceLT, Int.reduceLT, Int.reduceLE, Nat.reducePow, Int.reducePow, Int.reduceToNat, Int.reduceNeg, Int.reduceAdd, Nat.zero_add, Option.bind_some, Option.map_some, Option.bind, Option.map, List.getElem?_cons_zero, List.getElem?_cons_succ, List.set_cons_zero, List.set_cons_succ, List.map_cons, List.map_nil, List.cons_append, List.nil_append, List.length_cons, List.length_nil, List.replicate_succ, List.replicate_zero, decide_true, decide_false, eq_self, and_self, true_and, and_true, and_false, false_and, not_true_eq_false, not_false_eq_true, beq_self_eq_true, Bool.not_true, Bool.not_false, Bool.and_true, Bool.and_false, if_true, if_false, List.length_nil, Int.zero_sub]
    · have g1 : (0 : Int) ≤ ((u ++ [D.int x]).length : Int) - 1 := by rw [List.length_append, List.length_singleton]; omega
      have g2 : L2.atI (u ++ [D.int x] ++ List.replicate i (D.int 0)) (((u ++ [D.int x]).length : Int) - 1) = some (.int x) := by
        rw [List.append_assoc]
        exact at_mid _ _ _ (by rw [List.length_append, List.length_singleton]; omega)
      generalize ((u ++ [D.int x]).length : Int) - 1 = p at *
      generalize u ++ [D.int x] ++ List.replicate i (D.int 0) = W at *
      simp only [cO, bO, q_lit, q_var, varR_ok, q_bin, q_bin1, q_bin2, q_cmp, q_cmp1, q_cmp2, q_neg, q_neg1, q_isn, q_isn_non, q_isn_bl, q_isn_int, q_isn_str, q_isn_lst, q_isn_tup, q_and, q_or, q_and1, q_or1, q_and2, q_or2, q_kand, q_kor, q_not, q_not1, notR_ok, q_ite, q_ite1, q_tup, q_lst, q_new, q_new1, q_idx, q_idx1, q_idx2, ixR_ok, q_sli, q_sli1, q_sli2, q_sli3, sliR_scr, sliR_lst, q_onone, q_osome, q_os, q_call, q_callk, q_callk1, q_callk2, permR_ok, q_bi, q_bi1, biR_ok, q_isi, q_isi1, isiR_ok, q_isiT, q_isiT1, isiTR_ok, q_chain, q_ch1, q_ch2, q_chC, q_ch3, chB_ok, q_revT, q_revT1, q_rev, q_rev1, revR_ok, q_slt, q_slt1, q_slt2, q_slt3, sltR_ok, q_whl, q_wl1, q_wlB, q_wl2n, q_wl2r, q_aug, augR_ok, q_augA, q_augS, b_addT, b_addL, b_addS, c_isB, c_nisB, bi_allB, bi_anyB, bi_strI, bi_strS, q_lrg, q_lrg1, Int.toNat_natCast, q_comp, q_comp1, q_comp2, q_two, q_two1, q_es0, q_es, q_es1, q_es2, q_spl, q_splL, q_splT, q_spl2, own_app, own_all, own0, own1, consO_ok, rdl0, rdl1, consR_ok, q_seq, q_seqL, q_seqT, q_r1, q_r2, q_r21, q_en, q_en1, q_if0, q_if, q_if1, q_asg, q_asg1, nxR_ok, q_asgT, q_asgT1, q_asg2, q_asg21, setAll0, setAll1, setAllP0, setAllP1, q_set, q_set1, q_set2, q_set3, setC_ok, setR_ok, rd_obj, rdC_l, frzR_ok, frzC_ok, q_app1, q_app2, appC_ok, q_ext1, q_ext2, extC_ok, extD_ok, appD_ok, Nat.sub_zero, Int.zero_add, at0, at1, at2, at3, last_get, last_set, enum_len, ix0, ix1, ix2, b_mulT1, b_mulL1, b_mulL, b_mulR, b_mulLL, b_mulRR, bi_min2, bi_max2, comp_ints, Nat.reduceSub, Nat.sub_self, b_mod, c_neIN, c_neNN, c_eqNN, q_r11L, q_r22L, c_neB, c_neT2, c_eqT2, c_mem, nc0, nc1, Int.cast_ofNat_Int, take_set, List.take_length, List.length_map, b_div, b_divL, b_pow, b_powL, q_expr, q_expr1, q_ret, q_ret1, q_retN, q_pass, q_stop, q_ifs, q_ifs1, q_for, q_for1, q_ss0, q_ss, q_ssn, q_ssr, q_frz, q_app, q_ext, fnEnd_rt, fnEnd_nx, fnEnd_exc, go_ok, go_bad, go_exc, tru_tup, rdC_i, fldR_ok, q_fld, q_fld1, mtR_ok, metR_ok, q_mt2, q_meth, q_meth1, q_mk3, q_mk2, mtKR_ok, metKR_ok, q_methk, q_methk1, tabAt_0, tabAt_1, fldN_1, putN_0, putN_1, madeR_ok, kMade_ok, q_mk, q_mk1, mkPR_ok, q_mkk, q_mkk1, q_mkk2, kMadeM_ok, q_mkM, q_mkM1, iscR_ok, q_isc, q_isc1, isc_ins, isc_non, isc_bl, isc_int, isc_str, isc_lst, isc_tup, isc_dct, setFC_ok, q_setF, q_setF1, q_setF2, String.reduceEq,  br_t, br_f, tru_bl, tru_int, tru_non, tru_lst, rd_d, retD_ok, opD_ok, b_add, b_sub, c_lt, c_le, c_gt, c_ge, c_eqI, c_neI, c_eqS, c_neS, i_lst, i_tup, bi_int, bi_intB, bi_lenL, bi_lenT, bi_abs, bind1, bindM, isK, pickAll, wipeE, leave_cut, q_tup1, q_lst1, dispR_ok, Nat.zero_le, Nat.reduceLeDiff, Nat.reduceAdd, Nat.reduceLT, Int.reduceLT, Int.reduceLE, Nat.reducePow, Int.reducePow, Int.reduceToNat, Int.reduceNeg, Int.reduceAdd, Nat.zero_add, Option.bind_some, Option.map_some, Option.bind, Option.map, List.getElem?_cons_zero, List.getElem?_cons_succ, List.set_cons_zero, List.set_cons_succ, List.map_cons, List.map_nil, List.cons_append, List.nil_append, List.length_cons, List.length_nil, List.replicate_succ, List.replicate_zero, decide_true, decide_false, eq_self, and_self, true_and, and_true, and_false, false_and, not_true_eq_false, not_false_eq_true, beq_self_eq_true, Bool.not_true, Bool.not_false, Bool.and_true, Bool.and_false, if_true, if_false, g1, g2, hx]
  | j + 1, i, p, hp => by
    rw [whl_turn]
    have g1 : (0 : Int) ≤ p := by omega
    have eW : A ++ (List.replicate (j + 1) (D.int (L - 1)) ++ List.replicate i (D.int 0)) = (A ++ List.replicate j (D.int (L - 1))) ++ D.int (L - 1) :: List.replicate i (D.int 0) := by
      rw [List.replicate_succ', List.append_assoc, List.append_assoc]; rfl
    have hl : (A ++ List.replicate j (D.int (L - 1))).length = A.length + j := by rw [List.length_append, List.length_replicate]
    have g2 : L2.atI (A ++ (List.replicate (j + 1) (D.int (L - 1)) ++ List.replicate i (D.int 0))) p = some (D.int (L - 1)) := by
      rw [eW]
      exact at_mid _ _ _ (by rw [hl]; omega)
    have g3 : L2.ixN (A ++ (List.replicate (j + 1) (D.int (L - 1)) ++ List.replicate i (D.int 0))).length p = some (A.length + j) := ix_mid (by omega) (by rw [eW, List.length_append, List.length_cons, hl]; omega)
    have g4 : (A ++ (List.replicate (j + 1) (D.int (L - 1)) ++ List.replicate i (D.int 0))).set (A.length + j) (D.int 0) = A ++ (List.replicate j (D.int (L - 1)) ++ List.replicate (i + 1) (D.int 0)) := by
      rw [eW, ← hl, set_mid, List.append_assoc]; rfl
    have ih := zero_ok n N A L c0 v0 v2 v3 v4 v5 v7 v9 h0 j (i + 1) (p - 1) (by omega)
    rw [← g4] at ih
    rw [show N + (j + 1) = N + j + 1 by omega, show j + 1 + i = j + (i + 1) by omega]
    generalize A ++ (List.replicate (j + 1) (D.int (L - 1)) ++ List.replicate i (D.int 0)) = W at *
    simp only [cO, bO] at ih ⊢
    simp only [q_lit, q_var, varR_ok, q_bin, q_bin1, q_bin2, q_cmp, q_cmp1, q_cmp2, q_neg, q_neg1, q_isn, q_isn_non, q_isn_bl, q_isn_int, q_isn_str, q_isn_lst, q_isn_tup, q_and, q_or, q_and1, q_or1, q_and2, q_or2, q_kand, q_kor, q_not, q_not1, notR_ok, q_ite, q_ite1, q_tup, q_lst, q_new, q_new1, q_idx, q_idx1, q_idx2, ixR_ok, q_sli, q_sli1, q_sli2, q_sli3, sliR_scr, sliR_lst, q_onone, q_osome, q_os, q_call, q_callk, q_callk1, q_callk2, permR_ok, q_bi, q_bi1, biR_ok, q_isi, q_isi1, isiR_ok, q_isiT, q_isiT1, isiTR_ok, q_chain, q_ch1, q_ch2, q_chC, q_ch3, chB_ok, q_revT, q_revT1, q_rev, q_rev1, revR_ok, q_slt, q_slt1, q_slt2, q_slt3, sltR_ok, q_whl, q_wl1, q_wlB, q_wl2n, q_wl2r, q_aug, augR_ok, q_augA, q_augS, b_addT, b_addL, b_addS, c_isB, c_nisB, bi_allB, bi_anyB, bi_strI, bi_strS, q_lrg, q_lrg1, Int.toNat_natCast, q_comp, q_comp1, q_comp2, q_two, q_two1, q_es0, q_es, q_es1, q_es2, q_spl, q_splL, q_splT, q_spl2, own_app, own_all, own0, own1, consO_ok, rdl0, rdl1, consR_ok, q_seq, q_seqL, q_seqT, q_r1, q_r2, q_r21, q_en, q_en1, q_if0, q_if, q_if1, q_asg, q_asg1, nxR_ok, q_asgT, q_asgT1, q_asg2, q_asg21, setAll0, setAll1, setAllP0, setAllP1, q_set, q_set1, q_set2, q_set3, setC_ok, setR_ok, rd_obj, rdC_l, frzR_ok, frzC_ok, q_app1, q_app2, appC_ok, q_ext1, q_ext2, extC_ok, extD_ok, appD_ok, Nat.sub_zero, Int.zero_add, at0, at1, at2, at3, last_get, last_set, enum_len, ix0, ix1, ix2, b_mulT1, b_mulL1, b_mulL, b_mulR, b_mulLL, b_mulRR, bi_min2, bi_max2, comp_ints, Nat.reduceSub, Nat.sub_self, b_mod, c_neIN, c_neNN, c_eqNN, q_r11L, q_r22L, c_neB, c_neT2, c_eqT2, c_mem, nc0, nc1, Int.cast_ofNat_Int, take_set, List.take_length, List.length_map, b_div, b_divL, b_pow, b_powL, q_expr, q_expr1, q_ret, q_ret1, q_retN, q_pass, q_stop, q_ifs, q_ifs1, q_for, q_for1, q_ss0, q_ss, q_ssn, q_ssr, q_frz, q_app, q_ext, fnEnd_rt, fnEnd_nx, fnEnd_exc, go_ok, go_bad, go_exc, tru_tup, rdC_i, fldR_ok, q_fld, q_fld1, mtR_ok, metR_ok, q_mt2, q_meth, q_meth1, q_mk3, q_mk2, mtKR_ok, metKR_ok, q_methk, q_methk1, tabAt_0, tabAt_1, fldN_1, putN_0, putN_1, madeR_ok, kMade_ok, q_mk, q_mk1, mkPR_ok, q_mkk, q_mkk1, q_mkk2, kMadeM_ok, q_mkM, q_mkM1, iscR_ok, q_isc, q_isc1, isc_ins, isc_non, isc_bl, isc_int, isc_str, isc_lst, isc_tup, isc_dct, setFC_ok, q_setF, q_setF1, q_setF2, String.reduceEq,  br_t, br_f, tru_bl, tru_int, tru_non, tru_lst, rd_d, retD_ok, opD_ok, b_add, b_sub, c_lt, c_le, c_gt, c_ge, c_eqI, c_neI, c_eqS, c_neS, i_lst, i_tup, bi_int, bi_intB, bi_lenL, bi_lenT, bi_abs, bind1, bindM, isK, pickAll, wipeE, leave_cut, q_tup1, q_lst1, dispR_ok, Nat.zero_le, Nat.reduceLeDiff, Nat.reduceAdd, Nat.reduceLT, Int.reduceLT, Int.reduceLE, Nat.reducePow, Int.reducePow, Int.reduceToNat, Int.reduceNeg, Int.reduceAdd, Nat.zero_add, Option.bind_some, Option.map_some, Option.bind, Option.map, List.getElem?_cons_zero, List.getElem?_cons_succ, List.set_cons_zero, List.set_cons_succ, List.map_cons, List.map_nil, List.cons_append, List.nil_append, List.length_cons, List.length_nil, List.replicate_succ, List.replicate_zero, decide_true, decide_false, eq_self, and_self, true_and, and_true, and_false, false_and, not_true_eq_false, not_false_eq_true, beq_self_eq_true, Bool.not_true, Bool.not_false, Bool.and_true, Bool.and_false, if_true, if_false, g1, g2, g3]
    exact ih
theorem noX_sat {α : Type} {r : R α} {Q : α → CS → Prop} (h : r.sat Q) : (noX r).sat Q := by
  obtain ⟨a, s, rfl, h'⟩ := sat_eq h
  exact sat_ok h'
theorem draws_ok (n k : Nat) (L : Int) (hL : 1 ≤ L) (hL6 : L ≤ 6) (lap rest : Int) (ns : List Int) (ρ : PD.Env) (hρ : 9 < ρ.length) (v0 : ρ[0]? = some (some (.obj 0))) (v1 : ρ[1]? = some (some (.d (.int L)))) (hk : k ≤ 1000) (h0 : 0 ≤ lap) (h1 : lap ≤ 990000) (h2 : 0 ≤ rest) :
    (cmp_ ⟨callN FF (n + 1)⟩ (.call 14 (.cons (.var 0) (.cons (.var 1) .nil))) [9] false .nil ρ (rngItems 0 k) [st0 ns lap rest]).sat fun l s => ∃ (w : List Int) (lap' rest' : Int), l = w.map D.int ∧ (∀ x ∈ w, 0 ≤ x ∧ x < L) ∧ w.length = k ∧ s = [st0 ns lap' rest'] ∧ lap ≤ lap' ∧ lap' ≤ lap + k ∧ 0 ≤ rest' := by
  unfold cmp_
  refine noX_sat (comp_inv (fun i acc s => ∃ (w : List Int) (lap' rest' : Int), acc = w.map D.int ∧ (∀ x ∈ w, 0 ≤ x ∧ x < L) ∧ w.length = i ∧ s = [st0 ns lap' rest'] ∧ lap ≤ lap' ∧ lap' ≤ lap + i ∧ 0 ≤ rest') _ 0 _ _ (by rw [rng_len, List.length_nil]; exact Nat.le_trans (by omega : 0 + k ≤ 1000) (by decide)) ⟨[], lap, rest, rfl, fun _ h => (nomatch h), rfl, rfl, by omega, by omega, h2⟩ ?_ ?_)
  · rintro j x acc s _ hx ⟨w, lap', rest', rfl, hw, hl, rfl, g1, g2, g3⟩
    obtain ⟨hj, rfl⟩ := rng_at hx
    obtain ⟨r, lap2, rest2, e, k1, k2, k3, k4, k5⟩ := draw_ok n [st0 ns lap' rest'] 0 L lap' rest' ns rfl (by omega) (div_log (by omega) (by omega)) (by omega) (by omega) g3
    refine ⟨_, rfl, ?_⟩
    rw [q_if0]
    refine sat_ok ?_
    rw [if_pos rfl]
    have u0 : (ρ.set 9 (some (.d (.int (0 + (j : Int))))))[0]? = some (some (.obj 0)) := by rw [List.getElem?_set_ne (by decide)]; exact v0
    have u1 : (ρ.set 9 (some (.d (.int (0 + (j : Int))))))[1]? = some (some (.d (.int L))) := by rw [List.getElem?_set_ne (by decide)]; exact v1
    simp only [Int.zero_add] at u0 u1
    simp only [st0, List.set_cons_zero] at e
    simp only [q_lit, q_var, varR_ok, q_bin, q_bin1, q_bin2, q_cmp, q_cmp1, q_cmp2, q_neg, q_neg1, q_isn, q_isn_non, q_isn_bl, q_isn_int, q_isn_str, q_isn_lst, q_isn_tup, q_and, q_or, q_and1, q_or1, q_and2, q_or2, q_kand, q_kor, q_not, q_not1, notR_ok, q_ite, q_ite1, q_tup, q_lst, q_new, q_new1, q_idx, q_idx1, q_idx2, ixR_ok, q_sli, q_sli1, q_sli2, q_sli3, sliR_scr, sliR_lst, q_onone, q_osome, q_os, q_call, q_callk, q_callk1, q_callk2, permR_ok, q_bi, q_bi1, biR_ok, q_isi, q_isi1, isiR_ok, q_isiT, q_isiT1, isiTR_ok, q_chain, q_ch1, q_ch2, q_chC, q_ch3, chB_ok, q_revT, q_revT1, q_rev, q_rev1, revR_ok, q_slt, q_slt1, q_slt2, q_slt3, sltR_ok, q_whl, q_wl1, q_wlB, q_wl2n, q_wl2r, q_aug, augR_ok, q_augA, q_augS, b_addT, b_addL, b_addS, c_isB, c_nisB, bi_allB, bi_anyB, bi_strI, bi_strS, q_lrg, q_lrg1, Int.toNat_natCast, q_comp, q_comp1, q_comp2, q_two, q_two1, q_es0, q_es, q_es1, q_es2, q_spl, q_splL, q_splT, q_spl2, own_app, own_all, own0, own1, consO_ok, rdl0, rdl1, consR_ok, q_seq, q_seqL, q_seqT, q_r1, q_r2, q_r21, q_en, q_en1, q_if0, q_if, q_if1, q_asg, q_asg1, nxR_ok, q_asgT, q_asgT1, q_asg2, q_asg21, setAll0, setAll1, setAllP0, setAllP1, q_set, q_set1, q_set2, q_set3, setC_ok, setR_ok, rd_obj, rdC_l, frzR_ok, frzC_ok, q_app1, q_app2, appC_ok, q_ext1, q_ext2, extC_ok, extD_ok, appD_ok, Nat.sub_zero, Int.zero_add, at0, at1, at2, at3, last_get, last_set, enum_len, ix0, ix1, ix2, b_mulT1, b_mulL1, b_mulL, b_mulR, b_mulLL, b_mulRR, bi_min2, bi_max2, comp_ints, Nat.reduceSub, Nat.sub_self, b_mod, c_neIN, c_neNN, c_eqNN, q_r11L, q_r22L, c_neB, c_neT2, c_eqT2, c_mem, nc0, nc1, Int.cast_ofNat_Int, take_set, List.take_length, List.length_map, b_div, b_divL, b_pow, b_powL, q_expr, q_expr1, q_ret, q_ret1, q_retN, q_pass, q_stop, q_ifs, q_ifs1, q_for, q_for1, q_ss0, q_ss, q_ssn, q_ssr, q_frz, q_app, q_ext, fnEnd_rt, fnEnd_nx, fnEnd_exc, go_ok, go_bad, go_exc, tru_tup, rdC_i, fldR_ok, q_fld, q_fld1, mtR_ok, metR_ok, q_mt2, q_meth, q_meth1, q_mk3, q_mk2, mtKR_ok, metKR_ok, q_methk, q_methk1, tabAt_0, tabAt_1, fldN_1, putN_0, putN_1, madeR_ok, kMade_ok, q_mk, q_mk1, mkPR_ok, q_mkk, q_mkk1, q_mkk2, kMadeM_ok, q_mkM, q_mkM1, iscR_ok, q_isc, q_isc1, isc_ins, isc_non, isc_bl, isc_int, isc_str, isc_lst, isc_tup, isc_dct, setFC_ok, q_setF, q_setF1, q_setF2, String.reduceEq,  br_t, br_f, tru_bl, tru_int, tru_non, tru_lst, rd_d, retD_ok, opD_ok, b_add, b_sub, c_lt, c_le, c_gt, c_ge, c_eqI, c_neI, c_eqS, c_neS, i_lst, i_tup, bi_int, bi_intB, bi_lenL, bi_lenT, bi_abs, bind1, bindM, isK, pickAll, wipeE, leave_cut, q_tup1, q_lst1, dispR_ok, Nat.zero_le, Nat.reduceLeDiff, Nat.reduceAdd, Nat.reduceLT, Int.reduceLT, Int.reduceLE, Nat.reducePow, Int.reducePow, Int.reduceToNat, Int.reduceNeg, Int.reduceAdd, Nat.zero_add, Option.bind_some, Option.map_some, Option.bind, Option.map, List.getElem?_cons_zero, List.getElem?_cons_succ, List.set_cons_zero, List.set_cons_succ, List.map_cons, List.map_nil, List.cons_append, List.nil_append, List.length_cons, List.length_nil, List.replicate_succ, List.replicate_zero, decide_true, decide_false, eq_self, and_self, true_and, and_true, and_false, false_and, not_true_eq_false, not_false_eq_true, beq_self_eq_true, Bool.not_true, Bool.not_false, Bool.and_true, Bool.and_false, if_true, if_false, u0, u1, st0, e]
    refine sat_ok ⟨.int r, rfl, w ++ [r], lap2, rest2, by rw [List.map_append]; rfl, fun x hx => ?_, by rw [List.length_append, hl]; rfl, rfl, by omega, by omega, k5⟩
    rcases List.mem_append.mp hx with q | q
    · exact hw x q
    · rw [List.mem_singleton.mp q]; exact ⟨k1, k2⟩
  · rintro acc s ⟨w, lap', rest', rfl, hw, hl, rfl, g1, g2, g3⟩
    rw [rng_len] at hl g2
    exact ⟨w, lap', rest', rfl, hw, by omega, rfl, g1, by omega, g3⟩
def atD (W : List D) (i : Int) : D → D
  | .int p => (L2.atI W (i - p)).getD .non
  | _ => .non
theorem mir_list (w : List Int) (m : Nat) (hl : w.length = m) : (rngItems 0 m).map (atD (w.map D.int) ((m : Int) - 1)) = w.reverse.map D.int := by
  refine List.ext_getElem? fun k => ?_
  rw [List.getElem?_map, List.getElem?_map]
  by_cases hk : k < m
  · unfold rngItems
    rw [List.getElem?_map, List.getElem?_range hk]
    rw [List.getElem?_reverse (by omega)]
    simp only [Option.map_some, atD]
    rw [atI_nn (by omega) (by rw [List.length_map]; omega), List.getElem?_map, show ((m : Int) - 1 - (0 + (k : Int))).toNat = w.length - 1 - k by omega]
    rw [List.getElem?_eq_getElem (by omega)]
    rfl
  · rw [List.getElem?_eq_none (by rw [rng_len]; omega), List.getElem?_eq_none (by rw [List.length_reverse]; omega)]
    rfl
set_option maxHeartbeats 4000000 in
theorem oneright_ok (n : Nat) (ns : List Int) (lap rest : Int) (h0 : 0 ≤ lap) (h1 : lap ≤ 900000) (h2 : 0 ≤ rest) : (callN FF (n + 7) 18 [.obj 0] [st0 ns lap rest]).sat fun v s => Good v (lap + 500) ns s := by
  rw [q_fn f18 rfl]
  obtain ⟨r1, lap1, rest1, e1, r10, r11, k1, k2, k3⟩ := draw_ok (n + 5) [st0 ns lap rest] 0 6 lap rest ns rfl (by decide) (by decide) h0 (by omega) h2
  generalize hL : 1 + r1 = L
  obtain ⟨y, lap2, rest2, e2, hy, k4, k5, k6⟩ := of_ok (n + 4) [st0 ns lap1 rest1] 0 lap1 rest1 ns [.int 4, .int 1, .int 9, .int 30, .int 199] rfl (by simp) (by simp) (by omega) (by omega) k3
  obtain ⟨m, rfl, m0, m1⟩ : ∃ m : Nat, y = .int m ∧ 1 ≤ m ∧ m ≤ 199 := by
    simp only [List.mem_cons, List.not_mem_nil, or_false] at hy
    rcases hy with rfl | rfl | rfl | rfl | rfl
    · exact ⟨4, rfl, by decide, by decide⟩
    · exact ⟨1, rfl, by decide, by decide⟩
    · exact ⟨9, rfl, by decide, by decide⟩
    · exact ⟨30, rfl, by decide, by decide⟩
    · exact ⟨199, rfl, by decide, by decide⟩
  obtain ⟨r3, lap3, rest3, e3, r30, r31, k7, k8, k9⟩ := draw_ok (n + 5) [st0 ns lap2 rest2] 0 ((m : Int) + 1) lap2 rest2 ns rfl (by omega) (div_log (by omega) (by omega)) (by omega) (by omega) k6
  have x1 : (-1000000000000 : Int) < (m : Int) - r3 := by omega
  have x2 : (m : Int) - r3 < 1000000000000 := by omega
  simp only [st0, List.set_cons_zero] at e1 e2 e3
  simp only [g__law_one_right, q_lit, q_var, varR_ok, q_bin, q_bin1, q_bin2, q_cmp, q_cmp1, q_cmp2, q_neg, q_neg1, q_isn, q_isn_non, q_isn_bl, q_isn_int, q_isn_str, q_isn_lst, q_isn_tup, q_and, q_or, q_and1, q_or1, q_and2, q_or2, q_kand, q_kor, q_not, q_not1, notR_ok, q_ite, q_ite1, q_tup, q_lst, q_new, q_new1, q_idx, q_idx1, q_idx2, ixR_ok, q_sli, q_sli1, q_sli2, q_sli3, sliR_scr, sliR_lst, q_onone, q_osome, q_os, q_call, q_callk, q_callk1, q_callk2, permR_ok, q_bi, q_bi1, biR_ok, q_isi, q_isi1, isiR_ok, q_isiT, q_isiT1, isiTR_ok, q_chain, q_ch1, q_ch2, q_chC, q_ch3, chB_ok, q_revT, q_revT1, q_rev, q_rev1, revR_ok, q_slt, q_slt1, q_slt2, q_slt3, sltR_ok, q_whl, q_wl1, q_wlB, q_wl2n, q_wl2r, q_aug, augR_ok, q_augA, q_augS, b_addT, b_addL, b_addS, c_isB, c_nisB, bi_allB, bi_anyB, bi_strI, bi_strS, q_lrg, q_lrg1, Int.toNat_natCast, q_comp, q_comp1, q_comp2, q_two, q_two1, q_es0, q_es, q_es1, q_es2, q_spl, q_splL, q_splT, q_spl2, own_app, own_all, own0, own1, consO_ok, rdl0, rdl1, consR_ok, q_seq, q_seqL, q_seqT, q_r1, q_r2, q_r21, q_en, q_en1, q_if0, q_if, q_if1, q_asg, q_asg1, nxR_ok, q_asgT, q_asgT1, q_asg2, q_asg21, setAll0, setAll1, setAllP0, setAllP1, q_set, q_set1, q_set2, q_set3, setC_ok, setR_ok, rd_obj, rdC_l, frzR_ok, frzC_ok, q_app1, q_app2, appC_ok, q_ext1, q_ext2, extC_ok, extD_ok, appD_ok, Nat.sub_zero, Int.zero_add, at0, at1, at2, at3, last_get, last_set, enum_len, ix0, ix1, ix2, b_mulT1, b_mulL1, b_mulL, b_mulR, b_mulLL, b_mulRR, bi_min2, bi_max2, comp_ints, Nat.reduceSub, Nat.sub_self, b_mod, c_neIN, c_neNN, c_eqNN, q_r11L, q_r22L, c_neB, c_neT2, c_eqT2, c_mem, nc0, nc1, Int.cast_ofNat_Int, take_set, List.take_length, List.length_map, b_div, b_divL, b_pow, b_powL, q_expr, q_expr1, q_ret, q_ret1, q_retN, q_pass, q_stop, q_ifs, q_ifs1, q_for, q_for1, q_ss0, q_ss, q_ssn, q_ssr, q_frz, q_app, q_ext, fnEnd_rt, fnEnd_nx, fnEnd_exc, go_ok, go_bad, go_exc, tru_tup, rdC_i, fldR_ok, q_fld, q_fld1, mtR_ok, metR_ok, q_mt2, q_meth, q_meth1, q_mk3, q_mk2, mtKR_ok, metKR_ok, q_methk, q_methk1, tabAt_0, tabAt_1, fldN_1, putN_0, putN_1, madeR_ok, kMade_ok, q_mk, q_mk1, mkPR_ok, q_mkk, q_mkk1, q_mkk2, kMadeM_ok, q_mkM, q_mkM1, iscR_ok, q_isc, q_isc1, isc_ins, isc_non, isc_bl, isc_int, isc_str, isc_lst, isc_tup, isc_dct, setFC_ok, q_setF, q_setF1, q_setF2, String.reduceEq,  br_t, br_f, tru_bl, tru_int, tru_non, tru_lst, rd_d, retD_ok, opD_ok, b_add, b_sub, c_lt, c_le, c_gt, c_ge, c_eqI, c_neI, c_eqS, c_neS, i_lst, i_tup, bi_int, bi_intB, bi_lenL, bi_lenT, bi_abs, bind1, bindM, isK, pickAll, wipeE, leave_cut, q_tup1, q_lst1, dispR_ok, Nat.zero_le, Nat.reduceLeDiff, Nat.reduceAdd, Nat.reduceLT, Int.reduceLT, Int.reduceLE, Nat.reducePow, Int.reducePow, Int.reduceToNat, Int.reduceNeg, Int.reduceAdd, Nat.zero_add, Option.bind_some, Option.map_some, Option.bind, Option.map, List.getElem?_cons_zero, List.getElem?_cons_succ, List.set_cons_zero, List.set_cons_succ, List.map_cons, List.map_nil, List.cons_append, List.nil_append, List.length_cons, List.length_nil, List.replicate_succ, List.replicate_zero, decide_true, decide_false, eq_self, and_self, true_and, and_true, and_false, false_and, not_true_eq_false, not_false_eq_true, beq_self_eq_true, Bool.not_true, Bool.not_false, Bool.and_true, Bool.and_false, if_true, if_false, st0, e1, hL, e2, e3, x1, x2]
  refine fnEnd_sat (P := fun fl s => ∃ lap' rest' c, fl = .rt (.d (.bl true)) ∧ s = [st0 ns lap' rest', c] ∧ 0 ≤ lap' ∧ lap' ≤ lap + 500 ∧ 0 ≤ rest') (go_sat (P := fun fl s => ∃ (w : List Int) (lap' rest' : Int), fl = .nx [some (.obj 0), some (.d (.int L)), some (.d (.int m)), some (.d (.int r3)), some (.d (.lst (w.map .int))), none, none, none, none, none] ∧ (∀ x ∈ w, 0 ≤ x ∧ x < L) ∧ w.length = m ∧ s = [st0 ns lap' rest'] ∧ 0 ≤ lap' ∧ lap' ≤ lap + 400 ∧ 0 ≤ rest') ?_ ?_) ?_
  · refine go_sat (P := fun v s => ∃ (w : List Int) (lap' rest' : Int), v = .d (.lst (w.map .int)) ∧ (∀ x ∈ w, 0 ≤ x ∧ x < L) ∧ w.length = m ∧ s = [st0 ns lap' rest'] ∧ 0 ≤ lap' ∧ lap' ≤ lap + 400 ∧ 0 ≤ rest') (go_sat (P := fun v s => ∃ (w : List Int) (lap' rest' : Int), v = .d (.lst (w.map .int)) ∧ (∀ x ∈ w, 0 ≤ x ∧ x < L) ∧ w.length = ((m : Int) - r3).toNat ∧ s = [st0 ns lap' rest'] ∧ 0 ≤ lap' ∧ lap' ≤ lap + 400 ∧ 0 ≤ rest') (go_sat (draws_ok (n + 5) ((m : Int) - r3).toNat L (by omega) (by omega) lap3 rest3 ns _ (Nat.le_refl 10) rfl rfl (by omega) (by omega) (by omega) k9) ?_) ?_) ?_
    · rintro l s ⟨w, lap', rest', rfl, hw, hl, rfl, g1, g2, g3⟩
      exact sat_ok ⟨w, lap', rest', rfl, hw, hl, rfl, by omega, by omega, g3⟩
    · rintro v s ⟨w, lap', rest', rfl, hw, hl, rfl, g1, g2, g3⟩
      have y1 : (-1000 : Int) ≤ r3 := by omega
      have y2 : r3 ≤ 1000 := by omega
      have y3 : w.length + r3.toNat ≤ 100000 := by omega
      simp only [q_lit, q_var, varR_ok, q_bin, q_bin1, q_bin2, q_cmp, q_cmp1, q_cmp2, q_neg, q_neg1, q_isn, q_isn_non, q_isn_bl, q_isn_int, q_isn_str, q_isn_lst, q_isn_tup, q_and, q_or, q_and1, q_or1, q_and2, q_or2, q_kand, q_kor, q_not, q_not1, notR_ok, q_ite, q_ite1, q_tup, q_lst, q_new, q_new1, q_idx, q_idx1, q_idx2, ixR_ok, q_sli, q_sli1, q_sli2, q_sli3, sliR_scr, sliR_lst, q_onone, q_osome, q_os, q_call, q_callk, q_callk1, q_callk2, permR_ok, q_bi, q_bi1, biR_ok, q_isi, q_isi1, isiR_ok, q_isiT, q_isiT1, isiTR_ok, q_chain, q_ch1, q_ch2, q_chC, q_ch3, chB_ok, q_revT, q_revT1, q_rev, q_rev1, revR_ok, q_slt, q_slt1, q_slt2, q_slt3, sltR_ok, q_whl, q_wl1, q_wlB, q_wl2n, q_wl2r, q_aug, augR_ok, q_augA, q_augS, b_addT, b_addL, b_addS, c_isB, c_nisB, bi_allB, bi_anyB, bi_strI, bi_strS, q_lrg, q_lrg1, Int.toNat_natCast, q_comp, q_comp1, q_comp2, q_two, q_two1, q_es0, q_es, q_es1, q_es2, q_spl, q_splL, q_splT, q_spl2, own_app, own_all, own0, own1, consO_ok, rdl0, rdl1, consR_ok, q_seq, q_seqL, q_seqT, q_r1, q_r2, q_r21, q_en, q_en1, q_if0, q_if, q_if1, q_asg, q_asg1, nxR_ok, q_asgT, q_asgT1, q_asg2, q_asg21, setAll0, setAll1, setAllP0, setAllP1, q_set, q_set1, q_set2, q_set3, setC_ok, setR_ok, rd_obj, rdC_l, frzR_ok, frzC_ok, q_app1, q_app2, appC_ok, q_ext1, q_ext2, extC_ok, extD_ok, appD_ok, Nat.sub_zero, Int.zero_add, at0, at1, at2, at3, last_get, last_set, enum_len, ix0, ix1, ix2, b_mulT1, b_mulL1, b_mulL, b_mulR, b_mulLL, b_mulRR, bi_min2, bi_max2, comp_ints, Nat.reduceSub, Nat.sub_self, b_mod, c_neIN, c_neNN, c_eqNN, q_r11L, q_r22L, c_neB, c_neT2, c_eqT2, c_mem, nc0, nc1, Int.cast_ofNat_Int, take_set, List.take_length, List.length_map, b_div, b_divL, b_pow, b_powL, q_expr, q_expr1, q_ret, q_ret1, q_retN, q_pass, q_stop, q_ifs, q_ifs1, q_for, q_for1, q_ss0, q_ss, q_ssn, q_ssr, q_frz, q_app, q_ext, fnEnd_rt, fnEnd_nx, fnEnd_exc, go_ok, go_bad, go_exc, tru_tup, rdC_i, fldR_ok, q_fld, q_fld1, mtR_ok, metR_ok, q_mt2, q_meth, q_meth1, q_mk3, q_mk2, mtKR_ok, metKR_ok, q_methk, q_methk1, tabAt_0, tabAt_1, fldN_1, putN_0, putN_1, madeR_ok, kMade_ok, q_mk, q_mk1, mkPR_ok, q_mkk, q_mkk1, q_mkk2, kMadeM_ok, q_mkM, q_mkM1, iscR_ok, q_isc, q_isc1, isc_ins, isc_non, isc_bl, isc_int, isc_str, isc_lst, isc_tup, isc_dct, setFC_ok, q_setF, q_setF1, q_setF2, String.reduceEq,  br_t, br_f, tru_bl, tru_int, tru_non, tru_lst, rd_d, retD_ok, opD_ok, b_add, b_sub, c_lt, c_le, c_gt, c_ge, c_eqI, c_neI, c_eqS, c_neS, i_lst, i_tup, bi_int, bi_intB, bi_lenL, bi_lenT, bi_abs, bind1, bindM, isK, pickAll, wipeE, leave_cut, q_tup1, q_lst1, dispR_ok, Nat.zero_le, Nat.reduceLeDiff, Nat.reduceAdd, Nat.reduceLT, Int.reduceLT, Int.reduceLE, Nat.reducePow, Int.reducePow, Int.reduceToNat, Int.reduceNeg, Int.reduceAdd, Nat.zero_add, Option.bind_some, Option.map_some, Option.bind, Option.map, List.getElem?_cons_zero, List.getElem?_cons_succ, List.set_cons_zero, List.set_cons_succ, List.map_cons, List.map_nil, List.cons_append, List.nil_append, List.length_cons, List.length_nil, List.replicate_succ, List.replicate_zero, decide_true, decide_false, eq_self, and_self, true_and, and_true, and_false, false_and, not_true_eq_false, not_false_eq_true, beq_self_eq_true, Bool.not_true, Bool.not_false, Bool.and_true, Bool.and_false, if_true, if_false, y1, y2, y3, List.length_replicate]
      refine sat_ok ⟨w ++ List.replicate r3.toNat (L - 1), lap', rest', by rw [List.map_append, List.map_replicate], fun x hx => ?_, by rw [List.length_append, List.length_replicate]; omega, rfl, g1, g2, g3⟩
      rcases List.mem_append.mp hx with q | q
      · exact hw x q
      · rw [List.eq_of_mem_replicate q]; omega
    · rintro v s ⟨w, lap', rest', rfl, hw, hl, rfl, g1, g2, g3⟩
      simp only [q_lit, q_var, varR_ok, q_bin, q_bin1, q_bin2, q_cmp, q_cmp1, q_cmp2, q_neg, q_neg1, q_isn, q_isn_non, q_isn_bl, q_isn_int, q_isn_str, q_isn_lst, q_isn_tup, q_and, q_or, q_and1, q_or1, q_and2, q_or2, q_kand, q_kor, q_not, q_not1, notR_ok, q_ite, q_ite1, q_tup, q_lst, q_new, q_new1, q_idx, q_idx1, q_idx2, ixR_ok, q_sli, q_sli1, q_sli2, q_sli3, sliR_scr, sliR_lst, q_onone, q_osome, q_os, q_call, q_callk, q_callk1, q_callk2, permR_ok, q_bi, q_bi1, biR_ok, q_isi, q_isi1, isiR_ok, q_isiT, q_isiT1, isiTR_ok, q_chain, q_ch1, q_ch2, q_chC, q_ch3, chB_ok, q_revT, q_revT1, q_rev, q_rev1, revR_ok, q_slt, q_slt1, q_slt2, q_slt3, sltR_ok, q_whl, q_wl1, q_wlB, q_wl2n, q_wl2r, q_aug, augR_ok, q_augA, q_augS, b_addT, b_addL, b_addS, c_isB, c_nisB, bi_allB, bi_anyB, bi_strI, bi_strS, q_lrg, q_lrg1, Int.toNat_natCast, q_comp, q_comp1, q_comp2, q_two, q_two1, q_es0, q_es, q_es1, q_es2, q_spl, q_splL, q_splT, q_spl2, own_app, own_all, own0, own1, consO_ok, rdl0, rdl1, consR_ok, q_seq, q_seqL, q_seqT, q_r1, q_r2, q_r21, q_en, q_en1, q_if0, q_if, q_if1, q_asg, q_asg1, nxR_ok, q_asgT, q_asgT1, q_asg2, q_asg21, setAll0, setAll1, setAllP0, setAllP1, q_set, q_set1, q_set2, q_set3, setC_ok, setR_ok, rd_obj, rdC_l, frzR_ok, frzC_ok, q_app1, q_app2, appC_ok, q_ext1, q_ext2, extC_ok, extD_ok, appD_ok, Nat.sub_zero, Int.zero_add, at0, at1, at2, at3, last_get, last_set, enum_len, ix0, ix1, ix2, b_mulT1, b_mulL1, b_mulL, b_mulR, b_mulLL, b_mulRR, bi_min2, bi_max2, comp_ints, Nat.reduceSub, Nat.sub_self, b_mod, c_neIN, c_neNN, c_eqNN, q_r11L, q_r22L, c_neB, c_neT2, c_eqT2, c_mem, nc0, nc1, Int.cast_ofNat_Int, take_set, List.take_length, List.length_map, b_div, b_divL, b_pow, b_powL, q_expr, q_expr1, q_ret, q_ret1, q_retN, q_pass, q_stop, q_ifs, q_ifs1, q_for, q_for1, q_ss0, q_ss, q_ssn, q_ssr, q_frz, q_app, q_ext, fnEnd_rt, fnEnd_nx, fnEnd_exc, go_ok, go_bad, go_exc, tru_tup, rdC_i, fldR_ok, q_fld, q_fld1, mtR_ok, metR_ok, q_mt2, q_meth, q_meth1, q_mk3, q_mk2, mtKR_ok, metKR_ok, q_methk, q_methk1, tabAt_0, tabAt_1, fldN_1, putN_0, putN_1, madeR_ok, kMade_ok, q_mk, q_mk1, mkPR_ok, q_mkk, q_mkk1, q_mkk2, kMadeM_ok, q_mkM, q_mkM1, iscR_ok, q_isc, q_isc1, isc_ins, isc_non, isc_bl, isc_int, isc_str, isc_lst, isc_tup, isc_dct, setFC_ok, q_setF, q_setF1, q_setF2, String.reduceEq,  br_t, br_f, tru_bl, tru_int, tru_non, tru_lst, rd_d, retD_ok, opD_ok, b_add, b_sub, c_lt, c_le, c_gt, c_ge, c_eqI, c_neI, c_eqS, c_neS, i_lst, i_tup, bi_int, bi_intB, bi_lenL, bi_lenT, bi_abs, bind1, bindM, isK, pickAll, wipeE, leave_cut, q_tup1, q_lst1, dispR_ok, Nat.zero_le, Nat.reduceLeDiff, Nat.reduceAdd, Nat.reduceLT, Int.reduceLT, Int.reduceLE, Nat.reducePow, Int.reducePow, Int.reduceToNat, Int.reduceNeg, Int.reduceAdd, Nat.zero_add, Option.bind_some, Option.map_some, Option.bind, Option.map, List.getElem?_cons_zero, List.getElem?_cons_succ, List.set_cons_zero, List.set_cons_succ, List.map_cons, List.map_nil, List.cons_append, List.nil_append, List.length_cons, List.length_nil, List.replicate_succ, List.replicate_zero, decide_true, decide_false, eq_self, and_self, true_and, and_true, and_false, false_and, not_true_eq_false, not_false_eq_true, beq_self_eq_true, Bool.not_true, Bool.not_false, Bool.and_true, Bool.and_false, if_true, if_false]
      exact sat_ok ⟨w, lap', rest', rfl, hw, hl, rfl, g1, g2, g3⟩
  · rintro fl s ⟨w, lap', rest', rfl, hw, hl, rfl, g1, g2, g3⟩
    have okw : okW L w := ⟨hw, by omega, by omega⟩
    have okw6 : okW 6 w := ⟨fun x hx => by have := hw x hx; omega, by omega, by omega⟩
    have nok := nxt_okW (by omega) okw
    have hLL : L ≤ 200 := by omega
    obtain ⟨⟨T1, hT1⟩, T2, hT2⟩ := repr_wd hLL hw (by omega)
    obtain ⟨⟨T3, hT3⟩, _⟩ := repr_wd hLL nok.1 (by omega)
    obtain ⟨⟨T4, hT4⟩, _⟩ := repr_wd (w := w.reverse) hLL (fun x hx => hw x (List.mem_reverse.mp hx)) (by rw [List.length_reverse]; omega)
    have nw := fun s => nextw_ok n w L s _ (.inr rfl) (by omega) (by omega) okw (by omega)
    have mi := fun s => mirr_ok n w s _ (.inr rfl) okw6
    have mi2 := fun s => mirr_ok n w.reverse s _ (.inl rfl) ⟨fun x hx => okw6.1 x (List.mem_reverse.mp hx), by rw [List.length_reverse]; omega, by rw [List.length_reverse]; omega⟩
    rw [List.reverse_reverse] at mi2
    have sh := shaped_wd w
    have x3 : (-1000000000000 : Int) < (m : Int) := by omega
    have x4 : (m : Int) < 1000000000000 := by omega
    have mir : (rngItems 0 m).map (atD (w.map D.int) ((m : Int) - 1)) = w.reverse.map D.int := mir_list w m hl
    have cm : ∀ (ρ : PD.Env) (s : CS), ρ.length = 10 → ρ[2]? = some (some (.d (.int m))) → ρ[4]? = some (some (.d (.lst (w.map .int)))) →
        cmp_ ⟨callN FF (n + 6)⟩ (.idx (.var 4) (.bin .sub (.bin .sub (.var 2) (.lit (.int 1))) (.var 9))) [9] false .nil ρ (rngItems 0 m) s = .ok (w.reverse.map D.int) s := fun ρ s r0 r1 r2 => by
      rw [← mir]
      refine comp_one (atD (w.map D.int) ((m : Int) - 1)) (by rw [rng_len]; omega) fun x hx => ?_
      obtain ⟨p, hp, rfl⟩ := rng_mem hx
      obtain ⟨y, hy⟩ : ∃ y, L2.atI (w.map D.int) ((m : Int) - 1 - (p : Int)) = some y := ⟨_, atI_ints (by omega) (by omega)⟩
      have u1 : (ρ.set 9 (some (.d (.int (0 + (p : Int))))))[2]? = some (some (.d (.int m))) := by rw [List.getElem?_set_ne (by decide)]; exact r1
      have u2 : (ρ.set 9 (some (.d (.int (0 + (p : Int))))))[4]? = some (some (.d (.lst (w.map .int)))) := by rw [List.getElem?_set_ne (by decide)]; exact r2
      have u3 : (ρ.set 9 (some (.d (.int (0 + (p : Int))))))[9]? = some (some (.d (.int (p : Int)))) := by rw [List.getElem?_set_self (by omega), Int.zero_add]
      simp only [Int.zero_add] at u1 u2 u3
      simp only [q_lit, q_var, varR_ok, q_bin, q_bin1, q_bin2, q_cmp, q_cmp1, q_cmp2, q_neg, q_neg1, q_isn, q_isn_non, q_isn_bl, q_isn_int, q_isn_str, q_isn_lst, q_isn_tup, q_and, q_or, q_and1, q_or1, q_and2, q_or2, q_kand, q_kor, q_not, q_not1, notR_ok, q_ite, q_ite1, q_tup, q_lst, q_new, q_new1, q_idx, q_idx1, q_idx2, ixR_ok, q_sli, q_sli1, q_sli2, q_sli3, sliR_scr, sliR_lst, q_onone, q_osome, q_os, q_call, q_callk, q_callk1, q_callk2, permR_ok, q_bi, q_bi1, biR_ok, q_isi, q_isi1, isiR_ok, q_isiT, q_isiT1, isiTR_ok, q_chain, q_ch1, q_ch2, q_chC, q_ch3, chB_ok, q_revT, q_revT1, q_rev, q_rev1, revR_ok, q_slt, q_slt1, q_slt2, q_slt3, sltR_ok, q_whl, q_wl1, q_wlB, q_wl2n, q_wl2r, q_aug, augR_ok, q_augA, q_augS, b_addT, b_addL, b_addS, c_isB, c_nisB, bi_allB, bi_anyB, bi_strI, bi_strS, q_lrg, q_lrg1, Int.toNat_natCast, q_comp, q_comp1, q_comp2, q_two, q_two1, q_es0, q_es, q_es1, q_es2, q_spl, q_splL, q_splT, q_spl2, own_app, own_all, own0, own1, consO_ok, rdl0, rdl1, consR_ok, q_seq, q_seqL, q_seqT, q_r1, q_r2, q_r21, q_en, q_en1, q_if0, q_if, q_if1, q_asg, q_asg1, nxR_ok, q_asgT, q_asgT1, q_asg2, q_asg21, setAll0, setAll1, setAllP0, setAllP1, q_set, q_set1, q_set2, q_set3, setC_ok, setR_ok, rd_obj, rdC_l, frzR_ok, frzC_ok, q_app1, q_app2, appC_ok, q_ext1, q_ext2, extC_ok, extD_ok, appD_ok, Nat.sub_zero, Int.zero_add, at0, at1, at2, at3, last_get, last_set, enum_len, ix0, ix1, ix2, b_mulT1, b_mulL1, b_mulL, b_mulR, b_mulLL, b_mulRR, bi_min2, bi_max2, comp_ints, Nat.reduceSub, Nat.sub_self, b_mod, c_neIN, c_neNN, c_eqNN, q_r11L, q_r22L, c_neB, c_neT2, c_eqT2, c_mem, nc0, nc1, Int.cast_ofNat_Int, take_set, List.take_length, List.length_map, b_div, b_divL, b_pow, b_powL, q_expr, q_expr1, q_ret, q_ret1, q_retN, q_pass, q_stop, q_ifs, q_ifs1, q_for, q_for1, q_ss0, q_ss, q_ssn, q_ssr, q_frz, q_app, q_ext, fnEnd_rt, fnEnd_nx, fnEnd_exc, go_ok, go_bad, go_exc, tru_tup, rdC_i, fldR_ok, q_fld, q_fld1, mtR_ok, metR_ok, q_mt2, q_meth, q_meth1, q_mk3, q_mk2, mtKR_ok, metKR_ok, q_methk, q_methk1, tabAt_0, tabAt_1, fldN_1, putN_0, putN_1, madeR_ok, kMade_ok, q_mk, q_mk1, mkPR_ok, q_mkk, q_mkk1, q_mkk2, kMadeM_ok, q_mkM, q_mkM1, iscR_ok, q_isc, q_isc1, isc_ins, isc_non, isc_bl, isc_int, isc_str, isc_lst, isc_tup, isc_dct, setFC_ok, q_setF, q_setF1, q_setF2, String.reduceEq,  br_t, br_f, tru_bl, tru_int, tru_non, tru_lst, rd_d, retD_ok, opD_ok, b_add, b_sub, c_lt, c_le, c_gt, c_ge, c_eqI, c_neI, c_eqS, c_neS, i_lst, i_tup, bi_int, bi_intB, bi_lenL, bi_lenT, bi_abs, bind1, bindM, isK, pickAll, wipeE, leave_cut, q_tup1, q_lst1, dispR_ok, Nat.zero_le, Nat.reduceLeDiff, Nat.reduceAdd, Nat.reduceLT, Int.reduceLT, Int.reduceLE, Nat.reducePow, Int.reducePow, Int.reduceToNat, Int.reduceNeg, Int.reduceAdd, Nat.zero_add, Option.bind_some, Option.map_some, Option.bind, Option.map, List.getElem?_cons_zero, List.getElem?_cons_succ, List.set_cons_zero, List.set_cons_succ, List.map_cons, List.map_nil, List.cons_append, List.nil_append, List.length_cons, List.length_nil, List.replicate_succ, List.replicate_zero, decide_true, decide_false, eq_self, and_self, true_and, and_true, and_false, false_and, not_true_eq_false, not_false_eq_true, beq_self_eq_true, Bool.not_true, Bool.not_false, Bool.and_true, Bool.and_false, if_true, if_false, u1, u2, u3, hy, atD, Option.getD_some]
    simp only [wd] at nw mi mi2 hT1 hT3 hT4 sh
    obtain ⟨t, z⟩ := nxt_split L w
    rcases z with ⟨f1, f2⟩ | ⟨x, u, f1, hx, f2⟩
    · have ht : t = m := by rw [← hl, f1, List.length_replicate]
      subst ht
      have lp := zero_ok (n + 6) (100000 - t - 1) [] L (st0 ns lap' rest') (some (.obj 0)) (some (.d (.int t))) (some (.d (.int r3))) (some (.d (.lst (w.map .int)))) (some (.d (.str T2))) none none (.inl rfl) t 0 ((t : Int) - 1) (by simp)
      rw [show 100000 - t - 1 + t + 1 = 100000 by omega] at lp
      have ew : w.map D.int = List.replicate t (D.int (L - 1)) := by rw [f1, List.map_replicate]
      simp only [List.nil_append, List.replicate_zero, List.append_nil, Nat.add_zero, List.length_nil, nc0, Int.zero_sub, cO, bO, st0] at lp
      rw [← ew] at lp
      have y3 : 1 + t ≤ 100000 := by omega
      rw [f2] at nw hT3
      simp only [List.map_replicate, List.replicate_succ, List.map_cons] at nw hT3
      simp only [q_lit, q_var, varR_ok, q_bin, q_bin1, q_bin2, q_cmp, q_cmp1, q_cmp2, q_neg, q_neg1, q_isn, q_isn_non, q_isn_bl, q_isn_int, q_isn_str, q_isn_lst, q_isn_tup, q_and, q_or, q_and1, q_or1, q_and2, q_or2, q_kand, q_kor, q_not, q_not1, notR_ok, q_ite, q_ite1, q_tup, q_lst, q_new, q_new1, q_idx, q_idx1, q_idx2, ixR_ok, q_sli, q_sli1, q_sli2, q_sli3, sliR_scr, sliR_lst, q_onone, q_osome, q_os, q_call, q_callk, q_callk1, q_callk2, permR_ok, q_bi, q_bi1, biR_ok, q_isi, q_isi1, isiR_ok, q_isiT, q_isiT1, isiTR_ok, q_chain, q_ch1, q_ch2, q_chC, q_ch3, chB_ok, q_revT, q_revT1, q_rev, q_rev1, revR_ok, q_slt, q_slt1, q_slt2, q_slt3, sltR_ok, q_whl, q_wl1, q_wlB, q_wl2n, q_wl2r, q_aug, augR_ok, q_augA, q_augS, b_addT, b_addL, b_addS, c_isB, c_nisB, bi_allB, bi_anyB, bi_strI, bi_strS, q_lrg, q_lrg1, Int.toNat_natCast, q_comp, q_comp1, q_comp2, q_two, q_two1, q_es0, q_es, q_es1, q_es2, q_spl, q_splL, q_splT, q_spl2, own_app, own_all, own0, own1, consO_ok, rdl0, rdl1, consR_ok, q_seq, q_seqL, q_seqT, q_r1, q_r2, q_r21, q_en, q_en1, q_if0, q_if, q_if1, q_asg, q_asg1, nxR_ok, q_asgT, q_asgT1, q_asg2, q_asg21, setAll0, setAll1, setAllP0, setAllP1, q_set, q_set1, q_set2, q_set3, setC_ok, setR_ok, rd_obj, rdC_l, frzR_ok, frzC_ok, q_app1, q_app2, appC_ok, q_ext1, q_ext2, extC_ok, extD_ok, appD_ok, Nat.sub_zero, Int.zero_add, at0, at1, at2, at3, last_get, last_set, enum_len, ix0, ix1, ix2, b_mulT1, b_mulL1, b_mulL, b_mulR, b_mulLL, b_mulRR, bi_min2, bi_max2, comp_ints, Nat.reduceSub, Nat.sub_self, b_mod, c_neIN, c_neNN, c_eqNN, q_r11L, q_r22L, c_neB, c_neT2, c_eqT2, c_mem, nc0, nc1, Int.cast_ofNat_Int, take_set, List.take_length, List.length_map, b_div, b_divL, b_pow, b_powL, q_expr, q_expr1, q_ret, q_ret1, q_retN, q_pass, q_stop, q_ifs, q_ifs1, q_for, q_for1, q_ss0, q_ss, q_ssn, q_ssr, q_frz, q_app, q_ext, fnEnd_rt, fnEnd_nx, fnEnd_exc, go_ok, go_bad, go_exc, tru_tup, rdC_i, fldR_ok, q_fld, q_fld1, mtR_ok, metR_ok, q_mt2, q_meth, q_meth1, q_mk3, q_mk2, mtKR_ok, metKR_ok, q_methk, q_methk1, tabAt_0, tabAt_1, fldN_1, putN_0, putN_1, madeR_ok, kMade_ok, q_mk, q_mk1, mkPR_ok, q_mkk, q_mkk1, q_mkk2, kMadeM_ok, q_mkM, q_mkM1, iscR_ok, q_isc, q_isc1, isc_ins, isc_non, isc_bl, isc_int, isc_str, isc_lst, isc_tup, isc_dct, setFC_ok, q_setF, q_setF1, q_setF2, String.reduceEq,  br_t, br_f, tru_bl, tru_int, tru_non, tru_lst, rd_d, retD_ok, opD_ok, b_add, b_sub, c_lt, c_le, c_gt, c_ge, c_eqI, c_neI, c_eqS, c_neS, i_lst, i_tup, bi_int, bi_intB, bi_lenL, bi_lenT, bi_abs, bind1, bindM, isK, pickAll, wipeE, leave_cut, q_tup1, q_lst1, dispR_ok, Nat.zero_le, Nat.reduceLeDiff, Nat.reduceAdd, Nat.reduceLT, Int.reduceLT, Int.reduceLE, Nat.reducePow, Int.reducePow, Int.reduceToNat, Int.reduceNeg, Int.reduceAdd, Nat.zero_add, Option.bind_some, Option.map_some, Option.bind, Option.map, List.getElem?_cons_zero, List.getElem?_cons_succ, List.set_cons_zero, List.set_cons_succ, List.map_cons, List.map_nil, List.cons_append, List.nil_append, List.length_cons, List.length_nil, List.replicate_succ, List.replicate_zero, decide_true, decide_false, eq_self, and_self, true_and, and_true, and_false, false_and, not_true_eq_false, not_false_eq_true, beq_self_eq_true, Bool.not_true, Bool.not_false, Bool.and_true, Bool.and_false, if_true, if_false, bi_repr' hT2, bi_lisL, st0]
      rw [lp]
      simp only [q_lit, q_var, varR_ok, q_bin, q_bin1, q_bin2, q_cmp, q_cmp1, q_cmp2, q_neg, q_neg1, q_isn, q_isn_non, q_isn_bl, q_isn_int, q_isn_str, q_isn_lst, q_isn_tup, q_and, q_or, q_and1, q_or1, q_and2, q_or2, q_kand, q_kor, q_not, q_not1, notR_ok, q_ite, q_ite1, q_tup, q_lst, q_new, q_new1, q_idx, q_idx1, q_idx2, ixR_ok, q_sli, q_sli1, q_sli2, q_sli3, sliR_scr, sliR_lst, q_onone, q_osome, q_os, q_call, q_callk, q_callk1, q_callk2, permR_ok, q_bi, q_bi1, biR_ok, q_isi, q_isi1, isiR_ok, q_isiT, q_isiT1, isiTR_ok, q_chain, q_ch1, q_ch2, q_chC, q_ch3, chB_ok, q_revT, q_revT1, q_rev, q_rev1, revR_ok, q_slt, q_slt1, q_slt2, q_slt3, sltR_ok, q_whl, q_wl1, q_wlB, q_wl2n, q_wl2r, q_aug, augR_ok, q_augA, q_augS, b_addT, b_addL, b_addS, c_isB, c_nisB, bi_allB, bi_anyB, bi_strI, bi_strS, q_lrg, q_lrg1, Int.toNat_natCast, q_comp, q_comp1, q_comp2, q_two, q_two1, q_es0, q_es, q_es1, q_es2, q_spl, q_splL, q_splT, q_spl2, own_app, own_all, own0, own1, consO_ok, rdl0, rdl1, consR_ok, q_seq, q_seqL, q_seqT, q_r1, q_r2, q_r21, q_en, q_en1, q_if0, q_if, q_if1, q_asg, q_asg1, nxR_ok, q_asgT, q_asgT1, q_asg2, q_asg21, setAll0, setAll1, setAllP0, setAllP1, q_set, q_set1, q_set2, q_set3, setC_ok, setR_ok, rd_obj, rdC_l, frzR_ok, frzC_ok, q_app1, q_app2, appC_ok, q_ext1, q_ext2, extC_ok, extD_ok, appD_ok, Nat.sub_zero, Int.zero_add, at0, at1, at2, at3, last_get, last_set, enum_len, ix0, ix1, ix2, b_mulT1, b_mulL1, b_mulL, b_mulR, b_mulLL, b_mulRR, bi_min2, bi_max2, comp_ints, Nat.reduceSub, Nat.sub_self, b_mod, c_neIN, c_neNN, c_eqNN, q_r11L, q_r22L, c_neB, c_neT2, c_eqT2, c_mem, nc0, nc1, Int.cast_ofNat_Int, take_set, List.take_length, List.length_map, b_div, b_divL, b_pow, b_powL, q_expr, q_expr1, q_ret, q_ret1, q_retN, q_pass, q_stop, q_ifs, q_ifs1, q_for, q_for1, q_ss0, q_ss, q_ssn, q_ssr, q_frz, q_app, q_ext, fnEnd_rt, fnEnd_nx, fnEnd_exc, go_ok, go_bad, go_exc, tru_tup, rdC_i, fldR_ok, q_fld, q_fld1, mtR_ok, metR_ok, q_mt2, q_meth, q_meth1, q_mk3, q_mk2, mtKR_ok, metKR_ok, q_methk, q_methk1, tabAt_0, tabAt_1, fldN_1, putN_0, putN_1, madeR_ok, kMade_ok, q_mk, q_mk1, mkPR_ok, q_mkk, q_mkk1, q_mkk2, kMadeM_ok, q_mkM, q_mkM1, iscR_ok, q_isc, q_isc1, isc_ins, isc_non, isc_bl, isc_int, isc_str, isc_lst, isc_tup, isc_dct, setFC_ok, q_setF, q_setF1, q_setF2, String.reduceEq,  br_t, br_f, tru_bl, tru_int, tru_non, tru_lst, rd_d, retD_ok, opD_ok, b_add, b_sub, c_lt, c_le, c_gt, c_ge, c_eqI, c_neI, c_eqS, c_neS, i_lst, i_tup, bi_int, bi_intB, bi_lenL, bi_lenT, bi_abs, bind1, bindM, isK, pickAll, wipeE, leave_cut, q_tup1, q_lst1, dispR_ok, Nat.zero_le, Nat.reduceLeDiff, Nat.reduceAdd, Nat.reduceLT, Int.reduceLT, Int.reduceLE, Nat.reducePow, Int.reducePow, Int.reduceToNat, Int.reduceNeg, Int.reduceAdd, Nat.zero_add, Option.bind_some, Option.map_some, Option.bind, Option.map, List.getElem?_cons_zero, List.getElem?_cons_succ, List.set_cons_zero, List.set_cons_succ, List.map_cons, List.map_nil, List.cons_append, List.nil_append, List.length_cons, List.length_nil, List.replicate_succ, List.replicate_zero, decide_true, decide_false, eq_self, and_self, true_and, and_true, and_false, false_and, not_true_eq_false, not_false_eq_true, beq_self_eq_true, Bool.not_true, Bool.not_false, Bool.and_true, Bool.and_false, if_true, if_false, List.length_replicate, y3, nw, bi_tupL, bi_repr' hT3, bi_repr' hT2, mi, x3, x4, bi_repr' hT4]
      rw [cm _ _ rfl rfl rfl]
      simp only [q_lit, q_var, varR_ok, q_bin, q_bin1, q_bin2, q_cmp, q_cmp1, q_cmp2, q_neg, q_neg1, q_isn, q_isn_non, q_isn_bl, q_isn_int, q_isn_str, q_isn_lst, q_isn_tup, q_and, q_or, q_and1, q_or1, q_and2, q_or2, q_kand, q_kor, q_not, q_not1, notR_ok, q_ite, q_ite1, q_tup, q_lst, q_new, q_new1, q_idx, q_idx1, q_idx2, ixR_ok, q_sli, q_sli1, q_sli2, q_sli3, sliR_scr, sliR_lst, q_onone, q_osome, q_os, q_call, q_callk, q_callk1, q_callk2, permR_ok, q_bi, q_bi1, biR_ok, q_isi, q_isi1, isiR_ok, q_isiT, q_isiT1, isiTR_ok, q_chain, q_ch1, q_ch2, q_chC, q_ch3, chB_ok, q_revT, q_revT1, q_rev, q_rev1, revR_ok, q_slt, q_slt1, q_slt2, q_slt3, sltR_ok, q_whl, q_wl1, q_wlB, q_wl2n, q_wl2r, q_aug, augR_ok, q_augA, q_augS, b_addT, b_addL, b_addS, c_isB, c_nisB, bi_allB, bi_anyB, bi_strI, bi_strS, q_lrg, q_lrg1, Int.toNat_natCast, q_comp, q_comp1, q_comp2, q_two, q_two1, q_es0, q_es, q_es1, q_es2, q_spl, q_splL, q_splT, q_spl2, own_app, own_all, own0, own1, consO_ok, rdl0, rdl1, consR_ok, q_seq, q_seqL, q_seqT, q_r1, q_r2, q_r21, q_en, q_en1, q_if0, q_if, q_if1, q_asg, q_asg1, nxR_ok, q_asgT, q_asgT1, q_asg2, q_asg21, setAll0, setAll1, setAllP0, setAllP1, q_set, q_set1, q_set2, q_set3, setC_ok, setR_ok, rd_obj, rdC_l, frzR_ok, frzC_ok, q_app1, q_app2, appC_ok, q_ext1, q_ext2, extC_ok, extD_ok, appD_ok, Nat.sub_zero, Int.zero_add, at0, at1, at2, at3, last_get, last_set, enum_len, ix0, ix1, ix2, b_mulT1, b_mulL1, b_mulL, b_mulR, b_mulLL, b_mulRR, bi_min2, bi_max2, comp_ints, Nat.reduceSub, Nat.sub_self, b_mod, c_neIN, c_neNN, c_eqNN, q_r11L, q_r22L, c_neB, c_neT2, c_eqT2, c_mem, nc0, nc1, Int.cast_ofNat_Int, take_set, List.take_length, List.length_map, b_div, b_divL, b_pow, b_powL, q_expr, q_expr1, q_ret, q_ret1, q_retN, q_pass, q_stop, q_ifs, q_ifs1, q_for, q_for1, q_ss0, q_ss, q_ssn, q_ssr, q_frz, q_app, q_ext, fnEnd_rt, fnEnd_nx, fnEnd_exc, go_ok, go_bad, go_exc, tru_tup, rdC_i, fldR_ok, q_fld, q_fld1, mtR_ok, metR_ok, q_mt2, q_meth, q_meth1, q_mk3, q_mk2, mtKR_ok, metKR_ok, q_methk, q_methk1, tabAt_0, tabAt_1, fldN_1, putN_0, putN_1, madeR_ok, kMade_ok, q_mk, q_mk1, mkPR_ok, q_mkk, q_mkk1, q_mkk2, kMadeM_ok, q_mkM, q_mkM1, iscR_ok, q_isc, q_isc1, isc_ins, isc_non, isc_bl, isc_int, isc_str, isc_lst, isc_tup, isc_dct, setFC_ok, q_setF, q_setF1, q_setF2, String.reduceEq,  br_t, br_f, tru_bl, tru_int, tru_non, tru_lst, rd_d, retD_ok, opD_ok, b_add, b_sub, c_lt, c_le, c_gt, c_ge, c_eqI, c_neI, c_eqS, c_neS, i_lst, i_tup, bi_int, bi_intB, bi_lenL, bi_lenT, bi_abs, bind1, bindM, isK, pickAll, wipeE, leave_cut, q_tup1, q_lst1, dispR_ok, Nat.zero_le, Nat.reduceLeDiff, Nat.reduceAdd, Nat.reduceLT, Int.reduceLT, Int.reduceLE, Nat.reducePow, Int.reducePow, Int.reduceToNat, Int.reduceNeg, Int.reduceAdd, Nat.zero_add, Option.bind_some, Option.map_some, Option.bind, Option.map, List.getElem?_cons_zero, List.getElem?_cons_succ, List.set_cons_zero, List.set_cons_succ, List.map_cons, List.map_nil, List.cons_append, List.nil_append, List.length_cons, List.length_nil, List.replicate_succ, List.replicate_zero, decide_true, decide_false, eq_self, and_self, true_and, and_true, and_false, false_and, not_true_eq_false, not_false_eq_true, beq_self_eq_true, Bool.not_true, Bool.not_false, Bool.and_true, Bool.and_false, if_true, if_false, bi_tupL, bi_repr' hT4, mi2, c_eqTT sh]
      exact sat_ok ⟨lap', rest', _, rfl, rfl, g1, by omega, g3⟩
    · have hlen : u.length + (t + 1) = m := by
        rw [← hl, f1, List.length_append, List.length_cons, List.length_replicate]
      have lp := zero_ok (n + 6) (100000 - t - 1) (u.map D.int ++ [.int x]) L (st0 ns lap' rest') (some (.obj 0)) (some (.d (.int m))) (some (.d (.int r3))) (some (.d (.lst (w.map .int)))) (some (.d (.str T2))) none none (.inr ⟨_, x, rfl, hx⟩) t 0 ((m : Int) - 1) (by rw [List.length_append, List.length_map, List.length_singleton]; omega)
      rw [show 100000 - t - 1 + t + 1 = 100000 by omega] at lp
      have ew : w.map D.int = u.map D.int ++ [.int x] ++ List.replicate t (D.int (L - 1)) := by rw [f1, List.map_append, List.map_cons, List.map_replicate, List.append_assoc]; rfl
      have el : ((u.map D.int ++ [D.int x]).length : Int) - 1 = (u.length : Int) := by rw [List.length_append, List.length_map, List.length_singleton]; omega
      rw [el] at lp
      simp only [List.replicate_zero, List.append_nil, Nat.add_zero] at lp
      rw [← ew] at lp
      simp only [cO, bO, st0] at lp
      have q1 : ¬ (u.length : Int) < 0 := by omega
      have eZ : u.map D.int ++ [D.int x] ++ List.replicate t (D.int 0) = u.map D.int ++ D.int x :: List.replicate t (D.int 0) := by rw [List.append_assoc]; rfl
      have q2 : cutL (u.map D.int ++ [D.int x] ++ List.replicate t (D.int 0)) none (some (u.length : Int)) = u.map D.int := by rw [eZ]; exact cut_pre _ _ (by rw [List.length_map])
      have q3 : L2.atI (u.map D.int ++ [D.int x] ++ List.replicate t (D.int 0)) (u.length : Int) = some (.int x) := by rw [eZ]; exact at_mid _ _ _ (by rw [List.length_map])
      have q4 : cutL (u.map D.int ++ [D.int x] ++ List.replicate t (D.int 0)) (some ((u.length : Int) + 1)) none = List.replicate t (D.int 0) := cut_suf _ _ (by rw [List.length_append, List.length_map, List.length_singleton]; omega)
      have y3 : u.length + 1 ≤ 100000 := by omega
      have y4 : u.length + 1 + t ≤ 100000 := by omega
      have e5 : (nxt L w).map D.int = u.map D.int ++ [D.int (x + 1)] ++ List.replicate t (D.int 0) := by rw [f2, List.map_append, List.map_cons, List.map_replicate, List.append_assoc]; rfl
      rw [e5] at nw hT3
      generalize u.map D.int ++ [D.int x] ++ List.replicate t (D.int 0) = W at *
      simp only [q_lit, q_var, varR_ok, q_bin, q_bin1, q_bin2, q_cmp, q_cmp1, q_cmp2, q_neg, q_neg1, q_isn, q_isn_non, q_isn_bl, q_isn_int, q_isn_str, q_isn_lst, q_isn_tup, q_and, q_or, q_and1, q_or1, q_and2, q_or2, q_kand, q_kor, q_not, q_not1, notR_ok, q_ite, q_ite1, q_tup, q_lst, q_new, q_new1, q_idx, q_idx1, q_idx2, ixR_ok, q_sli, q_sli1, q_sli2, q_sli3, sliR_scr, sliR_lst, q_onone, q_osome, q_os, q_call, q_callk, q_callk1, q_callk2, permR_ok, q_bi, q_bi1, biR_ok, q_isi, q_isi1, isiR_ok, q_isiT, q_isiT1, isiTR_ok, q_chain, q_ch1, q_ch2, q_chC, q_ch3, chB_ok, q_revT, q_revT1, q_rev, q_rev1, revR_ok, q_slt, q_slt1, q_slt2, q_slt3, sltR_ok, q_whl, q_wl1, q_wlB, q_wl2n, q_wl2r, q_aug, augR_ok, q_augA, q_augS, b_addT, b_addL, b_addS, c_isB, c_nisB, bi_allB, bi_anyB, bi_strI, bi_strS, q_lrg, q_lrg1, Int.toNat_natCast, q_comp, q_comp1, q_comp2, q_two, q_two1, q_es0, q_es, q_es1, q_es2, q_spl, q_splL, q_splT, q_spl2, own_app, own_all, own0, own1, consO_ok, rdl0, rdl1, consR_ok, q_seq, q_seqL, q_seqT, q_r1, q_r2, q_r21, q_en, q_en1, q_if0, q_if, q_if1, q_asg, q_asg1, nxR_ok, q_asgT, q_asgT1, q_asg2, q_asg21, setAll0, setAll1, setAllP0, setAllP1, q_set, q_set1, q_set2, q_set3, setC_ok, setR_ok, rd_obj, rdC_l, frzR_ok, frzC_ok, q_app1, q_app2, appC_ok, q_ext1, q_ext2, extC_ok, extD_ok, appD_ok, Nat.sub_zero, Int.zero_add, at0, at1, at2, at3, last_get, last_set, enum_len, ix0, ix1, ix2, b_mulT1, b_mulL1, b_mulL, b_mulR, b_mulLL, b_mulRR, bi_min2, bi_max2, comp_ints, Nat.reduceSub, Nat.sub_self, b_mod, c_neIN, c_neNN, c_eqNN, q_r11L, q_r22L, c_neB, c_neT2, c_eqT2, c_mem, nc0, nc1, Int.cast_ofNat_Int, take_set, List.take_length, List.length_map, b_div, b_divL, b_pow, b_powL, q_expr, q_expr1, q_ret, q_ret1, q_retN, q_pass, q_stop, q_ifs, q_ifs1, q_for, q_for1, q_ss0, q_ss, q_ssn, q_ssr, q_frz, q_app, q_ext, fnEnd_rt, fnEnd_nx, fnEnd_exc, go_ok, go_bad, go_exc, tru_tup, rdC_i, fldR_ok, q_fld, q_fld1, mtR_ok, metR_ok, q_mt2, q_meth, q_meth1, q_mk3, q_mk2, mtKR_ok, metKR_ok, q_methk, q_methk1, tabAt_0, tabAt_1, fldN_1, putN_0, putN_1, madeR_ok, kMade_ok, q_mk, q_mk1, mkPR_ok, q_mkk, q_mkk1, q_mkk2, kMadeM_ok, q_mkM, q_mkM1, iscR_ok, q_isc, q_isc1, isc_ins, isc_non, isc_bl, isc_int, isc_str, isc_lst, isc_tup, isc_dct, setFC_ok, q_setF, q_setF1, q_setF2, String.reduceEq,  br_t, br_f, tru_bl, tru_int, tru_non, tru_lst, rd_d, retD_ok, opD_ok, b_add, b_sub, c_lt, c_le, c_gt, c_ge, c_eqI, c_neI, c_eqS, c_neS, i_lst, i_tup, bi_int, bi_intB, bi_lenL, bi_lenT, bi_abs, bind1, bindM, isK, pickAll, wipeE, leave_cut, q_tup1, q_lst1, dispR_ok, Nat.zero_le, Nat.reduceLeDiff, Nat.reduceAdd, Nat.reduceLT, Int.reduceLT, Int.reduceLE, Nat.reducePow, Int.reducePow, Int.reduceToNat, Int.reduceNeg, Int.reduceAdd, Nat.zero_add, Option.bind_some, Option.map_some, Option.bind, Option.map, List.getElem?_cons_zero, List.getElem?_cons_succ, List.set_cons_zero, List.set_cons_succ, List.map_cons, List.map_nil, List.cons_append, List.nil_append, List.length_cons, List.length_nil, List.replicate_succ, List.replicate_zero, decide_true, decide_false, eq_self, and_self, true_and, and_true, and_false, false_and, not_true_eq_false, not_false_eq_true, beq_self_eq_true, Bool.not_true, Bool.not_false, Bool.and_true, Bool.and_false, if_true, if_false, bi_repr' hT2, bi_lisL, st0]
      rw [lp]
      simp only [q_lit, q_var, varR_ok, q_bin, q_bin1, q_bin2, q_cmp, q_cmp1, q_cmp2, q_neg, q_neg1, q_isn, q_isn_non, q_isn_bl, q_isn_int, q_isn_str, q_isn_lst, q_isn_tup, q_and, q_or, q_and1, q_or1, q_and2, q_or2, q_kand, q_kor, q_not, q_not1, notR_ok, q_ite, q_ite1, q_tup, q_lst, q_new, q_new1, q_idx, q_idx1, q_idx2, ixR_ok, q_sli, q_sli1, q_sli2, q_sli3, sliR_scr, sliR_lst, q_onone, q_osome, q_os, q_call, q_callk, q_callk1, q_callk2, permR_ok, q_bi, q_bi1, biR_ok, q_isi, q_isi1, isiR_ok, q_isiT, q_isiT1, isiTR_ok, q_chain, q_ch1, q_ch2, q_chC, q_ch3, chB_ok, q_revT, q_revT1, q_rev, q_rev1, revR_ok, q_slt, q_slt1, q_slt2, q_slt3, sltR_ok, q_whl, q_wl1, q_wlB, q_wl2n, q_wl2r, q_aug, augR_ok, q_augA, q_augS, b_addT, b_addL, b_addS, c_isB, c_nisB, bi_allB, bi_anyB, bi_strI, bi_strS, q_lrg, q_lrg1, Int.toNat_natCast, q_comp, q_comp1, q_comp2, q_two, q_two1, q_es0, q_es, q_es1, q_es2, q_spl, q_splL, q_splT, q_spl2, own_app, own_all, own0, own1, consO_ok, rdl0, rdl1, consR_ok, q_seq, q_seqL, q_seqT, q_r1, q_r2, q_r21, q_en, q_en1, q_if0, q_if, q_if1, q_asg, q_asg1, nxR_ok, q_asgT, q_asgT1, q_asg2, q_asg21, setAll0, setAll1, setAllP0, setAllP1, q_set, q_set1, q_set2, q_set3, setC_ok, setR_ok, rd_obj, rdC_l, frzR_ok, frzC_ok, q_app1, q_app2, appC_ok, q_ext1, q_ext2, extC_ok, extD_ok, appD_ok, Nat.sub_zero, Int.zero_add, at0, at1, at2, at3, last_get, last_set, enum_len, ix0, ix1, ix2, b_mulT1, b_mulL1, b_mulL, b_mulR, b_mulLL, b_mulRR, bi_min2, bi_max2, comp_ints, Nat.reduceSub, Nat.sub_self, b_mod, c_neIN, c_neNN, c_eqNN, q_r11L, q_r22L, c_neB, c_neT2, c_eqT2, c_mem, nc0, nc1, Int.cast_ofNat_Int, take_set, List.take_length, List.length_map, b_div, b_divL, b_pow, b_powL, q_expr, q_expr1, q_ret, q_ret1, q_retN, q_pass, q_stop, q_ifs, q_ifs1, q_for, q_for1, q_ss0, q_ss, q_ssn, q_ssr, q_frz, q_app, q_ext, fnEnd_rt, fnEnd_nx, fnEnd_exc, go_ok, go_bad, go_exc, tru_tup, rdC_i, fldR_ok, q_fld, q_fld1, mtR_ok, metR_ok, q_mt2, q_meth, q_meth1, q_mk3, q_mk2, mtKR_ok, metKR_ok, q_methk, q_methk1, tabAt_0, tabAt_1, fldN_1, putN_0, putN_1, madeR_ok, kMade_ok, q_mk, q_mk1, mkPR_ok, q_mkk, q_mkk1, q_mkk2, kMadeM_ok, q_mkM, q_mkM1, iscR_ok, q_isc, q_isc1, isc_ins, isc_non, isc_bl, isc_int, isc_str, isc_lst, isc_tup, isc_dct, setFC_ok, q_setF, q_setF1, q_setF2, String.reduceEq,  br_t, br_f, tru_bl, tru_int, tru_non, tru_lst, rd_d, retD_ok, opD_ok, b_add, b_sub, c_lt, c_le, c_gt, c_ge, c_eqI, c_neI, c_eqS, c_neS, i_lst, i_tup, bi_int, bi_intB, bi_lenL, bi_lenT, bi_abs, bind1, bindM, isK, pickAll, wipeE, leave_cut, q_tup1, q_lst1, dispR_ok, Nat.zero_le, Nat.reduceLeDiff, Nat.reduceAdd, Nat.reduceLT, Int.reduceLT, Int.reduceLE, Nat.reducePow, Int.reducePow, Int.reduceToNat, Int.reduceNeg, Int.reduceAdd, Nat.zero_add, Option.bind_some, Option.map_some, Option.bind, Option.map, List.getElem?_cons_zero, List.getElem?_cons_succ, List.set_cons_zero, List.set_cons_succ, List.map_cons, List.map_nil, List.cons_append, List.nil_append, List.length_cons, List.length_nil, List.replicate_succ, List.replicate_zero, decide_true, decide_false, eq_self, and_self, true_and, and_true, and_false, false_and, not_true_eq_false, not_false_eq_true, beq_self_eq_true, Bool.not_true, Bool.not_false, Bool.and_true, Bool.and_false, if_true, if_false, sliR_obj, sliO_ok, q1, q2, q3, q4, List.length_append, List.length_replicate, y3, y4, nw, bi_tupL, bi_repr' hT3, bi_repr' hT2, mi, x3, x4, bi_repr' hT4]
      rw [cm _ _ rfl rfl rfl]
      simp only [q_lit, q_var, varR_ok, q_bin, q_bin1, q_bin2, q_cmp, q_cmp1, q_cmp2, q_neg, q_neg1, q_isn, q_isn_non, q_isn_bl, q_isn_int, q_isn_str, q_isn_lst, q_isn_tup, q_and, q_or, q_and1, q_or1, q_and2, q_or2, q_kand, q_kor, q_not, q_not1, notR_ok, q_ite, q_ite1, q_tup, q_lst, q_new, q_new1, q_idx, q_idx1, q_idx2, ixR_ok, q_sli, q_sli1, q_sli2, q_sli3, sliR_scr, sliR_lst, q_onone, q_osome, q_os, q_call, q_callk, q_callk1, q_callk2, permR_ok, q_bi, q_bi1, biR_ok, q_isi, q_isi1, isiR_ok, q_isiT, q_isiT1, isiTR_ok, q_chain, q_ch1, q_ch2, q_chC, q_ch3, chB_ok, q_revT, q_revT1, q_rev, q_rev1, revR_ok, q_slt, q_slt1, q_slt2, q_slt3, sltR_ok, q_whl, q_wl1, q_wlB, q_wl2n, q_wl2r, q_aug, augR_ok, q_augA, q_augS, b_addT, b_addL, b_addS, c_isB, c_nisB, bi_allB, bi_anyB, bi_strI, bi_strS, q_lrg, q_lrg1, Int.toNat_natCast, q_comp, q_comp1, q_comp2, q_two, q_two1, q_es0, q_es, q_es1, q_es2, q_spl, q_splL, q_splT, q_spl2, own_app, own_all, own0, own1, consO_ok, rdl0, rdl1, consR_ok, q_seq, q_seqL, q_seqT, q_r1, q_r2, q_r21, q_en, q_en1, q_if0, q_if, q_if1, q_asg, q_asg1, nxR_ok, q_asgT, q_asgT1, q_asg2, q_asg21, setAll0, setAll1, setAllP0, setAllP1, q_set, q_set1, q_set2, q_set3, setC_ok, setR_ok, rd_obj, rdC_l, frzR_ok, frzC_ok, q_app1, q_app2, appC_ok, q_ext1, q_ext2, extC_ok, extD_ok, appD_ok, Nat.sub_zero, Int.zero_add, at0, at1, at2, at3, last_get, last_set, enum_len, ix0, ix1, ix2, b_mulT1, b_mulL1, b_mulL, b_mulR, b_mulLL, b_mulRR, bi_min2, bi_max2, comp_ints, Nat.reduceSub, Nat.sub_self, b_mod, c_neIN, c_neNN, c_eqNN, q_r11L, q_r22L, c_neB, c_neT2, c_eqT2, c_mem, nc0, nc1, Int.cast_ofNat_Int, take_set, List.take_length, List.length_map, b_div, b_divL, b_pow, b_powL, q_expr, q_expr1, q_ret, q_ret1, q_retN, q_pass, q_stop, q_ifs, q_ifs1, q_for, q_for1, q_ss0, q_ss, q_ssn, q_ssr, q_frz, q_app, q_ext, fnEnd_rt, fnEnd_nx, fnEnd_exc, go_ok, go_bad, go_exc, tru_tup, rdC_i, fldR_ok, q_fld, q_fld1, mtR_ok, metR_ok, q_mt2, q_meth, q_meth1, q_mk3, q_mk2, mtKR_ok, metKR_ok, q_methk, q_methk1, tabAt_0, tabAt_1, fldN_1, putN_0, putN_1, madeR_ok, kMade_ok, q_mk, q_mk1, mkPR_ok, q_mkk, q_mkk1, q_mkk2, kMadeM_ok, q_mkM, q_mkM1, iscR_ok, q_isc, q_isc1, isc_ins, isc_non, isc_bl, isc_int, isc_str, isc_lst, isc_tup, isc_dct, setFC_ok, q_setF, q_setF1, q_setF2, String.reduceEq,  br_t, br_f, tru_bl, tru_int, tru_non, tru_lst, rd_d, retD_ok, opD_ok, b_add, b_sub, c_lt, c_le, c_gt, c_ge, c_eqI, c_neI, c_eqS, c_neS, i_lst, i_tup, bi_int, bi_intB, bi_lenL, bi_lenT, bi_abs, bind1, bindM, isK, pickAll, wipeE, leave_cut, q_tup1, q_lst1, dispR_ok, Nat.zero_le, Nat.reduceLeDiff, Nat.reduceAdd, Nat.reduceLT, Int.reduceLT, Int.reduceLE, Nat.reducePow, Int.reducePow, Int.reduceToNat, Int.reduceNeg, Int.reduceAdd, Nat.zero_add, Option.bind_some, Option.map_some, Option.bind, Option.map, List.getElem?_cons_zero, List.getElem?_cons_succ, List.set_cons_zero, List.set_cons_succ, List.map_cons, List.map_nil, List.cons_append, List.nil_append, List.length_cons, List.length_nil, List.replicate_succ, List.replicate_zero, decide_true, decide_false, eq_self, and_self, true_and, and_true, and_false, false_and, not_true_eq_false, not_false_eq_true, beq_self_eq_true, Bool.not_true, Bool.not_false, Bool.and_true, Bool.and_false, if_true, if_false, bi_tupL, bi_repr' hT4, mi2, c_eqTT sh]
      exact sat_ok ⟨lap', rest', _, rfl, rfl, g1, by omega, g3⟩
  · rintro fl s ⟨lap', rest', c, rfl, rfl, g1, g2, g3⟩
    simp only [q_lit, q_var, varR_ok, q_bin, q_bin1, q_bin2, q_cmp, q_cmp1, q_cmp2, q_neg, q_neg1, q_isn, q_isn_non, q_isn_bl, q_isn_int, q_isn_str, q_isn_lst, q_isn_tup, q_and, q_or, q_and1, q_or1, q_and2, q_or2, q_kand, q_kor, q_not, q_not1, notR_ok, q_ite, q_ite1, q_tup, q_lst, q_new, q_new1, q_idx, q_idx1, q_idx2, ixR_ok, q_sli, q_sli1, q_sli2, q_sli3, sliR_scr, sliR_lst, q_onone, q_osome, q_os, q_call, q_callk, q_callk1, q_callk2, permR_ok, q_bi, q_bi1, biR_ok, q_isi, q_isi1, isiR_ok, q_isiT, q_isiT1, isiTR_ok, q_chain, q_ch1, q_ch2, q_chC, q_ch3, chB_ok, q_revT, q_revT1, q_rev, q_rev1, revR_ok, q_slt, q_slt1, q_slt2, q_slt3, sltR_ok, q_whl, q_wl1, q_wlB, q_wl2n, q_wl2r, q_aug, augR_ok, q_augA, q_augS, b_addT, b_addL, b_addS, c_isB, c_nisB, bi_allB, bi_anyB, bi_strI, bi_strS, q_lrg, q_lrg1, Int.toNat_natCast, q_comp, q_comp1, q_comp2, q_two, q_two1, q_es0, q_es, q_es1, q_es2, q_spl, q_splL, q_splT, q_spl2, own_app, own_all, own0, own1, consO_ok, rdl0, rdl1, consR_ok, q_seq, q_seqL, q_seqT, q_r1, q_r2, q_r21, q_en, q_en1, q_if0, q_if, q_if1, q_asg, q_asg1, nxR_ok, q_asgT, q_asgT1, q_asg2, q_asg21, setAll0, setAll1, setAllP0, setAllP1, q_set, q_set1, q_set2, q_set3, setC_ok, setR_ok, rd_obj, rdC_l, frzR_ok, frzC_ok, q_app1, q_app2, appC_ok, q_ext1, q_ext2, extC_ok, extD_ok, appD_ok, Nat.sub_zero, Int.zero_add, at0, at1, at2, at3, last_get, last_set, enum_len, ix0, ix1, ix2, b_mulT1, b_mulL1, b_mulL, b_mulR, b_mulLL, b_mulRR, bi_min2, bi_max2, comp_ints, Nat.reduceSub, Nat.sub_self, b_mod, c_neIN, c_neNN, c_eqNN, q_r11L, q_r22L, c_neB, c_neT2, c_eqT2, c_mem, nc0, nc1, Int.cast_ofNat_Int, take_set, List.take_length, List.length_map, b_div, b_divL, b_pow, b_powL, q_expr, q_expr1, q_ret, q_ret1, q_retN, q_pass, q_stop, q_ifs, q_ifs1, q_for, q_for1, q_ss0, q_ss, q_ssn, q_ssr, q_frz, q_app, q_ext, fnEnd_rt, fnEnd_nx, fnEnd_exc, go_ok, go_bad, go_exc, tru_tup, rdC_i, fldR_ok, q_fld, q_fld1, mtR_ok, metR_ok, q_mt2, q_meth, q_meth1, q_mk3, q_mk2, mtKR_ok, metKR_ok, q_methk, q_methk1, tabAt_0, tabAt_1, fldN_1, putN_0, putN_1, madeR_ok, kMade_ok, q_mk, q_mk1, mkPR_ok, q_mkk, q_mkk1, q_mkk2, kMadeM_ok, q_mkM, q_mkM1, iscR_ok, q_isc, q_isc1, isc_ins, isc_non, isc_bl, isc_int, isc_str, isc_lst, isc_tup, isc_dct, setFC_ok, q_setF, q_setF1, q_setF2, String.reduceEq,  br_t, br_f, tru_bl, tru_int, tru_non, tru_lst, rd_d, retD_ok, opD_ok, b_add, b_sub, c_lt, c_le, c_gt, c_ge, c_eqI, c_neI, c_eqS, c_neS, i_lst, i_tup, bi_int, bi_intB, bi_lenL, bi_lenT, bi_abs, bind1, bindM, isK, pickAll, wipeE, leave_cut, q_tup1, q_lst1, dispR_ok, Nat.zero_le, Nat.reduceLeDiff, Nat.reduceAdd, Nat.reduceLT, Int.reduceLT, Int.reduceLE, Nat.reducePow, Int.reducePow, Int.reduceToNat, Int.reduceNeg, Int.reduceAdd, Nat.zero_add, Option.bind_some, Option.map_some, Option.bind, Option.map, List.getElem?_cons_zero, List.getElem?_cons_succ, List.set_cons_zero, List.set_cons_succ, List.map_cons, List.map_nil, List.cons_append, List.nil_append, List.length_cons, List.length_nil, List.replicate_succ, List.replicate_zero, decide_true, decide_false, eq_self, and_self, true_and, and_true, and_false, false_and, not_true_eq_false, not_false_eq_true, beq_self_eq_true, Bool.not_true, Bool.not_false, Bool.and_true, Bool.and_false, if_true, if_false, List.take_succ_cons, List.take_zero]
    exact sat_ok ⟨lap', rest', rfl, rfl, g1, g2, g3⟩
theorem shaped_c {l : List Int} : SeqAt.shaped (D.tup (l.map .int)).toP = true := shaped_wd l
set_option maxHeartbeats 4000000 in
theorem law_yes0 (ns0 : List Int) (hn : ns0.length ≤ 63) : (callN FF 9 19 [.scr ns0] []).sat fun v _ => v = .d (.bl true) := by
  rw [q_fn f19 rfl]
  simp only [g_law, q_lit, q_var, varR_ok, q_bin, q_bin1, q_bin2, q_cmp, q_cmp1, q_cmp2, q_neg, q_neg1, q_isn, q_isn_non, q_isn_bl, q_isn_int, q_isn_str, q_isn_lst, q_isn_tup, q_and, q_or, q_and1, q_or1, q_and2, q_or2, q_kand, q_kor, q_not, q_not1, notR_ok, q_ite, q_ite1, q_tup, q_lst, q_new, q_new1, q_idx, q_idx1, q_idx2, ixR_ok, q_sli, q_sli1, q_sli2, q_sli3, sliR_scr, sliR_lst, q_onone, q_osome, q_os, q_call, q_callk, q_callk1, q_callk2, permR_ok, q_bi, q_bi1, biR_ok, q_isi, q_isi1, isiR_ok, q_isiT, q_isiT1, isiTR_ok, q_chain, q_ch1, q_ch2, q_chC, q_ch3, chB_ok, q_revT, q_revT1, q_rev, q_rev1, revR_ok, q_slt, q_slt1, q_slt2, q_slt3, sltR_ok, q_whl, q_wl1, q_wlB, q_wl2n, q_wl2r, q_aug, augR_ok, q_augA, q_augS, b_addT, b_addL, b_addS, c_isB, c_nisB, bi_allB, bi_anyB, bi_strI, bi_strS, q_lrg, q_lrg1, Int.toNat_natCast, q_comp, q_comp1, q_comp2, q_two, q_two1, q_es0, q_es, q_es1, q_es2, q_spl, q_splL, q_splT, q_spl2, own_app, own_all, own0, own1, consO_ok, rdl0, rdl1, consR_ok, q_seq, q_seqL, q_seqT, q_r1, q_r2, q_r21, q_en, q_en1, q_if0, q_if, q_if1, q_asg, q_asg1, nxR_ok, q_asgT, q_asgT1, q_asg2, q_asg21, setAll0, setAll1, setAllP0, setAllP1, q_set, q_set1, q_set2, q_set3, setC_ok, setR_ok, rd_obj, rdC_l, frzR_ok, frzC_ok, q_app1, q_app2, appC_ok, q_ext1, q_ext2, extC_ok, extD_ok, appD_ok, Nat.sub_zero, Int.zero_add, at0, at1, at2, at3, last_get, last_set, enum_len, ix0, ix1, ix2, b_mulT1, b_mulL1, b_mulL, b_mulR, b_mulLL, b_mulRR, bi_min2, bi_max2, comp_ints, Nat.reduceSub, Nat.sub_self, b_mod, c_neIN, c_neNN, c_eqNN, q_r11L, q_r22L, c_neB, c_neT2, c_eqT2, c_mem, nc0, nc1, Int.cast_ofNat_Int, take_set, List.take_length, List.length_map, b_div, b_divL, b_pow, b_powL, q_expr, q_expr1, q_ret, q_ret1, q_retN, q_pass, q_stop, q_ifs, q_ifs1, q_for, q_for1, q_ss0, q_ss, q_ssn, q_ssr, q_frz, q_app, q_ext, fnEnd_rt, fnEnd_nx, fnEnd_exc, go_ok, go_bad, go_exc, tru_tup, rdC_i, fldR_ok, q_fld, q_fld1, mtR_ok, metR_ok, q_mt2, q_meth, q_meth1, q_mk3, q_mk2, mtKR_ok, metKR_ok, q_methk, q_methk1, tabAt_0, tabAt_1, fldN_1, putN_0, putN_1, madeR_ok, kMade_ok, q_mk, q_mk1, mkPR_ok, q_mkk, q_mkk1, q_mkk2, kMadeM_ok, q_mkM, q_mkM1, iscR_ok, q_isc, q_isc1, isc_ins, isc_non, isc_bl, isc_int, isc_str, isc_lst, isc_tup, isc_dct, setFC_ok, q_setF, q_setF1, q_setF2, String.reduceEq,  br_t, br_f, tru_bl, tru_int, tru_non, tru_lst, rd_d, retD_ok, opD_ok, b_add, b_sub, c_lt, c_le, c_gt, c_ge, c_eqI, c_neI, c_eqS, c_neS, i_lst, i_tup, bi_int, bi_intB, bi_lenL, bi_lenT, bi_abs, bind1, bindM, isK, pickAll, wipeE, leave_cut, q_tup1, q_lst1, dispR_ok, Nat.zero_le, Nat.reduceLeDiff, Nat.reduceAdd, Nat.reduceLT, Int.reduceLT, Int.reduceLE, Nat.reducePow, Int.reducePow, Int.reduceToNat, Int.reduceNeg, Int.reduceAdd, Nat.zero_add, Option.bind_some, Option.map_some, Option.bind, Option.map, List.getElem?_cons_zero, List.getElem?_cons_succ, List.set_cons_zero, List.set_cons_succ, List.map_cons, List.map_nil, List.cons_append, List.nil_append, List.length_cons, List.length_nil, List.replicate_succ, List.replicate_zero, decide_true, decide_false, eq_self, and_self, true_and, and_true, and_false, false_and, not_true_eq_false, not_false_eq_true, beq_self_eq_true, Bool.not_true, Bool.not_false, Bool.and_true, Bool.and_false, if_true, if_false, stair_ok 7 ns0 hn]
  generalize cutL ns0 none (some 60) = ns
  refine fnEnd_sat (P := fun fl s => fl = .rt (.d (.bl true))) (go_sat (P := fun fl s => ∃ a lap rest, fl = .nx [a, some (.obj 0), some (.d (.int 1))] ∧ s = [st0 ns lap rest]) ?_ ?_) ?_
  · rw [for_def]
    refine for_inv (fun i ρ s => ∃ a c lap rest, ρ = [a, some (.obj 0), c] ∧ s = [st0 ns lap rest] ∧ 0 ≤ lap ∧ lap ≤ 1000 * (i : Int) ∧ 0 ≤ rest ∧ (i = 2 → c = some (.d (.int 1)))) _ 0 _ _ ⟨_, _, 0, 0, rfl, rfl, by omega, by omega, by omega, fun h => by cases h⟩ ?_ ?_
    · rintro j x ρ s _ hx ⟨a, c, lap, rest, rfl, rfl, h1, h2, h3, _⟩
      obtain ⟨hj, rfl⟩ := rng_at hx
      refine ⟨_, rfl, ?_⟩
      have hj2 : j < 2 := hj
      obtain ⟨v1, s1, e1, lap1, rest1, rfl, rfl, g1, g2, g3⟩ := sat_eq (allright_ok 0 ns lap rest h1 (by omega) h3)
      obtain ⟨v2, s2, e2, lap2, rest2, rfl, rfl, g4, g5, g6⟩ := sat_eq (oneright_ok 1 ns lap1 rest1 g1 (by omega) g3)
      simp only [q_lit, q_var, varR_ok, q_bin, q_bin1, q_bin2, q_cmp, q_cmp1, q_cmp2, q_neg, q_neg1, q_isn, q_isn_non, q_isn_bl, q_isn_int, q_isn_str, q_isn_lst, q_isn_tup, q_and, q_or, q_and1, q_or1, q_and2, q_or2, q_kand, q_kor, q_not, q_not1, notR_ok, q_ite, q_ite1, q_tup, q_lst, q_new, q_new1, q_idx, q_idx1, q_idx2, ixR_ok, q_sli, q_sli1, q_sli2, q_sli3, sliR_scr, sliR_lst, q_onone, q_osome, q_os, q_call, q_callk, q_callk1, q_callk2, permR_ok, q_bi, q_bi1, biR_ok, q_isi, q_isi1, isiR_ok, q_isiT, q_isiT1, isiTR_ok, q_chain, q_ch1, q_ch2, q_chC, q_ch3, chB_ok, q_revT, q_revT1, q_rev, q_rev1, revR_ok, q_slt, q_slt1, q_slt2, q_slt3, sltR_ok, q_whl, q_wl1, q_wlB, q_wl2n, q_wl2r, q_aug, augR_ok, q_augA, q_augS, b_addT, b_addL, b_addS, c_isB, c_nisB, bi_allB, bi_anyB, bi_strI, bi_strS, q_lrg, q_lrg1, Int.toNat_natCast, q_comp, q_comp1, q_comp2, q_two, q_two1, q_es0, q_es, q_es1, q_es2, q_spl, q_splL, q_splT, q_spl2, own_app, own_all, own0, own1, consO_ok, rdl0, rdl1, consR_ok, q_seq, q_seqL, q_seqT, q_r1, q_r2, q_r21, q_en, q_en1, q_if0, q_if, q_if1, q_asg, q_asg1, nxR_ok, q_asgT, q_asgT1, q_asg2, q_asg21, setAll0, setAll1, setAllP0, setAllP1, q_set, q_set1, q_set2, q_set3, setC_ok, setR_ok, rd_obj, rdC_l, frzR_ok, frzC_ok, q_app1, q_app2, appC_ok, q_ext1, q_ext2, extC_ok, extD_ok, appD_ok, Nat.sub_zero, Int.zero_add, at0, at1, at2, at3, last_get, last_set, enum_len, ix0, ix1, ix2, b_mulT1, b_mulL1, b_mulL, b_mulR, b_mulLL, b_mulRR, bi_min2, bi_max2, comp_ints, Nat.reduceSub, Nat.sub_self, b_mod, c_neIN, c_neNN, c_eqNN, q_r11L, q_r22L, c_neB, c_neT2, c_eqT2, c_mem, nc0, nc1, Int.cast_ofNat_Int, take_set, List.take_length, List.length_map, b_div, b_divL, b_pow, b_powL, q_expr, q_expr1, q_ret, q_ret1, q_retN, q_pass, q_stop, q_ifs, q_ifs1, q_for, q_for1, q_ss0, q_ss, q_ssn, q_ssr, q_frz, q_app, q_ext, fnEnd_rt, fnEnd_nx, fnEnd_exc, go_ok, go_bad, go_exc, tru_tup, rdC_i, fldR_ok, q_fld, q_fld1, mtR_ok, metR_ok, q_mt2, q_meth, q_meth1, q_mk3, q_mk2, mtKR_ok, metKR_ok, q_methk, q_methk1, tabAt_0, tabAt_1, fldN_1, putN_0, putN_1, madeR_ok, kMade_ok, q_mk, q_mk1, mkPR_ok, q_mkk, q_mkk1, q_mkk2, kMadeM_ok, q_mkM, q_mkM1, iscR_ok, q_isc, q_isc1, isc_ins, isc_non, isc_bl, isc_int, isc_str, isc_lst, isc_tup, isc_dct, setFC_ok, q_setF, q_setF1, q_setF2, String.reduceEq,  br_t, br_f, tru_bl, tru_int, tru_non, tru_lst, rd_d, retD_ok, opD_ok, b_add, b_sub, c_lt, c_le, c_gt, c_ge, c_eqI, c_neI, c_eqS, c_neS, i_lst, i_tup, bi_int, bi_intB, bi_lenL, bi_lenT, bi_abs, bind1, bindM, isK, pickAll, wipeE, leave_cut, q_tup1, q_lst1, dispR_ok, Nat.zero_le, Nat.reduceLeDiff, Nat.reduceAdd, Nat.reduceLT, Int.reduceLT, Int.reduceLE, Nat.reducePow, Int.reducePow, Int.reduceToNat, Int.reduceNeg, Int.reduceAdd, Nat.zero_add, Option.bind_some, Option.map_some, Option.bind, Option.map, List.getElem?_cons_zero, List.getElem?_cons_succ, List.set_cons_zero, List.set_cons_succ, List.map_cons, List.map_nil, List.cons_append, List.nil_append, List.length_cons, List.length_nil, List.replicate_succ, List.replicate_zero, decide_true, decide_false, eq_self, and_self, true_and, and_true, and_false, false_and, not_true_eq_false, not_false_eq_true, beq_self_eq_true, Bool.not_true, Bool.not_false, Bool.and_true, Bool.and_false, if_true, if_false, e1, e2]
      refine sat_ok ⟨_, _, lap2, rest2, rfl, rfl, g4, by omega, g6, fun h => ?_⟩
      rw [show j = 1 by omega]; rfl
    · rintro ρ s ⟨a, c, lap, rest, rfl, rfl, h1, h2, h3, h4⟩
      rw [h4 rfl]
      exact ⟨a, lap, rest, rfl, rfl⟩
  · rintro fl s ⟨a, lap, rest, rfl, rfl⟩
    have a1 := fun s => nextw_ok 2 [0] 1 s _ (.inr rfl) (by decide) (by decide) ⟨fun x hx => by rw [List.mem_singleton.mp hx]; decide, by decide, by decide⟩ (by decide)
    have a2 := fun s => mirr_ok 2 [5] s _ (.inr rfl) ⟨fun x hx => by rw [List.mem_singleton.mp hx]; decide, by decide, by decide⟩
    rw [show nxt 1 [0] = [0, 0] from rfl] at a1
    rw [show List.reverse [(5 : Int)] = [5] from rfl] at a2
    have sh1 := shaped_c (l := [0, 0])
    have sh2 := shaped_c (l := [5])
    simp only [wd, List.map_cons, List.map_nil] at a1 a2 sh1 sh2
    simp only [q_lit, q_var, varR_ok, q_bin, q_bin1, q_bin2, q_cmp, q_cmp1, q_cmp2, q_neg, q_neg1, q_isn, q_isn_non, q_isn_bl, q_isn_int, q_isn_str, q_isn_lst, q_isn_tup, q_and, q_or, q_and1, q_or1, q_and2, q_or2, q_kand, q_kor, q_not, q_not1, notR_ok, q_ite, q_ite1, q_tup, q_lst, q_new, q_new1, q_idx, q_idx1, q_idx2, ixR_ok, q_sli, q_sli1, q_sli2, q_sli3, sliR_scr, sliR_lst, q_onone, q_osome, q_os, q_call, q_callk, q_callk1, q_callk2, permR_ok, q_bi, q_bi1, biR_ok, q_isi, q_isi1, isiR_ok, q_isiT, q_isiT1, isiTR_ok, q_chain, q_ch1, q_ch2, q_chC, q_ch3, chB_ok, q_revT, q_revT1, q_rev, q_rev1, revR_ok, q_slt, q_slt1, q_slt2, q_slt3, sltR_ok, q_whl, q_wl1, q_wlB, q_wl2n, q_wl2r, q_aug, augR_ok, q_augA, q_augS, b_addT, b_addL, b_addS, c_isB, c_nisB, bi_allB, bi_anyB, bi_strI, bi_strS, q_lrg, q_lrg1, Int.toNat_natCast, q_comp, q_comp1, q_comp2, q_two, q_two1, q_es0, q_es, q_es1, q_es2, q_spl, q_splL, q_splT, q_spl2, own_app, own_all, own0, own1, consO_ok, rdl0, rdl1, consR_ok, q_seq, q_seqL, q_seqT, q_r1, q_r2, q_r21, q_en, q_en1, q_if0, q_if, q_if1, q_asg, q_asg1, nxR_ok, q_asgT, q_asgT1, q_asg2, q_asg21, setAll0, setAll1, setAllP0, setAllP1, q_set, q_set1, q_set2, q_set3, setC_ok, setR_ok, rd_obj, rdC_l, frzR_ok, frzC_ok, q_app1, q_app2, appC_ok, q_ext1, q_ext2, extC_ok, extD_ok, appD_ok, Nat.sub_zero, Int.zero_add, at0, at1, at2, at3, last_get, last_set, enum_len, ix0, ix1, ix2, b_mulT1, b_mulL1, b_mulL, b_mulR, b_mulLL, b_mulRR, bi_min2, bi_max2, comp_ints, Nat.reduceSub, Nat.sub_self, b_mod, c_neIN, c_neNN, c_eqNN, q_r11L, q_r22L, c_neB, c_neT2, c_eqT2, c_mem, nc0, nc1, Int.cast_ofNat_Int, take_set, List.take_length, List.length_map, b_div, b_divL, b_pow, b_powL, q_expr, q_expr1, q_ret, q_ret1, q_retN, q_pass, q_stop, q_ifs, q_ifs1, q_for, q_for1, q_ss0, q_ss, q_ssn, q_ssr, q_frz, q_app, q_ext, fnEnd_rt, fnEnd_nx, fnEnd_exc, go_ok, go_bad, go_exc, tru_tup, rdC_i, fldR_ok, q_fld, q_fld1, mtR_ok, metR_ok, q_mt2, q_meth, q_meth1, q_mk3, q_mk2, mtKR_ok, metKR_ok, q_methk, q_methk1, tabAt_0, tabAt_1, fldN_1, putN_0, putN_1, madeR_ok, kMade_ok, q_mk, q_mk1, mkPR_ok, q_mkk, q_mkk1, q_mkk2, kMadeM_ok, q_mkM, q_mkM1, iscR_ok, q_isc, q_isc1, isc_ins, isc_non, isc_bl, isc_int, isc_str, isc_lst, isc_tup, isc_dct, setFC_ok, q_setF, q_setF1, q_setF2, String.reduceEq,  br_t, br_f, tru_bl, tru_int, tru_non, tru_lst, rd_d, retD_ok, opD_ok, b_add, b_sub, c_lt, c_le, c_gt, c_ge, c_eqI, c_neI, c_eqS, c_neS, i_lst, i_tup, bi_int, bi_intB, bi_lenL, bi_lenT, bi_abs, bind1, bindM, isK, pickAll, wipeE, leave_cut, q_tup1, q_lst1, dispR_ok, Nat.zero_le, Nat.reduceLeDiff, Nat.reduceAdd, Nat.reduceLT, Int.reduceLT, Int.reduceLE, Nat.reducePow, Int.reducePow, Int.reduceToNat, Int.reduceNeg, Int.reduceAdd, Nat.zero_add, Option.bind_some, Option.map_some, Option.bind, Option.map, List.getElem?_cons_zero, List.getElem?_cons_succ, List.set_cons_zero, List.set_cons_succ, List.map_cons, List.map_nil, List.cons_append, List.nil_append, List.length_cons, List.length_nil, List.replicate_succ, List.replicate_zero, decide_true, decide_false, eq_self, and_self, true_and, and_true, and_false, false_and, not_true_eq_false, not_false_eq_true, beq_self_eq_true, Bool.not_true, Bool.not_false, Bool.and_true, Bool.and_false, if_true, if_false, a1, a2, c_eqTT sh1, c_eqTT sh2]
    exact sat_ok rfl
  · rintro fl s rfl
    simp only [q_lit, q_var, varR_ok, q_bin, q_bin1, q_bin2, q_cmp, q_cmp1, q_cmp2, q_neg, q_neg1, q_isn, q_isn_non, q_isn_bl, q_isn_int, q_isn_str, q_isn_lst, q_isn_tup, q_and, q_or, q_and1, q_or1, q_and2, q_or2, q_kand, q_kor, q_not, q_not1, notR_ok, q_ite, q_ite1, q_tup, q_lst, q_new, q_new1, q_idx, q_idx1, q_idx2, ixR_ok, q_sli, q_sli1, q_sli2, q_sli3, sliR_scr, sliR_lst, q_onone, q_osome, q_os, q_call, q_callk, q_callk1, q_callk2, permR_ok, q_bi, q_bi1, biR_ok, q_isi, q_isi1, isiR_ok, q_isiT, q_isiT1, isiTR_ok, q_chain, q_ch1, q_ch2, q_chC, q_ch3, chB_ok, q_revT, q_revT1, q_rev, q_rev1, revR_ok, q_slt, q_slt1, q_slt2, q_slt3, sltR_ok, q_whl, q_wl1, q_wlB, q_wl2n, q_wl2r, q_aug, augR_ok, q_augA, q_augS, b_addT, b_addL, b_addS, c_isB, c_nisB, bi_allB, bi_anyB, bi_strI, bi_strS, q_lrg, q_lrg1, Int.toNat_natCast, q_comp, q_comp1, q_comp2, q_two, q_two1, q_es0, q_es, q_es1, q_es2, q_spl, q_splL, q_splT, q_spl2, own_app, own_all, own0, own1, consO_ok, rdl0, rdl1, consR_ok, q_seq, q_seqL, q_seqT, q_r1, q_r2, q_r21, q_en, q_en1, q_if0, q_if, q_if1, q_asg, q_asg1, nxR_ok, q_asgT, q_asgT1, q_asg2, q_asg21, setAll0, setAll1, setAllP0, setAllP1, q_set, q_set1, q_set2, q_set3, setC_ok, setR_ok, rd_obj, rdC_l, frzR_ok, frzC_ok, q_app1, q_app2, appC_ok, q_ext1, q_ext2, extC_ok, extD_ok, appD_ok, Nat.sub_zero, Int.zero_add, at0, at1, at2, at3, last_get, last_set, enum_len, ix0, ix1, ix2, b_mulT1, b_mulL1, b_mulL, b_mulR, b_mulLL, b_mulRR, bi_min2, bi_max2, comp_ints, Nat.reduceSub, Nat.sub_self, b_mod, c_neIN, c_neNN, c_eqNN, q_r11L, q_r22L, c_neB, c_neT2, c_eqT2, c_mem, nc0, nc1, Int.cast_ofNat_Int, take_set, List.take_length, List.length_map, b_div, b_divL, b_pow, b_powL, q_expr, q_expr1, q_ret, q_ret1, q_retN, q_pass, q_stop, q_ifs, q_ifs1, q_for, q_for1, q_ss0, q_ss, q_ssn, q_ssr, q_frz, q_app, q_ext, fnEnd_rt, fnEnd_nx, fnEnd_exc, go_ok, go_bad, go_exc, tru_tup, rdC_i, fldR_ok, q_fld, q_fld1, mtR_ok, metR_ok, q_mt2, q_meth, q_meth1, q_mk3, q_mk2, mtKR_ok, metKR_ok, q_methk, q_methk1, tabAt_0, tabAt_1, fldN_1, putN_0, putN_1, madeR_ok, kMade_ok, q_mk, q_mk1, mkPR_ok, q_mkk, q_mkk1, q_mkk2, kMadeM_ok, q_mkM, q_mkM1, iscR_ok, q_isc, q_isc1, isc_ins, isc_non, isc_bl, isc_int, isc_str, isc_lst, isc_tup, isc_dct, setFC_ok, q_setF, q_setF1, q_setF2, String.reduceEq,  br_t, br_f, tru_bl, tru_int, tru_non, tru_lst, rd_d, retD_ok, opD_ok, b_add, b_sub, c_lt, c_le, c_gt, c_ge, c_eqI, c_neI, c_eqS, c_neS, i_lst, i_tup, bi_int, bi_intB, bi_lenL, bi_lenT, bi_abs, bind1, bindM, isK, pickAll, wipeE, leave_cut, q_tup1, q_lst1, dispR_ok, Nat.zero_le, Nat.reduceLeDiff, Nat.reduceAdd, Nat.reduceLT, Int.reduceLT, Int.reduceLE, Nat.reducePow, Int.reducePow, Int.reduceToNat, Int.reduceNeg, Int.reduceAdd, Nat.zero_add, Option.bind_some, Option.map_some, Option.bind, Option.map, List.getElem?_cons_zero, List.getElem?_cons_succ, List.set_cons_zero, List.set_cons_succ, List.map_cons, List.map_nil, List.cons_append, List.nil_append, List.length_cons, List.length_nil, List.replicate_succ, List.replicate_zero, decide_true, decide_false, eq_self, and_self, true_and, and_true, and_false, false_and, not_true_eq_false, not_false_eq_true, beq_self_eq_true, Bool.not_true, Bool.not_false, Bool.and_true, Bool.and_false, if_true, if_false]
    exact sat_ok rfl
end LAW

set_option Elab.async false
set_option linter.all false
set_option autoImplicit false
set_option maxRecDepth 100000
namespace LAW
open PySem PySem.Spec L2 PD
abbrev topS (j : Nat) : Stmt := PySem.Challenge.pw_backwardrow_k03_words_in_their_order.main.body.getD j (.Pass ⟨0, 0, 0, 0⟩)
abbrev metS (j i : Nat) : Stmt := match topS j with
  | .ClassDef _ _ _ b .. => b.getD i (.Pass ⟨0, 0, 0, 0⟩)
  | _ => .Pass ⟨0, 0, 0, 0⟩
def n_is_integer : Fn := { name := "is_integer", qual := "is_integer", st := (topS 8), N := ["value"], ps := ["value"], g := g_is_integer, ways := [] }
def n_is_within : Fn := { name := "is_within", qual := "is_within", st := (topS 9), N := ["value", "least", "most"], ps := ["value", "least", "most"], g := g_is_within, ways := [] }
def n_is_letter : Fn := { name := "is_letter", qual := "is_letter", st := (topS 10), N := ["value", "letters"], ps := ["value", "letters"], g := g_is_letter, ways := [] }
def n_is_word : Fn := { name := "is_word", qual := "is_word", st := (topS 11), N := ["value", "letters", "each"], ps := ["value", "letters"], g := g_is_word, ways := [] }
def n_need_number : Fn := { name := "need_number", qual := "need_number", st := (topS 12), N := ["value", "part", "least", "most"], ps := ["value", "part", "least", "most"], g := g_need_number, ways := [] }
def n_need_letters : Fn := { name := "need_letters", qual := "need_letters", st := (topS 13), N := ["value"], ps := ["value"], g := g_need_letters, ways := [] }
def n_need_word : Fn := { name := "need_word", qual := "need_word", st := (topS 14), N := ["value", "letters", "part"], ps := ["value", "letters", "part"], g := g_need_word, ways := [] }
def n_words_in : Fn := { name := "words_in", qual := "words_in", st := (topS 18), N := ["letters", "many", "found", "_", "word", "letter"], ps := ["letters", "many"], g := g_words_in, ways := [] }
def n_counted : Fn := { name := "counted", qual := "counted", st := (topS 19), N := ["letters", "many", "found", "_"], ps := ["letters", "many"], g := g_counted, ways := [] }
def n_behind : Fn := { name := "behind", qual := "behind", st := (topS 20), N := ["letters", "word", "at"], ps := ["letters", "word"], g := g_behind, ways := [] }
def n_all_words : Fn := { name := "all_words", qual := "all_words", st := (topS 21), N := ["letters", "many"], ps := ["letters", "many"], g := g_all_words, ways := [(0, ["many", "letters"], [1, 0])] }
def n_next_word : Fn := { name := "next_word", qual := "next_word", st := (topS 22), N := ["letters", "word", "found"], ps := ["letters", "word"], g := g_next_word, ways := [(0, ["word", "letters"], [1, 0])] }
def n_mirrored : Fn := { name := "mirrored", qual := "mirrored", st := (topS 23), N := ["word"], ps := ["word"], g := g_mirrored, ways := [(0, ["word"], [0])] }
def n__law_ledger : Fn := { name := "_law_ledger", qual := "_law_ledger", st := (topS 25), N := ["_law_script", "_law_cell"], ps := ["_law_script"], g := g__law_ledger, ways := [] }
def n__law_leaf : Fn := { name := "_law_leaf", qual := "_law_leaf", st := (topS 26), N := ["_law_ledger_here", "_law_many", "_law_at", "_law_cell", "_law_mixed", "_law_rest"], ps := ["_law_ledger_here", "_law_many"], g := g__law_leaf, ways := [] }
def n__law_one : Fn := { name := "_law_one", qual := "_law_one", st := (topS 27), N := ["_law_ledger_here", "_law_some"], ps := ["_law_ledger_here", "_law_some"], g := g__law_one, ways := [] }
def n__law_figures : Fn := { name := "_law_figures", qual := "_law_figures", st := (topS 28), N := ["_law_number", "_law_letters", "_law_many", "_law_found", "_law_place"], ps := ["_law_number", "_law_letters", "_law_many"], g := g__law_figures, ways := [] }
def n__law_all_right : Fn := { name := "_law_all_right", qual := "_law_all_right", st := (topS 29), N := ["_law_ledger_here", "_law_letters", "_law_many", "_law_told", "_law_most", "_law_place", "_law_due", "_law_at", "_law_spot", "_law_behind", "_law_number"], ps := ["_law_ledger_here"], g := g__law_all_right, ways := [] }
def n__law_one_right : Fn := { name := "_law_one_right", qual := "_law_one_right", st := (topS 30), N := ["_law_ledger_here", "_law_letters", "_law_many", "_law_tail", "_law_word", "_law_kept", "_law_found", "_law_told", "_law_at", "_law_place"], ps := ["_law_ledger_here"], g := g__law_one_right, ways := [] }
def n_law : Fn := { name := "law", qual := "law", st := (topS 31), N := ["_law_script", "_law_ledger_here", "_law_lap"], ps := ["_law_script"], g := g_law, ways := [] }
def tab : Tbl := { fns := [n_is_integer, n_is_within, n_is_letter, n_is_word, n_need_number, n_need_letters, n_need_word, n_words_in, n_counted, n_behind, n_all_words, n_next_word, n_mirrored, n__law_ledger, n__law_leaf, n__law_one, n__law_figures, n__law_all_right, n__law_one_right, n_law], free := ["abs", "all", "bool", "int", "isinstance", "len", "list", "range", "repr", "tuple"], consts := [("LONGEST", (.int 200)), ("MOST_LETTERS", (.int 6)), ("MOST_MANY", (.int 12)), ("MOST_WORDS", (.int 4096))], mets := [], maks := [], iscs := [], flds := [] }
theorem p_is_integer : FnP n_is_integer where
  bind := fun _ _ _ _ _ _ _ us hl => match us, hl with | [_], _ => rfl
  way := fun _ q hq => nomatch hq
  wayD := fun h => absurd rfl h
theorem p_is_within : FnP n_is_within where
  bind := fun _ _ _ _ _ _ _ us hl => match us, hl with | [_, _, _], _ => rfl
  way := fun _ q hq => nomatch hq
  wayD := fun h => absurd rfl h
theorem p_is_letter : FnP n_is_letter where
  bind := fun _ _ _ _ _ _ _ us hl => match us, hl with | [_, _], _ => rfl
  way := fun _ q hq => nomatch hq
  wayD := fun h => absurd rfl h
theorem p_is_word : FnP n_is_word where
  bind := fun _ _ _ _ _ _ _ us hl => match us, hl with | [_, _], _ => rfl
  way := fun _ q hq => nomatch hq
  wayD := fun h => absurd rfl h
theorem p_need_number : FnP n_need_number where
  bind := fun _ _ _ _ _ _ _ us hl => match us, hl with | [_, _, _, _], _ => rfl
  way := fun _ q hq => nomatch hq
  wayD := fun h => absurd rfl h
theorem p_need_letters : FnP n_need_letters where
  bind := fun _ _ _ _ _ _ _ us hl => match us, hl with | [_], _ => rfl
  way := fun _ q hq => nomatch hq
  wayD := fun h => absurd rfl h
theorem p_need_word : FnP n_need_word where
  bind := fun _ _ _ _ _ _ _ us hl => match us, hl with | [_, _, _], _ => rfl
  way := fun _ q hq => nomatch hq
  wayD := fun h => absurd rfl h
theorem p_words_in : FnP n_words_in where
  bind := fun _ _ _ _ _ _ _ us hl => match us, hl with | [_, _], _ => rfl
  way := fun _ q hq => nomatch hq
  wayD := fun h => absurd rfl h
theorem p_counted : FnP n_counted where
  bind := fun _ _ _ _ _ _ _ us hl => match us, hl with | [_, _], _ => rfl
  way := fun _ q hq => nomatch hq
  wayD := fun h => absurd rfl h
theorem p_behind : FnP n_behind where
  bind := fun _ _ _ _ _ _ _ us hl => match us, hl with | [_, _], _ => rfl
  way := fun _ q hq => nomatch hq
  wayD := fun h => absurd rfl h
theorem p_all_words : FnP n_all_words where
  bind := fun _ _ _ _ _ _ _ us hl => match us, hl with | [_, _], _ => rfl
  way := by
    intro _
    intro q hq
    simp only [n_all_words, List.mem_cons, List.not_mem_nil, or_false] at hq
    subst hq
    · exact fun _ _ _ _ _ _ us ws hu hw => match us, ws, hu, hw with | [], [_, _], _, _ => rfl
  wayD := fun h => absurd rfl h
theorem p_next_word : FnP n_next_word where
  bind := fun _ _ _ _ _ _ _ us hl => match us, hl with | [_, _], _ => rfl
  way := by
    intro _
    intro q hq
    simp only [n_next_word, List.mem_cons, List.not_mem_nil, or_false] at hq
    subst hq
    · exact fun _ _ _ _ _ _ us ws hu hw => match us, ws, hu, hw with | [], [_, _], _, _ => rfl
  wayD := fun h => absurd rfl h
theorem p_mirrored : FnP n_mirrored where
  bind := fun _ _ _ _ _ _ _ us hl => match us, hl with | [_], _ => rfl
  way := by
    intro _
    intro q hq
    simp only [n_mirrored, List.mem_cons, List.not_mem_nil, or_false] at hq
    subst hq
    · exact fun _ _ _ _ _ _ us ws hu hw => match us, ws, hu, hw with | [], [_], _, _ => rfl
  wayD := fun h => absurd rfl h
theorem p__law_ledger : FnP n__law_ledger where
  bind := fun _ _ _ _ _ _ _ us hl => match us, hl with | [_], _ => rfl
  way := fun _ q hq => nomatch hq
  wayD := fun h => absurd rfl h
theorem p__law_leaf : FnP n__law_leaf where
  bind := fun _ _ _ _ _ _ _ us hl => match us, hl with | [_, _], _ => rfl
  way := fun _ q hq => nomatch hq
  wayD := fun h => absurd rfl h
theorem p__law_one : FnP n__law_one where
  bind := fun _ _ _ _ _ _ _ us hl => match us, hl with | [_, _], _ => rfl
  way := fun _ q hq => nomatch hq
  wayD := fun h => absurd rfl h
theorem p__law_figures : FnP n__law_figures where
  bind := fun _ _ _ _ _ _ _ us hl => match us, hl with | [_, _, _], _ => rfl
  way := fun _ q hq => nomatch hq
  wayD := fun h => absurd rfl h
theorem p__law_all_right : FnP n__law_all_right where
  bind := fun _ _ _ _ _ _ _ us hl => match us, hl with | [_], _ => rfl
  way := fun _ q hq => nomatch hq
  wayD := fun h => absurd rfl h
theorem p__law_one_right : FnP n__law_one_right where
  bind := fun _ _ _ _ _ _ _ us hl => match us, hl with | [_], _ => rfl
  way := fun _ q hq => nomatch hq
  wayD := fun h => absurd rfl h
theorem p_law : FnP n_law where
  bind := fun _ _ _ _ _ _ _ us hl => match us, hl with | [_], _ => rfl
  way := fun _ q hq => nomatch hq
  wayD := fun h => absurd rfl h
theorem all_p : ∀ fn ∈ tab.fns, FnP fn := by
  intro fn h
  simp only [tab, List.mem_cons, List.not_mem_nil, or_false] at h
  rcases h with rfl | rfl | rfl | rfl | rfl | rfl | rfl | rfl | rfl | rfl | rfl | rfl | rfl | rfl | rfl | rfl | rfl | rfl | rfl | rfl
  · exact p_is_integer
  · exact p_is_within
  · exact p_is_letter
  · exact p_is_word
  · exact p_need_number
  · exact p_need_letters
  · exact p_need_word
  · exact p_words_in
  · exact p_counted
  · exact p_behind
  · exact p_all_words
  · exact p_next_word
  · exact p_mirrored
  · exact p__law_ledger
  · exact p__law_leaf
  · exact p__law_one
  · exact p__law_figures
  · exact p__law_all_right
  · exact p__law_one_right
  · exact p_law
theorem ck_0 : chkF tab n_is_integer = true := by decide +kernel
theorem ck_1 : chkF tab n_is_within = true := by decide +kernel
theorem ck_2 : chkF tab n_is_letter = true := by decide +kernel
theorem ck_3 : chkF tab n_is_word = true := by decide +kernel
theorem ck_4 : chkF tab n_need_number = true := by decide +kernel
theorem ck_5 : chkF tab n_need_letters = true := by decide +kernel
theorem ck_6 : chkF tab n_need_word = true := by decide +kernel
theorem ck_7 : chkF tab n_words_in = true := by decide +kernel
theorem ck_8 : chkF tab n_counted = true := by decide +kernel
theorem ck_9 : chkF tab n_behind = true := by decide +kernel
theorem ck_10 : chkF tab n_all_words = true := by decide +kernel
theorem ck_11 : chkF tab n_next_word = true := by decide +kernel
theorem ck_12 : chkF tab n_mirrored = true := by decide +kernel
theorem ck_13 : chkF tab n__law_ledger = true := by decide +kernel
theorem ck_14 : chkF tab n__law_leaf = true := by decide +kernel
theorem ck_15 : chkF tab n__law_one = true := by decide +kernel
theorem ck_16 : chkF tab n__law_figures = true := by decide +kernel
theorem ck_17 : chkF tab n__law_all_right = true := by decide +kernel
theorem ck_18 : chkF tab n__law_one_right = true := by decide +kernel
theorem ck_19 : chkF tab n_law = true := by decide +kernel
theorem tab_ok : chkT tab = true := by decide +kernel
theorem text_mk {K : PySem.W.Frag}
    {fa_0 : Addr} {oc_0 kV_0 dc_0 pm_0 cd_0 ct_0 : Value} {od_0 an_0 : Option Addr} {sl_0 : Array (Option Value)}
    (a_0 : PySem.W.nsIn K mainGlobals "is_integer" = some (some (.ref fa_0)))
    (l_0 : K.lookup fa_0 = some ⟨oc_0, od_0, .func (PySem.W.fnOf "is_integer" "is_integer" (defArgs (topS 8)) (defBody (topS 8)) (defScope (topS 8)) .none kV_0 dc_0 pm_0 an_0 cd_0 ct_0), sl_0⟩) (c_0 : PySem.W.codeIn K cd_0 "is_integer" = true) (k_0 : PySem.W.keepIn K (.ref fa_0) = true)
    {fa_1 : Addr} {oc_1 kV_1 dc_1 pm_1 cd_1 ct_1 : Value} {od_1 an_1 : Option Addr} {sl_1 : Array (Option Value)}
    (a_1 : PySem.W.nsIn K mainGlobals "is_within" = some (some (.ref fa_1)))
    (l_1 : K.lookup fa_1 = some ⟨oc_1, od_1, .func (PySem.W.fnOf "is_within" "is_within" (defArgs (topS 9)) (defBody (topS 9)) (defScope (topS 9)) .none kV_1 dc_1 pm_1 an_1 cd_1 ct_1), sl_1⟩) (c_1 : PySem.W.codeIn K cd_1 "is_within" = true) (k_1 : PySem.W.keepIn K (.ref fa_1) = true)
    {fa_2 : Addr} {oc_2 kV_2 dc_2 pm_2 cd_2 ct_2 : Value} {od_2 an_2 : Option Addr} {sl_2 : Array (Option Value)}
    (a_2 : PySem.W.nsIn K mainGlobals "is_letter" = some (some (.ref fa_2)))
    (l_2 : K.lookup fa_2 = some ⟨oc_2, od_2, .func (PySem.W.fnOf "is_letter" "is_letter" (defArgs (topS 10)) (defBody (topS 10)) (defScope (topS 10)) .none kV_2 dc_2 pm_2 an_2 cd_2 ct_2), sl_2⟩) (c_2 : PySem.W.codeIn K cd_2 "is_letter" = true) (k_2 : PySem.W.keepIn K (.ref fa_2) = true)
    {fa_3 : Addr} {oc_3 kV_3 dc_3 pm_3 cd_3 ct_3 : Value} {od_3 an_3 : Option Addr} {sl_3 : Array (Option Value)}
    (a_3 : PySem.W.nsIn K mainGlobals "is_word" = some (some (.ref fa_3)))
    (l_3 : K.lookup fa_3 = some ⟨oc_3, od_3, .func (PySem.W.fnOf "is_word" "is_word" (defArgs (topS 11)) (defBody (topS 11)) (defScope (topS 11)) .none kV_3 dc_3 pm_3 an_3 cd_3 ct_3), sl_3⟩) (c_3 : PySem.W.codeIn K cd_3 "is_word" = true) (k_3 : PySem.W.keepIn K (.ref fa_3) = true)
    {fa_4 : Addr} {oc_4 kV_4 dc_4 pm_4 cd_4 ct_4 : Value} {od_4 an_4 : Option Addr} {sl_4 : Array (Option Value)}
    (a_4 : PySem.W.nsIn K mainGlobals "need_number" = some (some (.ref fa_4)))
    (l_4 : K.lookup fa_4 = some ⟨oc_4, od_4, .func (PySem.W.fnOf "need_number" "need_number" (defArgs (topS 12)) (defBody (topS 12)) (defScope (topS 12)) .none kV_4 dc_4 pm_4 an_4 cd_4 ct_4), sl_4⟩) (c_4 : PySem.W.codeIn K cd_4 "need_number" = true) (k_4 : PySem.W.keepIn K (.ref fa_4) = true)
    {fa_5 : Addr} {oc_5 kV_5 dc_5 pm_5 cd_5 ct_5 : Value} {od_5 an_5 : Option Addr} {sl_5 : Array (Option Value)}
    (a_5 : PySem.W.nsIn K mainGlobals "need_letters" = some (some (.ref fa_5)))
    (l_5 : K.lookup fa_5 = some ⟨oc_5, od_5, .func (PySem.W.fnOf "need_letters" "need_letters" (defArgs (topS 13)) (defBody (topS 13)) (defScope (topS 13)) .none kV_5 dc_5 pm_5 an_5 cd_5 ct_5), sl_5⟩) (c_5 : PySem.W.codeIn K cd_5 "need_letters" = true) (k_5 : PySem.W.keepIn K (.ref fa_5) = true)
    {fa_6 : Addr} {oc_6 kV_6 dc_6 pm_6 cd_6 ct_6 : Value} {od_6 an_6 : Option Addr} {sl_6 : Array (Option Value)}
    (a_6 : PySem.W.nsIn K mainGlobals "need_word" = some (some (.ref fa_6)))
    (l_6 : K.lookup fa_6 = some ⟨oc_6, od_6, .func (PySem.W.fnOf "need_word" "need_word" (defArgs (topS 14)) (defBody (topS 14)) (defScope (topS 14)) .none kV_6 dc_6 pm_6 an_6 cd_6 ct_6), sl_6⟩) (c_6 : PySem.W.codeIn K cd_6 "need_word" = true) (k_6 : PySem.W.keepIn K (.ref fa_6) = true)
    {fa_7 : Addr} {oc_7 kV_7 dc_7 pm_7 cd_7 ct_7 : Value} {od_7 an_7 : Option Addr} {sl_7 : Array (Option Value)}
    (a_7 : PySem.W.nsIn K mainGlobals "words_in" = some (some (.ref fa_7)))
    (l_7 : K.lookup fa_7 = some ⟨oc_7, od_7, .func (PySem.W.fnOf "words_in" "words_in" (defArgs (topS 18)) (defBody (topS 18)) (defScope (topS 18)) .none kV_7 dc_7 pm_7 an_7 cd_7 ct_7), sl_7⟩) (c_7 : PySem.W.codeIn K cd_7 "words_in" = true) (k_7 : PySem.W.keepIn K (.ref fa_7) = true)
    {fa_8 : Addr} {oc_8 kV_8 dc_8 pm_8 cd_8 ct_8 : Value} {od_8 an_8 : Option Addr} {sl_8 : Array (Option Value)}
    (a_8 : PySem.W.nsIn K mainGlobals "counted" = some (some (.ref fa_8)))
    (l_8 : K.lookup fa_8 = some ⟨oc_8, od_8, .func (PySem.W.fnOf "counted" "counted" (defArgs (topS 19)) (defBody (topS 19)) (defScope (topS 19)) .none kV_8 dc_8 pm_8 an_8 cd_8 ct_8), sl_8⟩) (c_8 : PySem.W.codeIn K cd_8 "counted" = true) (k_8 : PySem.W.keepIn K (.ref fa_8) = true)
    {fa_9 : Addr} {oc_9 kV_9 dc_9 pm_9 cd_9 ct_9 : Value} {od_9 an_9 : Option Addr} {sl_9 : Array (Option Value)}
    (a_9 : PySem.W.nsIn K mainGlobals "behind" = some (some (.ref fa_9)))
    (l_9 : K.lookup fa_9 = some ⟨oc_9, od_9, .func (PySem.W.fnOf "behind" "behind" (defArgs (topS 20)) (defBody (topS 20)) (defScope (topS 20)) .none kV_9 dc_9 pm_9 an_9 cd_9 ct_9), sl_9⟩) (c_9 : PySem.W.codeIn K cd_9 "behind" = true) (k_9 : PySem.W.keepIn K (.ref fa_9) = true)
    {fa_10 : Addr} {oc_10 kV_10 dc_10 pm_10 cd_10 ct_10 : Value} {od_10 an_10 : Option Addr} {sl_10 : Array (Option Value)}
    (a_10 : PySem.W.nsIn K mainGlobals "all_words" = some (some (.ref fa_10)))
    (l_10 : K.lookup fa_10 = some ⟨oc_10, od_10, .func (PySem.W.fnOf "all_words" "all_words" (defArgs (topS 21)) (defBody (topS 21)) (defScope (topS 21)) .none kV_10 dc_10 pm_10 an_10 cd_10 ct_10), sl_10⟩) (c_10 : PySem.W.codeIn K cd_10 "all_words" = true) (k_10 : PySem.W.keepIn K (.ref fa_10) = true)
    {fa_11 : Addr} {oc_11 kV_11 dc_11 pm_11 cd_11 ct_11 : Value} {od_11 an_11 : Option Addr} {sl_11 : Array (Option Value)}
    (a_11 : PySem.W.nsIn K mainGlobals "next_word" = some (some (.ref fa_11)))
    (l_11 : K.lookup fa_11 = some ⟨oc_11, od_11, .func (PySem.W.fnOf "next_word" "next_word" (defArgs (topS 22)) (defBody (topS 22)) (defScope (topS 22)) .none kV_11 dc_11 pm_11 an_11 cd_11 ct_11), sl_11⟩) (c_11 : PySem.W.codeIn K cd_11 "next_word" = true) (k_11 : PySem.W.keepIn K (.ref fa_11) = true)
    {fa_12 : Addr} {oc_12 kV_12 dc_12 pm_12 cd_12 ct_12 : Value} {od_12 an_12 : Option Addr} {sl_12 : Array (Option Value)}
    (a_12 : PySem.W.nsIn K mainGlobals "mirrored" = some (some (.ref fa_12)))
    (l_12 : K.lookup fa_12 = some ⟨oc_12, od_12, .func (PySem.W.fnOf "mirrored" "mirrored" (defArgs (topS 23)) (defBody (topS 23)) (defScope (topS 23)) .none kV_12 dc_12 pm_12 an_12 cd_12 ct_12), sl_12⟩) (c_12 : PySem.W.codeIn K cd_12 "mirrored" = true) (k_12 : PySem.W.keepIn K (.ref fa_12) = true)
    {fa_13 : Addr} {oc_13 kV_13 dc_13 pm_13 cd_13 ct_13 : Value} {od_13 an_13 : Option Addr} {sl_13 : Array (Option Value)}
    (a_13 : PySem.W.nsIn K mainGlobals "_law_ledger" = some (some (.ref fa_13)))
    (l_13 : K.lookup fa_13 = some ⟨oc_13, od_13, .func (PySem.W.fnOf "_law_ledger" "_law_ledger" (defArgs (topS 25)) (defBody (topS 25)) (defScope (topS 25)) .none kV_13 dc_13 pm_13 an_13 cd_13 ct_13), sl_13⟩) (c_13 : PySem.W.codeIn K cd_13 "_law_ledger" = true) (k_13 : PySem.W.keepIn K (.ref fa_13) = true)
    {fa_14 : Addr} {oc_14 kV_14 dc_14 pm_14 cd_14 ct_14 : Value} {od_14 an_14 : Option Addr} {sl_14 : Array (Option Value)}
    (a_14 : PySem.W.nsIn K mainGlobals "_law_leaf" = some (some (.ref fa_14)))
    (l_14 : K.lookup fa_14 = some ⟨oc_14, od_14, .func (PySem.W.fnOf "_law_leaf" "_law_leaf" (defArgs (topS 26)) (defBody (topS 26)) (defScope (topS 26)) .none kV_14 dc_14 pm_14 an_14 cd_14 ct_14), sl_14⟩) (c_14 : PySem.W.codeIn K cd_14 "_law_leaf" = true) (k_14 : PySem.W.keepIn K (.ref fa_14) = true)
    {fa_15 : Addr} {oc_15 kV_15 dc_15 pm_15 cd_15 ct_15 : Value} {od_15 an_15 : Option Addr} {sl_15 : Array (Option Value)}
    (a_15 : PySem.W.nsIn K mainGlobals "_law_one" = some (some (.ref fa_15)))
    (l_15 : K.lookup fa_15 = some ⟨oc_15, od_15, .func (PySem.W.fnOf "_law_one" "_law_one" (defArgs (topS 27)) (defBody (topS 27)) (defScope (topS 27)) .none kV_15 dc_15 pm_15 an_15 cd_15 ct_15), sl_15⟩) (c_15 : PySem.W.codeIn K cd_15 "_law_one" = true) (k_15 : PySem.W.keepIn K (.ref fa_15) = true)
    {fa_16 : Addr} {oc_16 kV_16 dc_16 pm_16 cd_16 ct_16 : Value} {od_16 an_16 : Option Addr} {sl_16 : Array (Option Value)}
    (a_16 : PySem.W.nsIn K mainGlobals "_law_figures" = some (some (.ref fa_16)))
    (l_16 : K.lookup fa_16 = some ⟨oc_16, od_16, .func (PySem.W.fnOf "_law_figures" "_law_figures" (defArgs (topS 28)) (defBody (topS 28)) (defScope (topS 28)) .none kV_16 dc_16 pm_16 an_16 cd_16 ct_16), sl_16⟩) (c_16 : PySem.W.codeIn K cd_16 "_law_figures" = true) (k_16 : PySem.W.keepIn K (.ref fa_16) = true)
    {fa_17 : Addr} {oc_17 kV_17 dc_17 pm_17 cd_17 ct_17 : Value} {od_17 an_17 : Option Addr} {sl_17 : Array (Option Value)}
    (a_17 : PySem.W.nsIn K mainGlobals "_law_all_right" = some (some (.ref fa_17)))
    (l_17 : K.lookup fa_17 = some ⟨oc_17, od_17, .func (PySem.W.fnOf "_law_all_right" "_law_all_right" (defArgs (topS 29)) (defBody (topS 29)) (defScope (topS 29)) .none kV_17 dc_17 pm_17 an_17 cd_17 ct_17), sl_17⟩) (c_17 : PySem.W.codeIn K cd_17 "_law_all_right" = true) (k_17 : PySem.W.keepIn K (.ref fa_17) = true)
    {fa_18 : Addr} {oc_18 kV_18 dc_18 pm_18 cd_18 ct_18 : Value} {od_18 an_18 : Option Addr} {sl_18 : Array (Option Value)}
    (a_18 : PySem.W.nsIn K mainGlobals "_law_one_right" = some (some (.ref fa_18)))
    (l_18 : K.lookup fa_18 = some ⟨oc_18, od_18, .func (PySem.W.fnOf "_law_one_right" "_law_one_right" (defArgs (topS 30)) (defBody (topS 30)) (defScope (topS 30)) .none kV_18 dc_18 pm_18 an_18 cd_18 ct_18), sl_18⟩) (c_18 : PySem.W.codeIn K cd_18 "_law_one_right" = true) (k_18 : PySem.W.keepIn K (.ref fa_18) = true)
    {fa_19 : Addr} {oc_19 kV_19 dc_19 pm_19 cd_19 ct_19 : Value} {od_19 an_19 : Option Addr} {sl_19 : Array (Option Value)}
    (a_19 : PySem.W.nsIn K mainGlobals "law" = some (some (.ref fa_19)))
    (l_19 : K.lookup fa_19 = some ⟨oc_19, od_19, .func (PySem.W.fnOf "law" "law" (defArgs (topS 31)) (defBody (topS 31)) (defScope (topS 31)) .none kV_19 dc_19 pm_19 an_19 cd_19 ct_19), sl_19⟩) (c_19 : PySem.W.codeIn K cd_19 "law" = true) (k_19 : PySem.W.keepIn K (.ref fa_19) = true)
    (z0 : PySem.W.nsIn K mainGlobals "abs" = some none)
    (z1 : PySem.W.nsIn K mainGlobals "all" = some none)
    (z2 : PySem.W.nsIn K mainGlobals "bool" = some none)
    (z3 : PySem.W.nsIn K mainGlobals "int" = some none)
    (z4 : PySem.W.nsIn K mainGlobals "isinstance" = some none)
    (z5 : PySem.W.nsIn K mainGlobals "len" = some none)
    (z6 : PySem.W.nsIn K mainGlobals "list" = some none)
    (z7 : PySem.W.nsIn K mainGlobals "range" = some none)
    (z8 : PySem.W.nsIn K mainGlobals "repr" = some none)
    (z9 : PySem.W.nsIn K mainGlobals "tuple" = some none)
    {cst_0 : Tok} (kst0 : PySem.W.nsIn K mainGlobals "LONGEST" = some (some (.int 200 cst_0)))
    {cst_1 : Tok} (kst1 : PySem.W.nsIn K mainGlobals "MOST_LETTERS" = some (some (.int 6 cst_1)))
    {cst_2 : Tok} (kst2 : PySem.W.nsIn K mainGlobals "MOST_MANY" = some (some (.int 12 cst_2)))
    {cst_3 : Tok} (kst3 : PySem.W.nsIn K mainGlobals "MOST_WORDS" = some (some (.int 4096 cst_3))) : TextAt K tab := by
  refine ⟨fun n hn => ?_, fun q hq => ?_, fun fn hf => ?_, fun q hq => ?_, fun q hq => ?_, fun q hq => ?_, fun q hq => ?_⟩
  · simp only [tab, List.mem_cons, List.not_mem_nil, or_false] at hn
    rcases hn with rfl | rfl | rfl | rfl | rfl | rfl | rfl | rfl | rfl | rfl
    · exact z0
    · exact z1
    · exact z2
    · exact z3
    · exact z4
    · exact z5
    · exact z6
    · exact z7
    · exact z8
    · exact z9
  · simp only [tab, List.mem_cons, List.not_mem_nil, or_false] at hq
    rcases hq with rfl | rfl | rfl | rfl
    · exact constI kst0
    · exact constI kst1
    · exact constI kst2
    · exact constI kst3
  · simp only [tab, List.mem_cons, List.not_mem_nil, or_false] at hf
    rcases hf with rfl | rfl | rfl | rfl | rfl | rfl | rfl | rfl | rfl | rfl | rfl | rfl | rfl | rfl | rfl | rfl | rfl | rfl | rfl | rfl
    · exact fnAt_top (fn := n_is_integer) (funW_mk (fn := n_is_integer) dfl0 l_0 c_0 k_0) a_0
    · exact fnAt_top (fn := n_is_within) (funW_mk (fn := n_is_within) dfl0 l_1 c_1 k_1) a_1
    · exact fnAt_top (fn := n_is_letter) (funW_mk (fn := n_is_letter) dfl0 l_2 c_2 k_2) a_2
    · exact fnAt_top (fn := n_is_word) (funW_mk (fn := n_is_word) dfl0 l_3 c_3 k_3) a_3
    · exact fnAt_top (fn := n_need_number) (funW_mk (fn := n_need_number) dfl0 l_4 c_4 k_4) a_4
    · exact fnAt_top (fn := n_need_letters) (funW_mk (fn := n_need_letters) dfl0 l_5 c_5 k_5) a_5
    · exact fnAt_top (fn := n_need_word) (funW_mk (fn := n_need_word) dfl0 l_6 c_6 k_6) a_6
    · exact fnAt_top (fn := n_words_in) (funW_mk (fn := n_words_in) dfl0 l_7 c_7 k_7) a_7
    · exact fnAt_top (fn := n_counted) (funW_mk (fn := n_counted) dfl0 l_8 c_8 k_8) a_8
    · exact fnAt_top (fn := n_behind) (funW_mk (fn := n_behind) dfl0 l_9 c_9 k_9) a_9
    · exact fnAt_top (fn := n_all_words) (funW_mk (fn := n_all_words) dfl0 l_10 c_10 k_10) a_10
    · exact fnAt_top (fn := n_next_word) (funW_mk (fn := n_next_word) dfl0 l_11 c_11 k_11) a_11
    · exact fnAt_top (fn := n_mirrored) (funW_mk (fn := n_mirrored) dfl0 l_12 c_12 k_12) a_12
    · exact fnAt_top (fn := n__law_ledger) (funW_mk (fn := n__law_ledger) dfl0 l_13 c_13 k_13) a_13
    · exact fnAt_top (fn := n__law_leaf) (funW_mk (fn := n__law_leaf) dfl0 l_14 c_14 k_14) a_14
    · exact fnAt_top (fn := n__law_one) (funW_mk (fn := n__law_one) dfl0 l_15 c_15 k_15) a_15
    · exact fnAt_top (fn := n__law_figures) (funW_mk (fn := n__law_figures) dfl0 l_16 c_16 k_16) a_16
    · exact fnAt_top (fn := n__law_all_right) (funW_mk (fn := n__law_all_right) dfl0 l_17 c_17 k_17) a_17
    · exact fnAt_top (fn := n__law_one_right) (funW_mk (fn := n__law_one_right) dfl0 l_18 c_18 k_18) a_18
    · exact fnAt_top (fn := n_law) (funW_mk (fn := n_law) dfl0 l_19 c_19 k_19) a_19
  · cases hq
  · cases hq
  · cases hq
  · cases hq

end LAW

set_option linter.all false
set_option autoImplicit false
set_option maxRecDepth 100000
namespace LAW
open PD PySem
abbrev fuel : Nat := 9
theorem tab_F : tab.F = FF := by
  funext f
  show (tab.fns[f]?).map (·.g) = Fs[f]?
  rw [← List.getElem?_map]
  rfl
theorem law_yes (ns : List Int) (h : ns.length ≤ 63) : Yes (callN tab.F fuel 19 [.scr ns] []) := by
  rw [tab_F]
  obtain ⟨a, s, e, rfl⟩ := sat_eq (law_yes0 ns h)
  exact ⟨s, e⟩
end LAW

set_option maxRecDepth 100000
open PySem PySem.W PyProof.Rows
set_option maxHeartbeats 0 in
theorem PySem.Challenge.cw_backwardrow_k03_words_in_their_order_holds : PySem.Challenge.rw_backwardrow_k03_words_in_their_order.Holds := by
  w_on; o_law; k_head; (case hw => w_witness2)
  k_fill
  refine PD.walkG (l := PySem.Challenge.rw_backwardrow_k03_words_in_their_order) (n := 63) (k := LAW.fuel) (f := 19) (x := "_law_script") (T := LAW.tab) (fn := LAW.n_law) rfl (by decide) rfl ⟨rfl, by decide, by decide⟩ LAW.tab_ok LAW.all_p rfl rfl rfl rfl rfl (fun w h Y => PySem.W.kIn_of Y) ?F LAW.law_yes
  case F =>
    intro w
    refine' LAW.text_mk ?a_0 ?l_0 ?c_0 ?k_0 ?a_1 ?l_1 ?c_1 ?k_1 ?a_2 ?l_2 ?c_2 ?k_2 ?a_3 ?l_3 ?c_3 ?k_3 ?a_4 ?l_4 ?c_4 ?k_4 ?a_5 ?l_5 ?c_5 ?k_5 ?a_6 ?l_6 ?c_6 ?k_6 ?a_7 ?l_7 ?c_7 ?k_7 ?a_8 ?l_8 ?c_8 ?k_8 ?a_9 ?l_9 ?c_9 ?k_9 ?a_10 ?l_10 ?c_10 ?k_10 ?a_11 ?l_11 ?c_11 ?k_11 ?a_12 ?l_12 ?c_12 ?k_12 ?a_13 ?l_13 ?c_13 ?k_13 ?a_14 ?l_14 ?c_14 ?k_14 ?a_15 ?l_15 ?c_15 ?k_15 ?a_16 ?l_16 ?c_16 ?k_16 ?a_17 ?l_17 ?c_17 ?k_17 ?a_18 ?l_18 ?c_18 ?k_18 ?a_19 ?l_19 ?c_19 ?k_19 ?z0 ?z1 ?z2 ?z3 ?z4 ?z5 ?z6 ?z7 ?z8 ?z9 ?kst0 ?kst1 ?kst2 ?kst3
    (case a_0 => k_is); (case l_0 => k_is); (case c_0 => k_is); (case k_0 => k_is); (case a_1 => k_is); (case l_1 => k_is); (case c_1 => k_is); (case k_1 => k_is); (case a_2 => k_is); (case l_2 => k_is); (case c_2 => k_is); (case k_2 => k_is); (case a_3 => k_is); (case l_3 => k_is); (case c_3 => k_is); (case k_3 => k_is); (case a_4 => k_is); (case l_4 => k_is); (case c_4 => k_is); (case k_4 => k_is); (case a_5 => k_is); (case l_5 => k_is); (case c_5 => k_is); (case k_5 => k_is); (case a_6 => k_is); (case l_6 => k_is); (case c_6 => k_is); (case k_6 => k_is); (case a_7 => k_is); (case l_7 => k_is); (case c_7 => k_is); (case k_7 => k_is); (case a_8 => k_is); (case l_8 => k_is); (case c_8 => k_is); (case k_8 => k_is); (case a_9 => k_is); (case l_9 => k_is); (case c_9 => k_is); (case k_9 => k_is); (case a_10 => k_is); (case l_10 => k_is); (case c_10 => k_is); (case k_10 => k_is); (case a_11 => k_is); (case l_11 => k_is); (case c_11 => k_is); (case k_11 => k_is); (case a_12 => k_is); (case l_12 => k_is); (case c_12 => k_is); (case k_12 => k_is); (case a_13 => k_is); (case l_13 => k_is); (case c_13 => k_is); (case k_13 => k_is); (case a_14 => k_is); (case l_14 => k_is); (case c_14 => k_is); (case k_14 => k_is); (case a_15 => k_is); (case l_15 => k_is); (case c_15 => k_is); (case k_15 => k_is); (case a_16 => k_is); (case l_16 => k_is); (case c_16 => k_is); (case k_16 => k_is); (case a_17 => k_is); (case l_17 => k_is); (case c_17 => k_is); (case k_17 => k_is); (case a_18 => k_is); (case l_18 => k_is); (case c_18 => k_is); (case k_18 => k_is); (case a_19 => k_is); (case l_19 => k_is); (case c_19 => k_is); (case k_19 => k_is); (case z0 => k_is); (case z1 => k_is); (case z2 => k_is); (case z3 => k_is); (case z4 => k_is); (case z5 => k_is); (case z6 => k_is); (case z7 => k_is); (case z8 => k_is); (case z9 => k_is); (case kst0 => k_is); (case kst1 => k_is); (case kst2 => k_is); (case kst3 => k_is)

