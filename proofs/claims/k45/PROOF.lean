import PyProof.Rows.All
import Wide.All
import OpenK.AllK
import Wide.FinOn
import PySem.Challenge.RW_nearplain_k45_plain_integrands_and_amoun
import HandS.EndBits
import HandS.Flow
import HandS.ForMost
import HandS.Gcd
import HandS.IsInst
import HandS.Style
import HandS.TupAny
import HandS.TupMul
import HandS.Wide
import HandS.WideBits
import HandS.Zip
set_option Elab.async false
set_option linter.all false
set_option maxRecDepth 100000
set_option maxHeartbeats 8000000
set_option exponentiation.threshold 30000
/-! Mn0: a small language of values, its evaluation -/
namespace Mn
open PySem PySem.Spec PyProof.Rows L2

/-- data by value; a ref is a list that is being filled -/
inductive D where
  | non | bl (b : Bool) | int (i : Int) | str (s : Str)
  | tup (l : List D) | lst (l : List D)
  | ref (n : Nat) | scr (l : List Int)
inductive Ob where
  | lst (l : List D) | dead
abbrev Sto := List Ob
abbrev Rho := List (Option D)
abbrev Re (α : Type) := Option (α × Sto)
@[inline] def bnd {α β : Type} (r : Re α) (f : α → Sto → Re β) : Re β := match r with
  | some (x, M) => f x M
  | none => none
def bndO {α β : Type} (r : Option α) (f : α → Option β) : Option β := match r with
  | some x => f x
  | none => none

/-- targets -/
inductive Tg where
  | name (i : Nat)
  | tup (l : List Nat)
inductive Blt where
  | len | abs | max | min | int | gcd | list | tuple | all | any
mutual
inductive CE where
  | var (i : Nat)
  | int (i : Int) | bl (b : Bool) | non | str (s : Str)
  | gl (c : Nat)
  | tup (es : CEs) | lst (es : CEs)
  | bin (op : Operator) (a b : CE)
  | neg (a : CE)
  | cmp (op : CmpOp) (a b : CE)
  | chain (o1 o2 : CmpOp) (a b c : CE)
  | bool (op : BoolOp) (es : CEs)
  | not (a : CE)
  | ite (t a b : CE)
  | idx (a i : CE)
  | cut (a : CE) (lo hi : CO)
  | rev (a : CE)
  | call (f : Nat) (es : CEs)
  | blt (b : Blt) (es : CEs)
  | isi (a : CE) (t : String)
  | bits (a : CE)
  | comp (e : CE) (vs : List Nat) (tg : Tg) (it : CI) (cond : CO)
inductive CEs where
  | nil | cons (e : CE) (r : CEs)
inductive CO where
  | no | yes (e : CE)
inductive CI where
  | ex (e : CE) | rng1 (a : CE) | rng2 (a b : CE) | enum (a : CE) | zip (a b : CE)
end
mutual
inductive CS where
  | asg (i : Nat) (e : CE)
  | asgR (i : Nat) (e : CE)
  | asgT (l : List Nat) (e : CE)
  | par (i j : Nat) (a b : CE)
  | setI (i : Nat) (k v : CE)
  | app (i : Nat) (e : CE)
  | ife (t : CE) (a b : CSs)
  | for (tg : Tg) (it : CI) (b : CSs)
  | whl (t : CE) (b : CSs)
  | ret (e : CE)
  | retR (i : Nat)
  | drop (e : CE)
  | fail
inductive CSs where
  | nil | cons (s : CS) (r : CSs)
  | frz (i : Nat) (r : CSs)
end

/-! ### operations -/
def line : Nat := 16777216
/-- a list at hand -/
def lstOf (M : Sto) : D → Option (List D)
  | .lst l => some l
  | .ref n => match M[n]? with
    | some (.lst l) => some l
    | _ => none
  | _ => none
def seqOf (M : Sto) : D → Option (List D)
  | .tup l => some l
  | d => lstOf M d
def addD (M : Sto) (x y : D) : Option D := match x, y with
  | .int a, .int b => some (.int (a + b))
  | .tup l, .tup r => if l.length + r.length ≤ line then some (.tup (l ++ r)) else none
  | x, y => bndO (lstOf M x) fun l => bndO (lstOf M y) fun r => if l.length + r.length ≤ line then some (.lst (l ++ r)) else none
def subD (x y : D) : Option D := match x, y with
  | .int a, .int b => some (.int (a - b))
  | _, _ => none
def mulOk (a b : Int) : Bool := decide (a.natAbs.log2 + b.natAbs.log2 < 134217000)
def mulD (M : Sto) (x y : D) : Option D := match x, y with
  | .int a, .int b => if mulOk a b = true then some (.int (a * b)) else none
  | x, .int k => bndO (lstOf M x) fun l => if -(2 ^ 63) ≤ k ∧ k < 2 ^ 63 ∧ l.length * k.toNat ≤ line then some (.lst (List.replicate k.toNat l).flatten) else none
  | _, _ => none
def divOk (b : Int) : Bool := b != 0 && decide (b.natAbs.log2 < 9000)
def fdivD (x y : D) : Option D := match x, y with
  | .int a, .int b => if divOk b = true then some (.int (a.fdiv b)) else none
  | _, _ => none
def modD (x y : D) : Option D := match x, y with
  | .int a, .int b => if b ≠ 0 then some (.int (a.fmod b)) else none
  | _, _ => none
def powD (x y : D) : Option D := match x, y with
  | .int a, .int b => if 0 ≤ b ∧ b ≤ 1000000 ∧ a.natAbs < 2 ^ 64 then some (.int (a ^ b.toNat)) else none
  | _, _ => none
def shlD (x y : D) : Option D := match x, y with
  | .int a, .int b => if 0 ≤ b ∧ b ≤ 1000000 ∧ a.natAbs.log2 < 1000000 then some (.int (a * 2 ^ b.toNat)) else none
  | _, _ => none
def shrD (x y : D) : Option D := match x, y with
  | .int a, .int b => if 0 ≤ b then some (.int (a / 2 ^ b.toNat)) else none
  | _, _ => none
def binD (op : Operator) (M : Sto) (x y : D) : Option D := match op with
  | .Add => addD M x y
  | .Sub => subD x y
  | .Mult => mulD M x y
  | .FloorDiv => fdivD x y
  | .Mod => modD x y
  | .Pow => powD x y
  | .LShift => shlD x y
  | .RShift => shrD x y
  | _ => none
def negD : D → Option D
  | .int a => some (.int (-a))
  | _ => none
/-! equality -/
mutual
def toP : D → Option PyData
  | .non => some .none
  | .bl b => some (.bool b)
  | .int i => some (.int i)
  | .str s => some (.str s)
  | .tup l => bndO (toPs l) fun r => some (.tuple r)
  | .lst l => bndO (toPs l) fun r => some (.list r)
  | _ => none
def toPs : List D → Option (List PyData)
  | [] => some []
  | d :: r => bndO (toP d) fun x => bndO (toPs r) fun y => some (x :: y)
end
def deref (M : Sto) : D → D
  | .ref n => match M[n]? with
    | some (.lst l) => .lst l
    | _ => .ref n
  | d => d
def eqD (M : Sto) (x y : D) : Option Bool := match x, y with
  | .int a, .int b => some (decide (a = b))
  | .str a, .str b => some (decide (a = b))
  | x, y => bndO (toP (deref M x)) fun d => bndO (toP (deref M y)) fun e => if SeqAt.shaped d = true ∧ SeqAt.shaped e = true then some (PyData.eqv d e) else none
def isD (x y : D) : Option Bool := match x, y with
  | .bl a, .bl b => some (decide (a = b))
  | .non, .non => some true
  | .bl _, .non => some false
  | .int _, .non => some false
  | .str _, .non => some false
  | .tup _, .non => some false
  | .lst _, .non => some false
  | _, _ => none
/-- flat things for in -/
def flatD : D → Option V
  | .non => some .non
  | .bl b => some (.bl b)
  | .int i => some (.int i)
  | .str s => some (.str s)
  | _ => none
def flats : List D → Option (List V)
  | [] => some []
  | d :: r => bndO (flatD d) fun v => bndO (flats r) fun vs => some (v :: vs)
def inD (M : Sto) (x y : D) : Option Bool := bndO (flatD x) fun v => bndO (seqOf M y) fun l => bndO (flats l) fun vs => some (inV v vs)
def cmpD (op : CmpOp) (M : Sto) (x y : D) : Option Bool := match op with
  | .Eq => eqD M x y
  | .NotEq => bndO (eqD M x y) fun b => some (!b)
  | .Lt => (match x, y with | .int a, .int b => some (decide (a < b)) | _, _ => none)
  | .LtE => (match x, y with | .int a, .int b => some (decide (a ≤ b)) | _, _ => none)
  | .Gt => (match x, y with | .int a, .int b => some (decide (b < a)) | _, _ => none)
  | .GtE => (match x, y with | .int a, .int b => some (decide (b ≤ a)) | _, _ => none)
  | .Is => isD x y
  | .IsNot => bndO (isD x y) fun b => some (!b)
  | .In => inD M x y
  | .NotIn => bndO (inD M x y) fun b => some (!b)
def truD (M : Sto) (x : D) : Option Bool := match x with
  | .non => some false
  | .bl b => some b
  | .int i => some (i != 0)
  | .tup l => some (!l.isEmpty)
  | x => bndO (lstOf M x) fun l => some (!l.isEmpty)
def idxD (M : Sto) (x y : D) : Option D := match y with
  | .int i => bndO (seqOf M x) fun l => atI l i
  | _ => none
def cutL (xs : List D) (lo hi : Option Int) : List D := (xs.drop (HT.sIx xs.length 0 lo)).take (HT.sIx xs.length xs.length hi - HT.sIx xs.length 0 lo)
def cutD (M : Sto) (x : D) (lo hi : Option Int) : Option D := match x with
  | .tup l => some (.tup (cutL l lo hi))
  | x => bndO (lstOf M x) fun l => some (.lst (cutL l lo hi))
def revD (M : Sto) (x : D) : Option D := bndO (lstOf M x) fun l => some (.lst l.reverse)
def bls : List D → Option (List Bool)
  | [] => some []
  | .bl b :: r => bndO (bls r) fun y => some (b :: y)
  | _ => none
def bltD (b : Blt) (M : Sto) (xs : List D) : Option D := match b, xs with
  | .len, [x] => bndO (seqOf M x) fun l => some (.int l.length)
  | .abs, [.int i] => some (.int (if i < 0 then -i else i))
  | .max, [.int i, .int j] => some (.int (if j > i then j else i))
  | .min, [.int i, .int j] => some (.int (if j < i then j else i))
  | .int, [.int i] => some (.int i)
  | .int, [.bl k] => some (.int (if k then 1 else 0))
  | .gcd, [.int i, .int j] => some (.int ((Nat.gcd i.natAbs j.natAbs : Nat) : Int))
  | .list, [.scr l] => some (.lst (l.map D.int))
  | .list, [x] => bndO (seqOf M x) fun l => some (.lst l)
  | .tuple, [x] => bndO (seqOf M x) fun l => some (.tup l)
  | .all, [x] => bndO (lstOf M x) fun l => bndO (bls l) fun bs => some (.bl (bs.all id))
  | .any, [x] => bndO (lstOf M x) fun l => bndO (bls l) fun bs => some (.bl (bs.any id))
  | _, _ => none
def tyD (M : Sto) : D → Option String
  | .non => some "NoneType"
  | .bl _ => some "bool"
  | .int _ => some "int"
  | .str _ => some "str"
  | .tup _ => some "tuple"
  | x => bndO (lstOf M x) fun _ => some "list"
def isiD (M : Sto) (x : D) (t : String) : Option Bool := bndO (tyD M x) fun s => kitB s t
def bitsD : D → Option D
  | .int i => some (.int ((Builtin.Int.intBits i : Nat) : Int))
  | _ => none

/-! ### evaluation -/
def val : D → Bool
  | .ref _ => false
  | .scr _ => false
  | _ => true
structure Sys where
  call : Nat → List D → Sto → Re D
  gl : Nat → Option D
  fuel : Nat
def setT (tg : Tg) (d : D) (ρ : Rho) : Option Rho := match tg with
  | .name i => some (ρ.set i (some d))
  | .tup l => match d with
    | .tup ds => if ds.length = l.length then some ((l.zip ds).foldl (fun ρ p => ρ.set p.1 (some p.2)) ρ) else none
    | _ => none
def wipeD (ρ : Rho) : List Nat → Rho
  | [] => ρ
  | v :: vs => (wipeD ρ vs).set v none
def enumL (i : Nat) : List D → List D
  | [] => []
  | d :: r => .tup [.int i, d] :: enumL (i + 1) r
def zipL : List D → List D → List D
  | x :: xs, y :: ys => .tup [x, y] :: zipL xs ys
  | _, _ => []
/-- a comprehension's turns -/
def compL (f : D → Sto → Re (Option D)) : List D → Sto → Re (List D)
  | [], M => some ([], M)
  | x :: r, M => bnd (f x M) fun o M1 => bnd (compL f r M1) fun ys M2 => match o with
    | some y => some (y :: ys, M2)
    | none => some (ys, M2)
mutual
def ev (S : Sys) : CE → Rho → Sto → Re D
  | .var i, ρ, M => match ρ[i]? with
    | some (some d) => some (d, M)
    | _ => none
  | .int i, _, M => some (.int i, M)
  | .bl b, _, M => some (.bl b, M)
  | .non, _, M => some (.non, M)
  | .str s, _, M => some (.str s, M)
  | .gl c, _, M => bndO (S.gl c) fun d => some (d, M)
  | .tup es, ρ, M => bnd (evs S es ρ M) fun ds M1 => if ds.length ≤ line ∧ ds.all val = true then some (.tup ds, M1) else none
  | .lst es, ρ, M => bnd (evs S es ρ M) fun ds M1 => if ds.length ≤ line ∧ ds.all val = true then some (.lst ds, M1) else none
  | .bin op a b, ρ, M => bnd (ev S a ρ M) fun x M1 => bnd (ev S b ρ M1) fun y M2 => bndO (binD op M2 x y) fun d => some (d, M2)
  | .neg a, ρ, M => bnd (ev S a ρ M) fun x M1 => bndO (negD x) fun d => some (d, M1)
  | .cmp op a b, ρ, M => bnd (ev S a ρ M) fun x M1 => bnd (ev S b ρ M1) fun y M2 => bndO (cmpD op M2 x y) fun k => some (.bl k, M2)
  | .chain o1 o2 a b c, ρ, M => bnd (ev S a ρ M) fun x M1 => bnd (ev S b ρ M1) fun y M2 => bndO (cmpD o1 M2 x y) fun k =>
      if k = true then bnd (ev S c ρ M2) fun z M3 => bndO (cmpD o2 M3 y z) fun k2 => some (.bl k2, M3) else some (.bl false, M2)
  | .bool op es, ρ, M => evb S op es ρ M
  | .not a, ρ, M => bnd (ev S a ρ M) fun x M1 => bndO (truD M1 x) fun k => some (.bl (!k), M1)
  | .ite t a b, ρ, M => bnd (ev S t ρ M) fun x M1 => bndO (truD M1 x) fun k => if k = true then ev S a ρ M1 else ev S b ρ M1
  | .idx a i, ρ, M => bnd (ev S a ρ M) fun x M1 => bnd (ev S i ρ M1) fun y M2 => bndO (idxD M2 x y) fun d => some (d, M2)
  | .cut a lo hi, ρ, M => bnd (ev S a ρ M) fun x M1 => bnd (evo S lo ρ M1) fun l M2 => bnd (evo S hi ρ M2) fun h M3 => bndO (cutD M3 x l h) fun d => some (d, M3)
  | .rev a, ρ, M => bnd (ev S a ρ M) fun x M1 => bndO (revD M1 x) fun d => some (d, M1)
  | .call f es, ρ, M => bnd (evs S es ρ M) fun ds M1 => S.call f ds M1
  | .blt b es, ρ, M => bnd (evs S es ρ M) fun ds M1 => bndO (bltD b M1 ds) fun d => some (d, M1)
  | .isi a t, ρ, M => bnd (ev S a ρ M) fun x M1 => bndO (isiD M1 x t) fun k => some (.bl k, M1)
  | .bits a, ρ, M => bnd (ev S a ρ M) fun x M1 => bndO (bitsD x) fun d => some (d, M1)
  | .comp e vs tg it cond, ρ, M => bnd (evi S it ρ M) fun xs M1 => bnd (compL (fun x M =>
      bndO (setT tg x (wipeD ρ vs)) fun ρ1 => bnd (evc S cond ρ1 M) fun k M' => if k = true then bnd (ev S e ρ1 M') fun y M'' => if val y = true then some (some y, M'') else none else some (none, M')) xs M1)
        fun ys M2 => if ys.length ≤ line then some (.lst ys, M2) else none
def evs (S : Sys) : CEs → Rho → Sto → Re (List D)
  | .nil, _, M => some ([], M)
  | .cons e r, ρ, M => bnd (ev S e ρ M) fun x M1 => bnd (evs S r ρ M1) fun xs M2 => some (x :: xs, M2)
def evb (S : Sys) (op : BoolOp) : CEs → Rho → Sto → Re D
  | .nil, _, _ => none
  | .cons e .nil, ρ, M => ev S e ρ M
  | .cons e r, ρ, M => bnd (ev S e ρ M) fun x M1 => bndO (truD M1 x) fun k => match op with
    | .And => if k = true then evb S op r ρ M1 else some (x, M1)
    | .Or => if k = true then some (x, M1) else evb S op r ρ M1
def evo (S : Sys) : CO → Rho → Sto → Re (Option Int)
  | .no, _, M => some (none, M)
  | .yes e, ρ, M => bnd (ev S e ρ M) fun x M1 => match x with
    | .int i => some (some i, M1)
    | _ => none
/-- a comprehension's test -/
def evc (S : Sys) : CO → Rho → Sto → Re Bool
  | .no, _, M => some (true, M)
  | .yes e, ρ, M => bnd (ev S e ρ M) fun x M1 => bndO (truD M1 x) fun k => some (k, M1)
/-- what is walked, item by item -/
def evi (S : Sys) : CI → Rho → Sto → Re (List D)
  | .ex e, ρ, M => bnd (ev S e ρ M) fun x M1 => match x with
    | .tup l => some (l, M1)
    | .lst l => some (l, M1)
    | _ => none
  | .rng1 a, ρ, M => bnd (ev S a ρ M) fun x M1 => match x with
    | .int j => if -(2 ^ 62) ≤ j ∧ j < 2 ^ 62 then some ((List.range j.toNat).map (fun k : Nat => D.int (0 + (k : Int))), M1) else none
    | _ => none
  | .rng2 a b, ρ, M => bnd (ev S a ρ M) fun x M1 => bnd (ev S b ρ M1) fun y M2 => match x, y with
    | .int i, .int j => if -(2 ^ 62) ≤ i ∧ i < 2 ^ 62 ∧ -(2 ^ 62) ≤ j ∧ j < 2 ^ 62 then some ((List.range (j - i).toNat).map (fun k : Nat => D.int (i + (k : Int))), M2) else none
    | _, _ => none
  | .enum a, ρ, M => bnd (ev S a ρ M) fun x M1 => match x with
    | .lst l => some (enumL 0 l, M1)
    | _ => none
  | .zip a b, ρ, M => bnd (ev S a ρ M) fun x M1 => bnd (ev S b ρ M1) fun y M2 => match x, y with
    | .lst l, .lst r => some (zipL l r, M2)
    | _, _ => none
end
inductive Out where
  | nx (ρ : Rho) (M : Sto)
  | rt (d : D) (M : Sto)
def bndS (o : Option Out) (f : Rho → Sto → Option Out) : Option Out := match o with
  | some (.nx ρ M) => f ρ M
  | some (.rt d M) => some (.rt d M)
  | none => none
def forL (f : D → Rho → Sto → Option Out) : List D → Rho → Sto → Option Out
  | [], ρ, M => some (.nx ρ M)
  | x :: r, ρ, M => bndS (f x ρ M) fun ρ1 M1 => forL f r ρ1 M1
def whlL (t : Rho → Sto → Re Bool) (f : Rho → Sto → Option Out) : Nat → Rho → Sto → Option Out
  | 0, _, _ => none
  | n + 1, ρ, M => match t ρ M with
    | some (k, M1) => if k = true then bndS (f ρ M1) fun ρ2 M2 => whlL t f n ρ2 M2 else some (.nx ρ M1)
    | none => none
def setN (l : List Nat) (ds : List D) (ρ : Rho) : Rho := (l.zip ds).foldl (fun ρ p => ρ.set p.1 (some p.2)) ρ
mutual
def ex (S : Sys) : CS → Rho → Sto → Option Out
  | .asg i e, ρ, M => match ev S e ρ M with
    | some (d, M1) => some (.nx (ρ.set i (some d)) M1)
    | none => none
  | .asgR i e, ρ, M => match ev S e ρ M with
    | some (.lst l, M1) => some (.nx (ρ.set i (some (.ref M1.length))) (M1 ++ [.lst l]))
    | _ => none
  | .asgT l e, ρ, M => match ev S e ρ M with
    | some (.tup ds, M1) => if ds.length = l.length then some (.nx (setN l ds ρ) M1) else none
    | _ => none
  | .par i j a b, ρ, M => match ev S a ρ M with
    | some (x, M1) => (match ev S b ρ M1 with
      | some (y, M2) => some (.nx ((ρ.set i (some x)).set j (some y)) M2)
      | none => none)
    | none => none
  | .setI i k v, ρ, M => match ev S v ρ M with
    | some (x, M1) => (match ρ[i]? with
      | some (some (.ref n)) => (match ev S k ρ M1 with
        | some (.int j, M2) => (match M2[n]? with
          | some (.lst l) => (match ixN l.length j with
            | some p => if val x = true then some (.nx ρ (M2.set n (.lst (l.set p x)))) else none
            | none => none)
          | _ => none)
        | _ => none)
      | _ => none)
    | none => none
  | .app i e, ρ, M => match ρ[i]? with
    | some (some (.ref n)) => (match M[n]? with
      | some (.lst _) => (match ev S e ρ M with
        | some (x, M1) => (match M1[n]? with
          | some (.lst l) => if l.length < line ∧ val x = true then some (.nx ρ (M1.set n (.lst (l ++ [x])))) else none
          | _ => none)
        | none => none)
      | _ => none)
    | _ => none
  | .ife t a b, ρ, M => match bnd (ev S t ρ M) fun x M1 => bndO (truD M1 x) fun k => some (k, M1) with
    | some (k, M1) => if k = true then exs S a ρ M1 else exs S b ρ M1
    | none => none
  | .for tg it b, ρ, M => match evi S it ρ M with
    | some (xs, M1) => forL (fun x ρ M => match setT tg x ρ with
      | some ρ1 => exs S b ρ1 M
      | none => none) xs ρ M1
    | none => none
  | .whl t b, ρ, M => whlL (fun ρ M => bnd (ev S t ρ M) fun x M1 => bndO (truD M1 x) fun k => some (k, M1)) (fun ρ M => exs S b ρ M) S.fuel ρ M
  | .ret e, ρ, M => match ev S e ρ M with
    | some (d, M1) => some (.rt d M1)
    | none => none
  | .retR i, ρ, M => match ρ[i]? with
    | some (some (.ref n)) => some (.rt (.ref n) M)
    | _ => none
  | .drop e, ρ, M => match ev S e ρ M with
    | some (_, M1) => some (.nx ρ M1)
    | none => none
  | .fail, _, _ => none
def exs (S : Sys) : CSs → Rho → Sto → Option Out
  | .nil, ρ, M => some (.nx ρ M)
  | .cons s r, ρ, M => bndS (ex S s ρ M) fun ρ1 M1 => exs S r ρ1 M1
  | .frz i r, ρ, M => match ρ[i]? with
    | some (some (.ref n)) => (match M[n]? with
      | some (.lst l) => exs S r (ρ.set i (some (.lst l))) (M.set n .dead)
      | _ => none)
    | _ => none
end
/-- a def: how many parameters, how many names, its body; whether it gives a list that nobody else has -/
structure Fn where
  pars : Nat
  names : Nat
  body : CSs
  fresh : Bool := false
/-- what is handed back: a list of one's own goes by value -/
def handed (m : Nat) (d : D) (M : Sto) : Re D := match d with
  | .ref n => if n < m then some (.ref n, M.take m) else (match M[n]? with
    | some (.lst l) => some (.lst l, M.take m)
    | _ => none)
  | d => some (d, M.take m)
def run (T : List Fn) (gl : Nat → Option D) (fuel : Nat) : Nat → Nat → List D → Sto → Re D
  | 0, _, _, _ => none
  | k + 1, f, ds, M => match T[f]? with
    | some F => if ds.length = F.pars then (match exs ⟨run T gl fuel k, gl, fuel⟩ F.body (ds.map some ++ List.replicate (F.names - ds.length) none) M with
      | some (.rt d M1) => (match handed M.length d M1 with
        | some (.lst l, M2) => some (.lst l, M2)
        | some (d2, M2) => if F.fresh = true then none else some (d2, M2)
        | none => none)
      | some (.nx _ M1) => if F.fresh = true then none else some (.non, M1.take M.length)
      | none => none) else none
    | none => none
end Mn
namespace Mn
open PySem PySem.Spec PyProof.Rows L2

/-! ### what stands in the heap for data -/
structure Gh where
  F : Hp
  μ : Nat → Option Addr
mutual
def RepV (K : PySem.W.Frag) (F : Hp) : D → V → Prop
  | .non, v => v = .non
  | .bl b, v => v = .bl b
  | .int i, v => v = .int i
  | .str s, v => v = .str s
  | .tup l, v => ∃ a vs, v = .ref a ∧ SqT K F a vs ∧ RepVs K F l vs
  | .lst l, v => ∃ a vs, v = .ref a ∧ F a = some (.lst vs) ∧ RepVs K F l vs
  | .ref _, _ => False
  | .scr _, _ => False
def RepVs (K : PySem.W.Frag) (F : Hp) : List D → List V → Prop
  | [], vs => vs = []
  | d :: r, vs => ∃ x xs, vs = x :: xs ∧ RepV K F d x ∧ RepVs K F r xs
end
def Rep (K : PySem.W.Frag) (G : Gh) (d : D) (v : V) : Prop := match d with
  | .ref n => ∃ a, v = .ref a ∧ G.μ n = some a
  | .scr l => ∃ a, v = .ref a ∧ SqL K G.F a (l.map V.int)
  | d => RepV K G.F d v
inductive Reps (K : PySem.W.Frag) (G : Gh) : List D → List V → Prop
  | nil : Reps K G [] []
  | cons {d v ds vs} : Rep K G d v → Reps K G ds vs → Reps K G (d :: ds) (v :: vs)

abbrev Sub (F F' : Hp) : Prop := ∀ a o, F a = some o → F' a = some o
theorem SqT.sub {K : PySem.W.Frag} {F F' : Hp} {a : Addr} {xs : List V} (s : Sub F F') (h : SqT K F a xs) : SqT K F' a xs := by
  rcases h with (h | ⟨o, h⟩) | h
  · exact .inl (.inl (s _ _ h))
  · exact .inl (.inr ⟨o, s _ _ h⟩)
  · exact .inr h
theorem SqL.sub {K : PySem.W.Frag} {F F' : Hp} {a : Addr} {xs : List V} (s : Sub F F') (h : SqL K F a xs) : SqL K F' a xs := by
  rcases h with (h | ⟨o, h⟩) | h
  · exact .inl (.inl (s _ _ h))
  · exact .inl (.inr ⟨o, s _ _ h⟩)
  · exact .inr h
mutual
theorem RepV.sub {K : PySem.W.Frag} {F F' : Hp} (s : Sub F F') : ∀ {d : D} {v : V}, RepV K F d v → RepV K F' d v
  | .non, _, h => h
  | .bl _, _, h => h
  | .int _, _, h => h
  | .str _, _, h => h
  | .tup l, _, h => by
    obtain ⟨a, vs, e, h1, h2⟩ := h
    exact ⟨a, vs, e, SqT.sub s h1, RepVs.sub s h2⟩
  | .lst l, _, h => by
    obtain ⟨a, vs, e, h1, h2⟩ := h
    exact ⟨a, vs, e, s _ _ h1, RepVs.sub s h2⟩
  | .ref _, _, h => h
  | .scr _, _, h => h
theorem RepVs.sub {K : PySem.W.Frag} {F F' : Hp} (s : Sub F F') : ∀ {l : List D} {vs : List V}, RepVs K F l vs → RepVs K F' l vs
  | [], _, h => h
  | d :: r, _, h => by
    obtain ⟨x, xs, e, h1, h2⟩ := h
    exact ⟨x, xs, e, RepV.sub s h1, RepVs.sub s h2⟩
end
theorem RepVs.length {K : PySem.W.Frag} {F : Hp} : ∀ {l : List D} {vs : List V}, RepVs K F l vs → vs.length = l.length
  | [], _, h => by
    have h : _ = [] := h
    rw [h]
    rfl
  | d :: r, _, h => by
    obtain ⟨x, xs, e, h1, h2⟩ := h
    rw [e, List.length_cons, List.length_cons, RepVs.length h2]
theorem Rep.of {K : PySem.W.Frag} {G : Gh} {d : D} {v : V} (h : RepV K G.F d v) : Rep K G d v := by
  cases d <;> first | exact h | exact False.elim h
theorem Rep.val {K : PySem.W.Frag} {G : Gh} {d : D} {v : V} (h : Rep K G d v) (p : val d = true) : RepV K G.F d v := by
  cases d <;> first | exact h | cases p
theorem Reps.length {K : PySem.W.Frag} {G : Gh} {ds : List D} {vs : List V} (h : Reps K G ds vs) : ds.length = vs.length := by
  induction h with
  | nil => rfl
  | cons _ _ ih => rw [List.length_cons, List.length_cons, ih]
theorem Reps.vals {K : PySem.W.Frag} {G : Gh} {ds : List D} {vs : List V} (h : Reps K G ds vs) (p : ds.all Mn.val = true) : RepVs K G.F ds vs := by
  induction h with
  | nil => rfl
  | cons h1 _ ih =>
    simp only [List.all_cons, Bool.and_eq_true] at p
    exact ⟨_, _, rfl, h1.val p.1, ih p.2⟩
theorem RepVs.reps {K : PySem.W.Frag} {G : Gh} : ∀ {ds : List D} {vs : List V}, RepVs K G.F ds vs → Reps K G ds vs
  | [], _, h => by rw [show _ = [] from h]; exact .nil
  | d :: r, _, h => by
    obtain ⟨x, xs, e, h1, h2⟩ := h
    rw [e]
    exact .cons (Rep.of h1) (RepVs.reps h2)
theorem RepVs.get {K : PySem.W.Frag} {F : Hp} : ∀ {l : List D} {vs : List V} {i : Nat} {d : D}, RepVs K F l vs → l[i]? = some d → ∃ v, vs[i]? = some v ∧ RepV K F d v
  | [], _, _, _, _, e => by simp at e
  | d :: r, _, 0, _, h, e => by
    obtain ⟨x, xs, e1, h1, h2⟩ := h
    simp at e
    subst e e1
    exact ⟨x, rfl, h1⟩
  | d :: r, _, i + 1, _, h, e => by
    obtain ⟨x, xs, e1, h1, h2⟩ := h
    subst e1
    obtain ⟨v, h3, h4⟩ := RepVs.get (i := i) h2 (by simpa using e)
    exact ⟨v, by simpa using h3, h4⟩
theorem RepVs.append {K : PySem.W.Frag} {F : Hp} : ∀ {l r : List D} {vs ws : List V}, RepVs K F l vs → RepVs K F r ws → RepVs K F (l ++ r) (vs ++ ws)
  | [], _, _, _, h, h' => by rw [show _ = [] from h]; exact h'
  | d :: r, _, _, _, h, h' => by
    obtain ⟨x, xs, e1, h1, h2⟩ := h
    subst e1
    exact ⟨_, _, rfl, h1, RepVs.append h2 h'⟩
theorem RepVs.take {K : PySem.W.Frag} {F : Hp} : ∀ (n : Nat) {l : List D} {vs : List V}, RepVs K F l vs → RepVs K F (l.take n) (vs.take n)
  | 0, _, _, _ => rfl
  | n + 1, [], _, h => by rw [show _ = [] from h]; rfl
  | n + 1, d :: r, _, h => by
    obtain ⟨x, xs, e1, h1, h2⟩ := h
    subst e1
    exact ⟨_, _, rfl, h1, RepVs.take n h2⟩
theorem RepVs.drop {K : PySem.W.Frag} {F : Hp} : ∀ (n : Nat) {l : List D} {vs : List V}, RepVs K F l vs → RepVs K F (l.drop n) (vs.drop n)
  | 0, _, _, h => h
  | n + 1, [], _, h => by rw [show _ = [] from h]; rfl
  | n + 1, d :: r, _, h => by
    obtain ⟨x, xs, e1, h1, h2⟩ := h
    subst e1
    exact RepVs.drop n h2
theorem RepVs.set {K : PySem.W.Frag} {F : Hp} {d : D} {v : V} (h0 : RepV K F d v) : ∀ (n : Nat) {l : List D} {vs : List V}, RepVs K F l vs → RepVs K F (l.set n d) (vs.set n v)
  | _, [], _, h => by rw [show _ = [] from h]; rfl
  | 0, _ :: r, _, h => by
    obtain ⟨x, xs, e1, h1, h2⟩ := h
    subst e1
    exact ⟨_, _, rfl, h0, h2⟩
  | n + 1, _ :: r, _, h => by
    obtain ⟨x, xs, e1, h1, h2⟩ := h
    subst e1
    exact ⟨_, _, rfl, h1, RepVs.set h0 n h2⟩
theorem RepVs.reverse {K : PySem.W.Frag} {F : Hp} : ∀ {l : List D} {vs : List V}, RepVs K F l vs → RepVs K F l.reverse vs.reverse
  | [], _, h => by rw [show _ = [] from h]; rfl
  | d :: r, _, h => by
    obtain ⟨x, xs, e1, h1, h2⟩ := h
    subst e1
    rw [List.reverse_cons, List.reverse_cons]
    exact RepVs.append (RepVs.reverse h2) ⟨_, _, rfl, h1, rfl⟩
theorem RepVs.flat {K : PySem.W.Frag} {F : Hp} {l : List D} {vs : List V} (h : RepVs K F l vs) : ∀ k : Nat, RepVs K F (List.replicate k l).flatten (List.replicate k vs).flatten
  | 0 => rfl
  | k + 1 => by
    rw [List.replicate_succ, List.replicate_succ, List.flatten_cons, List.flatten_cons]
    exact RepVs.append h (RepVs.flat h k)
theorem RepVs.ints {K : PySem.W.Frag} {F : Hp} : ∀ {l : List Int}, RepVs K F (l.map D.int) (l.map V.int)
  | [] => rfl
  | i :: r => ⟨_, _, rfl, rfl, RepVs.ints⟩
theorem RepVs.nil_iff {K : PySem.W.Frag} {F : Hp} {l : List D} {vs : List V} (h : RepVs K F l vs) : vs = [] ↔ l = [] := by
  have e := h.length
  constructor
  · intro z; subst z; exact List.eq_nil_of_length_eq_zero e.symm
  · intro z; subst z; exact List.eq_nil_of_length_eq_zero e

/-! ### the store in the heap -/
structure RelM (K : PySem.W.Frag) (G : Gh) (M : Sto) (H : Hp) : Prop where
  fz : Sub G.F H
  st : ∀ (n : Nat) (l : List D), M[n]? = some (.lst l) → ∃ a vs, G.μ n = some a ∧ H a = some (.lst vs) ∧ RepVs K G.F l vs ∧ G.F a = none
  dom : ∀ n a, G.μ n = some a → n < M.length
  all : ∀ n, n < M.length → ∃ a, G.μ n = some a
  trk : ∀ n a, G.μ n = some a → ∃ o, H a = some o
  inj : ∀ n m a, G.μ n = some a → G.μ m = some a → n = m
structure Grow (G : Gh) (H : Hp) (G' : Gh) (H' : Hp) : Prop where
  F : Sub G.F G'.F
  μ : ∀ n a, G.μ n = some a → G'.μ n = some a
  new : ∀ n a, G'.μ n = some a → G.μ n = some a ∨ H a = none
  frame : ∀ b o, H b = some o → (∀ n, G.μ n ≠ some b) → H' b = some o
  trk : ∀ b o, H b = some o → ∃ o', H' b = some o'
  fn : ∀ b o, G'.F b = some o → G.F b = some o ∨ H b = none ∨ ∃ n, G.μ n = some b
theorem Grow.refl (G : Gh) (H : Hp) : Grow G H G H := ⟨fun _ _ h => h, fun _ _ h => h, fun _ _ h => .inl h, fun _ _ h _ => h, fun _ o h => ⟨o, h⟩, fun _ _ h => .inl h⟩
theorem none_of_trk {H H' : Hp} (t : ∀ b o, H b = some o → ∃ o', H' b = some o') {a : Addr} (h : H' a = none) : H a = none := by
  cases e : H a with
  | none => rfl
  | some o =>
    obtain ⟨o', e'⟩ := t a o e
    rw [h] at e'; cases e'
theorem Grow.trans {G G1 G2 : Gh} {H H1 H2 : Hp} (a : Grow G H G1 H1) (b : Grow G1 H1 G2 H2) : Grow G H G2 H2 where
  F := fun x o h => b.F x o (a.F x o h)
  μ := fun n x h => b.μ n x (a.μ n x h)
  new := fun n x h => by
    rcases b.new n x h with h | h
    · exact a.new n x h
    · exact .inr (none_of_trk a.trk h)
  frame := fun x o h hn => b.frame x o (a.frame x o h hn) fun n e => by
    rcases a.new n x e with e | e
    · exact hn n e
    · rw [h] at e; cases e
  trk := fun x o h => by
    obtain ⟨o1, h1⟩ := a.trk x o h
    exact b.trk x o1 h1
  fn := fun x o h => by
    rcases b.fn x o h with h | h | ⟨n, h⟩
    · exact a.fn x o h
    · exact .inr (.inl (none_of_trk a.trk h))
    · rcases a.new n x h with h | h
      · exact .inr (.inr ⟨n, h⟩)
      · exact .inr (.inl h)
theorem Rep.mono {K : PySem.W.Frag} {G G' : Gh} {d : D} {v : V} (hF : Sub G.F G'.F) (hμ : ∀ n a, G.μ n = some a → G'.μ n = some a) (h : Rep K G d v) : Rep K G' d v := by
  cases d with
  | ref n =>
    obtain ⟨a, e, h⟩ := h
    exact ⟨a, e, hμ n a h⟩
  | scr l =>
    obtain ⟨a, e, h⟩ := h
    exact ⟨a, e, SqL.sub hF h⟩
  | _ => exact RepV.sub hF h
theorem Rep.grow {K : PySem.W.Frag} {G G' : Gh} {H H' : Hp} {d : D} {v : V} (g : Grow G H G' H') (h : Rep K G d v) : Rep K G' d v := h.mono g.F g.μ
theorem Reps.grow {K : PySem.W.Frag} {G G' : Gh} {H H' : Hp} {ds : List D} {vs : List V} (g : Grow G H G' H') (h : Reps K G ds vs) : Reps K G' ds vs := by
  induction h with
  | nil => exact .nil
  | cons h1 _ ih => exact .cons (h1.grow g) ih

/-- the names -/
def EnvR (K : PySem.W.Frag) (G : Gh) (ρ : Rho) (σ : L2.St) : Prop := ρ.length = σ.length ∧ ∀ (i : Nat) (d : D), ρ[i]? = some (some d) → ∃ v, σ[i]? = some (some v) ∧ Rep K G d v
theorem EnvR.mono {K : PySem.W.Frag} {G G' : Gh} {ρ : Rho} {σ : L2.St} (h : EnvR K G ρ σ) (hF : Sub G.F G'.F) (hμ : ∀ n a, G.μ n = some a → G'.μ n = some a) : EnvR K G' ρ σ := ⟨h.1, fun i d e => by
  obtain ⟨v, h1, h2⟩ := h.2 i d e
  exact ⟨v, h1, h2.mono hF hμ⟩⟩
theorem EnvR.grow {K : PySem.W.Frag} {G G' : Gh} {H H' : Hp} {ρ : Rho} {σ : L2.St} (g : Grow G H G' H') (h : EnvR K G ρ σ) : EnvR K G' ρ σ := h.mono g.F g.μ
theorem EnvR.set {K : PySem.W.Frag} {G : Gh} {ρ : Rho} {σ : L2.St} {d : D} {v : V} (h : EnvR K G ρ σ) (r : Rep K G d v) (i : Nat) : EnvR K G (ρ.set i (some d)) (σ.set i (some v)) := by
  refine ⟨by simp [h.1], fun j e he => ?_⟩
  by_cases hj : i = j
  · subst hj
    by_cases hl : i < ρ.length
    · rw [List.getElem?_set_self hl] at he
      cases he
      exact ⟨v, by rw [List.getElem?_set_self (by rw [← h.1]; exact hl)], r⟩
    · rw [List.getElem?_eq_none (by simpa using hl)] at he; cases he
  · rw [List.getElem?_set_ne hj] at he ⊢
    exact h.2 j e he
theorem EnvR.unset {K : PySem.W.Frag} {G : Gh} {ρ : Rho} {σ : L2.St} (h : EnvR K G ρ σ) (i : Nat) : EnvR K G (ρ.set i none) (σ.set i none) := by
  refine ⟨by simp [h.1], fun j e he => ?_⟩
  by_cases hj : i = j
  · subst hj
    by_cases hl : i < ρ.length
    · rw [List.getElem?_set_self hl] at he; cases he
    · rw [List.getElem?_eq_none (by simpa using hl)] at he; cases he
  · rw [List.getElem?_set_ne hj] at he ⊢
    exact h.2 j e he
theorem EnvR.wipe {K : PySem.W.Frag} {G : Gh} {ρ : Rho} {σ : L2.St} (h : EnvR K G ρ σ) : ∀ vs : List Nat, EnvR K G (wipeD ρ vs) (wipe σ vs)
  | [] => h
  | v :: vs => (EnvR.wipe h vs).unset v

/-! ### new things -/
section
variable {K : PySem.W.Frag} {G : Gh} {M : Sto} {H : Hp} {p : Addr} {l : List D} {vs : List V}
theorem RelM.noF (r : RelM K G M H) (h : H p = none) : G.F p = none := by
  cases e : G.F p with
  | none => rfl
  | some o => rw [r.fz p o e] at h; cases h
theorem RelM.noμ (r : RelM K G M H) (h : H p = none) (n : Nat) : G.μ n ≠ some p := fun e => by
  obtain ⟨o, ho⟩ := r.trk n p e
  rw [h] at ho; cases ho
theorem sub_upd {F : Hp} {o : HO} (h : F p = none) : Sub F (upd F p o) := fun b u e => by rw [upd_ne (ne_of_none e h)]; exact e
/-- a new object, not to be written any more -/
theorem RelM.new (r : RelM K G M H) {o : HO} (h : H p = none) : RelM K ⟨upd G.F p o, G.μ⟩ M (upd H p o) ∧ Grow G H ⟨upd G.F p o, G.μ⟩ (upd H p o) := by
  have hF := r.noF h
  refine ⟨⟨fun a u e => ?_, fun n l e => ?_, r.dom, r.all, fun n a e => ?_, r.inj⟩, ⟨sub_upd hF, fun _ _ e => e, fun _ _ e => .inl e, fun b u e _ => sub_upd h b u e, fun b u e => ⟨u, sub_upd h b u e⟩, fun b u e => ?_⟩⟩
  · by_cases ha : a = p
    · subst ha
      have e : upd G.F a o a = some u := e
      rw [upd_same] at e
      cases e
      exact upd_same
    · have e : upd G.F p o a = some u := e
      rw [upd_ne ha] at e
      rw [upd_ne ha]
      exact r.fz a u e
  · obtain ⟨a, vs, h1, h2, h3, h4⟩ := r.st n l e
    have ha : a ≠ p := ne_of_none h2 h
    exact ⟨a, vs, h1, by rw [upd_ne ha]; exact h2, h3.sub (sub_upd hF), by show upd G.F p o a = none; rw [upd_ne ha]; exact h4⟩
  · obtain ⟨u, hu⟩ := r.trk n a e
    exact ⟨u, sub_upd h a u hu⟩
  · have e : upd G.F p o b = some u := e
    by_cases hb : b = p
    · exact .inr (.inl (hb ▸ h))
    · rw [upd_ne hb] at e
      exact .inl e
theorem RelM.newT (r : RelM K G M H) (h : H p = none) (hv : RepVs K G.F l vs) : ∃ G', RelM K G' M (upd H p (.tup vs)) ∧ Grow G H G' (upd H p (.tup vs)) ∧ G'.μ = G.μ ∧ Rep K G' (.tup l) (.ref p) := by
  obtain ⟨r', g⟩ := r.new (o := .tup vs) h
  exact ⟨_, r', g, rfl, p, vs, rfl, .inl (.inl upd_same), hv.sub g.F⟩
/-- a new list that nobody has yet -/
theorem RelM.newL (r : RelM K G M H) {o : HO} (h : H p = none) : RelM K G M (upd H p o) ∧ Grow G H G (upd H p o) := by
  refine ⟨⟨fun a u e => sub_upd h a u (r.fz a u e), fun n l e => ?_, r.dom, r.all, fun n a e => ?_, r.inj⟩, ⟨fun _ _ e => e, fun _ _ e => e, fun _ _ e => .inl e, fun b u e _ => sub_upd h b u e, fun b u e => ⟨u, sub_upd h b u e⟩, fun _ _ e => .inl e⟩⟩
  · obtain ⟨a, vs, h1, h2, h3, h4⟩ := r.st n l e
    exact ⟨a, vs, h1, sub_upd h a _ h2, h3, h4⟩
  · obtain ⟨u, hu⟩ := r.trk n a e
    exact ⟨u, sub_upd h a u hu⟩
/-- a list that nobody has is not to be written any more -/
theorem RelM.freeze (r : RelM K G M H) (hp : H p = some (.lst vs)) (hF : G.F p = none) (hm : ∀ n, G.μ n ≠ some p) : RelM K ⟨upd G.F p (.lst vs), G.μ⟩ M H := by
  refine ⟨fun a u e => ?_, fun n l e => ?_, r.dom, r.all, r.trk, r.inj⟩
  · by_cases ha : a = p
    · subst ha
      have e : upd G.F a (.lst vs) a = some u := e
      rw [upd_same] at e
      cases e
      exact hp
    · have e : upd G.F p (.lst vs) a = some u := e
      rw [upd_ne ha] at e
      exact r.fz a u e
  · obtain ⟨a, ws, h1, h2, h3, h4⟩ := r.st n l e
    have ha : a ≠ p := fun z => hm n (z ▸ h1)
    exact ⟨a, ws, h1, h2, h3.sub (sub_upd hF), by show upd G.F p _ a = none; rw [upd_ne ha]; exact h4⟩
theorem Grow.fix {G0 : Gh} {H0 : Hp} {o : HO} (g : Grow G0 H0 G H) (hF : G.F p = none) (hp : H0 p = none ∨ ∃ n, G0.μ n = some p) : Grow G0 H0 ⟨upd G.F p o, G.μ⟩ H where
  F := fun a u e => sub_upd hF a u (g.F a u e)
  μ := g.μ
  new := g.new
  frame := g.frame
  trk := g.trk
  fn := fun b u e => by
    have e : upd G.F p o b = some u := e
    by_cases hb : b = p
    · subst hb
      exact hp.elim (fun z => .inr (.inl z)) fun z => .inr (.inr z)
    · rw [upd_ne hb] at e
      exact g.fn b u e
end

/-! ### what is wanted behind -/
def Post (K : PySem.W.Frag) (G : Gh) (H : Hp) (M' : Sto) (d : D) (Q : VK) : Prop := ∀ G' v H', Grow G H G' H' → G'.μ = G.μ → RelM K G' M' H' → Rep K G' d v → Q v H'
/-- .. of a list that nobody else has -/
def PostN (K : PySem.W.Frag) (G : Gh) (H : Hp) (M' : Sto) (l : List D) (Q : VK) : Prop := ∀ G' p vs H', Grow G H G' H' → G'.μ = G.μ → RelM K G' M' H' → H p = none → H' p = some (.lst vs) → RepVs K G'.F l vs → G'.F p = none → Q (.ref p) H'
theorem Post.n {K : PySem.W.Frag} {G : Gh} {H : Hp} {M M' : Sto} {l : List D} {Q : VK} (r0 : RelM K G M H) (h : Post K G H M' (.lst l) Q) : PostN K G H M' l Q := fun G' p vs H' g m r hp hp' hv hF => by
  have hm : ∀ n, G'.μ n ≠ some p := fun n e => by rw [m] at e; exact r0.noμ hp n e
  exact h _ (.ref p) H' (g.fix hF (.inl hp)) m (r.freeze hp' hF hm) ⟨p, vs, rfl, upd_same, hv.sub (sub_upd hF)⟩

theorem _root_.L2.PE.imp {X : Cx} {e : Expr} {t t' : TE} (h : PE X e t) (i : ∀ σ H Q, t' σ H Q → t σ H Q) : PE X e t' := ⟨fun pins s σ H Q I w => h.run pins s σ H Q I (i _ _ _ w)⟩
theorem _root_.L2.PT.imp {X : Cx} {e : Expr} {t t' : TT} (h : PT X e t) (i : ∀ σ H Q, t' σ H Q → t σ H Q) : PT X e t' := ⟨fun pins s σ H Q I w => h.run pins s σ H Q I (i _ _ _ w)⟩
theorem _root_.L2.PA.imp {X : Cx} {es : List Expr} {t t' : TA} (h : PA X es t) (i : ∀ σ H Q, t' σ H Q → t σ H Q) : PA X es t' := ⟨fun pos pins s σ H Q I w => h.run pos pins s σ H Q I (i _ _ _ w)⟩
theorem _root_.L2.PS.imp {X : Cx} {e : Stmt} {t t' : TS} (h : PS X e t) (i : ∀ D σ H, t' D σ H → t D σ H) : PS X e t' := ⟨fun pins s σ H D I w => h.run pins s σ H D I (i _ _ _ w)⟩
theorem _root_.L2.PSs.imp {X : Cx} {e : List Stmt} {t t' : TS} (h : PSs X e t) (i : ∀ D σ H, t' D σ H → t D σ H) : PSs X e t' := ⟨fun pins s σ H D I w => h.run pins s σ H D I (i _ _ _ w)⟩

def tI (K : PySem.W.Frag) (S : Sys) (c : CE) : TE := fun σ H Q => ∃ G ρ M d M', RelM K G M H ∧ EnvR K G ρ σ ∧ ev S c ρ M = some (d, M') ∧ Post K G H M' d Q
def tN (K : PySem.W.Frag) (S : Sys) (c : CE) : TE := fun σ H Q => ∃ G ρ M l M', RelM K G M H ∧ EnvR K G ρ σ ∧ ev S c ρ M = some (.lst l, M') ∧ PostN K G H M' l Q
def tB (K : PySem.W.Frag) (S : Sys) (c : CE) : TT := fun σ H Q => ∃ G ρ M d M' k, RelM K G M H ∧ EnvR K G ρ σ ∧ ev S c ρ M = some (d, M') ∧ truD M' d = some k ∧ ∀ G' H', Grow G H G' H' → G'.μ = G.μ → RelM K G' M' H' → Q k H'
def tA (K : PySem.W.Frag) (S : Sys) (cs : CEs) : TA := fun σ H Q => ∃ G ρ M ds M', RelM K G M H ∧ EnvR K G ρ σ ∧ evs S cs ρ M = some (ds, M') ∧ ∀ G' vs H', Grow G H G' H' → G'.μ = G.μ → RelM K G' M' H' → Reps K G' ds vs → Q vs H'

theorem bnd_some {α β : Type} {r : Re α} {f : α → Sto → Re β} {y : β × Sto} (h : bnd r f = some y) : ∃ x M, r = some (x, M) ∧ f x M = some y := by
  unfold bnd at h
  split at h
  · rename_i x M
    exact ⟨x, M, rfl, h⟩
  · cases h
theorem bndO_some {α β : Type} {r : Option α} {f : α → Option β} {y : β} (h : bndO r f = some y) : ∃ x, r = some x ∧ f x = some y := by
  unfold bndO at h
  split at h
  · rename_i x
    exact ⟨x, rfl, h⟩
  · cases h
end Mn
namespace Mn
open PySem PySem.Spec PyProof.Rows L2
theorem line_eq : line = sizeLine := sizeLine_eq.symm

/-! ### operations are right -/
section
variable {K : PySem.W.Frag} {G : Gh} {M : Sto} {H : Hp}
theorem RelM.sqT (r : RelM K G M H) {a : Addr} {vs : List V} (h : SqT K G.F a vs) : SqT K H a vs := SqT.sub r.fz h
/-- a list at hand -/
theorem RelM.lst (r : RelM K G M H) {d : D} {v : V} {l : List D} (h : Rep K G d v) (e : lstOf M d = some l) : ∃ a vs, v = .ref a ∧ H a = some (.lst vs) ∧ RepVs K G.F l vs := by
  cases d with
  | lst l' =>
    cases e
    obtain ⟨a, vs, e1, h1, h2⟩ := h
    exact ⟨a, vs, e1, r.fz _ _ h1, h2⟩
  | ref n =>
    obtain ⟨a, e1, h1⟩ := h
    have e : (match M[n]? with | some (.lst l) => some l | _ => none) = some l := e
    split at e
    · rename_i l' h2
      cases e
      obtain ⟨a', vs, h3, h4, h5, _⟩ := r.st _ _ h2
      rw [h1] at h3
      cases h3
      exact ⟨a, vs, e1, h4, h5⟩
    · cases e
  | _ => cases e
theorem RelM.seq (r : RelM K G M H) {d : D} {v : V} {l : List D} (h : Rep K G d v) (e : seqOf M d = some l) : ∃ a vs, v = .ref a ∧ (SqL K H a vs ∨ SqT K H a vs) ∧ RepVs K G.F l vs := by
  by_cases hd : ∃ l', d = .tup l'
  · obtain ⟨l', rfl⟩ := hd
    cases e
    obtain ⟨a, vs, e1, h1, h2⟩ := h
    exact ⟨a, vs, e1, .inr (r.sqT h1), h2⟩
  · have e' : lstOf M d = some l := by
      cases d <;> first | exact e | exact absurd ⟨_, rfl⟩ hd
    obtain ⟨a, vs, e1, h1, h2⟩ := r.lst h e'
    exact ⟨a, vs, e1, .inl (.of h1), h2⟩
end

theorem mulOk_ok {i j : Int} (h : mulOk i j = true) : CMulX i j := by
  unfold mulOk at h
  have h := (of_decide_eq_true h : i.natAbs.log2 + j.natAbs.log2 < 134217000)
  have b : ∀ x : Int, Builtin.Int.intBits x ≤ x.natAbs.log2 + 1 := fun x => by
    unfold Builtin.Int.intBits
    split <;> omega
  have h1 := b i
  have h2 := b j
  unfold CMulX
  omega
theorem RelM.seqC {K : PySem.W.Frag} {G : Gh} {M : Sto} {H : Hp} (r : RelM K G M H) {d : D} {v : V} {l : List D} (h : Rep K G d v) (e : seqOf M d = some l) :
    (∃ a vs, v = .ref a ∧ H a = some (.lst vs) ∧ RepVs K G.F l vs) ∨ ∃ a vs, v = .ref a ∧ SqT K H a vs ∧ RepVs K G.F l vs ∧ Rep K G (.tup l) v := by
  by_cases hd : ∃ l', d = .tup l'
  · obtain ⟨l', rfl⟩ := hd
    cases e
    obtain ⟨a, vs, rfl, h1, h2⟩ := h
    exact .inr ⟨a, vs, rfl, r.sqT h1, h2, a, vs, rfl, h1, h2⟩
  · have e' : lstOf M d = some l := by
      cases d <;> first | exact e | exact absurd ⟨_, rfl⟩ hd
    obtain ⟨a, vs, e1, h1, h2⟩ := r.lst h e'
    exact .inl ⟨a, vs, e1, h1, h2⟩
def CAny (_ j : Int) : Prop := j ≠ 0 ∧ j.natAbs.log2 < 9000
section
variable {X : Cx}
theorem op_fdivA : OpR X (binaryOp .FloorDiv) (rI CAny fun i j => .int (i.fdiv j)) := opI fun _ _ _ _ _ _ _ hc q => floordiv_int hc.1 q (.inl (PyProof.noPylong_of_log2 hc.2))
theorem OpR.imp {f : Value → Value → Sem Value} {r r' : R2} (h : OpR X f r) (i : ∀ x y H Q, r' x y H Q → r x y H Q) : OpR X f r' := fun pins s σ H x y v u Q I rx ry w => h pins s σ H x y v u Q I rx ry (i _ _ _ _ w)
theorem CallR.imp {f : Value} {r r' : List V → Hp → VK → Prop} (h : CallR X f r) (i : ∀ xs H Q, r' xs H Q → r xs H Q) : CallR X f r' := fun pins s σ H xs us Q I rx w => h pins s σ H xs us Q I rx (i _ _ _ w)
end
/-- what a list-making operation wants -/
def PostL (K : PySem.W.Frag) (G : Gh) (H : Hp) (M : Sto) (l : List D) (Q : VK) : Prop := PostN K G H M l Q
/-- an operation on values -/
def rBin (K : PySem.W.Frag) (op : Operator) : R2 := fun x y H Q => ∃ G M a b d, RelM K G M H ∧ Rep K G a x ∧ Rep K G b y ∧ binD op M a b = some d ∧
  ((∀ l, d ≠ .lst l) → Post K G H M d Q) ∧ (∀ l, d = .lst l → PostN K G H M l Q)
theorem small_line {n : Nat} (h : n ≤ line) : n ≤ sizeLine := by rw [← line_eq]; exact h
section
variable {X : Cx}
theorem post_self {K : PySem.W.Frag} {G : Gh} {M : Sto} {H : Hp} {d : D} {Q : VK} (r : RelM K G M H) (h : Post K G H M d Q) {v : V} (hv : Rep K G d v) : Q v H := h G v H (.refl G H) rfl r hv
theorem post_tup {K : PySem.W.Frag} {G : Gh} {M : Sto} {H : Hp} {l : List D} {Q : VK} (r : RelM K G M H) (h : Post K G H M (.tup l) Q) {vs : List V} (hv : RepVs K G.F l vs) : ∀ p, H p = none → Q (.ref p) (upd H p (.tup vs)) := fun p hp => by
  obtain ⟨G', r', g, m, q⟩ := r.newT hp hv
  exact h G' _ _ g m r' q
theorem post_new {K : PySem.W.Frag} {G : Gh} {M : Sto} {H : Hp} {l : List D} {Q : VK} (r : RelM K G M H) (h : PostN K G H M l Q) {vs : List V} (hv : RepVs K G.F l vs) : ∀ p, H p = none → Q (.ref p) (upd H p (.lst vs)) := fun p hp => by
  obtain ⟨r', g⟩ := r.newL (o := .lst vs) hp
  exact h G p vs _ g rfl r' hp upd_same hv (r.noF hp)
theorem addD_cases {M : Sto} {a b d : D} (e : addD M a b = some d) : (∃ i j, a = .int i ∧ b = .int j ∧ d = .int (i + j)) ∨ (∃ l r, a = .tup l ∧ b = .tup r ∧ l.length + r.length ≤ line ∧ d = .tup (l ++ r)) ∨
    ∃ l r, lstOf M a = some l ∧ lstOf M b = some r ∧ l.length + r.length ≤ line ∧ d = .lst (l ++ r) := by
  unfold addD at e
  split at e
  · cases e; exact .inl ⟨_, _, rfl, rfl, rfl⟩
  · split at e
    · cases e; exact .inr (.inl ⟨_, _, rfl, rfl, by assumption, rfl⟩)
    · cases e
  · obtain ⟨l, e1, e⟩ := bndO_some e
    obtain ⟨r, e2, e⟩ := bndO_some e
    split at e
    · cases e; exact .inr (.inr ⟨l, r, e1, e2, by assumption, rfl⟩)
    · cases e
theorem mulD_cases {M : Sto} {a b d : D} (e : mulD M a b = some d) : (∃ i j, a = .int i ∧ b = .int j ∧ mulOk i j = true ∧ d = .int (i * j)) ∨
    ∃ l k, lstOf M a = some l ∧ b = .int k ∧ (-(2 ^ 63) ≤ k ∧ k < 2 ^ 63 ∧ l.length * k.toNat ≤ line) ∧ d = .lst (List.replicate k.toNat l).flatten := by
  unfold mulD at e
  split at e
  · split at e
    · cases e; exact .inl ⟨_, _, rfl, rfl, by assumption, rfl⟩
    · cases e
  · obtain ⟨l, e1, e⟩ := bndO_some e
    split at e
    · cases e; exact .inr ⟨l, _, e1, rfl, by assumption, rfl⟩
    · cases e
  · cases e
theorem bin_ok (op : Operator) : OpR X (binaryOp op) (rBin X.K op) := by
  cases op with
  | Add =>
    refine OpR.imp ((op_add).or ((op_catA).or op_cat)) fun x y H Q h => ?_
    obtain ⟨G, M, a, b, d, r, ha, hb, e, q1, q2⟩ := h
    rcases addD_cases e with ⟨i, j, rfl, rfl, rfl⟩ | ⟨l, m, rfl, rfl, hz, rfl⟩ | ⟨l, m, e1, e2, hz, rfl⟩
    · exact .inl ⟨i, j, ha, hb, post_self r (q1 fun l z => nomatch z) rfl⟩
    · obtain ⟨p, vs, rfl, h1, h2⟩ := ha
      obtain ⟨q, ws, rfl, h3, h4⟩ := hb
      have q1 := q1 fun l z => nomatch z
      have l1 := h2.length
      have l2 := h4.length
      refine .inr (.inl ⟨p, q, vs, ws, rfl, rfl, r.sqT h1, r.sqT h3, small_line (by omega), fun z => ?_, fun z1 z2 => ?_, fun _ _ => post_tup r q1 (h2.append h4)⟩)
      · have z' := h2.nil_iff.mp z
        subst z'
        exact post_self r q1 ⟨q, ws, rfl, h3, h4⟩
      · have z' := h4.nil_iff.mp z2
        subst z'
        rw [List.append_nil] at q1
        exact post_self r q1 ⟨p, vs, rfl, h1, h2⟩
    · obtain ⟨p, vs, rfl, h1, h2⟩ := r.lst ha e1
      obtain ⟨q, ws, rfl, h3, h4⟩ := r.lst hb e2
      have l1 := h2.length
      have l2 := h4.length
      exact .inr (.inr ⟨p, q, vs, ws, rfl, rfl, h1, h3, small_line (by omega), post_new r (q2 _ rfl) (h2.append h4)⟩)
  | Sub =>
    refine OpR.imp op_sub fun x y H Q h => ?_
    obtain ⟨G, M, a, b, d, r, ha, hb, e, q1, q2⟩ := h
    have e : subD a b = some d := e
    unfold subD at e
    split at e
    · cases e; exact ⟨_, _, ha, hb, post_self r (q1 fun l z => nomatch z) rfl⟩
    · cases e
  | Mult =>
    refine OpR.imp ((op_mulX).or op_rep) fun x y H Q h => ?_
    obtain ⟨G, M, a, b, d, r, ha, hb, e, q1, q2⟩ := h
    rcases mulD_cases e with ⟨i, j, rfl, rfl, hz, rfl⟩ | ⟨l, k, e1, rfl, ⟨hz1, hz2, hz3⟩, rfl⟩
    · exact .inl ⟨i, j, ha, hb, mulOk_ok hz, post_self r (q1 fun l z => nomatch z) rfl⟩
    · obtain ⟨p, vs, rfl, h1, h2⟩ := r.lst ha e1
      have l1 := h2.length
      exact .inr ⟨p, k, vs, rfl, hb, h1, hz1, hz2, by rw [l1]; exact small_line hz3, post_new r (q2 _ rfl) (h2.flat _)⟩
  | FloorDiv =>
    refine OpR.imp op_fdivA fun x y H Q h => ?_
    obtain ⟨G, M, a, b, d, r, ha, hb, e, q1, q2⟩ := h
    have e : fdivD a b = some d := e
    unfold fdivD at e
    split at e
    · split at e
      · rename_i hz
        cases e
        unfold divOk at hz
        simp only [Bool.and_eq_true, bne_iff_ne, decide_eq_true_eq] at hz
        exact ⟨_, _, ha, hb, hz, post_self r (q1 fun l z => nomatch z) rfl⟩
      · cases e
    · cases e
  | Mod =>
    refine OpR.imp op_modN fun x y H Q h => ?_
    obtain ⟨G, M, a, b, d, r, ha, hb, e, q1, q2⟩ := h
    have e : modD a b = some d := e
    unfold modD at e
    split at e
    · split at e
      · cases e; exact ⟨_, _, ha, hb, by assumption, post_self r (q1 fun l z => nomatch z) rfl⟩
      · cases e
    · cases e
  | Pow =>
    refine OpR.imp op_pow fun x y H Q h => ?_
    obtain ⟨G, M, a, b, d, r, ha, hb, e, q1, q2⟩ := h
    have e : powD a b = some d := e
    unfold powD at e
    split at e
    · split at e
      · cases e; exact ⟨_, _, ha, hb, by assumption, post_self r (q1 fun l z => nomatch z) rfl⟩
      · cases e
    · cases e
  | LShift =>
    refine OpR.imp op_shlW fun x y H Q h => ?_
    obtain ⟨G, M, a, b, d, r, ha, hb, e, q1, q2⟩ := h
    have e : shlD a b = some d := e
    unfold shlD at e
    split at e
    · split at e
      · rename_i i j hz
        cases e
        refine ⟨_, _, ha, hb, ⟨hz.1, ?_⟩, post_self r (q1 fun l z => nomatch z) rfl⟩
        have h3 := hz.2.2
        have h2 := hz.2.1
        have e27 : (2 : Int) ^ 27 = 134217728 := by decide
        rw [e27]
        unfold Builtin.Int.intBits
        split <;> omega
      · cases e
    · cases e
  | RShift =>
    refine OpR.imp op_shr fun x y H Q h => ?_
    obtain ⟨G, M, a, b, d, r, ha, hb, e, q1, q2⟩ := h
    have e : shrD a b = some d := e
    unfold shrD at e
    split at e
    · split at e
      · cases e; exact ⟨_, _, ha, hb, by assumption, post_self r (q1 fun l z => nomatch z) rfl⟩
      · cases e
    · cases e
  | _ =>
    intro pins s σ H x y v u Q I rx ry h
    obtain ⟨G, M, a, b, d, r, ha, hb, e, q1, q2⟩ := h
    cases e

/-! comparisons -/
mutual
theorem toP_dp {K : PySem.W.Frag} {F H : Hp} (s : Sub F H) : ∀ {d : D} {v : V} {p : PyData}, RepV K F d v → toP d = some p → Dp K H v p
  | .non, _, _, h, e => by cases e; cases (show _ = V.non from h); exact .non
  | .bl b, _, _, h, e => by cases e; cases (show _ = V.bl b from h); exact .bl b
  | .int i, _, _, h, e => by cases e; cases (show _ = V.int i from h); exact .int i
  | .str x, _, _, h, e => by cases e; cases (show _ = V.str x from h); exact .str x
  | .tup l, _, _, h, e => by
    obtain ⟨a, vs, rfl, h1, h2⟩ := h
    obtain ⟨r, e1, e2⟩ := bndO_some (show bndO (toPs l) _ = _ from e)
    cases e2
    exact .tup (SqT.sub s h1) (toPs_dp s h2 e1)
  | .lst l, _, _, h, e => by
    obtain ⟨a, vs, rfl, h1, h2⟩ := h
    obtain ⟨r, e1, e2⟩ := bndO_some (show bndO (toPs l) _ = _ from e)
    cases e2
    exact .lst (.of (s _ _ h1)) (toPs_dp s h2 e1)
  | .ref _, _, _, h, _ => h.elim
  | .scr _, _, _, h, _ => h.elim
theorem toPs_dp {K : PySem.W.Frag} {F H : Hp} (s : Sub F H) : ∀ {l : List D} {vs : List V} {ps : List PyData}, RepVs K F l vs → toPs l = some ps → DpAll K H vs ps
  | [], _, _, h, e => by cases e; rw [show _ = [] from h]; exact .nil
  | d :: r, _, _, h, e => by
    obtain ⟨x, xs, rfl, h1, h2⟩ := h
    obtain ⟨p, e1, e⟩ := bndO_some (show bndO (toP d) _ = _ from e)
    obtain ⟨q, e2, e⟩ := bndO_some e
    cases e
    exact .cons (toP_dp s h1 e1) (toPs_dp s h2 e2)
end
theorem deref_dp {K : PySem.W.Frag} {G : Gh} {M : Sto} {H : Hp} (r : RelM K G M H) {d : D} {v : V} {p : PyData} (h : Rep K G d v) (e : toP (deref M d) = some p) : Dp K H v p := by
  cases d with
  | ref n =>
    unfold deref at e
    dsimp only at e
    split at e
    · rename_i l hl
      obtain ⟨a, e1, h1⟩ := h
      obtain ⟨a', vs, h3, h4, h5, _⟩ := r.st _ _ hl
      rw [h1] at h3
      cases h3
      subst e1
      obtain ⟨q, e2, e3⟩ := bndO_some (show bndO (toPs l) _ = _ from e)
      cases e3
      exact .lst (.of h4) (toPs_dp r.fz h5 e2)
    · cases e
  | scr l => cases e
  | _ => exact toP_dp r.fz h e
def rCmp (K : PySem.W.Frag) (op : CmpOp) : R2 := fun x y H Q => ∃ G M a b k, RelM K G M H ∧ Rep K G a x ∧ Rep K G b y ∧ cmpD op M a b = some k ∧ Q (.bl k) H
def rEqX (K : PySem.W.Frag) (neg : Bool) : R2 := fun x y H Q => ∃ G M a b k, RelM K G M H ∧ Rep K G a x ∧ Rep K G b y ∧ eqD M a b = some k ∧ Q (.bl (if neg then !k else k)) H
theorem eq_cases {M : Sto} {a b : D} {k : Bool} (e : eqD M a b = some k) : (∃ i j, a = .int i ∧ b = .int j ∧ k = decide (i = j)) ∨ (∃ i j, a = .str i ∧ b = .str j ∧ k = decide (i = j)) ∨
    ∃ d e, toP (deref M a) = some d ∧ toP (deref M b) = some e ∧ SeqAt.shaped d = true ∧ SeqAt.shaped e = true ∧ k = PyData.eqv d e := by
  unfold eqD at e
  split at e
  · cases e; exact .inl ⟨_, _, rfl, rfl, rfl⟩
  · cases e; exact .inr (.inl ⟨_, _, rfl, rfl, rfl⟩)
  · obtain ⟨d, e1, e⟩ := bndO_some e
    obtain ⟨d2, e2, e⟩ := bndO_some e
    split at e
    · rename_i hz
      cases e
      exact .inr (.inr ⟨d, d2, e1, e2, hz.1, hz.2, rfl⟩)
    · cases e
theorem eqX_ok (hu : X.A.units + 64 < cLine) : OpR X (compareOp .Eq) (rEqX X.K false) := by
  refine OpR.imp (op_eq.or (op_eqD hu)) fun x y H Q h => ?_
  obtain ⟨G, M, a, b, k, r, ha, hb, e, q⟩ := h
  rcases eq_cases e with ⟨i, j, rfl, rfl, rfl⟩ | ⟨i, j, rfl, rfl, rfl⟩ | ⟨d, e', e1, e2, s1, s2, rfl⟩
  · cases (show x = V.int i from ha)
    cases (show y = V.int j from hb)
    refine .inl ⟨rfl, ?_⟩
    rw [show decide (V.int i = V.int j) = decide (i = j) by simp]
    exact q
  · cases (show x = V.str i from ha)
    cases (show y = V.str j from hb)
    refine .inl ⟨rfl, ?_⟩
    rw [show decide (V.str i = V.str j) = decide (i = j) by simp]
    exact q
  · exact .inr ⟨d, e', deref_dp r ha e1, deref_dp r hb e2, s1, s2, q⟩
theorem neX_ok (hu : X.A.units + 64 < cLine) : OpR X (compareOp .NotEq) (rEqX X.K true) := by
  refine OpR.imp (op_ne.or (op_neD hu)) fun x y H Q h => ?_
  obtain ⟨G, M, a, b, k, r, ha, hb, e, q⟩ := h
  rcases eq_cases e with ⟨i, j, rfl, rfl, rfl⟩ | ⟨i, j, rfl, rfl, rfl⟩ | ⟨d, e', e1, e2, s1, s2, rfl⟩
  · cases (show x = V.int i from ha)
    cases (show y = V.int j from hb)
    refine .inl ⟨rfl, ?_⟩
    rw [show decide (V.int i = V.int j) = decide (i = j) by simp]
    exact q
  · cases (show x = V.str i from ha)
    cases (show y = V.str j from hb)
    refine .inl ⟨rfl, ?_⟩
    rw [show decide (V.str i = V.str j) = decide (i = j) by simp]
    exact q
  · exact .inr ⟨d, e', deref_dp r ha e1, deref_dp r hb e2, s1, s2, q⟩
theorem lt_cases {p : Int → Int → Bool} {x y : D} {k : Bool} (e : (match x, y with | .int a, .int b => some (p a b) | _, _ => none) = some k) : ∃ a b, x = .int a ∧ y = .int b ∧ k = p a b := by
  split at e
  · cases e; exact ⟨_, _, rfl, rfl, rfl⟩
  · cases e
theorem flat_ok {K : PySem.W.Frag} {F : Hp} {d : D} {v u : V} (h : RepV K F d v) (e : flatD d = some u) : u = v ∧ flatV v = true := by
  cases d with
  | non => cases e; cases (show _ = V.non from h); exact ⟨rfl, rfl⟩
  | bl b => cases e; cases (show _ = V.bl b from h); exact ⟨rfl, rfl⟩
  | int b => cases e; cases (show _ = V.int b from h); exact ⟨rfl, rfl⟩
  | str b => cases e; cases (show _ = V.str b from h); exact ⟨rfl, rfl⟩
  | _ => cases e
theorem flats_ok {K : PySem.W.Frag} {F : Hp} : ∀ {l : List D} {vs us : List V}, RepVs K F l vs → flats l = some us → us = vs ∧ vs.all flatV = true
  | [], _, _, h, e => by cases e; rw [show _ = [] from h]; exact ⟨rfl, rfl⟩
  | d :: r, _, _, h, e => by
    obtain ⟨x, xs, rfl, h1, h2⟩ := h
    obtain ⟨p, e1, e⟩ := bndO_some (show bndO (flatD d) _ = _ from e)
    obtain ⟨q, e2, e⟩ := bndO_some e
    cases e
    obtain ⟨rfl, f1⟩ := flat_ok h1 e1
    obtain ⟨rfl, f2⟩ := flats_ok h2 e2
    exact ⟨rfl, by rw [List.all_cons, f1, f2]; rfl⟩
theorem in_cases {K : PySem.W.Frag} {G : Gh} {M : Sto} {H : Hp} {a b : D} {x y : V} {k : Bool} (r : RelM K G M H) (ha : Rep K G a x) (hb : Rep K G b y) (e : inD M a b = some k) :
    ∃ p xs, y = .ref p ∧ (SqL K H p xs ∨ SqT K H p xs) ∧ flatV x = true ∧ xs.all flatV = true ∧ k = inV x xs := by
  obtain ⟨v, e1, e⟩ := bndO_some e
  obtain ⟨l, e2, e⟩ := bndO_some e
  obtain ⟨vs, e3, e⟩ := bndO_some e
  cases e
  obtain ⟨p, ws, rfl, h1, h2⟩ := r.seq hb e2
  have ha' : RepV K G.F a x := by cases a <;> first | exact ha | cases e1
  obtain ⟨rfl, f1⟩ := flat_ok ha' e1
  obtain ⟨rfl, f2⟩ := flats_ok h2 e3
  exact ⟨p, _, rfl, h1, f1, f2, rfl⟩
theorem is_cases {K : PySem.W.Frag} {G : Gh} {a b : D} {x y : V} {k : Bool} (ha : Rep K G a x) (hb : Rep K G b y) (e : isD a b = some k) : (∃ i j, x = .bl i ∧ y = .bl j ∧ k = decide (i = j)) ∨ (y = .non ∧ k = decide (x = .non)) := by
  unfold isD at e
  split at e
  · cases e; exact .inl ⟨_, _, ha, hb, rfl⟩
  all_goals first
    | (cases e; cases (show _ = V.non from hb); cases (show _ = V.non from ha); exact .inr ⟨rfl, rfl⟩)
    | (cases e; cases (show _ = V.non from hb); cases (show _ = V.bl _ from ha); exact .inr ⟨rfl, rfl⟩)
    | (cases e; cases (show _ = V.non from hb); cases (show _ = V.int _ from ha); exact .inr ⟨rfl, rfl⟩)
    | (cases e; cases (show _ = V.non from hb); cases (show _ = V.str _ from ha); exact .inr ⟨rfl, rfl⟩)
    | (cases e; cases (show _ = V.non from hb); obtain ⟨p, vs, rfl, _⟩ := ha; exact .inr ⟨rfl, rfl⟩)
    | cases e
theorem cmp_ok (hu : X.A.units + 64 < cLine) (op : CmpOp) : OpR X (compareOp op) (rCmp X.K op) := by
  cases op with
  | Eq => exact OpR.imp (eqX_ok hu) fun x y H Q h => h
  | NotEq =>
    refine OpR.imp (neX_ok hu) fun x y H Q h => ?_
    obtain ⟨G, M, a, b, k, r, ha, hb, e, q⟩ := h
    obtain ⟨k', e1, e2⟩ := bndO_some (show bndO (eqD M a b) _ = _ from e)
    cases e2
    exact ⟨G, M, a, b, k', r, ha, hb, e1, q⟩
  | Lt =>
    refine OpR.imp op_lt fun x y H Q h => ?_
    obtain ⟨G, M, a, b, k, r, ha, hb, e, q⟩ := h
    obtain ⟨i, j, rfl, rfl, rfl⟩ := lt_cases (p := fun a b => decide (a < b)) e
    exact ⟨i, j, ha, hb, q⟩
  | LtE =>
    refine OpR.imp op_le fun x y H Q h => ?_
    obtain ⟨G, M, a, b, k, r, ha, hb, e, q⟩ := h
    obtain ⟨i, j, rfl, rfl, rfl⟩ := lt_cases (p := fun a b => decide (a ≤ b)) e
    exact ⟨i, j, ha, hb, q⟩
  | Gt =>
    refine OpR.imp op_gt fun x y H Q h => ?_
    obtain ⟨G, M, a, b, k, r, ha, hb, e, q⟩ := h
    obtain ⟨i, j, rfl, rfl, rfl⟩ := lt_cases (p := fun a b => decide (b < a)) e
    exact ⟨i, j, ha, hb, q⟩
  | GtE =>
    refine OpR.imp op_ge fun x y H Q h => ?_
    obtain ⟨G, M, a, b, k, r, ha, hb, e, q⟩ := h
    obtain ⟨i, j, rfl, rfl, rfl⟩ := lt_cases (p := fun a b => decide (b ≤ a)) e
    exact ⟨i, j, ha, hb, q⟩
  | Is =>
    refine OpR.imp (op_isBl.or op_isN) fun x y H Q h => ?_
    obtain ⟨G, M, a, b, k, r, ha, hb, e, q⟩ := h
    rcases is_cases ha hb e with ⟨i, j, rfl, rfl, rfl⟩ | ⟨rfl, rfl⟩
    · exact .inl ⟨i, j, rfl, rfl, q⟩
    · exact .inr ⟨rfl, q⟩
  | IsNot =>
    refine OpR.imp (op_notBl.or op_notN) fun x y H Q h => ?_
    obtain ⟨G, M, a, b, k, r, ha, hb, e, q⟩ := h
    obtain ⟨k', e1, e2⟩ := bndO_some (show bndO (isD a b) _ = _ from e)
    cases e2
    rcases is_cases ha hb e1 with ⟨i, j, rfl, rfl, rfl⟩ | ⟨rfl, rfl⟩
    · exact .inl ⟨i, j, rfl, rfl, q⟩
    · exact .inr ⟨rfl, q⟩
  | In =>
    refine OpR.imp op_in_seq fun x y H Q h => ?_
    obtain ⟨G, M, a, b, k, r, ha, hb, e, q⟩ := h
    obtain ⟨p, xs, rfl, h1, f1, f2, rfl⟩ := in_cases r ha hb e
    exact ⟨p, xs, rfl, h1, f1, f2, q⟩
  | NotIn =>
    refine OpR.imp op_notIn_seq fun x y H Q h => ?_
    obtain ⟨G, M, a, b, k, r, ha, hb, e, q⟩ := h
    obtain ⟨k', e1, e2⟩ := bndO_some (show bndO (inD M a b) _ = _ from e)
    cases e2
    obtain ⟨p, xs, rfl, h1, f1, f2, rfl⟩ := in_cases r ha hb e1
    exact ⟨p, xs, rfl, h1, f1, f2, q⟩
/-- truth -/
theorem tru_rep {K : PySem.W.Frag} {G : Gh} {M : Sto} {H : Hp} {d : D} {v : V} {k : Bool} (r : RelM K G M H) (h : Rep K G d v) (e : truD M d = some k) : TruV K v H k := by
  cases d with
  | non => cases e; cases (show v = V.non from h); exact rfl
  | bl b => cases (show v = V.bl b from h); exact (Option.some.inj e).symm
  | int i => cases (show v = V.int i from h); exact (Option.some.inj e).symm
  | str s => cases e
  | tup l =>
    cases e
    obtain ⟨a, vs, rfl, h1, h2⟩ := h
    refine .inr (.inl ⟨vs, r.sqT h1, ?_⟩)
    have := h2.length
    cases l <;> cases vs <;> first | rfl | (simp at this)
  | lst l =>
    cases e
    obtain ⟨a, vs, rfl, h1, h2⟩ := h
    refine .inl ⟨vs, .of (r.fz _ _ h1), ?_⟩
    have := h2.length
    cases l <;> cases vs <;> first | rfl | (simp at this)
  | ref n =>
    obtain ⟨l, e1, e2⟩ := bndO_some (show bndO (lstOf M (.ref n)) _ = _ from e)
    cases e2
    obtain ⟨a, vs, rfl, h1, h2⟩ := r.lst h e1
    refine .inl ⟨vs, .of h1, ?_⟩
    have := h2.length
    cases l <;> cases vs <;> first | rfl | (simp at this)
  | scr l => cases e
/-- an item -/
def rIdx (K : PySem.W.Frag) : R2 := fun x y H Q => ∃ G M a b d, RelM K G M H ∧ Rep K G a x ∧ Rep K G b y ∧ idxD M a b = some d ∧ Post K G H M d Q
theorem atI_rep {K : PySem.W.Frag} {F : Hp} {l : List D} {vs : List V} {i : Int} {d : D} (h : RepVs K F l vs) (e : atI l i = some d) : ∃ v, atI vs i = some v ∧ RepV K F d v := by
  unfold atI at e ⊢
  rw [h.length]
  cases q : ixN l.length i with
  | none => rw [q] at e; cases e
  | some j =>
    rw [q] at e
    obtain ⟨v, h1, h2⟩ := h.get (i := j) e
    exact ⟨v, h1, h2⟩
theorem IxR.imp {r r' : R2} (h : IxR X r) (i : ∀ x y H Q, r' x y H Q → r x y H Q) : IxR X r' := fun a b pins s σ H x y v u Q I rx ry w => h a b pins s σ H x y v u Q I rx ry (i _ _ _ _ w)
theorem idx_ok : IxR X (rIdx X.K) := by
  refine IxR.imp (ix_list.or ix_tup) fun x y H Q h => ?_
  obtain ⟨G, M, a, b, d, r, ha, hb, e, q⟩ := h
  unfold idxD at e
  split at e
  · rename_i i
    obtain ⟨l, e1, e⟩ := bndO_some e
    obtain ⟨p, vs, rfl, h1, h2⟩ := r.seq ha e1
    obtain ⟨w, h3, h4⟩ := atI_rep h2 e
    rcases h1 with h1 | h1
    · exact .inl ⟨p, vs, i, w, rfl, hb, h1, h3, post_self r q (Rep.of h4)⟩
    · exact .inr ⟨p, vs, i, w, rfl, hb, h1, h3, post_self r q (Rep.of h4)⟩
  · cases e
/-- a slice -/
def rCut (K : PySem.W.Frag) : V → Option Int → Option Int → Hp → VK → Prop := fun x lo hi H Q => ∃ G M a d, RelM K G M H ∧ Rep K G a x ∧ cutD M a lo hi = some d ∧ ((∀ l, d ≠ .lst l) → Post K G H M d Q) ∧ (∀ l, d = .lst l → PostN K G H M l Q)
theorem SlR.imp {r r' : V → Option Int → Option Int → Hp → VK → Prop} (h : SlR X r) (i : ∀ x lo hi H Q, r' x lo hi H Q → r x lo hi H Q) : SlR X r' := fun pins s σ H x v vl vu lo hi sl Q I rx hs pl pu w => h pins s σ H x v vl vu lo hi sl Q I rx hs pl pu (i _ _ _ _ _ w)
theorem cut_rep {K : PySem.W.Frag} {F : Hp} {l : List D} {vs : List V} (h : RepVs K F l vs) (lo hi : Option Int) : RepVs K F (cutL l lo hi) (cutV vs lo hi) := by
  unfold cutL cutV
  rw [h.length]
  exact (h.drop _).take _
theorem cut_ok : SlR X (rCut X.K) := by
  refine SlR.imp (sl_tupA.or sl_list) fun x lo hi H Q h => ?_
  obtain ⟨G, M, a, d, r, ha, e, q1, q2⟩ := h
  by_cases ht : ∃ l, a = .tup l
  · obtain ⟨l, rfl⟩ := ht
    cases e
    have q1 := q1 fun l z => nomatch z
    obtain ⟨p, vs, rfl, h1, h2⟩ := ha
    refine .inl ⟨p, vs, rfl, r.sqT h1, fun ⟨z1, z2⟩ => ?_, fun _ => post_tup r q1 (cut_rep h2 lo hi)⟩
    have e1 : cutL l lo hi = l := by
      unfold cutL
      rw [h2.length] at z1 z2
      rw [z1, z2]
      simp
    rw [e1] at q1
    exact post_self r q1 ⟨p, vs, rfl, h1, h2⟩
  · have e' : bndO (lstOf M a) (fun l => some (D.lst (cutL l lo hi))) = some d := by
      cases a <;> first | exact e | exact absurd ⟨_, rfl⟩ ht
    obtain ⟨l, e1, e2⟩ := bndO_some e'
    cases e2
    obtain ⟨p, vs, rfl, h1, h2⟩ := r.lst ha e1
    exact .inr ⟨p, vs, rfl, .of h1, post_new r (q2 _ rfl) (cut_rep h2 lo hi)⟩
/-! built-in functions -/
def rBlt (K : PySem.W.Frag) (b : Blt) : List V → Hp → VK → Prop := fun vs H Q => ∃ G M ds d, RelM K G M H ∧ Reps K G ds vs ∧ bltD b M ds = some d ∧ ((∀ l, d ≠ .lst l) → Post K G H M d Q) ∧ (∀ l, d = .lst l → PostN K G H M l Q)
def bltF : Blt → Value
  | .len => .builtin "len" | .abs => .builtin "abs" | .max => .builtin "max" | .min => .builtin "min" | .int => .type "int" | .gcd => .builtin "math.gcd"
  | .list => .type "list" | .tuple => .type "tuple" | .all => .builtin "all" | .any => .builtin "any"
theorem bls_ok {K : PySem.W.Frag} {F : Hp} : ∀ {l : List D} {vs : List V} {bs : List Bool}, RepVs K F l vs → bls l = some bs → vs = bs.map V.bl
  | [], _, _, h, e => by cases e; rw [show _ = [] from h]; rfl
  | d :: r, _, _, h, e => by
    obtain ⟨x, xs, rfl, h1, h2⟩ := h
    cases d with
    | bl b =>
      obtain ⟨q, e2, e⟩ := bndO_some (show bndO (bls r) _ = _ from e)
      cases e
      rw [bls_ok h2 e2, show x = V.bl b from h1]
      rfl
    | _ => cases e
theorem reps1 {K : PySem.W.Frag} {G : Gh} {d : D} {vs : List V} (h : Reps K G [d] vs) : ∃ v, vs = [v] ∧ Rep K G d v := by
  cases h with
  | cons h1 h2 => cases h2; exact ⟨_, rfl, h1⟩
theorem reps2 {K : PySem.W.Frag} {G : Gh} {d e : D} {vs : List V} (h : Reps K G [d, e] vs) : ∃ v w, vs = [v, w] ∧ Rep K G d v ∧ Rep K G e w := by
  cases h with
  | cons h1 h2 =>
    obtain ⟨w, rfl, h3⟩ := reps1 h2
    exact ⟨_, w, rfl, h1, h3⟩
theorem blt_ok (hc : X.calm = true) (b : Blt) : CallR X (bltF b) (rBlt X.K b) := by
  cases b with
  | len =>
    refine CallR.imp call_len_seq fun vs H Q h => ?_
    obtain ⟨G, M, ds, d, r, hs, e, q1, q2⟩ := h
    unfold bltD at e
    split at e <;> (try cases e) <;> (rename_i hq; try (cases hq))
    · obtain ⟨v, rfl, h1⟩ := reps1 hs
      obtain ⟨l, e1, e2⟩ := bndO_some e
      cases e2
      obtain ⟨p, ws, rfl, h3, h4⟩ := r.seq h1 e1
      refine ⟨p, ws, rfl, h3, ?_⟩
      rw [h4.length]
      exact post_self r (q1 fun l z => nomatch z) rfl
  | abs =>
    refine CallR.imp call_abs fun vs H Q h => ?_
    obtain ⟨G, M, ds, d, r, hs, e, q1, q2⟩ := h
    unfold bltD at e
    split at e <;> (try cases e) <;> (rename_i hq; try (cases hq))
    · obtain ⟨v, rfl, h1⟩ := reps1 hs
      cases (show v = _ from h1)
      exact ⟨_, rfl, post_self r (q1 fun l z => nomatch z) rfl⟩
  | max =>
    refine CallR.imp (call_max2 hc) fun vs H Q h => ?_
    obtain ⟨G, M, ds, d, r, hs, e, q1, q2⟩ := h
    unfold bltD at e
    split at e <;> (try cases e) <;> (rename_i hq; try (cases hq))
    · obtain ⟨v, w, rfl, h1, h2⟩ := reps2 hs
      cases (show v = _ from h1)
      cases (show w = _ from h2)
      exact ⟨_, _, rfl, post_self r (q1 fun l z => nomatch z) rfl⟩
  | min =>
    refine CallR.imp (call_min2 hc) fun vs H Q h => ?_
    obtain ⟨G, M, ds, d, r, hs, e, q1, q2⟩ := h
    unfold bltD at e
    split at e <;> (try cases e) <;> (rename_i hq; try (cases hq))
    · obtain ⟨v, w, rfl, h1, h2⟩ := reps2 hs
      cases (show v = _ from h1)
      cases (show w = _ from h2)
      exact ⟨_, _, rfl, post_self r (q1 fun l z => nomatch z) rfl⟩
  | int =>
    refine CallR.imp call_int1 fun vs H Q h => ?_
    obtain ⟨G, M, ds, d, r, hs, e, q1, q2⟩ := h
    unfold bltD at e
    split at e <;> (try cases e) <;> (rename_i hq; try (cases hq))
    · obtain ⟨v, rfl, h1⟩ := reps1 hs
      cases (show v = _ from h1)
      exact .inl ⟨_, rfl, post_self r (q1 fun l z => nomatch z) rfl⟩
    · obtain ⟨v, rfl, h1⟩ := reps1 hs
      cases (show v = _ from h1)
      exact .inr ⟨_, rfl, post_self r (q1 fun l z => nomatch z) rfl⟩
  | gcd =>
    refine CallR.imp cr_gcd fun vs H Q h => ?_
    obtain ⟨G, M, ds, d, r, hs, e, q1, q2⟩ := h
    unfold bltD at e
    split at e <;> (try cases e) <;> (rename_i hq; try (cases hq))
    · obtain ⟨v, w, rfl, h1, h2⟩ := reps2 hs
      cases (show v = _ from h1)
      cases (show w = _ from h2)
      exact ⟨_, _, rfl, post_self r (q1 fun l z => nomatch z) rfl⟩
  | list =>
    refine CallR.imp call_list_of fun vs H Q h => ?_
    obtain ⟨G, M, ds, d, r, hs, e, q1, q2⟩ := h
    unfold bltD at e
    split at e <;> (try cases e) <;> (rename_i hq; try (cases hq))
    · obtain ⟨v, rfl, h1⟩ := reps1 hs
      obtain ⟨p, rfl, h2⟩ := h1
      exact ⟨p, _, rfl, .inl (SqL.sub r.fz h2), post_new r (q2 _ rfl) RepVs.ints⟩
    · obtain ⟨v, rfl, h1⟩ := reps1 hs
      obtain ⟨l, e1, e2⟩ := bndO_some e
      cases e2
      obtain ⟨p, ws, rfl, h3, h4⟩ := r.seq h1 e1
      exact ⟨p, ws, rfl, h3, post_new r (q2 _ rfl) h4⟩
  | tuple =>
    refine CallR.imp call_tuple_of fun vs H Q h => ?_
    obtain ⟨G, M, ds, d, r, hs, e, q1, q2⟩ := h
    unfold bltD at e
    split at e <;> (try cases e) <;> (rename_i hq; try (cases hq))
    · obtain ⟨v, rfl, h1⟩ := reps1 hs
      obtain ⟨l, e1, e2⟩ := bndO_some e
      cases e2
      have q1 := q1 fun l z => nomatch z
      rcases r.seqC h1 e1 with ⟨p, ws, rfl, h3, h4⟩ | ⟨p, ws, rfl, h3, h4, h5⟩
      · exact ⟨p, ws, rfl, .inl ⟨.of h3, post_tup r q1 h4⟩⟩
      · exact ⟨p, ws, rfl, .inr ⟨h3, post_self r q1 h5⟩⟩
  | all =>
    refine CallR.imp (cr_all hc) fun vs H Q h => ?_
    obtain ⟨G, M, ds, d, r, hs, e, q1, q2⟩ := h
    unfold bltD at e
    split at e <;> (try cases e) <;> (rename_i hq; try (cases hq))
    · obtain ⟨v, rfl, h1⟩ := reps1 hs
      obtain ⟨l, e1, e⟩ := bndO_some e
      obtain ⟨bs, e2, e⟩ := bndO_some e
      cases e
      obtain ⟨p, ws, rfl, h3, h4⟩ := r.lst h1 e1
      have := bls_ok h4 e2
      subst this
      exact ⟨p, bs, rfl, .of h3, post_self r (q1 fun l z => nomatch z) rfl⟩
  | any =>
    refine CallR.imp (cr_any hc) fun vs H Q h => ?_
    obtain ⟨G, M, ds, d, r, hs, e, q1, q2⟩ := h
    unfold bltD at e
    split at e <;> (try cases e) <;> (rename_i hq; try (cases hq))
    · obtain ⟨v, rfl, h1⟩ := reps1 hs
      obtain ⟨l, e1, e⟩ := bndO_some e
      obtain ⟨bs, e2, e⟩ := bndO_some e
      cases e
      obtain ⟨p, ws, rfl, h3, h4⟩ := r.lst h1 e1
      have := bls_ok h4 e2
      subst this
      exact ⟨p, bs, rfl, .of h3, post_self r (q1 fun l z => nomatch z) rfl⟩
/-- isinstance -/
def rIsiD (K : PySem.W.Frag) (t : String) : List V → Hp → VK → Prop := fun vs H Q => ∃ G M a v k, vs = [v, .ty t] ∧ RelM K G M H ∧ Rep K G a v ∧ isiD M a t = some k ∧ Q (.bl k) H
theorem isi_ok (t : String) : CallR X (.builtin "isinstance") (rIsiD X.K t) := by
  refine CallR.imp call_isi fun vs H Q h => ?_
  obtain ⟨G, M, a, v, k, rfl, r, ha, e, q⟩ := h
  obtain ⟨s, e1, e2⟩ := bndO_some e
  refine ⟨v, .ty t, .type s, .type t, k, rfl, .ty t, ?_, kit_ty e2, q⟩
  cases a with
  | non => cases e1; cases (show v = V.non from ha); exact .base .non
  | bl b => cases e1; cases (show v = V.bl b from ha); exact .base (.bl _)
  | int b => cases e1; cases (show v = V.int b from ha); exact .base (.int b)
  | str b => cases e1; cases (show v = V.str b from ha); exact .base (.str b)
  | tup l =>
    cases e1
    obtain ⟨p, vs, rfl, h1, h2⟩ := ha
    rcases r.sqT h1 with (h | ⟨o, h⟩) | ⟨o, its, n, h, hc, _⟩
    · exact .base (.tup h)
    · exact .fTuple h
    · exact .kTuple h hc
  | lst l =>
    cases e1
    obtain ⟨p, vs, rfl, h1, h2⟩ := ha
    exact .base (.lst (r.fz _ _ h1))
  | ref n =>
    obtain ⟨l, e3, e4⟩ := bndO_some (show bndO (lstOf M (.ref n)) _ = _ from e1)
    cases e4
    obtain ⟨p, vs, rfl, h1, h2⟩ := r.lst ha e3
    exact .base (.lst h1)
  | scr l => cases e1
end
end Mn
namespace Mn
open PySem PySem.Spec PyProof.Rows L2

/-! ### the text and its short form -/
structure Cxt where
  N : List Str
  sc : Scope
  fb : Option Scope
structure Tab where
  fns : List (Str × Bool)
  gls : List Str
def visB (sc : Scope) (x : Str) : Bool := match sc.names.lookup x with
  | some .local => true
  | some .cell => true
  | some .free => true
  | _ => false
def glB (sc : Scope) (x : Str) : Bool := match sc.names.lookup x with
  | some .globalImplicit => true
  | _ => false
def locB (C : Cxt) (x : Str) : Bool := match C.sc.names.lookup x with
  | some .local => true
  | some .cell => (match C.fb with
    | none => true
    | some s0 => (match s0.names.lookup x with
      | some .cell => true
      | _ => false))
  | _ => false
def okN (x : Str) : Bool := !(x == ("__debug__" : Str)) && !(x == ("__classdict__" : Str)) && decide (x ≠ "__name__")
def bltN : Blt → Str
  | .len => "len" | .abs => "abs" | .max => "max" | .min => "min" | .int => "int" | .gcd => "gcd" | .list => "list" | .tuple => "tuple" | .all => "all" | .any => "any"
/-- where a name of the def stands -/
def nameB (C : Cxt) (i : Nat) (x : Str) : Bool := decide (C.N[i]? = some x) && locB C x
def chNs (C : Cxt) : List Nat → List Expr → Bool
  | [], [] => true
  | i :: r, .Name x _ :: es => nameB C i x && chNs C r es
  | _, _ => false
def chG (C : Cxt) : Tg → Expr → Bool
  | .name i, .Name x _ => nameB C i x
  | .tup l, .Tuple es _ _ => chNs C l es
  | _, _ => false
def tgSub : Tg → List Nat → Bool
  | .name i, vs => decide (i ∈ vs)
  | .tup l, vs => l.all fun i => decide (i ∈ vs)
def ownOf (C : Cxt) (vs : List Nat) : List (Str × Nat) := vs.map fun i => (C.N.getD i "", i)
def isTup : Expr → Bool
  | .Tuple .. => true
  | _ => false
def blkX (C : Cxt) (scope : Scope) : Cxt := { C with sc := relS scope C.sc, fb := some scope }
def isiNs : List Str := ["int", "bool", "tuple", "str", "list"]
mutual
def chE (T : Tab) (C : Cxt) : CE → Expr → Bool
  | .var i, .Name x _ => decide (C.N[i]? = some x) && visB C.sc x && okN x
  | .int i, .Constant (.int j) _ _ => decide (i = j)
  | .bl b, .Constant (.bool c) _ _ => b == c
  | .non, .Constant .none _ _ => true
  | .str s, .Constant (.str t) _ _ => decide (s = t)
  | .gl c, .Name x _ => decide (T.gls[c]? = some x) && glB C.sc x && okN x
  | .tup es, .Tuple xs _ _ => chEs T C es xs
  | .lst es, .List xs _ => chEs T C es xs
  | .bin op a b, .BinOp x o y _ => decide (op = o) && chE T C a x && chE T C b y
  | .neg a, .UnaryOp .USub x _ => chE T C a x
  | .cmp op a b, .Compare x [o] [y] _ => decide (op = o) && chE T C a x && chE T C b y
  | .chain o1 o2 a b c, .Compare x [p1, p2] [y, z] _ => decide (o1 = p1) && decide (o2 = p2) && chE T C a x && chE T C b y && chE T C c z
  | .bool op es, .BoolOp o xs _ => decide (op = o) && chEs T C es xs
  | .not a, .UnaryOp .Not x _ => chE T C a x
  | .ite t a b, .IfExp x y z _ => chE T C t x && chE T C a y && chE T C b z
  | .idx a i, .Subscript x y _ => chE T C a x && chE T C i y
  | .cut a lo hi, .Subscript x (.Slice l h none _) _ => chE T C a x && chO T C lo l && chO T C hi h
  | .rev a, .Subscript x (.Slice none none (some (.UnaryOp .USub (.Constant (.int 1) _ _) _)) _) _ => chE T C a x
  | .call f es, .Call (.Name x _) (y :: ys) [] _ => (match T.fns[f]? with
    | some (n, _) => decide (n = x)
    | none => false) && glB C.sc x && okN x && chEs T C es (y :: ys)
  | .blt b es, .Call (.Name x _) (y :: ys) [] _ => decide (bltN b = x) && glB C.sc x && okN x && chEs T C es (y :: ys)
  | .isi a t, .Call (.Name x _) [y, .Name z _] [] _ => decide (x = "isinstance") && glB C.sc x && decide (z = Str.ofString t) && glB C.sc z && okN z && decide (bootBuiltins z = some (.type t)) && decide (z ∈ isiNs) && chE T C a y
  | .bits a, .Call (.Attribute x n p) [] [] q => decide (n = "bit_length") && (p.endLine == q.line) && chE T C a x
  | .comp e vs tg it cond, .ListComp x [⟨t, iter, ifs, 0⟩] scope _ => blkC C.N C.sc scope (ownOf C vs) && chI T C it t iter && chG (blkX C scope) tg t && tgSub tg vs && chC T (blkX C scope) cond ifs && chE T (blkX C scope) e x
  | _, _ => false
def chEs (T : Tab) (C : Cxt) : CEs → List Expr → Bool
  | .nil, [] => true
  | .cons e r, x :: xs => chE T C e x && chEs T C r xs
  | _, _ => false
def chO (T : Tab) (C : Cxt) : CO → Option Expr → Bool
  | .no, none => true
  | .yes e, some x => chE T C e x
  | _, _ => false
def chC (T : Tab) (C : Cxt) : CO → List Expr → Bool
  | .no, [] => true
  | .yes e, [x] => chE T C e x
  | _, _ => false
def chI (T : Tab) (C : Cxt) : CI → Expr → Expr → Bool
  | .ex e, _, x => chE T C e x
  | .rng1 a, _, .Call (.Name x _) [y] [] _ => decide (x = "range") && glB C.sc x && chE T C a y
  | .rng2 a b, _, .Call (.Name x _) [y, z] [] _ => decide (x = "range") && glB C.sc x && chE T C a y && chE T C b z
  | .enum a, t, .Call (.Name x _) [y] [] _ => isTup t && decide (x = "enumerate") && glB C.sc x && chE T C a y
  | .zip a b, t, .Call (.Name x _) [y, z] [] _ => isTup t && decide (x = "zip") && glB C.sc x && chE T C a y && chE T C b z
  | _, _, _ => false
end
/-- what makes a list of its own -/
def frC (T : Tab) : CE → Bool
  | .lst _ => true
  | .bin .. => true
  | .cut .. => true
  | .rev _ => true
  | .blt .. => true
  | .comp .. => true
  | .call f _ => (match T.fns[f]? with
    | some (_, b) => b
    | none => false)
  | _ => false

/-! ### what a def promises -/
def spI (K : PySem.W.Frag) (S : Sys) (f : Nat) (fr : Bool) : Sp := fun vs H Q _ => ∃ G M ds d M', RelM K G M H ∧ Reps K G ds vs ∧ S.call f ds M = some (d, M') ∧ (fr = false → Post K G H M' d Q) ∧ (fr = true → ∃ l, d = .lst l ∧ PostN K G H M' l Q)
structure CxOk (T : Tab) (S : Sys) (k : Nat) (C : Cxt) (X : Cx) : Prop where
  N : X.N = C.N
  nd : C.N.Nodup
  sc : X.env.scope = C.sc
  calm : X.calm = true
  room : Room k X.A
  fn : ∀ x, (match C.fb with | none => true | some s0 => (match s0.names.lookup x with | some .cell => true | _ => false)) = true → X.fn x = true
  blt : ∀ x ∈ (["len", "abs", "max", "min", "int", "list", "tuple", "all", "any", "range", "enumerate", "zip", "isinstance", "bool", "str"] : List Str), X.mg x = none
  gcd : X.mg "gcd" = some (.builtin "math.gcd")
  gl : ∀ (c : Nat) (x : Str) (d : D), T.gls[c]? = some x → S.gl c = some d → ∃ u v, X.mg x = some u ∧ RelV v u ∧ ∀ G, Rep X.K G d v
  fns : ∀ (f : Nat) (x : Str) (b : Bool), T.fns[f]? = some (x, b) → ∃ fa fd ps, X.mg x = some (.ref fa) ∧ PySem.W.keepIn X.K (.ref fa) = true ∧ Binds X.K fd ps [] ∧ FnOk X.prog X.w X.K X.mg X.base CX0 k fa fd ps (spI X.K S f b)
  fr : ∀ (f : Nat) (x : Str), T.fns[f]? = some (x, true) → ∀ ds M d M', S.call f ds M = some (d, M') → ∃ l, d = .lst l
section
variable {T : Tab} {S : Sys} {k : Nat} {C : Cxt} {X : Cx}
theorem CxOk.blk (h : CxOk T S k C X) {s : Shared} {H : Hp} {scope : Scope} {cl : List (Str × Addr)} {c : Addr} {fp : List Addr} : CxOk T S k (blkX C scope) (X.blk s H scope (compEnvC scope cl c X.env) fp) where
  N := h.N
  nd := h.nd
  sc := by
    show relS scope X.env.scope = relS scope C.sc
    rw [h.sc]
  calm := h.calm
  room := h.room
  fn := fun x e => by
    show (scope.names.lookup x == some .cell) = true
    have e : (match scope.names.lookup x with | some .cell => true | _ => false) = true := e
    split at e
    · rename_i q; rw [q]; rfl
    · cases e
  blt := h.blt
  gcd := h.gcd
  gl := h.gl
  fns := h.fns
  fr := h.fr
theorem visB_ok {sc : Scope} {x : Str} (h : visB sc x = true) : Vis sc x := by
  unfold visB at h
  split at h
  · exact .inl (by assumption)
  · exact .inr (.inl (by assumption))
  · exact .inr (.inr (by assumption))
  · cases h
theorem glB_ok {x : Str} (ok : CxOk T S k C X) (h : glB C.sc x = true) : Gl X x := by
  unfold glB at h
  split at h
  · show X.env.scope.names.lookup x = _
    rw [ok.sc]
    assumption
  · cases h
theorem locB_ok {x : Str} (ok : CxOk T S k C X) (h : locB C x = true) : Loc X.env.scope x ∧ (X.fn x = true ∨ X.env.scope.names.lookup x = some .local) := by
  unfold locB at h
  rw [ok.sc]
  split at h
  · exact ⟨.inl (by assumption), .inr (by assumption)⟩
  · refine ⟨.inr (by assumption), .inl (ok.fn x h)⟩
  · cases h
theorem okN_ok {x : Str} (h : okN x = true) : (x == ("__debug__" : Str)) = false ∧ (x == ("__classdict__" : Str)) = false ∧ x ≠ "__name__" := by
  unfold okN at h
  simp only [Bool.and_eq_true, Bool.not_eq_true', decide_eq_true_eq] at h
  exact ⟨h.1.1, h.1.2, h.2⟩
theorem nameB_ok {i : Nat} {x : Str} (ok : CxOk T S k C X) (h : nameB C i x = true) : X.N[i]? = some x ∧ Loc X.env.scope x ∧ (X.fn x = true ∨ X.env.scope.names.lookup x = some .local) := by
  unfold nameB at h
  simp only [Bool.and_eq_true, decide_eq_true_eq] at h
  exact ⟨by rw [ok.N]; exact h.1, locB_ok ok h.2⟩
theorem ok_nd (ok : CxOk T S k C X) : X.N.Nodup := by rw [ok.N]; exact ok.nd
theorem ok_hu (ok : CxOk T S k C X) : X.A.units + 64 < cLine := ok.room.units

/-! no stars -/
theorem star_of {c : CE} {e : Expr} (h : chE T C c e = true) (es : List Expr) (env : PySem.Env) : starEach (e :: es) env = (false, eval e env) :: starEach es env := by
  cases e <;> first
    | rfl
    | (cases c <;> simp [chE] at h)
theorem star_all : ∀ {cs : CEs} {es : List Expr}, chEs T C cs es = true → ∀ (pos : Pos) (env : PySem.Env), (backTo pos (starEach es env)).any (·.1) = false
  | .nil, [], _, _, _ => rfl
  | .cons c r, e :: es, h, pos, env => by
    simp only [chEs, Bool.and_eq_true] at h
    rw [star_of h.1]
    show (false || (backTo pos (starEach es env)).any (·.1)) = false
    rw [star_all h.2, Bool.or_self]
  | .nil, _ :: _, h, _, _ => by simp [chEs] at h
  | .cons _ _, [], h, _, _ => by simp [chEs] at h
theorem set_of {c : CE} {e : Expr} (h : chE T C c e = true) (env : PySem.Env) (x : Value) : foldedSetIterable e env x = pure x := by
  cases e <;> first
    | rfl
    | (cases c <;> simp [chE] at h)
theorem mark_of {c : CE} {e : Expr} (h : chE T C c e = true) (op : CmpOp) : behindInMarks op e = false := by
  cases e <;> first
    | rfl
    | (cases c <;> simp [chE] at h)
theorem ix_of {c : CE} {e : Expr} (h : chE T C c e = true) : PlainIx e := by
  cases e <;> first
    | (intro _ _; rfl)
    | (cases c <;> simp [chE] at h)
theorem base_of {c : CE} {e : Expr} (h : chE T C c e = true) (n : Str) (env : PySem.Env) (w : Sem Value) : attributeBase e n env w = w := by
  cases e <;> first
    | rfl
    | skip
  rename_i f as ks p
  cases as with
  | nil =>
    cases c <;> first
      | (simp [chE] at h; done)
      | skip
    cases f <;> first
      | rfl
      | (simp [chE] at h; done)
  | cons a r => cases f <;> cases ks <;> rfl

/-! ### targets -/
theorem wipe_get (σ : L2.St) : ∀ (vs : List Nat) (j : Nat), (wipe σ vs)[j]? = if j ∈ vs ∧ j < σ.length then some none else σ[j]?
  | [], j => by simp [wipe]
  | v :: vs, j => by
    unfold wipe
    by_cases hv : v = j
    · subst hv
      by_cases hl : v < σ.length
      · rw [List.getElem?_set_self (by rw [wipe_length]; exact hl), if_pos ⟨List.mem_cons_self, hl⟩]
      · rw [List.getElem?_eq_none (by rw [List.length_set, wipe_length]; omega), if_neg (fun z => hl z.2), List.getElem?_eq_none (by omega)]
    · rw [List.getElem?_set_ne hv, wipe_get σ vs j]
      have e : (j ∈ v :: vs) ↔ j ∈ vs := by
        rw [List.mem_cons]
        exact ⟨fun z => z.elim (fun q => absurd q.symm hv) id, .inr⟩
      simp only [e]
theorem wipe_set (σ : L2.St) (i : Nat) (x : Option V) {vs : List Nat} (h : i ∈ vs) : wipe (σ.set i x) vs = wipe σ vs := by
  apply List.ext_getElem?
  intro j
  rw [wipe_get, wipe_get, List.length_set]
  by_cases hj : i = j
  · subst hj
    by_cases hl : i < σ.length
    · rw [if_pos ⟨h, hl⟩, if_pos ⟨h, hl⟩]
    · rw [if_neg fun z => hl z.2, if_neg fun z => hl z.2, List.getElem?_eq_none (by rw [List.length_set]; omega), List.getElem?_eq_none (by omega)]
  · rw [List.getElem?_set_ne hj]
def tT (K : PySem.W.Frag) (tg : Tg) : TG := fun v σ H Q => ∃ G M d ρ ρ1, RelM K G M H ∧ Rep K G d v ∧ EnvR K G ρ σ ∧ setT tg d ρ = some ρ1 ∧ ∀ σ1, EnvR K G ρ1 σ1 → (∀ vs, tgSub tg vs = true → wipe σ1 vs = wipe σ vs) → Q σ1 H
def tTs (K : PySem.W.Frag) (l : List Nat) : TGs := fun vs σ H Q => ∃ G M ds ρ, RelM K G M H ∧ RepVs K G.F ds vs ∧ EnvR K G ρ σ ∧ ds.length = l.length ∧ ∀ σ1, EnvR K G (setN l ds ρ) σ1 → (∀ vs, (l.all fun i => decide (i ∈ vs)) = true → wipe σ1 vs = wipe σ vs) → Q σ1 H
theorem _root_.L2.PGs.imp {es : List Expr} {t t' : TGs} (h : PGs X es t) (i : ∀ vs σ H Q, t' vs σ H Q → t vs σ H Q) : PGs X es t' := ⟨fun pins s σ H vs us Q I r w => h.run pins s σ H vs us Q I r (i _ _ _ _ w)⟩
theorem _root_.L2.PG.imp {e : Expr} {t t' : TG} (h : PG X e t) (i : ∀ v σ H Q, t' v σ H Q → t v σ H Q) : PG X e t' := ⟨fun pins s σ H v u Q I r w => h.run pins s σ H v u Q I r (i _ _ _ _ w)⟩
theorem setN_cons (i : Nat) (l : List Nat) (d : D) (ds : List D) (ρ : Rho) : setN (i :: l) (d :: ds) ρ = setN l ds (ρ.set i (some d)) := rfl
theorem pgs_ok (ok : CxOk T S k C X) : ∀ {l : List Nat} {es : List Expr}, chNs C l es = true → PGs X es (tTs X.K l)
  | [], [], _ => by
    refine pgs_nil.imp fun vs σ H Q h => ?_
    obtain ⟨G, M, ds, ρ, r, hv, he, hl, q⟩ := h
    cases ds with
    | cons d ds => simp at hl
    | nil => exact ⟨hv, q σ he fun _ _ => rfl⟩
  | i :: l, .Name x p :: es, h => by
    simp only [chNs, Bool.and_eq_true] at h
    obtain ⟨hN, hx, hf⟩ := nameB_ok ok h.1
    refine (pgs_cons (pg_name (ok_nd ok) hN hx hf) (pgs_ok ok h.2)).imp fun vs σ H Q h => ?_
    obtain ⟨G, M, ds, ρ, r, hv, he, hl, q⟩ := h
    cases ds with
    | nil => simp at hl
    | cons d ds =>
      obtain ⟨v, vr, rfl, h1, h2⟩ := hv
      refine ⟨v, vr, rfl, G, M, ds, ρ.set i (some d), r, h2, he.set (Rep.of h1) i, by simpa using hl, fun σ1 e1 w => q σ1 e1 fun ws hw => ?_⟩
      simp only [List.all_cons, Bool.and_eq_true, decide_eq_true_eq] at hw
      rw [w ws (by simpa using hw.2), wipe_set _ _ _ hw.1]
  | [], _ :: _, h => by simp [chNs] at h
  | _ :: _, [], h => by simp [chNs] at h
  | _ :: _, .BoolOp .. :: _, h => by simp [chNs] at h
  | _ :: _, .NamedExpr .. :: _, h => by simp [chNs] at h
  | _ :: _, .BinOp .. :: _, h => by simp [chNs] at h
  | _ :: _, .UnaryOp .. :: _, h => by simp [chNs] at h
  | _ :: _, .Lambda .. :: _, h => by simp [chNs] at h
  | _ :: _, .IfExp .. :: _, h => by simp [chNs] at h
  | _ :: _, .Dict .. :: _, h => by simp [chNs] at h
  | _ :: _, .Set .. :: _, h => by simp [chNs] at h
  | _ :: _, .ListComp .. :: _, h => by simp [chNs] at h
  | _ :: _, .SetComp .. :: _, h => by simp [chNs] at h
  | _ :: _, .DictComp .. :: _, h => by simp [chNs] at h
  | _ :: _, .GeneratorExp .. :: _, h => by simp [chNs] at h
  | _ :: _, .Await .. :: _, h => by simp [chNs] at h
  | _ :: _, .Yield .. :: _, h => by simp [chNs] at h
  | _ :: _, .YieldFrom .. :: _, h => by simp [chNs] at h
  | _ :: _, .Compare .. :: _, h => by simp [chNs] at h
  | _ :: _, .Call .. :: _, h => by simp [chNs] at h
  | _ :: _, .FormattedValue .. :: _, h => by simp [chNs] at h
  | _ :: _, .JoinedStr .. :: _, h => by simp [chNs] at h
  | _ :: _, .Constant .. :: _, h => by simp [chNs] at h
  | _ :: _, .Attribute .. :: _, h => by simp [chNs] at h
  | _ :: _, .Subscript .. :: _, h => by simp [chNs] at h
  | _ :: _, .Starred .. :: _, h => by simp [chNs] at h
  | _ :: _, .List .. :: _, h => by simp [chNs] at h
  | _ :: _, .Tuple .. :: _, h => by simp [chNs] at h
  | _ :: _, .Slice .. :: _, h => by simp [chNs] at h
theorem ae_ok : ∀ {l : List Nat} {es : List Expr} (env : PySem.Env), chNs C l es = true → (assignEach es env).length = l.length ∧ (assignEach es env).findIdx? (·.1) = none
  | [], [], _, _ => ⟨rfl, rfl⟩
  | i :: l, e :: es, env, h => by
    cases e <;> first
      | (simp [chNs] at h; done)
      | skip
    simp only [chNs, Bool.and_eq_true] at h
    obtain ⟨h1, h2⟩ := ae_ok env h.2
    refine ⟨by show (assignEach es env).length + 1 = l.length + 1; rw [h1], ?_⟩
    show List.findIdx? (·.1) ((false, _) :: assignEach es env) = none
    rw [List.findIdx?_cons]
    simp [h2]
  | [], _ :: _, _, h => by simp [chNs] at h
  | _ :: _, [], _, h => by simp [chNs] at h
theorem pg_ok (ok : CxOk T S k C X) {tg : Tg} {e : Expr} (h : chG C tg e = true) : PG X e (tT X.K tg) := by
  cases tg with
  | name i =>
    cases e <;> first
      | (simp [chG] at h; done)
      | skip
    simp only [chG] at h
    obtain ⟨hN, hx, hf⟩ := nameB_ok ok h
    refine (pg_name (ok_nd ok) hN hx hf).imp fun v σ H Q h => ?_
    obtain ⟨G, M, d, ρ, ρ1, r, hv, he, e1, q⟩ := h
    cases e1
    refine q _ (he.set hv i) fun vs hw => ?_
    simp only [tgSub, decide_eq_true_eq] at hw
    rw [wipe_set _ _ _ hw]
  | tup l =>
    cases e <;> first
      | (simp [chG] at h; done)
      | skip
    simp only [chG] at h
    obtain ⟨h1, h2⟩ := ae_ok X.env h
    refine (pg_tup ok.calm (pgs_ok ok h) h1 h2).imp fun v σ H Q h => ?_
    obtain ⟨G, M, d, ρ, ρ1, r, hv, he, e1, q⟩ := h
    cases d <;> first
      | (cases e1; done)
      | skip
    rename_i ds
    obtain ⟨a, vs, rfl, h3, h4⟩ := hv
    have e1 : (if ds.length = l.length then some (setN l ds ρ) else none) = some ρ1 := e1
    split at e1
    · rename_i hl
      cases e1
      exact ⟨a, vs, rfl, r.sqT h3, by rw [h4.length, hl], G, M, ds, ρ, r, h4, he, hl, fun σ1 e2 w => q σ1 e2 w⟩
    · cases e1
end
end Mn
namespace Mn
open PySem PySem.Spec PyProof.Rows L2

/-- what is walked gives these items -/
structure ItL (K : PySem.W.Frag) (G0 : Gh) (xs : List D) (J : It) : Prop where
  go : ∀ i G M H, Sub G0.F G.F → RelM K G M H → i < xs.length → J.go i H
  stop : ∀ i G M H, Sub G0.F G.F → RelM K G M H → i = xs.length → J.stop i H
  yld : ∀ i G M H v H', Sub G0.F G.F → RelM K G M H → J.yld i H v H' → i < xs.length → ∃ G' d, RelM K G' M H' ∧ Grow G H G' H' ∧ G'.μ = G.μ ∧ xs[i]? = some d ∧ RepV K G'.F d v
theorem RepVs.get' {K : PySem.W.Frag} {F : Hp} {l : List D} {vs : List V} {i : Nat} {v : V} (h : RepVs K F l vs) (e : vs[i]? = some v) : ∃ d, l[i]? = some d ∧ RepV K F d v := by
  have hl : i < l.length := by
    rw [← h.length]
    exact (List.getElem?_eq_some_iff.mp e).1
  obtain ⟨w, h1, h2⟩ := h.get (List.getElem?_eq_getElem hl)
  rw [e] at h1
  cases h1
  exact ⟨_, List.getElem?_eq_getElem hl, h2⟩
section
variable {K : PySem.W.Frag} {G0 : Gh} {xs : List D} {vs : List V} {a : Addr}
theorem itl_list (h : G0.F a = some (.lst vs)) (hv : RepVs K G0.F xs vs) : ItL K G0 xs (Itl K a) where
  go := fun i G M H s r hi => by
    have hl : i < vs.length := by rw [hv.length]; exact hi
    exact ⟨vs, vs[i], .of (r.fz _ _ (s _ _ h)), List.getElem?_eq_getElem hl⟩
  stop := fun i G M H s r hi => ⟨vs, .of (r.fz _ _ (s _ _ h)), by rw [hv.length]; omega⟩
  yld := fun i G M H v H' s r y hi => by
    obtain ⟨rfl, y⟩ := y
    obtain ⟨d, h1, h2⟩ := hv.get' (y vs (.of (r.fz _ _ (s _ _ h))))
    exact ⟨G, d, r, .refl _ _, rfl, h1, h2.sub s⟩
theorem itl_tup (h : SqT K G0.F a vs) (hv : RepVs K G0.F xs vs) : ItL K G0 xs (Itt K a) where
  go := fun i G M H s r hi => by
    have hl : i < vs.length := by rw [hv.length]; exact hi
    exact ⟨vs, vs[i], r.sqT (SqT.sub s h), List.getElem?_eq_getElem hl⟩
  stop := fun i G M H s r hi => ⟨vs, r.sqT (SqT.sub s h), by rw [hv.length]; omega⟩
  yld := fun i G M H v H' s r y hi => by
    obtain ⟨rfl, y⟩ := y
    obtain ⟨d, h1, h2⟩ := hv.get' (y vs (r.sqT (SqT.sub s h)))
    exact ⟨G, d, r, .refl _ _, rfl, h1, h2.sub s⟩
theorem itl_rng {lo : Int} {n : Nat} : ItL K G0 ((List.range n).map (fun k : Nat => D.int (lo + (k : Int)))) (Itr lo n) where
  go := fun i G M H s r hi => by
    rw [List.length_map, List.length_range] at hi
    exact hi
  stop := fun i G M H s r hi => by
    rw [List.length_map, List.length_range] at hi
    exact Nat.le_of_eq hi.symm
  yld := fun i G M H v H' s r y hi => by
    rw [List.length_map, List.length_range] at hi
    obtain ⟨rfl, rfl⟩ := y
    exact ⟨G, .int (lo + (i : Int)), r, .refl _ _, rfl, by rw [List.getElem?_map, List.getElem?_range hi]; rfl, rfl⟩
theorem enumL_length : ∀ (i : Nat) (l : List D), (enumL i l).length = l.length
  | _, [] => rfl
  | i, d :: r => by
    show (enumL (i + 1) r).length + 1 = r.length + 1
    rw [enumL_length (i + 1) r]
theorem enumL_get : ∀ (i j : Nat) (l : List D) (d : D), l[j]? = some d → (enumL i l)[j]? = some (.tup [.int ((i + j : Nat) : Int), d])
  | _, _, [], _, h => by simp at h
  | i, 0, x :: r, d, h => by
    simp at h
    subst h
    rfl
  | i, j + 1, x :: r, d, h => by
    have := enumL_get (i + 1) j r d (by simpa using h)
    rw [show i + 1 + j = i + (j + 1) by omega] at this
    exact this
theorem itl_enum (h : G0.F a = some (.lst vs)) (hv : RepVs K G0.F xs vs) : ItL K G0 (enumL 0 xs) (Ite K a) where
  go := fun i G M H s r hi => by
    rw [enumL_length] at hi
    have hl : i < vs.length := by rw [hv.length]; exact hi
    exact ⟨vs, vs[i], .of (r.fz _ _ (s _ _ h)), List.getElem?_eq_getElem hl⟩
  stop := fun i G M H s r hi => ⟨vs, .of (r.fz _ _ (s _ _ h)), by rw [enumL_length] at hi; rw [hv.length]; omega⟩
  yld := fun i G M H v H' s r y hi => by
    obtain ⟨p, x, rfl, hp, rfl, y⟩ := y
    obtain ⟨d, h1, h2⟩ := hv.get' (y vs (.of (r.fz _ _ (s _ _ h))))
    have h3 : RepVs K G.F [.int (i : Int), d] [.int (i : Int), x] := ⟨_, _, rfl, rfl, _, _, rfl, h2.sub s, rfl⟩
    obtain ⟨G', r', g, m, q⟩ := r.newT hp h3
    refine ⟨G', _, r', g, m, ?_, q⟩
    have := enumL_get 0 i xs d h1
    rw [Nat.zero_add] at this
    exact this
theorem zipL_get : ∀ (l r : List D) (i : Nat), (zipL l r)[i]? = (match l[i]?, r[i]? with | some x, some y => some (D.tup [x, y]) | _, _ => none)
  | [], r, i => by simp [zipL]
  | x :: l, [], i => by
    show ([] : List D)[i]? = _
    rw [List.getElem?_nil]
    split
    · rename_i q; cases q
    · rfl
  | x :: l, y :: r, 0 => rfl
  | x :: l, y :: r, i + 1 => by
    show (D.tup [x, y] :: zipL l r)[i + 1]? = _
    rw [List.getElem?_cons_succ, List.getElem?_cons_succ, List.getElem?_cons_succ, zipL_get l r i]
theorem zipL_length : ∀ (l r : List D), (zipL l r).length = min l.length r.length
  | [], r => by simp [zipL]
  | x :: l, [] => by simp [zipL]
  | x :: l, y :: r => by
    show (zipL l r).length + 1 = _
    rw [zipL_length l r, List.length_cons, List.length_cons]
    omega
theorem itl_zip {ys : List D} {ws : List V} {b : Addr} (h : G0.F a = some (.lst vs)) (hv : RepVs K G0.F xs vs) (h' : G0.F b = some (.lst ws)) (hw : RepVs K G0.F ys ws) : ItL K G0 (zipL xs ys) (Itz K a b) where
  go := fun i G M H s r hi => by
    rw [zipL_length] at hi
    have hl : i < vs.length := by rw [hv.length]; omega
    have hl2 : i < ws.length := by rw [hw.length]; omega
    exact ⟨vs, ws, vs[i], ws[i], .of (r.fz _ _ (s _ _ h)), .of (r.fz _ _ (s _ _ h')), List.getElem?_eq_getElem hl, List.getElem?_eq_getElem hl2⟩
  stop := fun i G M H s r hi => ⟨vs, ws, .of (r.fz _ _ (s _ _ h)), .of (r.fz _ _ (s _ _ h')), by rw [zipL_length] at hi; rw [hv.length, hw.length]; omega⟩
  yld := fun i G M H v H' s r y hi => by
    obtain ⟨p, x, y, rfl, hp, rfl, y1, y2⟩ := y
    obtain ⟨d, h1, h2⟩ := hv.get' (y1 vs (.of (r.fz _ _ (s _ _ h))))
    obtain ⟨e, h3, h4⟩ := hw.get' (y2 ws (.of (r.fz _ _ (s _ _ h'))))
    have h5 : RepVs K G.F [d, e] [x, y] := ⟨_, _, rfl, h2.sub s, _, _, rfl, h4.sub s, rfl⟩
    obtain ⟨G', r', g, m, q⟩ := r.newT hp h5
    refine ⟨G', _, r', g, m, ?_, q⟩
    rw [zipL_get, h1, h3]
end

/-! ### readings -/
def tX (K : PySem.W.Frag) (S : Sys) (c : CE) : TE := fun σ H Q => ∃ G ρ M d M', RelM K G M H ∧ EnvR K G ρ σ ∧ ev S c ρ M = some (d, M') ∧ ((∀ l, d ≠ .lst l) → Post K G H M' d Q) ∧ (∀ l, d = .lst l → PostN K G H M' l Q)
def tIt (K : PySem.W.Frag) (S : Sys) (c : CI) : TI := fun σ H R => ∃ G ρ M xs M', RelM K G M H ∧ EnvR K G ρ σ ∧ evi S c ρ M = some (xs, M') ∧ ∀ G' J H', Grow G H G' H' → G'.μ = G.μ → RelM K G' M' H' → ItL K G' xs J → R J H'
def tC (K : PySem.W.Frag) (S : Sys) (c : CO) : TT := fun σ H Q => ∃ G ρ M k M', RelM K G M H ∧ EnvR K G ρ σ ∧ evc S c ρ M = some (k, M') ∧ ∀ G' H', Grow G H G' H' → G'.μ = G.μ → RelM K G' M' H' → Q k H'
def tO (K : PySem.W.Frag) (S : Sys) (c : CO) : TO := fun σ H Q => ∃ G ρ M o M', RelM K G M H ∧ EnvR K G ρ σ ∧ evo S c ρ M = some (o, M') ∧ ∀ G' H', Grow G H G' H' → G'.μ = G.μ → RelM K G' M' H' → Q o H'
def tBo (K : PySem.W.Frag) (S : Sys) (op : BoolOp) (cs : CEs) : TE := fun σ H Q => ∃ G ρ M d M', RelM K G M H ∧ EnvR K G ρ σ ∧ evb S op cs ρ M = some (d, M') ∧ Post K G H M' d Q
def tBt (K : PySem.W.Frag) (S : Sys) (op : BoolOp) (cs : CEs) : TT := fun σ H Q => ∃ G ρ M d M' k, RelM K G M H ∧ EnvR K G ρ σ ∧ evb S op cs ρ M = some (d, M') ∧ truD M' d = some k ∧ ∀ G' H', Grow G H G' H' → G'.μ = G.μ → RelM K G' M' H' → Q k H'
theorem Post.after {K : PySem.W.Frag} {G G1 : Gh} {H H1 : Hp} {M' : Sto} {d : D} {Q : VK} (h : Post K G H M' d Q) (g : Grow G H G1 H1) (m : G1.μ = G.μ) : Post K G1 H1 M' d Q := fun G' v H' g' m' r' p => h G' v H' (g.trans g') (m'.trans m) r' p
theorem PostN.after {K : PySem.W.Frag} {G G1 : Gh} {H H1 : Hp} {M' : Sto} {l : List D} {Q : VK} (h : PostN K G H M' l Q) (g : Grow G H G1 H1) (m : G1.μ = G.μ) : PostN K G1 H1 M' l Q := fun G' p vs H' g' m' r' hp hp' hv hF => h G' p vs H' (g.trans g') (m'.trans m) r' (none_of_trk g.trk hp) hp' hv hF
theorem tX_of {K : PySem.W.Frag} {S : Sys} {c : CE} {σ : L2.St} {H : Hp} {Q : VK} (h : tI K S c σ H Q) : tX K S c σ H Q := by
  obtain ⟨G, ρ, M, d, M', r, he, e, q⟩ := h
  exact ⟨G, ρ, M, d, M', r, he, e, fun _ => q, fun l z => (z ▸ q : Post K G H M' (.lst l) Q).n r⟩
section
variable {T : Tab} {S : Sys} {k : Nat} {C : Cxt} {X : Cx}
theorem pt_ifExp {c a b : Expr} {tA tB tC : TT} {pos : Pos} (hc : PT X c tC) (ha : PT X a tA) (hb : PT X b tB) : PT X (.IfExp c a b pos) (fun σ H Q => tC σ H fun k H1 => if k = true then tA σ H1 Q else tB σ H1 Q) := by
  refine ⟨fun pins s σ H Q I h => ?_⟩
  refine isTrue_IfExp (thn (hc.run pins s σ H _ I h) fun d s1 ⟨H1, I1, q1⟩ => ?_)
  cases d with
  | true => exact ha.run pins s1 σ H1 Q I1 q1
  | false => exact hb.run pins s1 σ H1 Q I1 q1
/-- a test by its value's truth -/
theorem pt_of {c : CE} {e : Expr} (h : PE X e (tI X.K S c)) (he : ∀ whole, isTrue e X.env whole = (do let v ← whole; standAt e.pos; holding [v] (truthy v))) : PT X e (tB X.K S c) := by
  refine (pt_truth h he).imp fun σ H Q h => ?_
  obtain ⟨G, ρ, M, d, M', k, r, hr, e1, e2, q⟩ := h
  exact ⟨G, ρ, M, d, M', r, hr, e1, fun G' v H' g m r' p => ⟨k, tru_rep r' p e2, q G' H' g m r'⟩⟩
theorem ev_bool (S : Sys) (op : BoolOp) (es : CEs) (ρ : Rho) (M : Sto) : ev S (.bool op es) ρ M = evb S op es ρ M := rfl
theorem cmp_pt {c : CE} {t : TE} {e : Expr} (h : PT X e (tTest t)) (i : ∀ σ H Q, tI X.K S c σ H Q → t σ H Q) (hb : ∀ ρ M d M', ev S c ρ M = some (d, M') → ∃ k, d = .bl k) : PT X e (tB X.K S c) := by
  refine h.imp fun σ H Q h => ?_
  obtain ⟨G, ρ, M, d, M', k, r, hr, e1, e2, q⟩ := h
  refine i σ H _ ⟨G, ρ, M, d, M', r, hr, e1, fun G' v H' g m r' p => ?_⟩
  obtain ⟨k', rfl⟩ := hb _ _ _ _ e1
  cases (show v = V.bl k' from p)
  cases e2
  exact ⟨_, rfl, q G' H' g m r'⟩
end
end Mn
namespace Mn
open PySem PySem.Spec PyProof.Rows L2

section
variable {K : PySem.W.Frag} {S : Sys} {σ : L2.St} {H : Hp}
/-- one part, then what is behind -/
theorem tI_in {c : CE} {Q : VK} {G : Gh} {ρ : Rho} {M : Sto} {d : D} {M' : Sto} (r : RelM K G M H) (he : EnvR K G ρ σ) (e : ev S c ρ M = some (d, M')) (q : ∀ G' v H', Grow G H G' H' → G'.μ = G.μ → RelM K G' M' H' → Rep K G' d v → EnvR K G' ρ σ → Q v H') : tI K S c σ H Q :=
  ⟨G, ρ, M, d, M', r, he, e, fun G' v H' g m r' p => q G' v H' g m r' p (he.grow g)⟩
end
section
variable {T : Tab} {S : Sys} {k : Nat} {C : Cxt} {X : Cx}
theorem rdBin {op : Operator} {a b : CE} {σ : L2.St} {H : Hp} {Q : VK} (h : tX X.K S (.bin op a b) σ H Q) : tOp (rBin X.K op) (tI X.K S a) (tI X.K S b) σ H Q := by
  obtain ⟨G, ρ, M, d, M', r, he, e, q1, q2⟩ := h
  obtain ⟨x, M1, e1, e⟩ := bnd_some (show bnd (ev S a ρ M) _ = _ from e)
  obtain ⟨y, M2, e2, e⟩ := bnd_some e
  obtain ⟨d', e3, e⟩ := bndO_some e
  cases e
  refine tI_in r he e1 fun G1 v1 H1 g1 m1 r1 p1 he1 => tI_in r1 he1 e2 fun G2 v2 H2 g2 m2 r2 p2 he2 => ?_
  exact ⟨G2, _, x, y, d, r2, p1.grow g2, p2, e3, fun z => (q1 z).after (g1.trans g2) (m2.trans m1), fun l z => (q2 l z).after (g1.trans g2) (m2.trans m1)⟩
theorem rdCmp {op : CmpOp} {a b : CE} {σ : L2.St} {H : Hp} {Q : VK} (h : tI X.K S (.cmp op a b) σ H Q) : tOp (rCmp X.K op) (tI X.K S a) (tI X.K S b) σ H Q := by
  obtain ⟨G, ρ, M, d, M', r, he, e, q⟩ := h
  obtain ⟨x, M1, e1, e⟩ := bnd_some (show bnd (ev S a ρ M) _ = _ from e)
  obtain ⟨y, M2, e2, e⟩ := bnd_some e
  obtain ⟨d', e3, e⟩ := bndO_some e
  cases e
  refine tI_in r he e1 fun G1 v1 H1 g1 m1 r1 p1 he1 => tI_in r1 he1 e2 fun G2 v2 H2 g2 m2 r2 p2 he2 => ?_
  exact ⟨G2, _, x, y, d', r2, p1.grow g2, p2, e3, q G2 _ H2 (g1.trans g2) (m2.trans m1) r2 rfl⟩
theorem cmp_bl {op : CmpOp} {a b : CE} {ρ : Rho} {M : Sto} {d : D} {M' : Sto} (e : ev S (.cmp op a b) ρ M = some (d, M')) : ∃ k, d = .bl k := by
  obtain ⟨x, M1, e1, e⟩ := bnd_some (show bnd (ev S a ρ M) _ = _ from e)
  obtain ⟨y, M2, e2, e⟩ := bnd_some e
  obtain ⟨d', e3, e⟩ := bndO_some e
  cases e
  exact ⟨_, rfl⟩
theorem rdChain {o1 o2 : CmpOp} {a b c : CE} {σ : L2.St} {H : Hp} {Q : VK} (h : tI X.K S (.chain o1 o2 a b c) σ H Q) : tChain (rCmp X.K o1) (rCmp X.K o2) (tI X.K S a) (tI X.K S b) (tI X.K S c) σ H Q := by
  obtain ⟨G, ρ, M, d, M', r, he, e, q⟩ := h
  obtain ⟨x, M1, e1, e⟩ := bnd_some (show bnd (ev S a ρ M) _ = _ from e)
  obtain ⟨y, M2, e2, e⟩ := bnd_some e
  obtain ⟨d', e3, e⟩ := bndO_some e
  refine tI_in r he e1 fun G1 v1 H1 g1 m1 r1 p1 he1 => tI_in r1 he1 e2 fun G2 v2 H2 g2 m2 r2 p2 he2 => ?_
  refine ⟨G2, _, x, y, d', r2, p1.grow g2, p2, e3, d', rfl, ?_⟩
  cases d' with
  | false =>
    rw [if_neg Bool.false_ne_true] at e
    cases e
    rw [if_neg Bool.false_ne_true]
    exact q G2 _ H2 (g1.trans g2) (m2.trans m1) r2 rfl
  | true =>
    rw [if_pos rfl] at e
    rw [if_pos rfl]
    obtain ⟨z, M3, e4, e⟩ := bnd_some e
    obtain ⟨k2, e5, e⟩ := bndO_some e
    cases e
    refine tI_in r2 he2 e4 fun G3 v3 H3 g3 m3 r3 p3 he3 => ?_
    exact ⟨G3, _, y, z, k2, r3, p2.grow g3, p3, e5, q G3 _ H3 ((g1.trans g2).trans g3) (m3.trans (m2.trans m1)) r3 rfl⟩
theorem chain_bl {o1 o2 : CmpOp} {a b c : CE} {ρ : Rho} {M : Sto} {d : D} {M' : Sto} (e : ev S (.chain o1 o2 a b c) ρ M = some (d, M')) : ∃ k, d = .bl k := by
  obtain ⟨x, M1, e1, e⟩ := bnd_some (show bnd (ev S a ρ M) _ = _ from e)
  obtain ⟨y, M2, e2, e⟩ := bnd_some e
  obtain ⟨d', e3, e⟩ := bndO_some e
  cases d' with
  | false =>
    rw [if_neg Bool.false_ne_true] at e
    cases e
    exact ⟨_, rfl⟩
  | true =>
    rw [if_pos rfl] at e
    obtain ⟨z, M3, e4, e⟩ := bnd_some e
    obtain ⟨k2, e5, e⟩ := bndO_some e
    cases e
    exact ⟨_, rfl⟩
theorem rdTup {es : CEs} {σ : L2.St} {H : Hp} {Q : VK} (h : tI X.K S (.tup es) σ H Q) : tTup (tA X.K S es) σ H Q := by
  obtain ⟨G, ρ, M, d, M', r, he, e, q⟩ := h
  obtain ⟨ds, M1, e1, e⟩ := bnd_some (show bnd (evs S es ρ M) _ = _ from e)
  split at e
  · rename_i hz
    cases e
    refine ⟨G, ρ, M, ds, _, r, he, e1, fun G' vs H' g m r' p => ?_⟩
    have hv := p.vals hz.2
    exact ⟨by rw [hv.length]; exact small_line hz.1, post_tup r' (q.after g m) hv⟩
  · cases e
theorem rdLst {es : CEs} {σ : L2.St} {H : Hp} {Q : VK} (h : tX X.K S (.lst es) σ H Q) : tLst (tA X.K S es) σ H Q := by
  obtain ⟨G, ρ, M, d, M', r, he, e, q1, q2⟩ := h
  obtain ⟨ds, M1, e1, e⟩ := bnd_some (show bnd (evs S es ρ M) _ = _ from e)
  split at e
  · rename_i hz
    cases e
    refine ⟨G, ρ, M, ds, _, r, he, e1, fun G' vs H' g m r' p => ?_⟩
    have hv := p.vals hz.2
    exact ⟨by rw [hv.length]; exact small_line hz.1, post_new r' ((q2 _ rfl).after g m) hv⟩
  · cases e
theorem rdIdx {a i : CE} {σ : L2.St} {H : Hp} {Q : VK} (h : tI X.K S (.idx a i) σ H Q) : tOp (rIdx X.K) (tI X.K S a) (tI X.K S i) σ H Q := by
  obtain ⟨G, ρ, M, d, M', r, he, e, q⟩ := h
  obtain ⟨x, M1, e1, e⟩ := bnd_some (show bnd (ev S a ρ M) _ = _ from e)
  obtain ⟨y, M2, e2, e⟩ := bnd_some e
  obtain ⟨d', e3, e⟩ := bndO_some e
  cases e
  refine tI_in r he e1 fun G1 v1 H1 g1 m1 r1 p1 he1 => tI_in r1 he1 e2 fun G2 v2 H2 g2 m2 r2 p2 he2 => ?_
  exact ⟨G2, _, x, y, d, r2, p1.grow g2, p2, e3, q.after (g1.trans g2) (m2.trans m1)⟩
theorem rdCut {a : CE} {lo hi : CO} {σ : L2.St} {H : Hp} {Q : VK} (h : tX X.K S (.cut a lo hi) σ H Q) : tSl (rCut X.K) (tI X.K S a) (tO X.K S lo) (tO X.K S hi) σ H Q := by
  obtain ⟨G, ρ, M, d, M', r, he, e, q1, q2⟩ := h
  obtain ⟨x, M1, e1, e⟩ := bnd_some (show bnd (ev S a ρ M) _ = _ from e)
  obtain ⟨l, M2, e2, e⟩ := bnd_some e
  obtain ⟨u, M3, e3, e⟩ := bnd_some e
  obtain ⟨d', e4, e⟩ := bndO_some e
  cases e
  refine tI_in r he e1 fun G1 v1 H1 g1 m1 r1 p1 he1 => ⟨G1, ρ, M1, l, M2, r1, he1, e2, fun G2 H2 g2 m2 r2 => ⟨G2, ρ, M2, u, _, r2, he1.grow g2, e3, fun G3 H3 g3 m3 r3 => ?_⟩⟩
  exact ⟨G3, _, x, d, r3, (p1.grow g2).grow g3, e4, fun z => (q1 z).after ((g1.trans g2).trans g3) (m3.trans (m2.trans m1)), fun l z => (q2 l z).after ((g1.trans g2).trans g3) (m3.trans (m2.trans m1))⟩
theorem rdRev {a : CE} {σ : L2.St} {H : Hp} {Q : VK} (h : tX X.K S (.rev a) σ H Q) : tRevL X.K (tI X.K S a) σ H Q := by
  obtain ⟨G, ρ, M, d, M', r, he, e, q1, q2⟩ := h
  obtain ⟨x, M1, e1, e⟩ := bnd_some (show bnd (ev S a ρ M) _ = _ from e)
  obtain ⟨d', e3, e⟩ := bndO_some e
  cases e
  obtain ⟨l, e4, e5⟩ := bndO_some e3
  cases e5
  refine tI_in r he e1 fun G1 v1 H1 g1 m1 r1 p1 he1 => ?_
  obtain ⟨p, vs, rfl, h1, h2⟩ := r1.lst p1 e4
  exact ⟨p, vs, rfl, .of h1, post_new r1 ((q2 _ rfl).after g1 m1) h2.reverse⟩
theorem rdBlt {b : Blt} {es : CEs} {σ : L2.St} {H : Hp} {Q : VK} (h : tX X.K S (.blt b es) σ H Q) : tCB (rBlt X.K b) (tA X.K S es) σ H Q := by
  obtain ⟨G, ρ, M, d, M', r, he, e, q1, q2⟩ := h
  obtain ⟨ds, M1, e1, e⟩ := bnd_some (show bnd (evs S es ρ M) _ = _ from e)
  obtain ⟨d', e3, e⟩ := bndO_some e
  cases e
  exact ⟨G, ρ, M, ds, _, r, he, e1, fun G1 vs H1 g1 m1 r1 p1 => ⟨G1, _, ds, d, r1, p1, e3, fun z => (q1 z).after g1 m1, fun l z => (q2 l z).after g1 m1⟩⟩
theorem rdCall {f : Nat} {es : CEs} {x : Str} {σ : L2.St} {H : Hp} {Q : VK} (ok : CxOk T S k C X) {b : Bool} (hf : T.fns[f]? = some (x, b)) (h : (b = false ∧ tI X.K S (.call f es) σ H Q) ∨ (b = true ∧ tX X.K S (.call f es) σ H Q)) : tCall (spI X.K S f b) [] E0 (tA X.K S es) σ H Q := by
  rcases h with ⟨rfl, h⟩ | ⟨rfl, h⟩
  · obtain ⟨G, ρ, M, d, M', r, he, e, q⟩ := h
    obtain ⟨ds, M1, e1, e⟩ := bnd_some (show bnd (evs S es ρ M) _ = _ from e)
    refine ⟨G, ρ, M, ds, _, r, he, e1, fun G1 vs H1 g1 m1 r1 p1 => ?_⟩
    show spI X.K S f false (vs ++ []) H1 Q E0
    rw [List.append_nil]
    exact ⟨G1, M1, ds, d, M', r1, p1, e, (fun _ => q.after g1 m1), (fun z => nomatch z)⟩
  · obtain ⟨G, ρ, M, d, M', r, he, e, q1, q2⟩ := h
    obtain ⟨ds, M1, e1, e⟩ := bnd_some (show bnd (evs S es ρ M) _ = _ from e)
    refine ⟨G, ρ, M, ds, _, r, he, e1, fun G1 vs H1 g1 m1 r1 p1 => ?_⟩
    show spI X.K S f true (vs ++ []) H1 Q E0
    rw [List.append_nil]
    obtain ⟨l, rfl⟩ := ok.fr f x hf ds M1 d M' e
    exact ⟨G1, M1, ds, _, M', r1, p1, e, (fun z => nomatch z), fun _ => ⟨l, rfl, (q2 l rfl).after g1 m1⟩⟩
theorem rdBits {a : CE} {σ : L2.St} {H : Hp} {Q : VK} (h : tI X.K S (.bits a) σ H Q) : tBits (tI X.K S a) σ H Q := by
  obtain ⟨G, ρ, M, d, M', r, he, e, q⟩ := h
  obtain ⟨x, M1, e1, e⟩ := bnd_some (show bnd (ev S a ρ M) _ = _ from e)
  obtain ⟨d', e3, e⟩ := bndO_some e
  cases e
  refine tI_in r he e1 fun G1 v1 H1 g1 m1 r1 p1 he1 => ?_
  cases x <;> first
    | (cases e3; done)
    | skip
  cases e3
  exact ⟨_, p1, q G1 _ H1 g1 m1 r1 rfl⟩
theorem rdNeg {a : CE} {σ : L2.St} {H : Hp} {Q : VK} (h : tI X.K S (.neg a) σ H Q) : tUn (rU fun i => .int (-i)) (tI X.K S a) σ H Q := by
  obtain ⟨G, ρ, M, d, M', r, he, e, q⟩ := h
  obtain ⟨x, M1, e1, e⟩ := bnd_some (show bnd (ev S a ρ M) _ = _ from e)
  obtain ⟨d', e3, e⟩ := bndO_some e
  cases e
  refine tI_in r he e1 fun G1 v1 H1 g1 m1 r1 p1 he1 => ?_
  cases x <;> first
    | (cases e3; done)
    | skip
  cases e3
  exact ⟨_, p1, q G1 _ H1 g1 m1 r1 rfl⟩
theorem rdNot {a : CE} {σ : L2.St} {H : Hp} {Q : VK} (h : tI X.K S (.not a) σ H Q) : tNotT X.K (tI X.K S a) σ H Q := by
  obtain ⟨G, ρ, M, d, M', r, he, e, q⟩ := h
  obtain ⟨x, M1, e1, e⟩ := bnd_some (show bnd (ev S a ρ M) _ = _ from e)
  obtain ⟨c, e3, e⟩ := bndO_some e
  cases e
  exact tI_in r he e1 fun G1 v1 H1 g1 m1 r1 p1 he1 => ⟨c, tru_rep r1 p1 e3, q G1 _ H1 g1 m1 r1 rfl⟩
theorem rdNotT {a : CE} {σ : L2.St} {H : Hp} {Q : Bool → Hp → Prop} (h : tB X.K S (.not a) σ H Q) : tNot (tB X.K S a) σ H Q := by
  obtain ⟨G, ρ, M, d, M', kk, r, he, e, e2, q⟩ := h
  obtain ⟨x, M1, e1, e⟩ := bnd_some (show bnd (ev S a ρ M) _ = _ from e)
  obtain ⟨c, e3, e⟩ := bndO_some e
  cases e
  cases e2
  exact ⟨G, ρ, M, x, _, c, r, he, e1, e3, q⟩
theorem rdIte {t a b : CE} {σ : L2.St} {H : Hp} {Q : VK} (h : tI X.K S (.ite t a b) σ H Q) : tIf (tB X.K S t) (tI X.K S a) (tI X.K S b) σ H Q := by
  obtain ⟨G, ρ, M, d, M', r, he, e, q⟩ := h
  obtain ⟨x, M1, e1, e⟩ := bnd_some (show bnd (ev S t ρ M) _ = _ from e)
  obtain ⟨c, e3, e⟩ := bndO_some e
  refine ⟨G, ρ, M, x, M1, c, r, he, e1, e3, fun G1 H1 g1 m1 r1 => ?_⟩
  cases c with
  | true =>
    rw [if_pos rfl] at e ⊢
    exact ⟨G1, ρ, M1, d, M', r1, he.grow g1, e, q.after g1 m1⟩
  | false =>
    rw [if_neg Bool.false_ne_true] at e ⊢
    exact ⟨G1, ρ, M1, d, M', r1, he.grow g1, e, q.after g1 m1⟩
theorem rdIteT {t a b : CE} {σ : L2.St} {H : Hp} {Q : Bool → Hp → Prop} (h : tB X.K S (.ite t a b) σ H Q) : tB X.K S t σ H fun k H1 => if k = true then tB X.K S a σ H1 Q else tB X.K S b σ H1 Q := by
  obtain ⟨G, ρ, M, d, M', kk, r, he, e, e2, q⟩ := h
  obtain ⟨x, M1, e1, e⟩ := bnd_some (show bnd (ev S t ρ M) _ = _ from e)
  obtain ⟨c, e3, e⟩ := bndO_some e
  refine ⟨G, ρ, M, x, M1, c, r, he, e1, e3, fun G1 H1 g1 m1 r1 => ?_⟩
  cases c with
  | true =>
    rw [if_pos rfl] at e ⊢
    exact ⟨G1, ρ, M1, d, M', kk, r1, he.grow g1, e, e2, fun G' H' g m r' => q G' H' (g1.trans g) (m.trans m1) r'⟩
  | false =>
    rw [if_neg Bool.false_ne_true] at e ⊢
    exact ⟨G1, ρ, M1, d, M', kk, r1, he.grow g1, e, e2, fun G' H' g m r' => q G' H' (g1.trans g) (m.trans m1) r'⟩
/-- a new list that is being filled -/
theorem RelM.poke {K : PySem.W.Frag} {G : Gh} {M : Sto} {H : Hp} {p : Addr} {o : HO} (r : RelM K G M H) (hF : G.F p = none) (hm : ∀ n, G.μ n ≠ some p) : RelM K G M (upd H p o) where
  fz := fun a u e => by
    rw [upd_ne (ne_of_none e hF)]
    exact r.fz a u e
  st := fun n l e => by
    obtain ⟨a, vs, h1, h2, h3, h4⟩ := r.st n l e
    have ha : a ≠ p := fun z => hm n (z ▸ h1)
    exact ⟨a, vs, h1, by rw [upd_ne ha]; exact h2, h3, h4⟩
  dom := r.dom
  all := r.all
  trk := fun n a e => by
    obtain ⟨u, hu⟩ := r.trk n a e
    have ha : a ≠ p := fun z => hm n (z ▸ e)
    exact ⟨u, by rw [upd_ne ha]; exact hu⟩
  inj := r.inj
theorem Grow.poke {G G' : Gh} {H H' : Hp} {p : Addr} {o : HO} (g : Grow G H G' H') (hp : H p = none) : Grow G H G' (upd H' p o) where
  F := g.F
  μ := g.μ
  new := g.new
  frame := fun b u e hn => by
    rw [upd_ne (ne_of_none e hp)]
    exact g.frame b u e hn
  trk := fun b u e => by
    obtain ⟨u', h⟩ := g.trk b u e
    rw [upd_ne (ne_of_none e hp)]
    exact ⟨u', h⟩
  fn := g.fn
/-- a comprehension -/
def turnF (S : Sys) (e : CE) (vs : List Nat) (tg : Tg) (cond : CO) (ρ : Rho) : D → Sto → Re (Option D) := fun x M =>
  bndO (setT tg x (wipeD ρ vs)) fun ρ1 => bnd (evc S cond ρ1 M) fun k M' => if k = true then bnd (ev S e ρ1 M') fun y M'' => if val y = true then some (some y, M'') else none else some (none, M')
theorem rdComp {e : CE} {vs : List Nat} {tg : Tg} {it : CI} {cond : CO} (hs : tgSub tg vs = true) {σ : L2.St} {H : Hp} {Q : VK} (h : tX X.K S (.comp e vs tg it cond) σ H Q) :
    tLc (tIt X.K S it) (tT X.K tg) (tC X.K S cond) (tI X.K S e) vs σ H Q := by
  obtain ⟨G, ρ, M, d, M', r, he, ee, q1, q2⟩ := h
  obtain ⟨xs, M1, e1, ee⟩ := bnd_some (show bnd (evi S it ρ M) _ = _ from ee)
  obtain ⟨ys, M2, e2, ee⟩ := bnd_some ee
  have e2 : compL (turnF S e vs tg cond ρ) xs M1 = some (ys, M2) := e2
  split at ee
  · rename_i hz
    cases ee
    have q := q2 ys rfl
    refine ⟨G, ρ, M, xs, M1, r, he, e1, fun G1 J H1 g1 m1 r1 hJ D hD => ?_⟩
    have hF1 := r1.noF hD
    have hm1 := r1.noμ hD
    refine ⟨fun i m Hi => ∃ Gi Mi acc vacc rest, m = xs.length - i ∧ i ≤ xs.length ∧ Grow G1 H1 Gi Hi ∧ Gi.μ = G1.μ ∧ RelM X.K Gi Mi Hi ∧ Gi.F D = none ∧ Hi D = some (.lst vacc) ∧ RepVs X.K Gi.F acc vacc ∧ compL (turnF S e vs tg cond ρ) (xs.drop i) Mi = some (rest, M') ∧ ys = acc ++ rest,
      ⟨_, G1, M1, [], [], ys, rfl, Nat.zero_le _, (Grow.refl G1 H1).poke hD, rfl, r1.poke hF1 hm1, hF1, upd_same, rfl, e2, rfl⟩, ?_⟩
    rintro i m Hi ⟨Gi, Mi, acc, vacc, rest, rfl, hi, gi, mi, ri, hFi, hDi, hacc, ei, eys⟩
    by_cases hlt : i < xs.length
    · refine .inr ⟨hJ.go i Gi Mi Hi gi.F ri hlt, fun H' => ∃ m', m' < xs.length - i ∧ ∃ Gi' Mi' acc' vacc' rest', m' = xs.length - (i + 1) ∧ i + 1 ≤ xs.length ∧ Grow G1 H1 Gi' H' ∧ Gi'.μ = G1.μ ∧ RelM X.K Gi' Mi' H' ∧ Gi'.F D = none ∧ H' D = some (.lst vacc') ∧ RepVs X.K Gi'.F acc' vacc' ∧ compL (turnF S e vs tg cond ρ) (xs.drop (i + 1)) Mi' = some (rest', M') ∧ ys = acc' ++ rest', fun H' z => z, fun x H' hy => ?_⟩
      obtain ⟨G2, dx, r2, g2, m2, ex, px⟩ := hJ.yld i Gi Mi Hi x H' gi.F ri hy hlt
      -- D is not touched
      have keepD : ∀ {Ga Gb : Gh} {Ha Hb : Hp} {o : HO}, Grow Ga Ha Gb Hb → Ga.μ = G1.μ → Ha D = some o → Hb D = some o := fun {Ga Gb Ha Hb o} g m hh => g.frame D o hh fun n z => hm1 n (by rw [← m]; exact z)
      have keepF : ∀ {Ga Gb : Gh} {Ha Hb : Hp} {o : HO}, Grow Ga Ha Gb Hb → Ga.μ = G1.μ → Ha D = some o → Ga.F D = none → Gb.F D = none := fun {Ga Gb Ha Hb o} g m hh hf => by
        cases e : Gb.F D with
        | none => rfl
        | some u =>
          rcases g.fn D u e with z | z | ⟨n, z⟩
          · rw [hf] at z; cases z
          · rw [hh] at z; cases z
          · exact absurd (by rw [← m]; exact z) (hm1 n)
      have hd : xs.drop i = dx :: xs.drop (i + 1) := by
        obtain ⟨hl, e3⟩ := List.getElem?_eq_some_iff.mp ex
        rw [← e3]
        exact List.drop_eq_getElem_cons hl
      rw [hd] at ei
      obtain ⟨o, Ma, e4, ei⟩ := bnd_some (show bnd (turnF S e vs tg cond ρ dx Mi) _ = _ from ei)
      obtain ⟨rest', Mb, e5, ei⟩ := bnd_some ei
      obtain ⟨ρ1, e6, e4⟩ := bndO_some (show bndO _ _ = _ from e4)
      obtain ⟨kk, Mc, e7, e4⟩ := bnd_some e4
      have he2 : EnvR X.K G2 ρ σ := ((he.grow g1).grow gi).grow g2
      refine ⟨G2, Mi, dx, wipeD ρ vs, ρ1, r2, Rep.of px, he2.wipe vs, e6, fun σ2 he3 hw => ?_⟩
      have hw2 : wipe σ2 vs = wipe σ vs := by
        rw [hw vs hs]
        apply List.ext_getElem?
        intro j
        rw [wipe_get, wipe_get, wipe_length]
        by_cases hj : j ∈ vs ∧ j < σ.length
        · simp only [if_pos hj]
        · simp only [if_neg hj]
      refine ⟨hw2, G2, ρ1, Mi, kk, Mc, r2, he3, e7, fun G3 H3 g3 m3 r3 => ?_⟩
      have hD3 : H3 D = some (.lst vacc) := keepD g3 (m2.trans mi) (keepD g2 mi hDi)
      have hF2 : G2.F D = none := keepF g2 mi hDi hFi
      have hD2 : H' D = some (.lst vacc) := keepD g2 mi hDi
      have hF3 : G3.F D = none := keepF g3 (m2.trans mi) hD2 hF2
      have g13 : Grow G1 H1 G3 H3 := (gi.trans g2).trans g3
      have m13 : G3.μ = G1.μ := m3.trans (m2.trans mi)
      cases kk with
      | false =>
        rw [if_neg Bool.false_ne_true] at e4
        refine L2.iteF ?_
        cases e4
        cases ei
        refine ⟨_, ?_, G3, _, acc, vacc, rest, rfl, hlt, g13, m13, r3, hF3, hD3, hacc.sub (g2.trans g3).F, e5, eys⟩
        omega
      | true =>
        rw [if_pos rfl] at e4
        refine L2.iteT ?_
        obtain ⟨y, Md, e8, e4⟩ := bnd_some e4
        split at e4
        · rename_i hy
          cases e4
          cases ei
          refine ⟨G3, ρ1, Mc, y, _, r3, he3.grow g3, e8, fun G4 v4 H4 g4 m4 r4 p4 => ?_⟩
          have hD4 : H4 D = some (.lst vacc) := keepD g4 m13 hD3
          have hF4 : G4.F D = none := keepF g4 m13 hD3 hF3
          have m14 : G4.μ = G1.μ := m4.trans m13
          have hacc4 : RepVs X.K G4.F acc vacc := hacc.sub ((g2.trans g3).trans g4).F
          have hlen : vacc.length < sizeLine := by
            have h1 := hacc.length
            have h2 := congrArg List.length eys
            rw [List.length_append, List.length_cons] at h2
            rw [← line_eq]
            omega
          refine ⟨vacc, hD4, hlen, _, ?_, G4, _, acc ++ [y], vacc ++ [v4], rest', rfl, hlt, (g13.trans g4).poke hD, m14, r4.poke hF4 fun n z => hm1 n (by rw [← m14]; exact z), hF4, upd_same, hacc4.append ⟨_, _, rfl, p4.val hy, rfl⟩, e5, ?_⟩
          · omega
          · rw [List.append_assoc]
            exact eys
        · cases e4
    · have hl : i = xs.length := by omega
      subst hl
      rw [List.drop_length] at ei
      cases ei
      rw [List.append_nil] at eys
      subst eys
      exact .inl ⟨hJ.stop _ Gi _ Hi gi.F ri rfl, q Gi D vacc Hi (g1.trans gi) (mi.trans m1) ri (none_of_trk g1.trk hD) hDi hacc hFi⟩
  · cases ee
end
end Mn
namespace Mn
open PySem PySem.Spec PyProof.Rows L2
section
variable {T : Tab} {S : Sys} {k : Nat}
theorem blt_boot (b : Blt) (h : b ≠ .gcd) : bootBuiltins (bltN b) = some (bltF b) := by
  cases b <;> first
    | exact absurd rfl h
    | decide +kernel
theorem pe_bltOf {C : Cxt} {X : Cx} (ok : CxOk T S k C X) (b : Blt) {y : Expr} {ys : List Expr} {p pos : Pos} {t : TA} (hg : Gl X (bltN b)) (ha : PA X (y :: ys) t) (he : starEach (y :: ys) X.env = (false, eval y X.env) :: starEach ys X.env) (hpl : (backTo pos (starEach ys X.env)).any (·.1) = false) :
    PE X (.Call (.Name (bltN b) p) (y :: ys) [] pos) (tCB (rBlt X.K b) t) := by
  have hc := blt_ok (X := X) ok.calm b
  cases b with
  | len => exact pe_callB hc hg (ok.blt _ (by decide +kernel)) (blt_boot .len (fun z => nomatch z)) ha (by decide +kernel) (by decide +kernel) he hpl
  | abs => exact pe_callB hc hg (ok.blt _ (by decide +kernel)) (blt_boot .abs (fun z => nomatch z)) ha (by decide +kernel) (by decide +kernel) he hpl
  | max => exact pe_callB hc hg (ok.blt _ (by decide +kernel)) (blt_boot .max (fun z => nomatch z)) ha (by decide +kernel) (by decide +kernel) he hpl
  | min => exact pe_callB hc hg (ok.blt _ (by decide +kernel)) (blt_boot .min (fun z => nomatch z)) ha (by decide +kernel) (by decide +kernel) he hpl
  | all => exact pe_callB hc hg (ok.blt _ (by decide +kernel)) (blt_boot .all (fun z => nomatch z)) ha (by decide +kernel) (by decide +kernel) he hpl
  | any => exact pe_callB hc hg (ok.blt _ (by decide +kernel)) (blt_boot .any (fun z => nomatch z)) ha (by decide +kernel) (by decide +kernel) he hpl
  | int => exact pe_callTy hc hg (ok.blt _ (by decide +kernel)) (blt_boot .int (fun z => nomatch z)) ha (by decide +kernel) (by decide +kernel) he hpl
  | list => exact pe_callTy hc hg (ok.blt _ (by decide +kernel)) (blt_boot .list (fun z => nomatch z)) ha (by decide +kernel) (by decide +kernel) he hpl
  | tuple => exact pe_callTy hc hg (ok.blt _ (by decide +kernel)) (blt_boot .tuple (fun z => nomatch z)) ha (by decide +kernel) (by decide +kernel) he hpl
  | gcd => exact pe_callBfun hc hg ok.gcd ha (by decide +kernel) he hpl
theorem ch_rev {C : Cxt} {a : CE} {e : Expr} (h : chE T C (.rev a) e = true) : ∃ x kk p1 p2 p3 pos, e = .Subscript x (.Slice none none (some (.UnaryOp .USub (.Constant (.int 1) kk p1) p2)) p3) pos ∧ chE T C a x = true := by
  cases e <;> first
    | (simp [chE] at h; done)
    | skip
  rename_i x y pos
  cases y <;> first
    | (simp [chE] at h; done)
    | skip
  rename_i l u st p3
  cases l <;> first
    | (simp [chE] at h; done)
    | skip
  cases u <;> first
    | (simp [chE] at h; done)
    | skip
  cases st <;> first
    | (simp [chE] at h; done)
    | skip
  rename_i st
  cases st <;> first
    | (simp [chE] at h; done)
    | skip
  rename_i uo st p2
  cases uo <;> first
    | (simp [chE] at h; done)
    | skip
  cases st <;> first
    | (simp [chE] at h; done)
    | skip
  rename_i cc kk p1
  cases cc <;> first
    | (simp [chE] at h; done)
    | skip
  rename_i i
  by_cases hi : i = 1
  · subst hi
    exact ⟨x, kk, p1, p2, p3, pos, rfl, by simpa only [chE] using h⟩
  · simp [chE, hi] at h
theorem ch_bits {C : Cxt} {a : CE} {e : Expr} (h : chE T C (.bits a) e = true) : ∃ x p q, e = .Call (.Attribute x "bit_length" p) [] [] q ∧ (p.endLine == q.line) = true ∧ chE T C a x = true := by
  cases e <;> first
    | (simp [chE] at h; done)
    | skip
  rename_i fe as ks pos
  cases fe <;> first
    | (simp [chE] at h; done)
    | skip
  cases as <;> first
    | (simp [chE] at h; done)
    | skip
  cases ks <;> first
    | (simp [chE] at h; done)
    | skip
  simp only [chE, Bool.and_eq_true, decide_eq_true_eq] at h
  obtain ⟨⟨rfl, h1⟩, h2⟩ := h
  exact ⟨_, _, _, rfl, h1, h2⟩
theorem ch_isi {C : Cxt} {a : CE} {t : String} {e : Expr} (h : chE T C (.isi a t) e = true) : ∃ y z p1 p2 pos, e = .Call (.Name "isinstance" p1) [y, .Name z p2] [] pos ∧ glB C.sc "isinstance" = true ∧ z = Str.ofString t ∧ glB C.sc z = true ∧ okN z = true ∧ bootBuiltins z = some (.type t) ∧ z ∈ isiNs ∧ chE T C a y = true := by
  cases e <;> first
    | (simp [chE] at h; done)
    | skip
  rename_i fe as ks pos
  cases fe <;> first
    | (simp [chE] at h; done)
    | skip
  match as, ks, h with
  | [y, z], [], h =>
    cases z <;> first
      | (simp [chE] at h; done)
      | skip
    simp only [chE, Bool.and_eq_true, decide_eq_true_eq] at h
    obtain ⟨⟨⟨⟨⟨⟨⟨rfl, h1⟩, h2⟩, h3⟩, h4⟩, h5⟩, h6⟩, h7⟩ := h
    exact ⟨y, _, _, _, _, rfl, h1, h2, h3, h4, h5, h6, h7⟩
  | [], _, h => simp [chE] at h
  | [_], _, h => simp [chE] at h
  | _ :: _ :: _ :: _, _, h => simp [chE] at h
  | [_, _], _ :: _, h => simp [chE] at h
theorem ch_comp {C : Cxt} {e : CE} {vs : List Nat} {tg : Tg} {it : CI} {cond : CO} {ex : Expr} (h : chE T C (.comp e vs tg it cond) ex = true) : ∃ x t iter ifs scope pos, ex = .ListComp x [⟨t, iter, ifs, 0⟩] scope pos ∧ blkC C.N C.sc scope (ownOf C vs) = true ∧ chI T C it t iter = true ∧
    chG (blkX C scope) tg t = true ∧ tgSub tg vs = true ∧ chC T (blkX C scope) cond ifs = true ∧ chE T (blkX C scope) e x = true := by
  cases ex <;> first
    | (simp [chE] at h; done)
    | skip
  rename_i x gs scope pos
  match gs, h with
  | [⟨t, iter, ifs, a⟩], h =>
    by_cases ha : a = 0
    · subst ha
      simp only [chE, Bool.and_eq_true] at h
      obtain ⟨⟨⟨⟨⟨h1, h2⟩, h3⟩, h4⟩, h5⟩, h6⟩ := h
      exact ⟨x, t, iter, ifs, scope, pos, rfl, h1, h2, h3, h4, h5, h6⟩
    · simp [chE, ha] at h
  | [], h => simp [chE] at h
  | _ :: _ :: _, h => simp [chE] at h
theorem ok_isi {C : Cxt} {X : Cx} {x : Str} (ok : CxOk T S k C X) (h : x ∈ isiNs) : X.mg x = none := by
  refine ok.blt x ?_
  unfold isiNs at h
  simp only [List.mem_cons, List.mem_nil_iff, or_false] at h ⊢
  rcases h with h | h | h | h | h <;> simp [h]
theorem set_i {C : Cxt} {it : CI} {t e : Expr} {env : PySem.Env} (h : chI T C it t e = true) (x : Value) : foldedSetIterable e env x = pure x := by
  cases it with
  | ex c =>
    have h : chE T C c e = true := by
      unfold chI at h
      exact h
    exact set_of h env x
  | _ => cases e <;> first
    | rfl
    | (simp [chI] at h; done)
theorem ch_rng1 {C : Cxt} {a : CE} {t e : Expr} (h : chI T C (.rng1 a) t e = true) : ∃ y p pos, e = .Call (.Name "range" p) [y] [] pos ∧ glB C.sc "range" = true ∧ chE T C a y = true := by
  cases e <;> first
    | (simp [chI] at h; done)
    | skip
  rename_i fe as ks pos
  cases fe <;> first
    | (simp [chI] at h; done)
    | skip
  match as, ks, h with
  | [y], [], h =>
    simp only [chI, Bool.and_eq_true, decide_eq_true_eq] at h
    obtain ⟨⟨rfl, h1⟩, h2⟩ := h
    exact ⟨_, _, _, rfl, h1, h2⟩
  | [], _, h => simp [chI] at h
  | _ :: _ :: _, _, h => simp [chI] at h
  | [_], _ :: _, h => simp [chI] at h
theorem ch_rng2 {C : Cxt} {a b : CE} {t e : Expr} (h : chI T C (.rng2 a b) t e = true) : ∃ y z p pos, e = .Call (.Name "range" p) [y, z] [] pos ∧ glB C.sc "range" = true ∧ chE T C a y = true ∧ chE T C b z = true := by
  cases e <;> first
    | (simp [chI] at h; done)
    | skip
  rename_i fe as ks pos
  cases fe <;> first
    | (simp [chI] at h; done)
    | skip
  match as, ks, h with
  | [y, z], [], h =>
    simp only [chI, Bool.and_eq_true, decide_eq_true_eq] at h
    obtain ⟨⟨⟨rfl, h1⟩, h2⟩, h3⟩ := h
    exact ⟨_, _, _, _, rfl, h1, h2, h3⟩
  | [], _, h => simp [chI] at h
  | [_], _, h => simp [chI] at h
  | _ :: _ :: _ :: _, _, h => simp [chI] at h
  | [_, _], _ :: _, h => simp [chI] at h
theorem isTup_ok {t : Expr} (h : isTup t = true) : ∃ es k p, t = .Tuple es k p := by
  cases t <;> first
    | exact ⟨_, _, _, rfl⟩
    | cases h
theorem ch_enum {C : Cxt} {a : CE} {t e : Expr} (h : chI T C (.enum a) t e = true) : ∃ es kk tp y p pos, t = .Tuple es kk tp ∧ e = .Call (.Name "enumerate" p) [y] [] pos ∧ glB C.sc "enumerate" = true ∧ chE T C a y = true := by
  cases e <;> first
    | (simp [chI] at h; done)
    | skip
  rename_i fe as ks pos
  cases fe <;> first
    | (simp [chI] at h; done)
    | skip
  match as, ks, h with
  | [y], [], h =>
    simp only [chI, Bool.and_eq_true, decide_eq_true_eq] at h
    obtain ⟨⟨⟨h0, rfl⟩, h1⟩, h2⟩ := h
    obtain ⟨es, kk, tp, rfl⟩ := isTup_ok h0
    exact ⟨_, _, _, _, _, _, rfl, rfl, h1, h2⟩
  | [], _, h => simp [chI] at h
  | _ :: _ :: _, _, h => simp [chI] at h
  | [_], _ :: _, h => simp [chI] at h
theorem ch_zip {C : Cxt} {a b : CE} {t e : Expr} (h : chI T C (.zip a b) t e = true) : ∃ es kk tp y z p pos, t = .Tuple es kk tp ∧ e = .Call (.Name "zip" p) [y, z] [] pos ∧ glB C.sc "zip" = true ∧ chE T C a y = true ∧ chE T C b z = true := by
  cases e <;> first
    | (simp [chI] at h; done)
    | skip
  rename_i fe as ks pos
  cases fe <;> first
    | (simp [chI] at h; done)
    | skip
  match as, ks, h with
  | [y, z], [], h =>
    simp only [chI, Bool.and_eq_true, decide_eq_true_eq] at h
    obtain ⟨⟨⟨⟨h0, rfl⟩, h1⟩, h2⟩, h3⟩ := h
    obtain ⟨es, kk, tp, rfl⟩ := isTup_ok h0
    exact ⟨_, _, _, _, _, _, _, rfl, rfl, h1, h2, h3⟩
  | [], _, h => simp [chI] at h
  | [_], _, h => simp [chI] at h
  | _ :: _ :: _ :: _, _, h => simp [chI] at h
  | [_, _], _ :: _, h => simp [chI] at h
theorem rng2_inv {x y : D} {M2 M' : Sto} {xs : List D} (e : (match x, y with
    | .int i, .int j => if -(2 ^ 62) ≤ i ∧ i < 2 ^ 62 ∧ -(2 ^ 62) ≤ j ∧ j < 2 ^ 62 then some ((List.range (j - i).toNat).map (fun k : Nat => D.int (i + (k : Int))), M2) else none
    | _, _ => none) = some (xs, M')) : ∃ i j, x = .int i ∧ y = .int j ∧ (-(2 ^ 62) ≤ i ∧ i < 2 ^ 62 ∧ -(2 ^ 62) ≤ j ∧ j < 2 ^ 62) ∧ xs = (List.range (j - i).toNat).map (fun k : Nat => D.int (i + (k : Int))) ∧ M' = M2 := by
  split at e
  · split at e
    · rename_i hz
      cases e
      exact ⟨_, _, rfl, rfl, hz, rfl, rfl⟩
    · cases e
  · cases e
theorem PI.imp {X : Cx} {tg e : Expr} {w w' : TI} (h : PI X tg e w) (i : ∀ σ H R, w' σ H R → w σ H R) : PI X tg e w' := ⟨fun pins s σ H R I q => h.run pins s σ H R I (i _ _ _ q)⟩
theorem PI.or {X : Cx} {tg e : Expr} {w w' : TI} (h : PI X tg e w) (h' : PI X tg e w') : PI X tg e (fun σ H R => w σ H R ∨ w' σ H R) := ⟨fun pins s σ H R I q => q.elim (fun z => h.run pins s σ H R I z) fun z => h'.run pins s σ H R I z⟩
mutual
theorem ok_e : ∀ (c : CE) {e : Expr} {C : Cxt} {X : Cx}, CxOk T S k C X → chE T C c e = true → PE X e (tI X.K S c) ∧ PT X e (tB X.K S c) ∧ (frC T c = true → PE X e (tX X.K S c))
  | .var i, e, C, X, ok, h => by
    cases e <;> first
      | (simp [chE] at h; done)
      | skip
    rename_i nx npos
    simp only [chE, Bool.and_eq_true, decide_eq_true_eq] at h
    obtain ⟨⟨h1, h2⟩, h3⟩ := h
    obtain ⟨d1, d2, _⟩ := okN_ok h3
    have p : PE X (.Name nx npos) (tI X.K S (.var i)) := (pe_var (by rw [ok.N]; exact h1) (by rw [ok.sc]; exact visB_ok h2) d1 d2).imp fun σ H Q h => by
      obtain ⟨G, ρ, M, d, M', r, he, e, q⟩ := h
      have e : (match ρ[i]? with | some (some d) => some (d, M) | _ => none) = some (d, M') := e
      split at e
      · rename_i d' hd
        cases e
        obtain ⟨v, h1, h2⟩ := he.2 i _ hd
        exact ⟨v, h1, q G v H (.refl _ _) rfl r h2⟩
      · cases e
    exact ⟨p, pt_of p (fun _ => rfl), fun z => nomatch z⟩
  | .int i, e, C, X, ok, h => by
    cases e <;> first
      | (simp [chE] at h; done)
      | skip
    rename_i cc kj pos
    cases cc <;> first
      | (simp [chE] at h; done)
      | skip
    simp only [chE, decide_eq_true_eq] at h
    subst h
    have p : PE X (.Constant (.int i) kj pos) (tI X.K S (.int i)) := pe_int.imp fun σ H Q h => by
      obtain ⟨G, ρ, M, d, M', r, he, e, q⟩ := h
      cases e
      exact q G _ H (.refl _ _) rfl r rfl
    exact ⟨p, pt_of p (fun _ => rfl), fun z => nomatch z⟩
  | .bl b, e, C, X, ok, h => by
    cases e <;> first
      | (simp [chE] at h; done)
      | skip
    rename_i cc kj pos
    cases cc <;> first
      | (simp [chE] at h; done)
      | skip
    simp only [chE, beq_iff_eq] at h
    subst h
    have p : PE X (.Constant (.bool b) kj pos) (tI X.K S (.bl b)) := pe_bl.imp fun σ H Q h => by
      obtain ⟨G, ρ, M, d, M', r, he, e, q⟩ := h
      cases e
      exact q G _ H (.refl _ _) rfl r rfl
    exact ⟨p, pt_of p (fun _ => rfl), fun z => nomatch z⟩
  | .non, e, C, X, ok, h => by
    cases e <;> first
      | (simp [chE] at h; done)
      | skip
    rename_i cc kj pos
    cases cc <;> first
      | (simp [chE] at h; done)
      | skip
    have p : PE X (.Constant .none kj pos) (tI X.K S .non) := pe_non.imp fun σ H Q h => by
      obtain ⟨G, ρ, M, d, M', r, he, e, q⟩ := h
      cases e
      exact q G _ H (.refl _ _) rfl r rfl
    exact ⟨p, pt_of p (fun _ => rfl), fun z => nomatch z⟩
  | .str s, e, C, X, ok, h => by
    cases e <;> first
      | (simp [chE] at h; done)
      | skip
    rename_i cc kj pos
    cases cc <;> first
      | (simp [chE] at h; done)
      | skip
    simp only [chE, decide_eq_true_eq] at h
    subst h
    have p : PE X (.Constant (.str s) kj pos) (tI X.K S (.str s)) := pe_str.imp fun σ H Q h => by
      obtain ⟨G, ρ, M, d, M', r, he, e, q⟩ := h
      cases e
      exact q G _ H (.refl _ _) rfl r rfl
    exact ⟨p, pt_of p (fun _ => rfl), fun z => nomatch z⟩
  | .gl c, e, C, X, ok, h => by
    cases e <;> first
      | (simp [chE] at h; done)
      | skip
    rename_i nx npos
    simp only [chE, Bool.and_eq_true, decide_eq_true_eq] at h
    obtain ⟨⟨h1, h2⟩, h3⟩ := h
    obtain ⟨d1, d2, _⟩ := okN_ok h3
    have hg := glB_ok ok h2
    have p : PE X (.Name nx npos) (tI X.K S (.gl c)) := by
      refine ⟨fun pins s σ H Q I w => ?_⟩
      obtain ⟨G, ρ, M, d, M', r, he, e, q⟩ := w
      obtain ⟨d', e1, e2⟩ := bndO_some (show bndO (S.gl c) _ = _ from e)
      cases e2
      obtain ⟨u, v, g1, g2, g3⟩ := ok.gl c _ d h1 e1
      exact (pe_glob hg g1 g2 d1).run pins s σ H Q I (q G v H (.refl _ _) rfl r (g3 G))
    exact ⟨p, pt_of p (fun _ => rfl), fun z => nomatch z⟩
  | .tup es, e, C, X, ok, h => by
    cases e <;> first
      | (simp [chE] at h; done)
      | skip
    rename_i xs kk pos
    simp only [chE] at h
    have p : PE X (.Tuple xs kk pos) (tI X.K S (.tup es)) := (pe_tup (ok_es es ok h)).imp fun σ H Q h => rdTup h
    exact ⟨p, pt_of p (fun _ => rfl), fun z => nomatch z⟩
  | .lst es, e, C, X, ok, h => by
    cases e <;> first
      | (simp [chE] at h; done)
      | skip
    rename_i xs pos
    simp only [chE] at h
    have px : PE X (.List xs pos) (tX X.K S (.lst es)) := (pe_lst (ok_es es ok h)).imp fun σ H Q h => rdLst h
    have p : PE X (.List xs pos) (tI X.K S (.lst es)) := px.imp fun σ H Q h => tX_of h
    exact ⟨p, pt_of p (fun _ => rfl), fun _ => px⟩
  | .bin op a b, e, C, X, ok, h => by
    cases e <;> first
      | (simp [chE] at h; done)
      | skip
    rename_i x o y pos
    simp only [chE, Bool.and_eq_true, decide_eq_true_eq] at h
    obtain ⟨⟨rfl, h1⟩, h2⟩ := h
    have px : PE X (.BinOp x op y pos) (tX X.K S (.bin op a b)) := (pe_op (bin_ok op) (ok_e a ok h1).1 (ok_e b ok h2).1).imp fun σ H Q h => rdBin h
    have p : PE X (.BinOp x op y pos) (tI X.K S (.bin op a b)) := px.imp fun σ H Q h => tX_of h
    exact ⟨p, pt_of p (fun _ => rfl), fun _ => px⟩
  | .neg a, e, C, X, ok, h => by
    cases e <;> first
      | (simp [chE] at h; done)
      | skip
    rename_i uo x pos
    cases uo <;> first
      | (simp [chE] at h; done)
      | skip
    simp only [chE] at h
    have p : PE X (.UnaryOp .USub x pos) (tI X.K S (.neg a)) := (pe_un un_neg (ok_e a ok h).1).imp fun σ H Q h => rdNeg h
    exact ⟨p, pt_of p (fun _ => rfl), fun z => nomatch z⟩
  | .cmp op a b, e, C, X, ok, h => by
    cases e <;> first
      | (simp [chE] at h; done)
      | skip
    rename_i l os cs _
    match os, cs, h with
    | [o], [y], h =>
      simp only [chE, Bool.and_eq_true, decide_eq_true_eq] at h
      obtain ⟨⟨rfl, h1⟩, h2⟩ := h
      have ha := (ok_e a ok h1).1
      have hb := (ok_e b ok h2).1
      have hc := cmp_ok (X := X) (ok_hu ok) op
      refine ⟨(pe_cmpR hc ha hb (mark_of h2 op)).imp fun σ H Q h => rdCmp h, ?_, fun z => nomatch z⟩
      exact cmp_pt (pt_cmpR hc ha hb (mark_of h2 op)) (fun σ H Q h => rdCmp h) fun ρ M d M' e => cmp_bl e
    | [], _, h => simp [chE] at h
    | [_], [], h => simp [chE] at h
    | [_], _ :: _ :: _, h => simp [chE] at h
    | _ :: _ :: _, _, h => simp [chE] at h
  | .chain o1 o2 a b c, e, C, X, ok, h => by
    cases e <;> first
      | (simp [chE] at h; done)
      | skip
    rename_i l os cs _
    match os, cs, h with
    | [p1, p2], [y, z], h =>
      simp only [chE, Bool.and_eq_true, decide_eq_true_eq] at h
      obtain ⟨⟨⟨⟨rfl, rfl⟩, h1⟩, h2⟩, h3⟩ := h
      have ha := (ok_e a ok h1).1
      have hb := (ok_e b ok h2).1
      have hc := (ok_e c ok h3).1
      have c1 := cmp_ok (X := X) (ok_hu ok) o1
      have c2 := cmp_ok (X := X) (ok_hu ok) o2
      have hm : lastMarks [o1, o2] [y, z] = false := by
        show behindInMarks o2 z = false
        exact mark_of h3 o2
      refine ⟨(pe_chain c1 c2 ha hb hc hm).imp fun σ H Q h => rdChain h, ?_, fun z => nomatch z⟩
      exact cmp_pt (pt_chain c1 c2 ha hb hc hm) (fun σ H Q h => rdChain h) fun ρ M d M' e => chain_bl e
    | [], _, h => simp [chE] at h
    | [_], _, h => simp [chE] at h
    | [_, _], [], h => simp [chE] at h
    | [_, _], [_], h => simp [chE] at h
    | [_, _], _ :: _ :: _ :: _, h => simp [chE] at h
    | _ :: _ :: _ :: _, _, h => simp [chE] at h
  | .bool op es, e, C, X, ok, h => by
    cases e <;> first
      | (simp [chE] at h; done)
      | skip
    simp only [chE, Bool.and_eq_true, decide_eq_true_eq] at h
    obtain ⟨rfl, h1⟩ := h
    have p := ok_b op es ok h1
    exact ⟨(p _).1.imp fun σ H Q h => h, (p _).2.pt.imp fun σ H Q h => h, fun z => nomatch z⟩
  | .not a, e, C, X, ok, h => by
    cases e <;> first
      | (simp [chE] at h; done)
      | skip
    rename_i uo _ _
    cases uo <;> first
      | (simp [chE] at h; done)
      | skip
    simp only [chE] at h
    have ha := ok_e a ok h
    exact ⟨(pe_notT ha.1).imp fun σ H Q h => rdNot h, (pt_not ha.2.1).imp fun σ H Q h => rdNotT h, fun z => nomatch z⟩
  | .ite t a b, e, C, X, ok, h => by
    cases e <;> first
      | (simp [chE] at h; done)
      | skip
    simp only [chE, Bool.and_eq_true] at h
    have ht := ok_e t ok h.1.1
    have ha := ok_e a ok h.1.2
    have hb := ok_e b ok h.2
    exact ⟨(pe_ifExp ht.2.1 ha.1 hb.1).imp fun σ H Q h => rdIte h, (pt_ifExp ht.2.1 ha.2.1 hb.2.1).imp fun σ H Q h => rdIteT h, fun z => nomatch z⟩
  | .idx a i, e, C, X, ok, h => by
    cases e <;> first
      | (simp [chE] at h; done)
      | skip
    rename_i x y pos
    simp only [chE, Bool.and_eq_true] at h
    have p : PE X (.Subscript x y pos) (tI X.K S (.idx a i)) := (pe_ix idx_ok (ok_e a ok h.1).1 (ok_e i ok h.2).1 (ix_of h.2)).imp fun σ H Q h => rdIdx h
    exact ⟨p, pt_of p (fun _ => rfl), fun z => nomatch z⟩
  | .cut a lo hi, e, C, X, ok, h => by
    cases e <;> first
      | (simp [chE] at h; done)
      | skip
    rename_i x y pos
    cases y <;> first
      | (simp [chE] at h; done)
      | skip
    rename_i l u st p2
    cases st <;> first
      | (simp [chE] at h; done)
      | skip
    simp only [chE, Bool.and_eq_true] at h
    obtain ⟨⟨h1, h2⟩, h3⟩ := h
    have px : PE X (.Subscript x (.Slice l u none p2) pos) (tX X.K S (.cut a lo hi)) := (pe_slice cut_ok (ok_e a ok h1).1 (ok_o lo ok h2) (ok_o hi ok h3)).imp fun σ H Q h => rdCut h
    have p : PE X (.Subscript x (.Slice l u none p2) pos) (tI X.K S (.cut a lo hi)) := px.imp fun σ H Q h => tX_of h
    exact ⟨p, pt_of p (fun _ => rfl), fun _ => px⟩
  | .rev a, e, C, X, ok, h => by
    obtain ⟨x, kk, p1, p2, p3, pos, rfl, h⟩ := ch_rev h
    have px : PE X (.Subscript x (.Slice none none (some (.UnaryOp .USub (.Constant (.int 1) kk p1) p2)) p3) pos) (tX X.K S (.rev a)) := (pe_revL (ok_e a ok h).1).imp fun σ H Q h => rdRev h
    have p : PE X (.Subscript x (.Slice none none (some (.UnaryOp .USub (.Constant (.int 1) kk p1) p2)) p3) pos) (tI X.K S (.rev a)) := px.imp fun σ H Q h => tX_of h
    exact ⟨p, pt_of p (fun _ => rfl), fun _ => px⟩
  | .call f es, e, C, X, ok, h => by
    cases e <;> first
      | (simp [chE] at h; done)
      | skip
    rename_i fe as ks pos
    cases fe <;> first
      | (simp [chE] at h; done)
      | skip
    rename_i x p
    match as, ks, h with
    | y :: ys, [], h =>
      simp only [chE, Bool.and_eq_true] at h
      obtain ⟨⟨⟨h1, h2⟩, h3⟩, h4⟩ := h
      split at h1
      · rename_i n b hf
        have e1 : n = x := of_decide_eq_true h1
        subst e1
        obtain ⟨fa, fd, ps, hm, hk, hb, F⟩ := ok.fns f n b hf
        obtain ⟨d1, d2, _⟩ := okN_ok h3
        have hs : starEach (y :: ys) X.env = (false, eval y X.env) :: starEach ys X.env ∧ (backTo pos (starEach ys X.env)).any (·.1) = false := by
          cases es with
          | nil => simp [chEs] at h4
          | cons c r =>
            simp only [chEs, Bool.and_eq_true] at h4
            exact ⟨star_of h4.1 _ _, star_all h4.2 _ _⟩
        have pc := pe_call (pos := pos) (p := p) F ok.room (glB_ok ok h2) hm hk hb .nil pass0 (ok_es es ok h4) d1 hs.1 hs.2
        cases b with
        | false =>
          have p := pc.imp (t' := tI X.K S (.call f es)) fun σ H Q h => rdCall ok hf (.inl ⟨rfl, h⟩)
          exact ⟨p, pt_of p (fun _ => rfl), fun z => by
            have z : (match T.fns[f]? with | some (_, b) => b | none => false) = true := z
            rw [hf] at z
            cases z⟩
        | true =>
          have px := pc.imp (t' := tX X.K S (.call f es)) fun σ H Q h => rdCall ok hf (.inr ⟨rfl, h⟩)
          have p := px.imp (t' := tI X.K S (.call f es)) fun σ H Q h => tX_of h
          exact ⟨p, pt_of p (fun _ => rfl), fun _ => px⟩
      · cases h1
    | [], _, h => simp [chE] at h
    | _ :: _, _ :: _, h => simp [chE] at h
  | .blt b es, e, C, X, ok, h => by
    cases e <;> first
      | (simp [chE] at h; done)
      | skip
    rename_i fe as ks pos
    cases fe <;> first
      | (simp [chE] at h; done)
      | skip
    rename_i x p
    match as, ks, h with
    | y :: ys, [], h =>
      simp only [chE, Bool.and_eq_true, decide_eq_true_eq] at h
      obtain ⟨⟨⟨rfl, h2⟩, h3⟩, h4⟩ := h
      have hs : starEach (y :: ys) X.env = (false, eval y X.env) :: starEach ys X.env ∧ (backTo pos (starEach ys X.env)).any (·.1) = false := by
        cases es with
        | nil => simp [chEs] at h4
        | cons c r =>
          simp only [chEs, Bool.and_eq_true] at h4
          exact ⟨star_of h4.1 _ _, star_all h4.2 _ _⟩
      have px := (pe_bltOf (p := p) (pos := pos) ok b (glB_ok ok h2) (ok_es es ok h4) hs.1 hs.2).imp (t' := tX X.K S (.blt b es)) fun σ H Q h => rdBlt h
      have p := px.imp (t' := tI X.K S (.blt b es)) fun σ H Q h => tX_of h
      exact ⟨p, pt_of p (fun _ => rfl), fun _ => px⟩
    | [], _, h => simp [chE] at h
    | _ :: _, _ :: _, h => simp [chE] at h
  | .isi a t, e, C, X, ok, h => by
    obtain ⟨y, z, p1, p2, pos, rfl, h1, rfl, h2, h3, h4, h6, h5⟩ := ch_isi h
    have h6 := ok_isi ok h6
    have p : PE X (.Call (.Name "isinstance" p1) [y, .Name (Str.ofString t) p2] [] pos) (tI X.K S (.isi a t)) := by
      refine (pe_callB (isi_ok t) (glB_ok ok h1) (ok.blt _ (by decide +kernel)) PyProof.Rows.boot_isinstance (pa_cons (ok_e a ok h5).1 (pa_cons (pe_bltn (v := .ty t) (glB_ok ok h2) h6 h4 rfl (okN_ok h3).2.2 (okN_ok h3).1) pa_nil rfl) (star_of h5 _ _)) (by decide +kernel) (by decide +kernel) (star_of h5 _ _) rfl).imp fun σ H Q h => ?_
      obtain ⟨G, ρ, M, d, M', r, he, e, q⟩ := h
      obtain ⟨x, M1, e1, e⟩ := bnd_some (show bnd (ev S a ρ M) _ = _ from e)
      obtain ⟨k2, e2, e⟩ := bndO_some e
      cases e
      exact tI_in r he e1 fun G1 v1 H1 g1 m1 r1 p1 he1 => ⟨G1, _, x, v1, k2, rfl, r1, p1, e2, q G1 _ H1 g1 m1 r1 rfl⟩
    exact ⟨p, pt_of p (fun _ => rfl), fun z => nomatch z⟩
  | .bits a, e, C, X, ok, h => by
    obtain ⟨x, p, q, rfl, h1, h2⟩ := ch_bits h
    have p : PE X (.Call (.Attribute x "bit_length" p) [] [] q) (tI X.K S (.bits a)) := (pe_bits (ok_e a ok h2).1 (base_of h2 _ _ _) h1).imp fun σ H Q h => rdBits h
    exact ⟨p, pt_of p (fun _ => rfl), fun z => nomatch z⟩
  | .comp e vs tg it cond, ex, C, X, ok, h => by
    obtain ⟨x, t, iter, ifs, scope, pos, rfl, hb, hi, hg, hs, hc, he⟩ := ch_comp h
    have hv : (ownOf C vs).map (·.2) = vs := by
      unfold ownOf
      rw [List.map_map]
      exact List.map_id _
    have px : PE X (.ListComp x [⟨t, iter, ifs, 0⟩] scope pos) (tX X.K S (.comp e vs tg it cond)) := by
      have pl := pe_lc (pos := pos) (elt := x) (ifs := ifs) (g := tT X.K tg) (tt := tC X.K S cond) (te := tI X.K S e) ok.calm (ok_nd ok) (ok_i it ok hi) (blkOk_by (N := X.N) (sc := X.env.scope) (own := ownOf C vs) (by rw [ok.N, ok.sc]; exact hb)) (fun s H C' cl fp => pg_ok (ok.blk) hg) (fun s H C' cl fp => ok_c cond (ok.blk) hc) (fun s H C' cl fp => (ok_e e (ok.blk) he).1) (set_i hi)
      rw [hv] at pl
      exact pl.imp fun σ H Q h => rdComp hs h
    have p : PE X (.ListComp x [⟨t, iter, ifs, 0⟩] scope pos) (tI X.K S (.comp e vs tg it cond)) := px.imp fun σ H Q h => tX_of h
    exact ⟨p, pt_of p (fun _ => rfl), fun _ => px⟩
theorem ok_es : ∀ (cs : CEs) {es : List Expr} {C : Cxt} {X : Cx}, CxOk T S k C X → chEs T C cs es = true → PA X es (tA X.K S cs)
  | .nil, es, C, X, ok, h => by
    cases es with
    | cons e r => simp [chEs] at h
    | nil =>
      refine pa_nil.imp fun σ H Q h => ?_
      obtain ⟨G, ρ, M, ds, M', r, he, e, q⟩ := h
      cases e
      exact q G _ H (.refl _ _) rfl r .nil
  | .cons c r, es, C, X, ok, h => by
    cases es with
    | nil => simp [chEs] at h
    | cons e es =>
      simp only [chEs, Bool.and_eq_true] at h
      refine (pa_cons (ok_e c ok h.1).1 (ok_es r ok h.2) (star_of h.1 _ _)).imp fun σ H Q h => ?_
      obtain ⟨G, ρ, M, ds, M', rr, he, e, q⟩ := h
      obtain ⟨x, M1, e1, e⟩ := bnd_some (show bnd (ev S c ρ M) _ = _ from e)
      obtain ⟨xs, M2, e2, e⟩ := bnd_some e
      cases e
      refine tI_in rr he e1 fun G1 v1 H1 g1 m1 r1 p1 he1 => ⟨G1, ρ, M1, xs, _, r1, he1, e2, fun G2 vs H2 g2 m2 r2 p2 => ?_⟩
      exact q G2 _ H2 (g1.trans g2) (m2.trans m1) r2 (.cons (p1.grow g2) p2)
theorem ok_b (op : BoolOp) : ∀ (cs : CEs) {es : List Expr} {C : Cxt} {X : Cx}, CxOk T S k C X → chEs T C cs es = true → ∀ pos, PE X (.BoolOp op es pos) (tBo X.K S op cs) ∧ PW X (.BoolOp op es pos) (tBt X.K S op cs)
  | .nil, es, C, X, ok, h, pos => by
    refine ⟨⟨fun pins s σ H Q I w => ?_⟩, ⟨fun wh pins s σ H Q I w => ?_⟩⟩
    · obtain ⟨G, ρ, M, d, M', r, he, e, q⟩ := w
      cases e
    · obtain ⟨G, ρ, M, d, M', kk, r, he, e, _⟩ := w
      cases e
  | .cons c .nil, es, C, X, ok, h, pos => by
    match es, h with
    | [e], h =>
      simp only [chEs, Bool.and_eq_true] at h
      have hc := ok_e c ok h.1
      refine ⟨(pe_one hc.1).imp fun σ H Q h => h, ?_⟩
      cases op with
      | And => exact ⟨fun wh pins s σ H Q I w => (pw_and1 hc.2.1).run wh pins s σ H Q I w⟩
      | Or => exact ⟨fun wh pins s σ H Q I w => (pw_or1 hc.2.1).run wh pins s σ H Q I w⟩
    | [], h => simp [chEs] at h
    | _ :: _ :: _, h => simp [chEs] at h
  | .cons c (.cons c2 r), es, C, X, ok, h, pos => by
    match es, h with
    | e :: e2 :: es', h =>
      have h' := h
      simp only [chEs, Bool.and_eq_true] at h
      have hc := ok_e c ok h.1
      have hr := ok_b op (.cons c2 r) (es := e2 :: es') ok (by simp only [chEs, Bool.and_eq_true]; exact h.2) pos
      cases op with
      | And =>
        refine ⟨(pe_andT hc.1 hr.1).imp fun σ H Q h => ?_, ⟨fun wh pins s σ H Q I w => (pw_and hc.2.1 hr.2).run wh pins s σ H Q I ?_⟩⟩
        · obtain ⟨G, ρ, M, d, M', rr, he, e, q⟩ := h
          obtain ⟨x, M1, e1, e⟩ := bnd_some (show bnd (ev S c ρ M) _ = _ from e)
          obtain ⟨kk, e2, e⟩ := bndO_some e
          refine tI_in rr he e1 fun G1 v1 H1 g1 m1 r1 p1 he1 => ⟨kk, tru_rep r1 p1 e2, ?_⟩
          cases kk with
          | true => exact L2.iteT ⟨G1, ρ, M1, d, M', r1, he1, e, q.after g1 m1⟩
          | false =>
            cases (show some (x, M1) = some (d, M') from e)
            exact L2.iteF (q G1 _ H1 g1 m1 r1 p1)
        · obtain ⟨G, ρ, M, d, M', kq, rr, he, e, eq, q⟩ := w
          obtain ⟨x, M1, e1, e⟩ := bnd_some (show bnd (ev S c ρ M) _ = _ from e)
          obtain ⟨kk, e2, e⟩ := bndO_some e
          refine ⟨G, ρ, M, x, M1, kk, rr, he, e1, e2, fun G1 H1 g1 m1 r1 => ?_⟩
          cases kk with
          | true => exact L2.iteT ⟨G1, ρ, M1, d, M', kq, r1, he.grow g1, e, eq, fun G' H' g m r' => q G' H' (g1.trans g) (m.trans m1) r'⟩
          | false =>
            cases (show some (x, M1) = some (d, M') from e)
            rw [eq] at e2
            cases e2
            exact L2.iteF (q G1 H1 g1 m1 r1)
      | Or =>
        refine ⟨(pe_orT hc.1 hr.1).imp fun σ H Q h => ?_, ⟨fun wh pins s σ H Q I w => (pw_or hc.2.1 hr.2).run wh pins s σ H Q I ?_⟩⟩
        · obtain ⟨G, ρ, M, d, M', rr, he, e, q⟩ := h
          obtain ⟨x, M1, e1, e⟩ := bnd_some (show bnd (ev S c ρ M) _ = _ from e)
          obtain ⟨kk, e2, e⟩ := bndO_some e
          refine tI_in rr he e1 fun G1 v1 H1 g1 m1 r1 p1 he1 => ⟨kk, tru_rep r1 p1 e2, ?_⟩
          cases kk with
          | false => exact L2.iteF ⟨G1, ρ, M1, d, M', r1, he1, e, q.after g1 m1⟩
          | true =>
            cases (show some (x, M1) = some (d, M') from e)
            exact L2.iteT (q G1 _ H1 g1 m1 r1 p1)
        · obtain ⟨G, ρ, M, d, M', kq, rr, he, e, eq, q⟩ := w
          obtain ⟨x, M1, e1, e⟩ := bnd_some (show bnd (ev S c ρ M) _ = _ from e)
          obtain ⟨kk, e2, e⟩ := bndO_some e
          refine ⟨G, ρ, M, x, M1, kk, rr, he, e1, e2, fun G1 H1 g1 m1 r1 => ?_⟩
          cases kk with
          | false => exact L2.iteF ⟨G1, ρ, M1, d, M', kq, r1, he.grow g1, e, eq, fun G' H' g m r' => q G' H' (g1.trans g) (m.trans m1) r'⟩
          | true =>
            cases (show some (x, M1) = some (d, M') from e)
            rw [eq] at e2
            cases e2
            exact L2.iteT (q G1 H1 g1 m1 r1)
    | [], h => simp [chEs] at h
    | [_], h => simp [chEs] at h
theorem ok_o : ∀ (c : CO) {o : Option Expr} {C : Cxt} {X : Cx}, CxOk T S k C X → chO T C c o = true → PO X o (tO X.K S c)
  | .no, o, C, X, ok, h => by
    cases o with
    | some e => simp [chO] at h
    | none =>
      refine ⟨fun pins s σ H Q I w => po_none.run pins s σ H Q I ?_⟩
      obtain ⟨G, ρ, M, oo, M', r, he, e, q⟩ := w
      cases e
      exact q G H (.refl _ _) rfl r
  | .yes c, o, C, X, ok, h => by
    cases o with
    | none => simp [chO] at h
    | some e =>
      simp only [chO] at h
      refine ⟨fun pins s σ H Q I w => (po_some (ok_e c ok h).1).run pins s σ H Q I ?_⟩
      obtain ⟨G, ρ, M, oo, M', r, he, e, q⟩ := w
      obtain ⟨x, M1, e1, e⟩ := bnd_some (show bnd (ev S c ρ M) _ = _ from e)
      refine tI_in r he e1 fun G1 v1 H1 g1 m1 r1 p1 he1 => ?_
      split at e
      · cases e
        exact ⟨_, p1, q G1 H1 g1 m1 r1⟩
      · cases e
theorem ok_c : ∀ (c : CO) {es : List Expr} {C : Cxt} {X : Cx}, CxOk T S k C X → chC T C c es = true → PTs X es (tC X.K S c)
  | .no, es, C, X, ok, h => by
    cases es with
    | cons e r => simp [chC] at h
    | nil =>
      refine ⟨fun pins s σ H Q I w => pts_nil.run pins s σ H Q I ?_⟩
      obtain ⟨G, ρ, M, kk, M', r, he, e, q⟩ := w
      cases e
      exact q G H (.refl _ _) rfl r
  | .yes c, es, C, X, ok, h => by
    match es, h with
    | [e], h =>
      simp only [chC] at h
      refine ⟨fun pins s σ H Q I w => (pts_one (ok_e c ok h).2.1).run pins s σ H Q I ?_⟩
      obtain ⟨G, ρ, M, kk, M', r, he, e, q⟩ := w
      obtain ⟨x, M1, e1, e⟩ := bnd_some (show bnd (ev S c ρ M) _ = _ from e)
      obtain ⟨k2, e2, e⟩ := bndO_some e
      cases e
      exact ⟨G, ρ, M, x, _, _, r, he, e1, e2, q⟩
    | [], h => simp [chC] at h
    | _ :: _ :: _, h => simp [chC] at h
theorem ok_i : ∀ (c : CI) {t e : Expr} {C : Cxt} {X : Cx}, CxOk T S k C X → chI T C c t e = true → PI X t e (tIt X.K S c)
  | .ex c, t, e, C, X, ok, h => by
    have h : chE T C c e = true := by
      unfold chI at h
      exact h
    have hc := (ok_e c ok h).1
    refine PI.imp (PI.or (pi_list hc) (pi_tup hc)) fun σ H R w => ?_
    obtain ⟨G, ρ, M, xs, M', r, he, e, q⟩ := w
    obtain ⟨x, M1, e1, e⟩ := bnd_some (show bnd (ev S c ρ M) _ = _ from e)
    cases x <;> first
      | (cases e; done)
      | skip
    · cases e
      refine .inr (tI_in r he e1 fun G1 v1 H1 g1 m1 r1 p1 he1 => ?_)
      obtain ⟨a, vs, rfl, h1, h2⟩ := p1
      exact ⟨a, rfl, ⟨vs, r1.sqT h1⟩, q G1 _ H1 g1 m1 r1 (itl_tup h1 h2)⟩
    · cases e
      refine .inl (tI_in r he e1 fun G1 v1 H1 g1 m1 r1 p1 he1 => ?_)
      obtain ⟨a, vs, rfl, h1, h2⟩ := p1
      exact ⟨a, rfl, ⟨vs, .of (r1.fz _ _ h1)⟩, q G1 _ H1 g1 m1 r1 (itl_list h1 h2)⟩
  | .rng1 a, t, e, C, X, ok, h => by
    obtain ⟨y, p, pos, rfl, h1, h2⟩ := ch_rng1 h
    refine PI.imp (pi_range1 (glB_ok ok h1) (ok.blt _ (by decide +kernel)) (pa_cons (ok_e a ok h2).1 pa_nil (star_of h2 _ _)) (star_of h2 _ _)) fun σ H R w => ?_
    obtain ⟨G, ρ, M, xs, M', r, he, e, q⟩ := w
    obtain ⟨x, M1, e1, e⟩ := bnd_some (show bnd (ev S a ρ M) _ = _ from e)
    cases x <;> first
      | (cases e; done)
      | skip
    rename_i j
    have e : (if -(2 ^ 62) ≤ j ∧ j < 2 ^ 62 then some ((List.range j.toNat).map (fun k : Nat => D.int (0 + (k : Int))), M1) else none) = some (xs, M') := e
    split at e
    · rename_i hz
      cases e
      refine tI_in r he e1 fun G1 v1 H1 g1 m1 r1 p1 he1 => ?_
      cases (show v1 = V.int j from p1)
      exact ⟨j, rfl, hz.1, hz.2, q G1 _ H1 g1 m1 r1 itl_rng⟩
    · cases e
  | .rng2 a b, t, e, C, X, ok, h => by
    obtain ⟨y, z, p, pos, rfl, h1, h2, h3⟩ := ch_rng2 h
    refine PI.imp (pi_range2 (glB_ok ok h1) (ok.blt _ (by decide +kernel)) (pa_cons (ok_e a ok h2).1 (pa_cons (ok_e b ok h3).1 pa_nil (star_of h3 _ _)) (star_of h2 _ _)) (by rw [star_of h2, star_of h3]; rfl) (star_of h3 _ _)) fun σ H R w => ?_
    obtain ⟨G, ρ, M, xs, M', r, he, e, q⟩ := w
    obtain ⟨x, M1, e1, e⟩ := bnd_some (show bnd (ev S a ρ M) _ = _ from e)
    obtain ⟨y', M2, e2, e⟩ := bnd_some e
    obtain ⟨i, j, rfl, rfl, hz, rfl, rfl⟩ := rng2_inv e
    refine tI_in r he e1 fun G1 v1 H1 g1 m1 r1 p1 he1 => tI_in r1 he1 e2 fun G2 v2 H2 g2 m2 r2 p2 he2 => ?_
    cases (show v1 = V.int i from p1)
    cases (show v2 = V.int j from p2)
    exact ⟨i, j, rfl, hz, q G2 _ H2 (g1.trans g2) (m2.trans m1) r2 itl_rng⟩
  | .enum a, t, e, C, X, ok, h => by
    obtain ⟨es, kk, tp, y, p, pos, rfl, rfl, h1, h2⟩ := ch_enum h
    refine PI.imp (pi_enum (glB_ok ok h1) (ok.blt _ (by decide +kernel)) (pa_cons (ok_e a ok h2).1 pa_nil (star_of h2 _ _)) (star_of h2 _ _)) fun σ H R w => ?_
    obtain ⟨G, ρ, M, xs, M', r, he, e, q⟩ := w
    obtain ⟨x, M1, e1, e⟩ := bnd_some (show bnd (ev S a ρ M) _ = _ from e)
    cases x <;> first
      | (cases e; done)
      | skip
    cases e
    refine tI_in r he e1 fun G1 v1 H1 g1 m1 r1 p1 he1 => ?_
    obtain ⟨a, vs, rfl, h3, h4⟩ := p1
    exact ⟨a, vs, rfl, .of (r1.fz _ _ h3), q G1 _ H1 g1 m1 r1 (itl_enum h3 h4)⟩
  | .zip a b, t, e, C, X, ok, h => by
    obtain ⟨es, kk, tp, y, z, p, pos, rfl, rfl, h1, h2, h3⟩ := ch_zip h
    refine PI.imp (pi_zip (glB_ok ok h1) (ok.blt _ (by decide +kernel)) (pa_cons (ok_e a ok h2).1 (pa_cons (ok_e b ok h3).1 pa_nil (star_of h3 _ _)) (star_of h2 _ _)) (star_of h2 _ _) (by rw [star_of h3]; rfl)) fun σ H R w => ?_
    obtain ⟨G, ρ, M, xs, M', r, he, e, q⟩ := w
    obtain ⟨x, M1, e1, e⟩ := bnd_some (show bnd (ev S a ρ M) _ = _ from e)
    obtain ⟨y', M2, e2, e⟩ := bnd_some e
    cases x <;> first
      | (cases e; done)
      | skip
    cases y' <;> first
      | (cases e; done)
      | skip
    cases e
    refine tI_in r he e1 fun G1 v1 H1 g1 m1 r1 p1 he1 => tI_in r1 he1 e2 fun G2 v2 H2 g2 m2 r2 p2 he2 => ?_
    obtain ⟨a, vs, rfl, h4, h5⟩ := p1
    obtain ⟨b, ws, rfl, h6, h7⟩ := p2
    exact ⟨a, b, vs, ws, rfl, .of (r2.fz _ _ (g2.F _ _ h4)), .of (r2.fz _ _ h6), q G2 _ H2 (g1.trans g2) (m2.trans m1) r2 (itl_zip (g2.F _ _ h4) (h5.sub g2.F) h6 h7)⟩
end
end
end Mn
namespace Mn
open PySem PySem.Spec PyProof.Rows L2

/-! ### statements: the text and its short form -/
def swNames (sc : Scope) (ts : List Expr) : List Str := ts.filterMap fun
  | .Name id pos => if sc.names.lookup id == some .local && pos.line == ((ts.head?.map (·.pos.line)).getD 0) then some id else none
  | _ => none
def starB : Expr → Bool
  | .Starred .. => true
  | _ => false
def swB (sc : Scope) (ts vs : List Expr) : Option (Option (List Str)) :=
  if (!(ts.length == 2 || ts.length == 3) || vs.length != ts.length) = true then some none
  else if vs.any starB = true then some none
  else if ((swNames sc ts).length != ts.length || (swNames sc ts).eraseDups.length != (swNames sc ts).length) = true then some none
  else if vs.all (foldedForSure 8) = true then some none
  else if vs.all (constantsAlone 8) = true then none
  else some (some (swNames sc ts))
theorem sw_eq {sc : Scope} {env : PySem.Env} {ts vs : List Expr} {k k2 : Nat} {p p2 : Pos} {r : Option (List Str)} (hk : sc.kind = .function) (hs : env.scope = sc) (h : swB sc ts vs = some r) : swappedStores [.Tuple ts k p] (.Tuple vs k2 p2) env = pure r := by
  have hb : env.blockKind = .function := by
    unfold Env.blockKind
    rw [hs, hk]
    rfl
  have hn : ∀ f : Expr → Option Str, (∀ x, f x = (match x with | .Name id pos => if sc.names.lookup id == some .local && pos.line == ((ts.head?.map (·.pos.line)).getD 0) then some id else none | _ => none)) → ts.filterMap f = swNames sc ts := fun f hf => by
    unfold swNames
    congr 1
    funext x
    rw [hf x]
  unfold swB at h
  unfold swappedStores
  dsimp only
  rw [hb, hn _ (fun x => by cases x <;> first | rfl | (unfold Env.kindOf; rw [hs]))]
  split at h
  · rename_i c1
    cases h
    refine Eq.trans (if_pos ?_) rfl
    rw [c1]
    rfl
  · rename_i c1
    have c1 : (!(ts.length == 2 || ts.length == 3) || vs.length != ts.length) = false := by simpa using c1
    refine Eq.trans (if_neg ?_) ?_
    · rw [c1]
      exact Bool.false_ne_true
    split at h
    · rename_i c2
      cases h
      exact Eq.trans (if_pos c2) rfl
    · rename_i c2
      refine Eq.trans (if_neg c2) ?_
      split at h
      · rename_i c3
        cases h
        exact Eq.trans (if_pos c3) rfl
      · rename_i c3
        refine Eq.trans (if_neg c3) ?_
        split at h
        · rename_i c4
          cases h
          exact Eq.trans (if_pos c4) rfl
        · rename_i c4
          refine Eq.trans (if_neg c4) ?_
          split at h
          · cases h
          · rename_i c5
            cases h
            exact Eq.trans (if_neg c5) rfl
/-- whether a comprehension's list goes right into the name -/
def swapB (sc : Scope) (t : Str) (pos : Pos) : Expr → Bool
  | .ListComp _ _ s p => sc.names.lookup t == some .local && pos.line == p.line && !(s.names.any fun (n, k) => n == t && (k == .local || k == .cell))
  | _ => false
theorem swap_eq {T : Tab} {C : Cxt} {c : CE} {sc : Scope} {env : PySem.Env} {e : Expr} {t : Str} {pos : Pos} {l : Nat} (hc : chE T C c e = true) (hk : sc.kind = .function) (hs : env.scope = sc) : swapsWith e (some (.Name t pos)) l env = pure (swapB sc t pos e) := by
  have hb : env.blockKind = .function := by
    unfold Env.blockKind
    rw [hs, hk]
    rfl
  cases e <;> first
    | rfl
    | (cases c <;> simp [chE] at hc; done)
    | skip
  unfold swapsWith swapB Env.kindOf
  simp only [hb, hs]
  rfl
theorem swap_other {T : Tab} {C : Cxt} {c : CE} {env : PySem.Env} {e t : Expr} {l : Nat} (hc : chE T C c e = true) (ht : ∀ x p, t ≠ .Name x p) : swapsWith e (some t) l env = pure false := by
  cases e <;> first
    | rfl
    | (cases c <;> simp [chE] at hc; done)
    | skip
  cases t <;> first
    | rfl
    | exact absurd rfl (ht _ _)
def isTupE : Expr → Option (List Expr)
  | .Tuple vs _ _ => some vs
  | _ => none
/-- no swap of the stores -/
def swNone (sc : Scope) (ts : List Expr) (v : Expr) : Bool := match isTupE v with
  | some vs => decide (swB sc ts vs = some none)
  | none => true
theorem swNone_ok {sc : Scope} {env : PySem.Env} {ts : List Expr} {v : Expr} {k : Nat} {p : Pos} (hk : sc.kind = .function) (hs : env.scope = sc) (h : swNone sc ts v = true) : swappedStores [.Tuple ts k p] v env = pure none := by
  unfold swNone at h
  cases v <;> first
    | rfl
    | skip
  exact sw_eq hk hs (of_decide_eq_true h)
def notComp : Expr → Bool
  | .ListComp .. => false
  | _ => true
def parB (C : Cxt) (i : Nat) (x : Str) : Bool := decide (C.N[i]? = some x) && (match C.sc.names.lookup x with
  | some .local => true
  | _ => false)
mutual
def chS (T : Tab) (C : Cxt) (fr : Bool) : CS → Stmt → Bool
  | .asg i e, .Assign [.Name x _] v _ => nameB C i x && chE T C e v
  | .asgR i e, .Assign [.Name x _] v _ => nameB C i x && chE T C e v && frC T e
  | .asgT l e, .Assign [.Tuple ts _ _] v _ => chNs C l ts && chE T C e v && swNone C.sc ts v
  | .par i j a b, .Assign [.Tuple [.Name x px, .Name y py] _ _] (.Tuple [v, w] _ _) _ => parB C i x && parB C j y && decide (i ≠ j) && decide (swB C.sc [.Name x px, .Name y py] [v, w] = some (some [x, y])) && chE T C a v && chE T C b w
  | .setI i k v, .Assign [.Subscript o ke _] ve _ => chE T C (.var i) o && chE T C k ke && chE T C v ve
  | .app i e, .Expr (.Call (.Attribute o n p) [y] [] q) _ => decide (n = "append") && (p.endLine == q.line) && chE T C (.var i) o && chE T C e y
  | .ife t a b, .If te x y _ => chE T C t te && chSs T C fr a x && chSs T C fr b y
  | .for tg it b, .For t i x [] _ => chG C tg t && chI T C it t i && chSs T C fr b x
  | .whl t b, .While te x [] _ => chE T C t te && chSs T C fr b x
  | .ret e, .Return (some v) _ => chE T C e v && (!fr || frC T e)
  | .retR i, .Return (some v) _ => chE T C (.var i) v
  | .drop e, .Expr v _ => chE T C e v && notComp v
  | .fail, _ => true
  | _, _ => false
def chSs (T : Tab) (C : Cxt) (fr : Bool) : CSs → List Stmt → Bool
  | .nil, [] => true
  | .cons s r, x :: xs => chS T C fr s x && chSs T C fr r xs
  | .frz _ r, xs => chSs T C fr r xs
  | _, _ => false
end

/-! ### readings -/
def RetP (K : PySem.W.Frag) (fr : Bool) (G : Gh) (H : Hp) (M' : Sto) (d : D) (Q : VK) : Prop :=
  ((fr = false ∨ ∀ l, d ≠ .lst l) → ∀ G' v H', Grow G H G' H' → RelM K G' M' H' → Rep K G' d v → Q v H') ∧
  (fr = true → ∀ l, d = .lst l → ∀ G' p vs H', Grow G H G' H' → RelM K G' M' H' → H p = none → H' p = some (.lst vs) → RepVs K G'.F l vs → G'.F p = none → (∀ n, G'.μ n ≠ some p) → Q (.ref p) H')
def EndsP (K : PySem.W.Frag) (fr : Bool) (G : Gh) (H : Hp) (o : Out) (D : Ends) : Prop := match o with
  | .nx ρ' M' => ∀ G' σ' H', Grow G H G' H' → RelM K G' M' H' → EnvR K G' ρ' σ' → D.nx σ' H'
  | .rt d M' => RetP K fr G H M' d D.rt
def tSt (K : PySem.W.Frag) (S : Sys) (fr : Bool) (c : CS) : TS := fun D σ H => ∃ G ρ M o, RelM K G M H ∧ EnvR K G ρ σ ∧ ex S c ρ M = some o ∧ EndsP K fr G H o D
def tSs (K : PySem.W.Frag) (S : Sys) (fr : Bool) (c : CSs) : TS := fun D σ H => ∃ G ρ M o, RelM K G M H ∧ EnvR K G ρ σ ∧ exs S c ρ M = some o ∧ EndsP K fr G H o D
theorem RetP.after {K : PySem.W.Frag} {fr : Bool} {G G1 : Gh} {H H1 : Hp} {M' : Sto} {d : D} {Q : VK} (h : RetP K fr G H M' d Q) (g : Grow G H G1 H1) : RetP K fr G1 H1 M' d Q :=
  ⟨fun z G' v H' g' r p => h.1 z G' v H' (g.trans g') r p, fun z l e G' p vs H' g' r hp hp' hv hF hm => h.2 z l e G' p vs H' (g.trans g') r (none_of_trk g.trk hp) hp' hv hF hm⟩
theorem EndsP.after {K : PySem.W.Frag} {fr : Bool} {G G1 : Gh} {H H1 : Hp} {o : Out} {D : Ends} (h : EndsP K fr G H o D) (g : Grow G H G1 H1) : EndsP K fr G1 H1 o D := by
  cases o with
  | nx ρ' M' => exact fun G' σ' H' g' r e => h G' σ' H' (g.trans g') r e
  | rt d M' => exact RetP.after h g
/-- a list of the store is written -/
theorem RelM.write {K : PySem.W.Frag} {G : Gh} {M : Sto} {H : Hp} {n : Nat} {a : Addr} {l : List D} {vs : List V} (r : RelM K G M H) (ha : G.μ n = some a) (hF : G.F a = none) (hv : RepVs K G.F l vs) : RelM K G (M.set n (.lst l)) (upd H a (.lst vs)) ∧ Grow G H G (upd H a (.lst vs)) := by
  obtain ⟨o, ho⟩ := r.trk n a ha
  refine ⟨⟨fun b u e => ?_, fun m l' e => ?_, fun m b e => ?_, fun m hm => ?_, fun m b e => ?_, r.inj⟩, ⟨fun _ _ e => e, fun _ _ e => e, fun _ _ e => .inl e, fun b u e hn => ?_, fun b u e => ?_, fun _ _ e => .inl e⟩⟩
  · rw [upd_ne (ne_of_none e hF)]
    exact r.fz b u e
  · by_cases hm : n = m
    · subst hm
      have hl : n < M.length := r.dom n a ha
      rw [List.getElem?_set_self hl] at e
      cases e
      exact ⟨a, vs, ha, upd_same, hv, hF⟩
    · rw [List.getElem?_set_ne hm] at e
      obtain ⟨b, ws, h1, h2, h3, h4⟩ := r.st m l' e
      have hb : b ≠ a := fun z => hm (r.inj n m a ha (z ▸ h1))
      exact ⟨b, ws, h1, by rw [upd_ne hb]; exact h2, h3, h4⟩
  · rw [List.length_set]
    exact r.dom m b e
  · rw [List.length_set] at hm
    exact r.all m hm
  · by_cases hb : b = a
    · subst hb
      exact ⟨_, upd_same⟩
    · obtain ⟨u, hu⟩ := r.trk m b e
      exact ⟨u, by rw [upd_ne hb]; exact hu⟩
  · have hb : b ≠ a := fun z => hn n (z ▸ ha)
    rw [upd_ne hb]
    exact e
  · by_cases hb : b = a
    · subst hb
      exact ⟨_, upd_same⟩
    · exact ⟨u, by rw [upd_ne hb]; exact e⟩
/-- a list of one's own comes into the store -/
theorem RelM.push {K : PySem.W.Frag} {G : Gh} {M : Sto} {H : Hp} {p : Addr} {l : List D} {vs : List V} (r : RelM K G M H) (hp : H p = some (.lst vs)) (hF : G.F p = none) (hm : ∀ n, G.μ n ≠ some p) (hv : RepVs K G.F l vs) :
    RelM K ⟨G.F, fun n => if n = M.length then some p else G.μ n⟩ (M ++ [.lst l]) H := by
  have hnew : G.μ M.length = none := by
    cases e : G.μ M.length with
    | none => rfl
    | some a => exact absurd (r.dom _ _ e) (Nat.lt_irrefl _)
  refine ⟨r.fz, fun m l' e => ?_, fun m b e => ?_, fun m hl => ?_, fun m b e => ?_, fun m m' b e1 e2 => ?_⟩
  · by_cases h : m < M.length
    · rw [List.getElem?_append_left h] at e
      obtain ⟨b, ws, h1, h2, h3, h4⟩ := r.st m l' e
      exact ⟨b, ws, by show (if m = M.length then some p else G.μ m) = some b; rw [if_neg (Nat.ne_of_lt h)]; exact h1, h2, h3, h4⟩
    · rw [List.getElem?_append_right (by omega)] at e
      have hm' : m = M.length := by
        by_cases z : m - M.length = 0
        · omega
        · rw [List.getElem?_eq_none (by simp only [List.length_cons, List.length_nil]; omega)] at e
          cases e
      subst hm'
      rw [Nat.sub_self] at e
      cases e
      exact ⟨p, vs, if_pos rfl, hp, hv, hF⟩
  · have e : (if m = M.length then some p else G.μ m) = some b := e
    rw [List.length_append]
    show m < M.length + 1
    split at e
    · omega
    · have := r.dom m b e
      omega
  · rw [List.length_append] at hl
    have hl : m < M.length + 1 := hl
    by_cases h : m = M.length
    · exact ⟨p, if_pos h⟩
    · obtain ⟨b, hb⟩ := r.all m (by omega)
      exact ⟨b, by show (if m = M.length then some p else G.μ m) = some b; rw [if_neg h]; exact hb⟩
  · have e : (if m = M.length then some p else G.μ m) = some b := e
    split at e
    · cases e
      exact ⟨_, hp⟩
    · exact r.trk m b e
  · have e1 : (if m = M.length then some p else G.μ m) = some b := e1
    have e2 : (if m' = M.length then some p else G.μ m') = some b := e2
    split at e1
    · split at e2
      · omega
      · cases e1
        exact absurd e2 (hm m')
    · split at e2
      · cases e2
        exact absurd e1 (hm m)
      · exact r.inj m m' b e1 e2
theorem Grow.push {K : PySem.W.Frag} {G0 G : Gh} {H0 H : Hp} {M : Sto} {p : Addr} (r : RelM K G M H) (g : Grow G0 H0 G H) (hp : H0 p = none) : Grow G0 H0 ⟨G.F, fun n => if n = M.length then some p else G.μ n⟩ H where
  F := g.F
  μ := fun n a e => by
    have e1 := g.μ n a e
    have h := r.dom n a e1
    show (if n = M.length then some p else G.μ n) = some a
    rw [if_neg (by omega)]
    exact e1
  new := fun n a e => by
    have e : (if n = M.length then some p else G.μ n) = some a := e
    split at e
    · cases e
      exact .inr hp
    · exact g.new n a e
  frame := g.frame
  trk := g.trk
  fn := g.fn
end Mn
namespace Mn
open PySem PySem.Spec PyProof.Rows L2
section
variable {T : Tab} {S : Sys} {k : Nat} {C : Cxt} {X : Cx} {fr : Bool}
theorem rt_of {K : PySem.W.Frag} {G : Gh} {H : Hp} {M M' : Sto} {d : D} {Q : VK} (h : RetP K false G H M' d Q) : Post K G H M' d Q := fun G' v H' g m r p => h.1 (.inl rfl) G' v H' g r p
theorem swap_false {e : Expr} {c : CE} {t : Str} {pos : Pos} (hc : chE T C c e = true) (h : ∀ ce vs tg it co, c ≠ .comp ce vs tg it co) : swapB C.sc t pos e = false := by
  cases e <;> first
    | rfl
    | skip
  cases c <;> first
    | (simp [chE] at hc; done)
    | skip
  exact absurd rfl (h _ _ _ _ _)
/-- name = e -/
theorem asg_ok (ok : CxOk T S k C X) (hk : C.sc.kind = .function) {c : CE} {e : Expr} {i : Nat} {x : Str} {p pos : Pos} (hn : nameB C i x = true) (hc : chE T C c e = true) :
    PS X (.Assign [.Name x p] e pos) (tAsg (tI X.K S c) (gName i)) ∧ (frC T c = true → PS X (.Assign [.Name x p] e pos) (tAsg (tX X.K S c) (gName i))) := by
  obtain ⟨hN, hx, hf⟩ := nameB_ok ok hn
  have he := ok_e c ok hc
  have hsw := swap_eq (t := x) (pos := p) (l := pos.line) hc hk ok.sc
  cases hb : swapB C.sc x p e with
  | false =>
    rw [hb] at hsw
    exact ⟨ps_set (ok_nd ok) hN hx he.1 hsw hf, fun z => ps_set (ok_nd ok) hN hx (he.2.2 z) hsw hf⟩
  | true =>
    cases e <;> first
      | (cases hb; done)
      | skip
    cases c <;> first
      | (simp [chE] at hc; done)
      | skip
    rename_i ce vs tg it co
    obtain ⟨xe, t, iter, ifs, scope, lpos, e1, hb', hi, hg, hs, hcc, hee⟩ := ch_comp hc
    cases e1
    have hv : (ownOf C vs).map (·.2) = vs := by
      unfold ownOf
      rw [List.map_map]
      exact List.map_id _
    have hl : X.env.scope.names.lookup x = some .local := by
      unfold swapB at hb
      simp only [Bool.and_eq_true, beq_iff_eq] at hb
      rw [ok.sc]
      exact hb.1.1
    rw [hb] at hsw
    have pl := ps_setLc (spos := pos) (py := p)  (g := tT X.K tg) (tt := tC X.K S co) (te := tI X.K S ce) ok.calm (ok_nd ok) hN hl hsw (ok_i it ok hi) (blkOk_by (N := X.N) (sc := X.env.scope) (own := ownOf C vs) (by rw [ok.N, ok.sc]; exact hb')) (fun s H C' cl fp => pg_ok (ok.blk) hg) (fun s H C' cl fp => ok_c co (ok.blk) hcc) (fun s H C' cl fp => (ok_e ce (ok.blk) hee).1) (set_i hi)
    rw [hv] at pl
    have px := pl.imp (t' := tAsg (tX X.K S (.comp ce vs tg it co)) (gName i)) fun D σ H h => rdComp hs h
    exact ⟨px.imp fun D σ H h => tX_of h, fun _ => px⟩
theorem ae_names : ∀ {l : List Nat} {es : List Expr} (env : PySem.Env), chNs C l es = true → ∀ (v : Value), True := fun _ _ _ => True.intro
/-- a, b = e -/
theorem asgT_ok (ok : CxOk T S k C X) (hk : C.sc.kind = .function) {c : CE} {e : Expr} {l : List Nat} {ts : List Expr} {kk : Nat} {p pos : Pos} (hn : chNs C l ts = true) (hc : chE T C c e = true) (hs : swNone C.sc ts e = true) :
    PS X (.Assign [.Tuple ts kk p] e pos) (tAsg (tI X.K S c) (tT X.K (.tup l))) :=
  ps_asg (ok_e c ok hc).1 (pg_ok ok (tg := .tup l) (by unfold chG; exact hn)) (show swapsWith e (some (.Tuple ts kk p)) pos.line X.env = pure false from swap_other hc (by intro x p z; cases z)) (swNone_ok hk ok.sc hs) rfl
theorem ix_slice {c : CE} {e : Expr} (h : chE T C c e = true) {o : Expr} {pos : Pos} {env : PySem.Env} (v : Value) : assign (.Subscript o e pos) env v = (do
      let ov ← holding [v] (eval o env)
      let iv ← holding [v, ov] (eval e env)
      standAt pos
      holding [v, ov, iv] (setItem ov iv v)
      release [v, ov, iv] []) := by
  cases e <;> first
    | rfl
    | (cases c <;> simp [chE] at h; done)
theorem setI_ok (ok : CxOk T S k C X) {i : Nat} {kc vc : CE} {o ke ve : Expr} {p pos : Pos} (h1 : chE T C (.var i) o = true) (h2 : chE T C kc ke = true) (h3 : chE T C vc ve = true) :
    PS X (.Assign [.Subscript o ke p] ve pos) (tSt X.K S fr (.setI i kc vc)) := by
  refine (ps_asg (ok_e vc ok h3).1 (pg_sub (ok_e (.var i) ok h1).1 (ok_e kc ok h2).1 set_list (ix_slice h2)) (show swapsWith ve (some (.Subscript o ke p)) pos.line X.env = pure false from swap_other h3 (by intro x p z; cases z)) (by cases ve <;> rfl) rfl).imp fun D σ H h => ?_
  obtain ⟨G, ρ, M, out, r, he, e, q⟩ := h
  unfold ex at e
  split at e
  · rename_i x M1 e1
    split at e
    · rename_i n e2
      split at e
      · rename_i j M2 e3
        split at e
        · rename_i l e4
          split at e
          · rename_i pp e5
            split at e
            · rename_i hv
              cases e
              refine tI_in r he e1 fun G1 v1 H1 g1 m1 r1 p1 he1 => tI_in (d := .ref n) (M' := M1) r1 he1 (by show (match ρ[i]? with | some (some d) => some (d, M1) | _ => none) = _; rw [e2]) fun G2 v2 H2 g2 m2 r2 p2 he2 => tI_in r2 he2 e3 fun G3 v3 H3 g3 m3 r3 p3 he3 => ?_
              obtain ⟨a, rfl, ha⟩ := p2
              cases (show v3 = V.int j from p3)
              obtain ⟨a', vs, h4, h5, h6, h7⟩ := r3.st n l e4
              have ha3 := g3.μ n a ha
              rw [ha3] at h4
              cases h4
              have hw := r3.write ha3 h7 (RepVs.set ((p1.val hv).sub (g2.trans g3).F) pp h6)
              refine ⟨a, vs, j, pp, rfl, rfl, h5, by rw [h6.length]; exact e5, ?_⟩
              exact q G3 σ _ (((g1.trans g2).trans g3).trans hw.2) hw.1 he3
            · cases e
          · cases e
        · cases e
      · cases e
    · cases e
  · cases e
theorem app_okS (ok : CxOk T S k C X) {i : Nat} {c : CE} {o y : Expr} {p q pos : Pos} (hl : (p.endLine == q.line) = true) (h1 : chE T C (.var i) o = true) (h2 : chE T C c y = true) :
    PS X (.Expr (.Call (.Attribute o "append" p) [y] [] q) pos) (tSt X.K S fr (.app i c)) := by
  refine (ps_expr (pe_bm PySem.F.plainAttrs_list PySem.F.slot_list_append PySem.F.type_list_append mt_append (ok_e (.var i) ok h1).1 (pa_cons (ok_e c ok h2).1 pa_nil (star_of h2 _ _)) (base_of h1 _ _ _) (by rw [star_of h2]; rfl) hl (star_of h2 _ _) rfl)).imp fun D σ H h => ?_
  obtain ⟨G, ρ, M, out, r, he, e, q⟩ := h
  unfold ex at e
  split at e
  · rename_i n e1
    split at e
    · rename_i l0 e0
      split at e
      · rename_i x M1 e2
        split at e
        · rename_i l e3
          split at e
          · rename_i hz
            cases e
            refine tI_in (d := .ref n) (M' := M) r he (by show (match ρ[i]? with | some (some d) => some (d, M) | _ => none) = _; rw [e1]) fun G1 v1 H1 g1 m1 r1 p1 he1 => ?_
            obtain ⟨a, rfl, ha⟩ := p1
            obtain ⟨a', vs0, h4, h5, h6, h7⟩ := r1.st n l0 e0
            rw [ha] at h4
            cases h4
            refine ⟨.inl ⟨rfl, vs0, .of h5⟩, tI_in r1 he1 e2 fun G2 v2 H2 g2 m2 r2 p2 he2 => ?_⟩
            obtain ⟨a', vs, h4, h5, h6, h7⟩ := r2.st n l e3
            have ha2 := g2.μ n a ha
            rw [ha2] at h4
            cases h4
            have hx : RepVs X.K G2.F [x] [v2] := ⟨_, _, rfl, p2.val hz.2, rfl⟩
            have hw := r2.write ha2 h7 (h6.append hx)
            refine ⟨a, vs, v2, rfl, rfl, h5, by rw [h6.length, ← line_eq]; exact hz.1, ?_⟩
            exact q G2 σ _ ((g1.trans g2).trans hw.2) hw.1 he2
          · cases e
        · cases e
      · cases e
    · cases e
  · cases e
end
end Mn
namespace Mn
open PySem PySem.Spec PyProof.Rows L2
section
variable {T : Tab} {S : Sys} {k : Nat}
theorem bndS_some {o : Option Out} {f : Rho → Sto → Option Out} {out : Out} (h : bndS o f = some out) : (∃ ρ M, o = some (.nx ρ M) ∧ f ρ M = some out) ∨ ∃ d M, o = some (.rt d M) ∧ out = .rt d M := by
  unfold bndS at h
  split at h
  · exact .inl ⟨_, _, rfl, h⟩
  · cases h
    exact .inr ⟨_, _, rfl, rfl⟩
  · cases h
theorem post_nx {K : PySem.W.Frag} {fr : Bool} {G G1 : Gh} {H H1 : Hp} {ρ : Rho} {M : Sto} {D : Ends} {σ : L2.St} (q : EndsP K fr G H (.nx ρ M) D) (g : Grow G H G1 H1) (r : RelM K G1 M H1) (e : EnvR K G1 ρ σ) : D.nx σ H1 := q G1 σ H1 g r e
theorem rdFor {K : PySem.W.Frag} {fr : Bool} {tg : Tg} {it : CI} {b : CSs} {D : Ends} {σ : L2.St} {H : Hp} (h : tSt K S fr (.for tg it b) D σ H) : tFor (tIt K S it) (tT K tg) (tSs K S fr b) D σ H := by
  obtain ⟨G, ρ, M, out, r, he, e, q⟩ := h
  have e : (match evi S it ρ M with | some (xs, M1) => forL (fun x ρ M => match setT tg x ρ with | some ρ1 => exs S b ρ1 M | none => none) xs ρ M1 | none => none) = some out := e
  split at e
  · rename_i xs M1 e1
    refine ⟨G, ρ, M, xs, M1, r, he, e1, fun G1 J H1 g1 m1 r1 hJ => ?_⟩
    refine ⟨fun i m σi Hi => ∃ Gi ρi Mi, m = xs.length - i ∧ i ≤ xs.length ∧ Grow G1 H1 Gi Hi ∧ RelM K Gi Mi Hi ∧ EnvR K Gi ρi σi ∧ forL (fun x ρ M => match setT tg x ρ with | some ρ1 => exs S b ρ1 M | none => none) (xs.drop i) ρi Mi = some out,
      ⟨_, G1, ρ, M1, rfl, Nat.zero_le _, .refl _ _, r1, he.grow g1, e⟩, ?_⟩
    rintro i m σi Hi ⟨Gi, ρi, Mi, rfl, hi, gi, ri, hei, ei⟩
    by_cases hlt : i < xs.length
    · refine .inr ⟨hJ.go i Gi Mi Hi gi.F ri hlt, fun σ' H' => ∃ m', m' < xs.length - i ∧ ∃ Gi' ρi' Mi', m' = xs.length - (i + 1) ∧ i + 1 ≤ xs.length ∧ Grow G1 H1 Gi' H' ∧ RelM K Gi' Mi' H' ∧ EnvR K Gi' ρi' σ' ∧ forL (fun x ρ M => match setT tg x ρ with | some ρ1 => exs S b ρ1 M | none => none) (xs.drop (i + 1)) ρi' Mi' = some out, fun σ' H' z => z, fun x H' hy => ?_⟩
      obtain ⟨G2, dx, r2, g2, m2, ex, px⟩ := hJ.yld i Gi Mi Hi x H' gi.F ri hy hlt
      have hd : xs.drop i = dx :: xs.drop (i + 1) := by
        obtain ⟨hl, e3⟩ := List.getElem?_eq_some_iff.mp ex
        rw [← e3]
        exact List.drop_eq_getElem_cons hl
      rw [hd] at ei
      have ei : bndS (match setT tg dx ρi with | some ρ1 => exs S b ρ1 Mi | none => none) (fun ρ1 M1 => forL (fun x ρ M => match setT tg x ρ with | some ρ1 => exs S b ρ1 M | none => none) (xs.drop (i + 1)) ρ1 M1) = some out := ei
      have he2 := hei.grow g2
      rcases bndS_some ei with ⟨ρn, Mn', e2, e3⟩ | ⟨d, Mn', e2, rfl⟩
      · split at e2
        · rename_i ρ1 e4
          refine ⟨G2, Mi, dx, ρi, ρ1, r2, Rep.of px, he2, e4, fun σ2 he3 _ => ⟨G2, ρ1, Mi, _, r2, he3, e2, fun G' σ' H'' g' r' e' => ?_⟩⟩
          exact ⟨_, by omega, G', ρn, Mn', rfl, hlt, (gi.trans g2).trans g', r', e', e3⟩
        · cases e2
      · split at e2
        · rename_i ρ1 e4
          refine ⟨G2, Mi, dx, ρi, ρ1, r2, Rep.of px, he2, e4, fun σ2 he3 _ => ⟨G2, ρ1, Mi, _, r2, he3, e2, ?_⟩⟩
          exact RetP.after q ((g1.trans gi).trans g2)
        · cases e2
    · have hl : i = xs.length := by omega
      subst hl
      rw [List.drop_length] at ei
      cases ei
      exact .inl ⟨hJ.stop _ Gi _ Hi gi.F ri rfl, q Gi σi Hi (g1.trans gi) ri hei⟩
  · cases e
theorem rdWhl {K : PySem.W.Frag} {fr : Bool} {t : CE} {b : CSs} {D : Ends} {σ : L2.St} {H : Hp} (h : tSt K S fr (.whl t b) D σ H) : tWhile (tB K S t) (tSs K S fr b) D σ H := by
  obtain ⟨G, ρ, M, out, r, he, e, q⟩ := h
  have e : whlL (fun ρ M => bnd (ev S t ρ M) fun x M1 => bndO (truD M1 x) fun k => some (k, M1)) (fun ρ M => exs S b ρ M) S.fuel ρ M = some out := e
  refine ⟨fun m σi Hi => ∃ Gi ρi Mi, Grow G H Gi Hi ∧ RelM K Gi Mi Hi ∧ EnvR K Gi ρi σi ∧ whlL (fun ρ M => bnd (ev S t ρ M) fun x M1 => bndO (truD M1 x) fun k => some (k, M1)) (fun ρ M => exs S b ρ M) m ρi Mi = some out, ⟨_, G, ρ, M, .refl _ _, r, he, e⟩, ?_⟩
  rintro m σi Hi ⟨Gi, ρi, Mi, gi, ri, hei, ei⟩
  cases m with
  | zero => cases ei
  | succ m =>
    have ei : (match bnd (ev S t ρi Mi) fun x M1 => bndO (truD M1 x) fun k => some (k, M1) with
      | some (k, M1) => if k = true then bndS (exs S b ρi M1) fun ρ2 M2 => whlL (fun ρ M => bnd (ev S t ρ M) fun x M1 => bndO (truD M1 x) fun k => some (k, M1)) (fun ρ M => exs S b ρ M) m ρ2 M2 else some (.nx ρi M1)
      | none => none) = some out := ei
    split at ei
    · rename_i kk M1 e1
      obtain ⟨x, M1', e2, e3⟩ := bnd_some e1
      obtain ⟨k2, e4, e5⟩ := bndO_some e3
      cases e5
      refine ⟨Gi, ρi, Mi, x, _, kk, ri, hei, e2, e4, fun G1 H1 g1 m1 r1 => ?_⟩
      cases kk with
      | true =>
        rw [if_pos rfl] at ei
        refine L2.iteT ⟨fun σ' H' => ∃ m', m' < m + 1 ∧ ∃ Gi ρi Mi, Grow G H Gi H' ∧ RelM K Gi Mi H' ∧ EnvR K Gi ρi σ' ∧ whlL (fun ρ M => bnd (ev S t ρ M) fun x M1 => bndO (truD M1 x) fun k => some (k, M1)) (fun ρ M => exs S b ρ M) m' ρi Mi = some out, fun σ' H' z => z, ?_⟩
        rcases bndS_some ei with ⟨ρn, Mn', e6, e7⟩ | ⟨d, Mn', e6, rfl⟩
        · exact ⟨G1, ρi, _, _, r1, hei.grow g1, e6, fun G' σ' H' g' r' e' => ⟨m, Nat.lt_succ_self _, G', ρn, Mn', (gi.trans g1).trans g', r', e', e7⟩⟩
        · exact ⟨G1, ρi, _, _, r1, hei.grow g1, e6, RetP.after q (gi.trans g1)⟩
      | false =>
        rw [if_neg Bool.false_ne_true] at ei
        cases ei
        exact L2.iteF (q G1 σi H1 (gi.trans g1) r1 (hei.grow g1))
    · cases ei
theorem parB_ok {C : Cxt} {X : Cx} (ok : CxOk T S k C X) {i : Nat} {x : Str} (h : parB C i x = true) : X.N[i]? = some x ∧ X.env.scope.names.lookup x = some .local := by
  unfold parB at h
  simp only [Bool.and_eq_true, decide_eq_true_eq] at h
  refine ⟨by rw [ok.N]; exact h.1, ?_⟩
  rw [ok.sc]
  have h2 := h.2
  split at h2
  · assumption
  · cases h2
theorem ret_ok {C : Cxt} {X : Cx} (ok : CxOk T S k C X) {fr : Bool} {c : CE} {v : Expr} {pos : Pos} (h : chE T C c v = true) (hf : (!fr || frC T c) = true) : PS X (.Return (some v) pos) (tSt X.K S fr (.ret c)) := by
  have he := ok_e c ok h
  cases fr with
  | false =>
    refine (ps_ret he.1).imp fun D σ H h => ?_
    obtain ⟨G, ρ, M, out, r, hr, e, q⟩ := h
    have e : (match ev S c ρ M with | some (d, M1) => some (Out.rt d M1) | none => none) = some out := e
    split at e
    · rename_i d M1 e1
      cases e
      exact ⟨G, ρ, M, d, M1, r, hr, e1, rt_of (M := M) q⟩
    · cases e
  | true =>
    have hf : frC T c = true := by simpa using hf
    refine (ps_ret (he.2.2 hf)).imp fun D σ H h => ?_
    obtain ⟨G, ρ, M, out, r, hr, e, q⟩ := h
    have e : (match ev S c ρ M with | some (d, M1) => some (Out.rt d M1) | none => none) = some out := e
    split at e
    · rename_i d M1 e1
      cases e
      have q : RetP X.K true G H M1 d D.rt := q
      refine ⟨G, ρ, M, d, M1, r, hr, e1, fun z G' v H' g m r' p => q.1 (.inr z) G' v H' g r' p, fun l z G' p vs H' g m r' hp hp' hv hF => ?_⟩
      exact q.2 rfl l z G' p vs H' g r' hp hp' hv hF fun n z => r.noμ hp n (by rw [← m]; exact z)
    · cases e
theorem inv_asg {C : Cxt} {fr : Bool} {i : Nat} {e : CE} {s : Stmt} (h : chS T C fr (.asg i e) s = true) : ∃ x p v pos, s = .Assign [.Name x p] v pos ∧ nameB C i x = true ∧ chE T C e v = true := by
  cases s <;> first
    | (simp [chS] at h; done)
    | skip
  rename_i ts v pos
  match ts, h with
  | [t], h =>
    cases t <;> first
      | (simp [chS] at h; done)
      | skip
    simp only [chS, Bool.and_eq_true] at h
    exact ⟨_, _, _, _, rfl, h.1, h.2⟩
  | [], h => simp [chS] at h
  | a :: _ :: _, h => cases a <;> exact absurd h Bool.false_ne_true
theorem inv_asgR {C : Cxt} {fr : Bool} {i : Nat} {e : CE} {s : Stmt} (h : chS T C fr (.asgR i e) s = true) : ∃ x p v pos, s = .Assign [.Name x p] v pos ∧ nameB C i x = true ∧ chE T C e v = true ∧ frC T e = true := by
  cases s <;> first
    | (simp [chS] at h; done)
    | skip
  rename_i ts v pos
  match ts, h with
  | [t], h =>
    cases t <;> first
      | (simp [chS] at h; done)
      | skip
    simp only [chS, Bool.and_eq_true] at h
    exact ⟨_, _, _, _, rfl, h.1.1, h.1.2, h.2⟩
  | [], h => simp [chS] at h
  | a :: _ :: _, h => cases a <;> exact absurd h Bool.false_ne_true
theorem inv_asgT {C : Cxt} {fr : Bool} {l : List Nat} {e : CE} {s : Stmt} (h : chS T C fr (.asgT l e) s = true) : ∃ ts kk p v pos, s = .Assign [.Tuple ts kk p] v pos ∧ chNs C l ts = true ∧ chE T C e v = true ∧ swNone C.sc ts v = true := by
  cases s <;> first
    | (simp [chS] at h; done)
    | skip
  rename_i ts v pos
  match ts, h with
  | [t], h =>
    cases t <;> first
      | (simp [chS] at h; done)
      | skip
    simp only [chS, Bool.and_eq_true] at h
    exact ⟨_, _, _, _, _, rfl, h.1.1, h.1.2, h.2⟩
  | [], h => simp [chS] at h
  | a :: _ :: _, h => cases a <;> exact absurd h Bool.false_ne_true
theorem inv_par {C : Cxt} {fr : Bool} {i j : Nat} {a b : CE} {s : Stmt} (h : chS T C fr (.par i j a b) s = true) : ∃ x px y py kk p v w k2 p2 pos, s = .Assign [.Tuple [.Name x px, .Name y py] kk p] (.Tuple [v, w] k2 p2) pos ∧ parB C i x = true ∧ parB C j y = true ∧ i ≠ j ∧
    swB C.sc [.Name x px, .Name y py] [v, w] = some (some [x, y]) ∧ chE T C a v = true ∧ chE T C b w = true := by
  unfold chS at h
  split at h <;> (try contradiction)
  rename_i heq
  cases heq
  simp only [Bool.and_eq_true, decide_eq_true_eq] at h
  obtain ⟨⟨⟨⟨⟨h1, h2⟩, h3⟩, h4⟩, h5⟩, h6⟩ := h
  exact ⟨_, _, _, _, _, _, _, _, _, _, _, rfl, h1, h2, h3, h4, h5, h6⟩
theorem inv_setI {C : Cxt} {fr : Bool} {i : Nat} {kc vc : CE} {s : Stmt} (h : chS T C fr (.setI i kc vc) s = true) : ∃ o ke p ve pos, s = .Assign [.Subscript o ke p] ve pos ∧ chE T C (.var i) o = true ∧ chE T C kc ke = true ∧ chE T C vc ve = true := by
  cases s <;> first
    | (simp [chS] at h; done)
    | skip
  rename_i ts v pos
  match ts, h with
  | [t], h =>
    cases t <;> first
      | (simp [chS] at h; done)
      | skip
    simp only [chS, Bool.and_eq_true] at h
    exact ⟨_, _, _, _, _, rfl, h.1.1, h.1.2, h.2⟩
  | [], h => simp [chS] at h
  | a :: _ :: _, h => cases a <;> exact absurd h Bool.false_ne_true
theorem inv_app {C : Cxt} {fr : Bool} {i : Nat} {e : CE} {s : Stmt} (h : chS T C fr (.app i e) s = true) : ∃ o p y q pos, s = .Expr (.Call (.Attribute o "append" p) [y] [] q) pos ∧ (p.endLine == q.line) = true ∧ chE T C (.var i) o = true ∧ chE T C e y = true := by
  cases s <;> first
    | (simp [chS] at h; done)
    | skip
  rename_i v pos
  cases v <;> first
    | (simp [chS] at h; done)
    | skip
  rename_i f as ks q
  cases f <;> first
    | (simp [chS] at h; done)
    | skip
  match as, ks, h with
  | [y], [], h =>
    simp only [chS, Bool.and_eq_true, decide_eq_true_eq] at h
    obtain ⟨⟨⟨rfl, h1⟩, h2⟩, h3⟩ := h
    exact ⟨_, _, _, _, _, rfl, h1, h2, h3⟩
  | [], _, h => simp [chS] at h
  | _ :: _ :: _, _, h => simp [chS] at h
  | [_], _ :: _, h => simp [chS] at h
theorem inv_for {C : Cxt} {fr : Bool} {tg : Tg} {it : CI} {b : CSs} {s : Stmt} (h : chS T C fr (.for tg it b) s = true) : ∃ t i x pos, s = .For t i x [] pos ∧ chG C tg t = true ∧ chI T C it t i = true ∧ chSs T C fr b x = true := by
  cases s <;> first
    | (simp [chS] at h; done)
    | skip
  rename_i t i x o pos
  cases o <;> first
    | (simp [chS] at h; done)
    | skip
  simp only [chS, Bool.and_eq_true] at h
  exact ⟨_, _, _, _, rfl, h.1.1, h.1.2, h.2⟩
theorem inv_whl {C : Cxt} {fr : Bool} {t : CE} {b : CSs} {s : Stmt} (h : chS T C fr (.whl t b) s = true) : ∃ te x pos, s = .While te x [] pos ∧ chE T C t te = true ∧ chSs T C fr b x = true := by
  cases s <;> first
    | (simp [chS] at h; done)
    | skip
  rename_i t x o pos
  cases o <;> first
    | (simp [chS] at h; done)
    | skip
  simp only [chS, Bool.and_eq_true] at h
  exact ⟨_, _, _, rfl, h.1, h.2⟩
theorem inv_ret {C : Cxt} {fr : Bool} {e : CE} {s : Stmt} (h : chS T C fr (.ret e) s = true) : ∃ v pos, s = .Return (some v) pos ∧ chE T C e v = true ∧ (!fr || frC T e) = true := by
  cases s <;> first
    | (simp [chS] at h; done)
    | skip
  rename_i v pos
  cases v <;> first
    | (simp [chS] at h; done)
    | skip
  simp only [chS, Bool.and_eq_true] at h
  exact ⟨_, _, rfl, h.1, h.2⟩
theorem inv_retR {C : Cxt} {fr : Bool} {i : Nat} {s : Stmt} (h : chS T C fr (.retR i) s = true) : ∃ v pos, s = .Return (some v) pos ∧ chE T C (.var i) v = true := by
  cases s <;> first
    | (simp [chS] at h; done)
    | skip
  rename_i v pos
  cases v <;> first
    | (simp [chS] at h; done)
    | skip
  simp only [chS] at h
  exact ⟨_, _, rfl, h⟩
theorem sw_none {C : Cxt} {c : CE} {e : Expr} {l : Nat} {env : PySem.Env} (h : chE T C c e = true) (hn : notComp e = true) : swapsWith e none l env = pure false := by
  cases e <;> first
    | rfl
    | (cases hn; done)
    | (cases c <;> simp [chE] at h; done)
mutual
theorem ok_s {C : Cxt} {X : Cx} {fr : Bool} (ok : CxOk T S k C X) (hk : C.sc.kind = .function) (hp : PassesOwn (model X.prog X.w) X.A X.env X.xe) : ∀ (c : CS) {s : Stmt}, chS T C fr c s = true → PS X s (tSt X.K S fr c)
  | .asg i e, s, h => by
    obtain ⟨x, p, v, pos, rfl, h1, h2⟩ := inv_asg h
    refine (asg_ok ok hk h1 h2).1.imp fun D σ H h => ?_
    obtain ⟨G, ρ, M, out, r, hr, ee, q⟩ := h
    have ee : (match ev S e ρ M with | some (d, M1) => some (Out.nx (ρ.set i (some d)) M1) | none => none) = some out := ee
    split at ee
    · rename_i d M1 e1
      cases ee
      exact tI_in r hr e1 fun G1 v1 H1 g1 m1 r1 p1 he1 => q G1 _ H1 g1 r1 (he1.set p1 i)
    · cases ee
  | .asgR i e, s, h => by
    obtain ⟨x, p, v, pos, rfl, h1, h2, h3⟩ := inv_asgR h
    refine ((asg_ok ok hk h1 h2).2 h3).imp fun D σ H h => ?_
    obtain ⟨G, ρ, M, out, r, hr, ee, q⟩ := h
    have ee : (match ev S e ρ M with | some (.lst l, M1) => some (Out.nx (ρ.set i (some (.ref M1.length))) (M1 ++ [.lst l])) | _ => none) = some out := ee
    split at ee
    · rename_i l M1 e1
      cases ee
      refine ⟨G, ρ, M, .lst l, M1, r, hr, e1, fun z => absurd rfl (z l), fun l' z G1 p vs H1 g1 m1 r1 hp hp' hv hF => ?_⟩
      cases z
      have hm : ∀ n, G1.μ n ≠ some p := fun n z => r.noμ hp n (by rw [← m1]; exact z)
      have r2 := r1.push hp' hF hm hv
      have g2 := Grow.push r1 g1 hp
      have hrep : Rep X.K ⟨G1.F, fun n => if n = M1.length then some p else G1.μ n⟩ (.ref M1.length) (.ref p) := ⟨p, rfl, if_pos rfl⟩
      exact q _ _ H1 g2 r2 ((hr.grow g2).set hrep i)
    · cases ee
  | .asgT l e, s, h => by
    obtain ⟨ts, kk, p, v, pos, rfl, h1, h2, h3⟩ := inv_asgT h
    refine (asgT_ok ok hk h1 h2 h3).imp fun D σ H h => ?_
    obtain ⟨G, ρ, M, out, r, hr, ee, q⟩ := h
    have ee : (match ev S e ρ M with | some (.tup ds, M1) => if ds.length = l.length then some (Out.nx (setN l ds ρ) M1) else none | _ => none) = some out := ee
    split at ee
    · rename_i ds M1 e1
      split at ee
      · rename_i hl
        cases ee
        refine tI_in r hr e1 fun G1 v1 H1 g1 m1 r1 p1 he1 => ⟨G1, M1, .tup ds, ρ, setN l ds ρ, r1, p1, he1, if_pos hl, fun σ1 e2 _ => q G1 σ1 H1 g1 r1 e2⟩
      · cases ee
    · cases ee
  | .par i j a b, s, h => by
    obtain ⟨x, px, y, py, kk, p, v, w, k2, p2, pos, rfl, h1, h2, h3, h4, h5, h6⟩ := inv_par h
    obtain ⟨n1, l1⟩ := parB_ok ok h1
    obtain ⟨n2, l2⟩ := parB_ok ok h2
    have ha : PA X [v, w] (tA X.K S (.cons a (.cons b .nil))) := ok_es _ ok (by simp only [chEs, Bool.and_eq_true]; exact ⟨h5, h6, True.intro⟩)
    refine (ps_par ok.calm (ok_nd ok) n1 n2 h3 l1 l2 ha (sw_eq hk ok.sc h4)).imp fun D σ H h => ?_
    obtain ⟨G, ρ, M, out, r, hr, ee, q⟩ := h
    have ee : (match ev S a ρ M with
      | some (x, M1) => (match ev S b ρ M1 with
        | some (y, M2) => some (Out.nx ((ρ.set i (some x)).set j (some y)) M2)
        | none => none)
      | none => none) = some out := ee
    split at ee
    · rename_i d1 M1 e1
      split at ee
      · rename_i d2 M2 e2
        cases ee
        refine ⟨G, ρ, M, [d1, d2], M2, r, hr, ?_, fun G1 vs H1 g1 m1 r1 p1 => ?_⟩
        · show bnd (ev S a ρ M) _ = _
          rw [e1]
          show bnd (bnd (ev S b ρ M1) _) _ = _
          rw [e2]
          rfl
        · obtain ⟨v1, v2, rfl, q1, q2⟩ := reps2 p1
          exact ⟨v1, v2, rfl, q G1 _ H1 g1 r1 (((hr.grow g1).set q1 i).set q2 j)⟩
      · cases ee
    · cases ee
  | .setI i kc vc, s, h => by
    obtain ⟨o, ke, p, ve, pos, rfl, h1, h2, h3⟩ := inv_setI h
    exact setI_ok ok h1 h2 h3
  | .app i e, s, h => by
    obtain ⟨o, p, y, q, pos, rfl, h1, h2, h3⟩ := inv_app h
    exact app_okS ok h1 h2 h3
  | .ife t a b, s, h => by
    cases s <;> first
      | (simp [chS] at h; done)
      | skip
    simp only [chS, Bool.and_eq_true] at h
    refine (ps_if (ok_e t ok h.1.1).2.1 (ok_ss ok hk hp a h.1.2) (ok_ss ok hk hp b h.2)).imp fun D σ H h => ?_
    obtain ⟨G, ρ, M, out, r, hr, ee, q⟩ := h
    have ee : (match bnd (ev S t ρ M) fun x M1 => bndO (truD M1 x) fun k => some (k, M1) with
      | some (k, M1) => if k = true then exs S a ρ M1 else exs S b ρ M1
      | none => none) = some out := ee
    split at ee
    · rename_i kk M1 e1
      obtain ⟨x, M1', e2, e3⟩ := bnd_some e1
      obtain ⟨k2, e4, e5⟩ := bndO_some e3
      cases e5
      refine ⟨G, ρ, M, x, _, kk, r, hr, e2, e4, fun G1 H1 g1 m1 r1 => ?_⟩
      cases kk with
      | true => exact L2.iteT ⟨G1, ρ, _, out, r1, hr.grow g1, ee, q.after g1⟩
      | false => exact L2.iteF ⟨G1, ρ, _, out, r1, hr.grow g1, ee, q.after g1⟩
    · cases ee
  | .for tg it b, s, h => by
    obtain ⟨t, i, x, pos, rfl, h1, h2, h3⟩ := inv_for h
    exact (ps_for hp ok.calm (ok_i it ok h2) (pg_ok ok h1) (ok_ss ok hk hp b h3) (set_i h2)).imp fun D σ H h => rdFor h
  | .whl t b, s, h => by
    obtain ⟨te, x, pos, rfl, h1, h2⟩ := inv_whl h
    exact (ps_while hp (ok_e t ok h1).2.1 (ok_ss ok hk hp b h2)).imp fun D σ H h => rdWhl h
  | .ret e, s, h => by
    obtain ⟨v, pos, rfl, h1, h2⟩ := inv_ret h
    exact ret_ok ok h1 h2
  | .retR i, s, h => by
    obtain ⟨v, pos, rfl, h1⟩ := inv_retR h
    refine (ps_ret (ok_e (.var i) ok h1).1).imp fun D σ H h => ?_
    obtain ⟨G, ρ, M, out, r, hr, e, q⟩ := h
    have e : (match ρ[i]? with | some (some (.ref n)) => some (Out.rt (.ref n) M) | _ => none) = some out := e
    split at e
    · rename_i n e1
      cases e
      have q : RetP X.K fr G H M (.ref n) D.rt := q
      exact tI_in (d := .ref n) (M' := M) r hr (by show (match ρ[i]? with | some (some d) => some (d, M) | _ => none) = _; rw [e1]) fun G1 v1 H1 g1 m1 r1 p1 he1 => q.1 (.inr fun l z => nomatch z) G1 v1 H1 g1 r1 p1
    · cases e
  | .drop e, s, h => by
    cases s <;> first
      | (simp [chS] at h; done)
      | skip
    simp only [chS, Bool.and_eq_true] at h
    refine (ps_expr (ok_e e ok h.1).1 (sw_none h.1 h.2)).imp fun D σ H h => ?_
    obtain ⟨G, ρ, M, out, r, hr, ee, q⟩ := h
    have ee : (match ev S e ρ M with | some (_, M1) => some (Out.nx ρ M1) | none => none) = some out := ee
    split at ee
    · rename_i d M1 e1
      cases ee
      exact tI_in r hr e1 fun G1 v1 H1 g1 m1 r1 p1 he1 => q G1 _ H1 g1 r1 he1
    · cases ee
  | .fail, s, h => ps_never.imp fun D σ H h => by
    obtain ⟨G, ρ, M, out, r, hr, e, q⟩ := h
    cases e
theorem ok_ss {C : Cxt} {X : Cx} {fr : Bool} (ok : CxOk T S k C X) (hk : C.sc.kind = .function) (hp : PassesOwn (model X.prog X.w) X.A X.env X.xe) : ∀ (c : CSs) {ss : List Stmt}, chSs T C fr c ss = true → PSs X ss (tSs X.K S fr c)
  | .nil, ss, h => by
    cases ss with
    | cons a b => simp [chSs] at h
    | nil =>
      refine pss_nil.imp fun D σ H h => ?_
      obtain ⟨G, ρ, M, out, r, hr, e, q⟩ := h
      cases e
      exact q G σ H (.refl _ _) r hr
  | .cons s r, ss, h => by
    cases ss with
    | nil => simp [chSs] at h
    | cons a b =>
      simp only [chSs, Bool.and_eq_true] at h
      refine (pss_cons (ok_s ok hk hp s h.1) (ok_ss ok hk hp r h.2)).imp fun D σ H h => ?_
      obtain ⟨G, ρ, M, out, rr, hr, e, q⟩ := h
      rcases bndS_some (show bndS (ex S s ρ M) _ = _ from e) with ⟨ρ1, M1, e1, e2⟩ | ⟨d, M1, e1, rfl⟩
      · exact ⟨G, ρ, M, _, rr, hr, e1, fun G' σ' H' g r' e' => ⟨G', ρ1, M1, out, r', e', e2, q.after g⟩⟩
      · exact ⟨G, ρ, M, _, rr, hr, e1, q⟩
  | .frz i r, ss, h => by
    have h : chSs T C fr r ss = true := by
      unfold chSs at h
      cases ss <;> exact h
    refine (ok_ss ok hk hp r h).imp fun D σ H h => ?_
    obtain ⟨G, ρ, M, out, rr, hr, e, q⟩ := h
    unfold exs at e
    split at e
    · rename_i n e1
      split at e
      · rename_i l e2
        obtain ⟨a, vs, h1, h2, h3, h4⟩ := rr.st n l e2
        have hF := h4
        -- the list stands fixed from here on
        have rf : RelM X.K ⟨upd G.F a (.lst vs), G.μ⟩ (M.set n .dead) H := by
          refine ⟨fun b u e => ?_, fun m l' e => ?_, fun m b e => by rw [List.length_set]; exact rr.dom m b e, fun m hm => rr.all m (by rw [List.length_set] at hm; exact hm), rr.trk, rr.inj⟩
          · by_cases hb : b = a
            · subst hb
              have e : upd G.F b (.lst vs) b = some u := e
              rw [upd_same] at e
              cases e
              exact h2
            · have e : upd G.F a (.lst vs) b = some u := e
              rw [upd_ne hb] at e
              exact rr.fz b u e
          · by_cases hm : n = m
            · subst hm
              rw [List.getElem?_set_self (rr.dom n a h1)] at e
              cases e
            · rw [List.getElem?_set_ne hm] at e
              obtain ⟨b, ws, h5, h6, h7, h8⟩ := rr.st m l' e
              have hb : b ≠ a := fun z => hm (rr.inj n m a h1 (z ▸ h5))
              exact ⟨b, ws, h5, h6, h7.sub (sub_upd hF), by show upd G.F a _ b = none; rw [upd_ne hb]; exact h8⟩
        have gf : Grow G H ⟨upd G.F a (.lst vs), G.μ⟩ H := (Grow.refl G H).fix hF (.inr ⟨n, h1⟩)
        obtain ⟨v, hv1, hv2⟩ := hr.2 i _ e1
        refine ⟨_, _, _, out, rf, ?_, e, q.after gf⟩
        refine ⟨by rw [List.length_set]; exact hr.1, fun j d hd => ?_⟩
        by_cases hj : i = j
        · subst hj
          have hi : i < ρ.length := (List.getElem?_eq_some_iff.mp e1).1
          rw [List.getElem?_set_self hi] at hd
          cases hd
          obtain ⟨a', rfl, h5⟩ := hv2
          rw [h1] at h5
          cases h5
          exact ⟨_, hv1, a, vs, rfl, upd_same, h3.sub (sub_upd hF)⟩
        · rw [List.getElem?_set_ne hj] at hd
          obtain ⟨w, hw1, hw2⟩ := hr.2 j d hd
          exact ⟨w, hw1, hw2.grow gf⟩
      · cases e
    · cases e
end
end
end Mn
namespace Mn
open PySem PySem.Spec PyProof.Rows L2

/-! ### defs -/
structure FnD where
  name : Str
  pars : List Str
  N : List Str
  st : Stmt
  fn : Fn
def scopeB (N ps : List Str) (sc : Scope) : Bool :=
  decide (sc.kind = .function) && !sc.isCoroutine && !sc.isGenerator && decide (N.Nodup) && decide (N.take ps.length = ps) &&
  (ps.all fun x => match sc.names.lookup x with | some .local => true | some .cell => true | _ => false) &&
  (sc.names.all fun y => decide (y.2 ≠ .free))
theorem scopeB_ok {N ps : List Str} {sc : Scope} (h : scopeB N ps sc = true) : FnScope N ps sc := by
  unfold scopeB at h
  simp only [Bool.and_eq_true, Bool.not_eq_true', decide_eq_true_eq, List.all_eq_true] at h
  obtain ⟨⟨⟨⟨⟨⟨h1, h2⟩, h3⟩, h4⟩, h5⟩, h6⟩, h7⟩ := h
  refine ⟨h1, h2, h3, h4, h5, fun x hx => ?_, fun y hy => h7 y hy⟩
  have q := h6 x hx
  split at q
  · exact .inl (by assumption)
  · exact .inr (by assumption)
  · cases q
def tabOf (fs : List FnD) (gls : List (Str × D)) : Tab := ⟨fs.map fun F => (F.name, F.fn.fresh), gls.map (·.1)⟩
def FnD.ok (T : Tab) (F : FnD) : Bool := scopeB F.N F.pars (defScope F.st) && decide (F.fn.pars = F.pars.length) && decide (F.fn.names = F.N.length) && chSs T ⟨F.N, defScope F.st, none⟩ F.fn.fresh F.fn.body (defBody F.st)
def glOf (gls : List (Str × D)) (c : Nat) : Option D := gls[c]?.map (·.2)
def sysOf (fs : List FnD) (gls : List (Str × D)) (fuel k : Nat) : Sys := ⟨run (fs.map (·.fn)) (glOf gls) fuel k, glOf gls, fuel⟩

section
variable {K : PySem.W.Frag} {G G' : Gh} {M M1 : Sto} {H H' : Hp}
theorem RelM.le (r : RelM K G M H) (g : Grow G H G' H') (r' : RelM K G' M1 H') : M.length ≤ M1.length := by
  cases h : M.length with
  | zero => exact Nat.zero_le _
  | succ n =>
    obtain ⟨a, e⟩ := r.all n (by omega)
    have := r'.dom n a (g.μ n a e)
    omega
theorem RelM.trunc (r : RelM K G M H) (g : Grow G H G' H') (r' : RelM K G' M1 H') : RelM K ⟨G'.F, G.μ⟩ (M1.take M.length) H' ∧ Grow G H ⟨G'.F, G.μ⟩ H' := by
  have hle := r.le g r'
  have hlen : (M1.take M.length).length = M.length := by rw [List.length_take]; omega
  refine ⟨⟨r'.fz, fun n l e => ?_, fun n a e => by rw [hlen]; exact r.dom n a e, fun n h => r.all n (by rw [hlen] at h; exact h), fun n a e => r'.trk n a (g.μ n a e), r.inj⟩, ⟨g.F, fun _ _ e => e, fun _ _ e => .inl e, g.frame, g.trk, g.fn⟩⟩
  have hn : n < M.length := by
    have := (List.getElem?_eq_some_iff.mp e).1
    omega
  rw [List.getElem?_take_of_lt hn] at e
  obtain ⟨a, vs, h1, h2, h3, h4⟩ := r'.st n l e
  obtain ⟨b, hb⟩ := r.all n hn
  have := g.μ n b hb
  rw [h1] at this
  cases this
  exact ⟨a, vs, hb, h2, h3, h4⟩
theorem start_env {N : List Str} {ds : List D} {vs : List V} (h : Reps K G ds vs) : EnvR K G (ds.map some ++ List.replicate (N.length - ds.length) none) (start N vs) := by
  unfold L2.start
  refine ⟨by rw [List.length_append, List.length_append, List.length_map, List.length_map, List.length_replicate, List.length_replicate, h.length], fun i d e => ?_⟩
  rw [← h.length]
  have hl := h.length
  by_cases hi : i < ds.length
  · rw [List.getElem?_append_left (by rw [List.length_map]; exact hi)] at e
    rw [List.getElem?_append_left (by rw [List.length_map]; omega)]
    rw [List.getElem?_map] at e ⊢
    clear hl
    induction h generalizing i with
    | nil => simp at e
    | cons h1 h2 ih =>
      cases i with
      | zero =>
        simp at e
        subst e
        exact ⟨_, rfl, h1⟩
      | succ i => exact ih i (by simpa using e) (by simpa using hi)
  · rw [List.getElem?_append_right (by rw [List.length_map]; omega), List.getElem?_replicate] at e
    split at e <;> cases e
end
theorem run_succ (T : List Fn) (gl : Nat → Option D) (fuel k f : Nat) (ds : List D) (M : Sto) : run T gl fuel (k + 1) f ds M = (match T[f]? with
    | some F => if ds.length = F.pars then (match exs ⟨run T gl fuel k, gl, fuel⟩ F.body (ds.map some ++ List.replicate (F.names - ds.length) none) M with
      | some (.rt d M1) => (match handed M.length d M1 with
        | some (.lst l, M2) => some (.lst l, M2)
        | some (d2, M2) => if F.fresh = true then none else some (d2, M2)
        | none => none)
      | some (.nx _ M1) => if F.fresh = true then none else some (.non, M1.take M.length)
      | none => none) else none
    | none => none) := rfl
theorem run_fresh {T : List Fn} {gl : Nat → Option D} {fuel : Nat} : ∀ (k f : Nat) (F : Fn) (ds : List D) (M : Sto) (d : D) (M' : Sto), T[f]? = some F → F.fresh = true → run T gl fuel k f ds M = some (d, M') → ∃ l, d = .lst l
  | 0, _, _, _, _, _, _, _, _, e => by cases e
  | k + 1, f, F, ds, M, d, M', hF, hf, e => by
    rw [run_succ, hF] at e
    simp only [hf, if_true] at e
    split at e
    · split at e
      · split at e
        · cases e
          exact ⟨_, rfl⟩
        · cases e
        · cases e
      · cases e
      · cases e
    · cases e

section
variable {P : Program} {w : World} {K : PySem.W.Frag} {mg : Str → Option Value} {base : Heap} {fs : List FnD} {gls : List (Str × D)} {fuel : Nat}
/-- what the top has left -/
structure Left (P : Program) (w : World) (K : PySem.W.Frag) (mg : Str → Option Value) (fs : List FnD) (gls : List (Str × D)) : Prop where
  fns : ∀ (f : Nat) (F : FnD), fs[f]? = some F → ∃ fa fd, mg F.name = some (.ref fa) ∧ Fun K F.name F.name F.st fa fd ∧ Binds K fd F.pars []
  blt : ∀ x ∈ (["len", "abs", "max", "min", "int", "list", "tuple", "all", "any", "range", "enumerate", "zip", "isinstance", "bool", "str"] : List Str), mg x = none
  gcd : mg "gcd" = some (.builtin "math.gcd")
  gl : ∀ (c : Nat) (x : Str) (d : D), gls[c]? = some (x, d) → ∃ u v, mg x = some u ∧ RelV v u ∧ ∀ G, Rep K G d v
  ok : ∀ (f : Nat) (F : FnD), fs[f]? = some F → F.ok (tabOf fs gls) = true
theorem ret_end {k f : Nat} {F : FnD} (hF : fs[f]? = some F) {G : Gh} {M : Sto} {H : Hp} {ds : List D} {d : D} {M' : Sto} {Q : VK} (r : RelM K G M H) (hl : ds.length = F.fn.pars)
    (e : run (fs.map (·.fn)) (glOf gls) fuel (k + 1) f ds M = some (d, M')) (q1 : F.fn.fresh = false → Post K G H M' d Q) (q2 : F.fn.fresh = true → ∃ l, d = .lst l ∧ PostN K G H M' l Q) :
    ∃ out, exs (sysOf fs gls fuel k) F.fn.body (ds.map some ++ List.replicate (F.fn.names - ds.length) none) M = some out ∧ EndsP K F.fn.fresh G H out { nx := fun _ H' => Q .non H', rt := Q } := by
  rw [run_succ, List.getElem?_map, hF] at e
  have e : (if ds.length = F.fn.pars then (match exs (sysOf fs gls fuel k) F.fn.body (ds.map some ++ List.replicate (F.fn.names - ds.length) none) M with
      | some (.rt d M1) => (match handed M.length d M1 with
        | some (.lst l, M2) => some (.lst l, M2)
        | some (d2, M2) => if F.fn.fresh = true then none else some (d2, M2)
        | none => none)
      | some (.nx _ M1) => if F.fn.fresh = true then none else some (.non, M1.take M.length)
      | none => none) else none) = some (d, M') := e
  rw [if_pos hl] at e
  split at e
  · rename_i d1 M1 e1
    refine ⟨_, e1, ?_⟩
    show RetP K F.fn.fresh G H M1 d1 Q
    refine ⟨fun z G' v H' g r' p => ?_, fun hfr l z G' p vs H' g r' hp hp' hv hFp hm => ?_⟩
    · obtain ⟨r2, g2⟩ := r.trunc g r'
      cases d1 with
      | ref n =>
        obtain ⟨a, rfl, ha⟩ := p
        by_cases hn : n < M.length
        · have e2 : handed M.length (.ref n) M1 = some (.ref n, M1.take M.length) := if_pos hn
          rw [e2] at e
          cases hfr : F.fn.fresh with
          | true =>
            rw [hfr] at e
            cases e
          | false =>
            rw [hfr] at e
            cases e
            obtain ⟨b, hb⟩ := r.all n hn
            have := g.μ n b hb
            rw [ha] at this
            cases this
            exact q1 hfr _ _ H' g2 rfl r2 ⟨a, rfl, hb⟩
        · cases hM : M1[n]? with
          | none =>
            have e2 : handed M.length (.ref n) M1 = none := by
              unfold handed
              simp only [if_neg hn, hM]
            rw [e2] at e
            cases e
          | some ob =>
            cases ob with
            | dead =>
              have e2 : handed M.length (.ref n) M1 = none := by
                unfold handed
                simp only [if_neg hn, hM]
              rw [e2] at e
              cases e
            | lst l =>
              have e2 : handed M.length (.ref n) M1 = some (.lst l, M1.take M.length) := by
                unfold handed
                simp only [if_neg hn, hM]
              rw [e2] at e
              cases e
              obtain ⟨a', vs, h1, h2, h3, h4⟩ := r'.st n l hM
              rw [ha] at h1
              cases h1
              have hH : H a = none := by
                rcases g.new n a ha with z | z
                · exact absurd (r.dom n a z) hn
                · exact z
              have hm : ∀ m, G.μ m ≠ some a := fun m z => by
                have h5 := r'.inj m n a (g.μ m a z) ha
                have h6 := r.dom m a z
                omega
              cases hfr : F.fn.fresh with
              | true =>
                obtain ⟨l', e3, q⟩ := q2 hfr
                cases e3
                exact q _ a vs H' g2 rfl r2 hH h2 h3 h4
              | false =>
                have r3 := r2.freeze (vs := vs) h2 h4 hm
                have g3 := Grow.fix (o := .lst vs) g2 h4 (.inl hH)
                exact q1 hfr _ _ H' g3 rfl r3 ⟨a, vs, rfl, upd_same, h3.sub (sub_upd h4)⟩
      | lst l =>
        cases e
        rcases z with z | z
        · exact q1 z _ _ H' g2 rfl r2 p
        · exact absurd rfl (z l)
      | scr l =>
        cases hfr : F.fn.fresh with
        | true =>
          rw [hfr] at e
          cases e
        | false =>
          rw [hfr] at e
          cases e
          exact q1 hfr _ _ H' g2 rfl r2 p
      | _ =>
        cases hfr : F.fn.fresh with
        | true =>
          rw [hfr] at e
          cases e
        | false =>
          rw [hfr] at e
          cases e
          exact q1 hfr _ _ H' g2 rfl r2 p
    · subst z
      cases e
      obtain ⟨r2, g2⟩ := r.trunc g r'
      obtain ⟨l', e3, q⟩ := q2 hfr
      cases e3
      exact q _ p vs H' g2 rfl r2 hp hp' hv hFp
  · rename_i ρ1 M1 e1
    refine ⟨_, e1, ?_⟩
    intro G' σ' H' g r' _
    cases hfr : F.fn.fresh with
    | true =>
      rw [hfr] at e
      cases e
    | false =>
      rw [hfr] at e
      cases e
      obtain ⟨r2, g2⟩ := r.trunc g r'
      exact q1 hfr _ _ H' g2 rfl r2 rfl
  · cases e
theorem fns_at (L : Left P w K mg fs gls) : ∀ (k f : Nat) (F : FnD), fs[f]? = some F → ∀ fa fd, mg F.name = some (.ref fa) → Fun K F.name F.name F.st fa fd → Binds K fd F.pars [] → FnOk P w K mg base CX0 k fa fd F.pars (spI K (sysOf fs gls fuel k) f F.fn.fresh)
  | 0, f, F, hF => by
    intro fa fd h1 h2 h3
    refine ⟨fun vs H Q E h => ?_, fun A outer s H args us vs Q E hr e0 hb hv h => ?_⟩
    · obtain ⟨_, _, _, _, _, _, _, e, _⟩ := h
      cases e
    · obtain ⟨_, _, _, _, _, _, _, e, _⟩ := h
      cases e
  | k + 1, f, F, hF => by
    intro fa fd h1 h2 h3
    have ok := L.ok f F hF
    unfold FnD.ok at ok
    simp only [Bool.and_eq_true, decide_eq_true_eq] at ok
    obtain ⟨⟨⟨o1, o2⟩, o3⟩, o4⟩ := ok
    have S := scopeB_ok o1
    have hlen : ∀ vs H Q E, spI K (sysOf fs gls fuel (k + 1)) f F.fn.fresh vs H Q E → ∃ ds : List D, ds.length = vs.length ∧ ds.length = F.fn.pars := fun vs H Q E h => by
      obtain ⟨G, M, ds, d, M', r, hs, e, _⟩ := h
      refine ⟨ds, hs.length, ?_⟩
      have e : run (fs.map (·.fn)) (glOf gls) fuel (k + 1) f ds M = some (d, M') := e
      rw [run_succ, List.getElem?_map, hF] at e
      simp only [Option.map_some] at e
      by_cases hl : ds.length = F.fn.pars
      · exact hl
      · rw [if_neg hl] at e
        cases e
    refine h2.ok S (fun vs H Q E h => ?_) (fun cdv A outer s H vs Q E hr h => ?_)
    · obtain ⟨ds, e1, e2⟩ := hlen vs H Q E h
      rw [← e1, e2, o2]
    · obtain ⟨G, M, ds, d, M', r, hs, e, q1, q2⟩ := h
      have hl : ds.length = F.fn.pars := by
        obtain ⟨ds', e1, e2⟩ := hlen vs H Q E ⟨G, M, ds, d, M', r, hs, e, q1, q2⟩
        rw [hs.length, ← e1, e2]
      obtain ⟨out, e1, q⟩ := ret_end hF r hl e q1 q2
      refine ⟨tSs K (sysOf fs gls fuel k) F.fn.fresh F.fn.body, ok_ss (T := tabOf fs gls) (S := sysOf fs gls fuel k) (k := k) (C := ⟨F.N, defScope F.st, none⟩) ?_ S.kind PassesOwn.never F.fn.body o4, G, _, M, out, r, ?_, e1, q⟩
      · refine ⟨rfl, S.nd, rfl, rfl, hr, fun _ _ => rfl, L.blt, L.gcd, fun c x dd hc hg => ?_, fun g x b hg => ?_, fun g x hg dd M d M' e => ?_⟩
        · have hc : (gls.map (·.1))[c]? = some x := hc
          have hg : gls[c]?.map (·.2) = some dd := hg
          rw [List.getElem?_map] at hc
          cases hq : gls[c]? with
          | none => rw [hq] at hc; cases hc
          | some p =>
            rw [hq] at hc hg
            cases hc
            cases hg
            exact L.gl c _ _ hq
        · have hg : (fs.map fun F => (F.name, F.fn.fresh))[g]? = some (x, b) := hg
          rw [List.getElem?_map] at hg
          cases hq : fs[g]? with
          | none => rw [hq] at hg; cases hg
          | some F' =>
            rw [hq] at hg
            cases hg
            obtain ⟨fa', fd', a1, a2, a3⟩ := L.fns g F' hq
            exact ⟨fa', fd', F'.pars, a1, a2.kp, a3, fns_at L k g F' hq fa' fd' a1 a2 a3⟩
        · have hg : (fs.map fun F => (F.name, F.fn.fresh))[g]? = some (x, true) := hg
          rw [List.getElem?_map] at hg
          cases hq : fs[g]? with
          | none => rw [hq] at hg; cases hg
          | some F' =>
            rw [hq] at hg
            have hfr : F'.fn.fresh = true := by
              have : (F'.name, F'.fn.fresh) = (x, true) := Option.some.inj hg
              exact (Prod.mk.inj this).2
            exact run_fresh k g F'.fn dd M d M' (by rw [List.getElem?_map, hq]; rfl) hfr e
      · have : F.fn.names = F.N.length := o3
        rw [this]
        exact start_env hs
/-- a law: what its call is asked -/
theorem law_sp {k f : Nat} {F : FnD} (hF : fs[f]? = some F) (hfr : F.fn.fresh = false) {H : Hp} {a : Addr} {ns : List Int} (hS : SqL K H a (ns.map V.int)) {d : D} {M' : Sto} (e : run (fs.map (·.fn)) (glOf gls) fuel k f [.scr ns] [] = some (d, M')) (hd : d = .bl true) :
    spI K (sysOf fs gls fuel k) f F.fn.fresh [.ref a] H (fun v _ => v = .bl true) fun _ _ _ => False := by
  subst hd
  refine ⟨⟨H, fun _ => none⟩, [], [.scr ns], .bl true, M', ⟨fun _ _ h => h, fun n l e => by simp at e, fun n a e => (nomatch e), fun n h => absurd h (Nat.not_lt_zero _), fun n a e => (nomatch e), fun n m a e => (nomatch e)⟩, .cons ⟨a, rfl, hS⟩ .nil, e, fun _ G' v H' g m r p => p, fun z => ?_⟩
  rw [hfr] at z
  cases z
end
end Mn
namespace Mn
open PySem PySem.Spec PyProof.Rows L2

/-! ### what the top has written -/
section
variable {K : PySem.W.Frag} {mg : Str → Option Value} {h : Heap}
def FnL (K : PySem.W.Frag) (F : FnD) : Prop := ∃ fa fd, PySem.W.nsIn K mainGlobals F.name = some (some (.ref fa)) ∧ Fun K F.name F.name F.st fa fd ∧ ∀ us : List Value, us.length = F.pars.length → bindArgs fd ⟨us, []⟩ = pure (F.pars.zip us)
def FnLs (K : PySem.W.Frag) : List FnD → Prop
  | [] => True
  | F :: r => FnL K F ∧ FnLs K r
theorem FnLs.get : ∀ {fs : List FnD}, FnLs K fs → ∀ {f : Nat} {F : FnD}, fs[f]? = some F → FnL K F
  | [], _, _, _, e => by simp at e
  | _ :: _, h, 0, F, e => by
    simp at e
    subst e
    exact h.1
  | _ :: r, h, f + 1, F, e => FnLs.get (fs := r) h.2 (by simpa using e)
theorem fn_left {x : Str} {st : Stmt} {ps N : List Str} {fn : Fn} {f : Addr} {oc : Value} {od an : Option Addr} {osl : Array (Option Value)} {kV doc pm cdv ct : Value}
    (a : PySem.W.nsIn K mainGlobals x = some (some (.ref f)))
    (l : K.lookup f = some ⟨oc, od, .func (PySem.W.fnOf x x (defArgs st) (defBody st) (defScope st) .none kV doc pm an cdv ct), osl⟩)
    (c : PySem.W.codeIn K cdv x = true) (k : PySem.W.keepIn K (.ref f) = true)
    (b : ∀ (kV doc pm : Value) (an : Option Addr) (cdv ct : Value) (us : List Value), us.length = ps.length → bindArgs (PySem.W.fnOf x x (defArgs st) (defBody st) (defScope st) .none kV doc pm an cdv ct) ⟨us, []⟩ = pure (ps.zip us)) : FnL K ⟨x, ps, N, st, fn⟩ :=
  ⟨f, _, a, fun_mk (st := st) l c k, b kV doc pm an cdv ct⟩
/-! constants -/
mutual
def heldB (K : PySem.W.Frag) : D → Value → Bool
  | .non, .none => true
  | .bl b, .bool c => b == c
  | .int i, .int j _ => i == j
  | .str s, .str t _ => s == t
  | .tup l, .ref a => (match K.lookup a with
    | some ⟨.type "tuple", _, .seq its _, _⟩ => decide (its.size ≤ sizeLine) && heldBs K l its.toList
    | _ => false)
  | _, _ => false
def heldBs (K : PySem.W.Frag) : List D → List Value → Bool
  | [], [] => true
  | d :: r, v :: vs => heldB K d v && heldBs K r vs
  | _, _ => false
end
mutual
theorem held_ok {F : Hp} : ∀ {d : D} {u : Value}, heldB K d u = true → ∃ v, RelV v u ∧ RepV K F d v
  | .non, u, h => by
    cases u <;> first | (simp [heldB] at h; done) | skip
    exact ⟨.non, rfl, rfl⟩
  | .bl b, u, h => by
    cases u <;> first | (simp [heldB] at h; done) | skip
    simp only [heldB, beq_iff_eq] at h
    subst h
    exact ⟨.bl b, rfl, rfl⟩
  | .int i, u, h => by
    cases u <;> first | (simp [heldB] at h; done) | skip
    simp only [heldB, beq_iff_eq] at h
    subst h
    exact ⟨.int i, ⟨_, rfl⟩, rfl⟩
  | .str s, u, h => by
    cases u <;> first | (simp [heldB] at h; done) | skip
    simp only [heldB, beq_iff_eq] at h
    subst h
    exact ⟨.str s, ⟨_, rfl⟩, rfl⟩
  | .tup l, u, h => by
    cases u <;> first | (simp [heldB] at h; done) | skip
    rename_i a
    unfold heldB at h
    split at h
    · rename_i od its n sl e
      simp only [Bool.and_eq_true, decide_eq_true_eq] at h
      obtain ⟨vs, h1, h2⟩ := helds_ok (F := F) h.2
      exact ⟨.ref a, rfl, a, vs, rfl, .inr ⟨_, its, n, e, rfl, rfl, h.1, h1⟩, h2⟩
    · cases h
  | .lst _, u, h => by cases u <;> simp [heldB] at h
  | .ref _, u, h => by cases u <;> simp [heldB] at h
  | .scr _, u, h => by cases u <;> simp [heldB] at h
theorem helds_ok {F : Hp} : ∀ {l : List D} {us : List Value}, heldBs K l us = true → ∃ vs, Vals vs us ∧ RepVs K F l vs
  | [], us, h => by
    cases us with
    | nil => exact ⟨[], .nil, rfl⟩
    | cons u us => simp [heldBs] at h
  | d :: r, us, h => by
    cases us with
    | nil => simp [heldBs] at h
    | cons u us =>
      simp only [heldBs, Bool.and_eq_true] at h
      obtain ⟨v, h1, h2⟩ := held_ok (F := F) h.1
      obtain ⟨vs, h3, h4⟩ := helds_ok (F := F) h.2
      exact ⟨v :: vs, .cons h1 h3, v, vs, rfl, h2, h4⟩
end
def GlL (K : PySem.W.Frag) (p : Str × D) : Prop := ∃ u, PySem.W.nsIn K mainGlobals p.1 = some (some u) ∧ heldB K p.2 u = true
theorem gl_left {x : Str} {d : D} {u : Value} (a : PySem.W.nsIn K mainGlobals x = some (some u)) (b : heldB K d u = true) : GlL K (x, d) := ⟨u, a, b⟩
def GlLs (K : PySem.W.Frag) : List (Str × D) → Prop
  | [] => True
  | F :: r => GlL K F ∧ GlLs K r
theorem GlLs.get : ∀ {gls : List (Str × D)}, GlLs K gls → ∀ {c : Nat} {p : Str × D}, gls[c]? = some p → GlL K p
  | [], _, _, _, e => by simp at e
  | _ :: _, h, 0, F, e => by
    simp at e
    subst e
    exact h.1
  | _ :: r, h, f + 1, F, e => GlLs.get (gls := r) h.2 (by simpa using e)
def NoL (K : PySem.W.Frag) : List Str → Prop
  | [] => True
  | x :: r => PySem.W.nsIn K mainGlobals x = some none ∧ NoL K r
theorem NoL.get : ∀ {l : List Str}, NoL K l → ∀ x ∈ l, PySem.W.nsIn K mainGlobals x = some none
  | [], _, _, e => by cases e
  | y :: r, h, x, e => by
    rcases List.mem_cons.mp e with z | z
    · subst z
      exact h.1
    · exact NoL.get h.2 x z
theorem FnLs.cons {F : FnD} {r : List FnD} (a : FnL K F) (b : FnLs K r) : FnLs K (F :: r) := ⟨a, b⟩
theorem FnLs.nil : FnLs K [] := trivial
theorem GlLs.cons {F : Str × D} {r : List (Str × D)} (a : GlL K F) (b : GlLs K r) : GlLs K (F :: r) := ⟨a, b⟩
theorem GlLs.nil : GlLs K [] := trivial
theorem NoL.cons {x : Str} {r : List Str} (a : PySem.W.nsIn K mainGlobals x = some none) (b : NoL K r) : NoL K (x :: r) := ⟨a, b⟩
theorem NoL.nil : NoL K [] := trivial
def bltNs : List Str := ["len", "abs", "max", "min", "int", "list", "tuple", "all", "any", "range", "enumerate", "zip", "isinstance", "bool", "str"]
theorem left_all {P : Program} {w : World} {fs : List FnD} {gls : List (Str × D)} (X : K.In h) (G : h.Ns mainGlobals mg) (L : FnLs K fs) (L2 : GlLs K gls) (L3 : NoL K bltNs) (g : PySem.W.nsIn K mainGlobals "gcd" = some (some (.builtin "math.gcd"))) (ok : ∀ F ∈ fs, F.ok (tabOf fs gls) = true) : Left P w K mg fs gls where
  fns := fun f F e => by
    obtain ⟨fa, fd, h1, h2, h3⟩ := L.get e
    exact ⟨fa, fd, PySem.W.mg_of X G h1, h2, .all h3⟩
  blt := fun x hx => PySem.W.mg_none_of X G (L3.get x hx)
  gcd := PySem.W.mg_of X G g
  gl := fun c x d e => by
    obtain ⟨u, h1, h2⟩ := L2.get e
    obtain ⟨v, h3, _⟩ := held_ok (F := fun _ => none) h2
    refine ⟨u, v, PySem.W.mg_of X G h1, h3, fun G => ?_⟩
    obtain ⟨v', h4, h5⟩ := held_ok (F := G.F) h2
    have e1 := h3.abs
    rw [h4.abs] at e1
    cases e1
    exact Rep.of h5
  ok := fun f F e => ok F (List.mem_of_getElem? e)
/-- what the walk asks of the law -/
theorem walk_fn {P : Program} {w : World} {fs : List FnD} {gls : List (Str × D)} {fuel k f : Nat} {F : FnD} {fa : Addr} {x : Str}
    (X : K.In h) (G : h.Ns mainGlobals mg) (hm : mg x = some (.ref fa)) (L : FnLs K fs) (L2 : GlLs K gls) (L3 : NoL K bltNs) (g : PySem.W.nsIn K mainGlobals "gcd" = some (some (.builtin "math.gcd")))
    (ok : ∀ F ∈ fs, F.ok (tabOf fs gls) = true) (hF : fs[f]? = some F) (hx : F.name = x) (hp : F.pars = [("script" : Str)]) (hfr : F.fn.fresh = false) :
    ∃ fd : FuncData, (∀ (s : Shared) (u : Value), BindsTo s fd ⟨[u], []⟩ [(("script" : Str), u)]) ∧
        ∀ base : Heap, K.In base → base.Ns mainGlobals mg → FnOk P w K mg base CX0 k fa fd [("script" : Str)] (spI K (sysOf fs gls fuel k) f false) := by
  obtain ⟨fa', fd, h1, h2, h3⟩ := L.get hF
  have e1 : mg x = some (.ref fa') := by
    rw [← hx]
    exact PySem.W.mg_of X G h1
  rw [hm] at e1
  cases e1
  refine ⟨fd, fun s u => .of_eq ?_, fun base X' G' => ?_⟩
  · have := h3 [u] (by rw [hp]; rfl)
    rw [hp] at this
    exact this
  · have q := fns_at (base := base) (fuel := fuel) (left_all (P := P) (w := w) X G L L2 L3 g ok) k f F hF fa fd (by rw [hx]; exact hm) h2 (.all h3)
    rw [hp, hfr] at q
    exact q
theorem sp_law {K : PySem.W.Frag} {fs : List FnD} {gls : List (Str × D)} {fuel k f : Nat} {F : FnD} (hF : fs[f]? = some F) (hfr : F.fn.fresh = false) {H : Hp} {a : Addr} {ns : List Int} (hS : SqL K H a (ns.map V.int)) {M' : Sto} (e : run (fs.map (·.fn)) (glOf gls) fuel k f [.scr ns] [] = some (.bl true, M')) :
    spI K (sysOf fs gls fuel k) f false [.ref a] H (fun v _ => v = .bl true) fun _ _ _ => False := by
  have q := law_sp hF hfr hS e rfl
  rw [hfr] at q
  exact q
end
end Mn
/-! Mn12: evaluation, step by step, for simp -/
namespace Mn.Sx
open PySem PySem.Spec PyProof.Rows L2
def bndX {α : Type} (r : Re α) (f : α → Sto → Option Out) : Option Out := match r with
  | some (x, M) => f x M
  | none => none
def bndC {α : Type} (r : Option α) (f : α → Option Out) : Option Out := match r with
  | some x => f x
  | none => none
section
variable {S : Sys} {ρ : Rho} {M : Sto} {α β : Type}
@[simp] theorem bnd_someP (x : α) (f : α → Sto → Re β) : bnd (some (x, M)) f = f x M := rfl
@[simp] theorem bndO_some' (x : α) (f : α → Option β) : bndO (some x) f = f x := rfl
@[simp] theorem bndX_someP (x : α) (f : α → Sto → Option Out) : bndX (some (x, M)) f = f x M := rfl
@[simp] theorem bndC_someP (x : α) (f : α → Option Out) : bndC (some x) f = f x := rfl
@[simp] theorem bndS_nx (f : Rho → Sto → Option Out) : bndS (some (.nx ρ M)) f = f ρ M := rfl
@[simp] theorem bndS_rt (d : D) (f : Rho → Sto → Option Out) : bndS (some (.rt d M)) f = some (.rt d M) := rfl
@[simp] theorem bndS_ite {c : Prop} [Decidable c] (a b : Option Out) (f : Rho → Sto → Option Out) : bndS (if c then a else b) f = if c then bndS a f else bndS b f := by split <;> rfl
/-! expressions -/
def getR (o : Option (Option D)) (M : Sto) : Re D := match o with
  | some (some d) => some (d, M)
  | _ => none
@[simp] theorem getR_some (d : D) : getR (some (some d)) M = some (d, M) := rfl
@[simp] theorem ev_var (i : Nat) : ev S (.var i) ρ M = getR ρ[i]? M := rfl
@[simp] theorem ev_int (i : Int) : ev S (.int i) ρ M = some (.int i, M) := rfl
@[simp] theorem ev_bl (i : Bool) : ev S (.bl i) ρ M = some (.bl i, M) := rfl
@[simp] theorem ev_non : ev S .non ρ M = some (.non, M) := rfl
@[simp] theorem ev_str (i : Str) : ev S (.str i) ρ M = some (.str i, M) := rfl
@[simp] theorem ev_gl (c : Nat) : ev S (.gl c) ρ M = bndO (S.gl c) fun d => some (d, M) := rfl
@[simp] theorem ev_tup (es : CEs) : ev S (.tup es) ρ M = bnd (evs S es ρ M) fun ds M1 => if ds.length ≤ line ∧ ds.all val = true then some (.tup ds, M1) else none := rfl
@[simp] theorem ev_lst (es : CEs) : ev S (.lst es) ρ M = bnd (evs S es ρ M) fun ds M1 => if ds.length ≤ line ∧ ds.all val = true then some (.lst ds, M1) else none := rfl
@[simp] theorem ev_bin (op : Operator) (a b : CE) : ev S (.bin op a b) ρ M = bnd (ev S a ρ M) fun x M1 => bnd (ev S b ρ M1) fun y M2 => bndO (binD op M2 x y) fun d => some (d, M2) := rfl
@[simp] theorem ev_neg (a : CE) : ev S (.neg a) ρ M = bnd (ev S a ρ M) fun x M1 => bndO (negD x) fun d => some (d, M1) := rfl
@[simp] theorem ev_cmp (op : CmpOp) (a b : CE) : ev S (.cmp op a b) ρ M = bnd (ev S a ρ M) fun x M1 => bnd (ev S b ρ M1) fun y M2 => bndO (cmpD op M2 x y) fun k => some (.bl k, M2) := rfl
@[simp] theorem ev_chain (o1 o2 : CmpOp) (a b c : CE) : ev S (.chain o1 o2 a b c) ρ M = bnd (ev S a ρ M) fun x M1 => bnd (ev S b ρ M1) fun y M2 => bndO (cmpD o1 M2 x y) fun k =>
      if k = true then bnd (ev S c ρ M2) fun z M3 => bndO (cmpD o2 M3 y z) fun k2 => some (.bl k2, M3) else some (.bl false, M2) := rfl
@[simp] theorem ev_bool (op : BoolOp) (es : CEs) : ev S (.bool op es) ρ M = evb S op es ρ M := rfl
@[simp] theorem ev_not (a : CE) : ev S (.not a) ρ M = bnd (ev S a ρ M) fun x M1 => bndO (truD M1 x) fun k => some (.bl (!k), M1) := rfl
@[simp] theorem ev_ite (t a b : CE) : ev S (.ite t a b) ρ M = bnd (ev S t ρ M) fun x M1 => bndO (truD M1 x) fun k => if k = true then ev S a ρ M1 else ev S b ρ M1 := rfl
@[simp] theorem ev_idx (a i : CE) : ev S (.idx a i) ρ M = bnd (ev S a ρ M) fun x M1 => bnd (ev S i ρ M1) fun y M2 => bndO (idxD M2 x y) fun d => some (d, M2) := rfl
@[simp] theorem ev_cut (a : CE) (lo hi : CO) : ev S (.cut a lo hi) ρ M = bnd (ev S a ρ M) fun x M1 => bnd (evo S lo ρ M1) fun l M2 => bnd (evo S hi ρ M2) fun h M3 => bndO (cutD M3 x l h) fun d => some (d, M3) := rfl
@[simp] theorem ev_rev (a : CE) : ev S (.rev a) ρ M = bnd (ev S a ρ M) fun x M1 => bndO (revD M1 x) fun d => some (d, M1) := rfl
@[simp] theorem ev_call (f : Nat) (es : CEs) : ev S (.call f es) ρ M = bnd (evs S es ρ M) fun ds M1 => S.call f ds M1 := rfl
@[simp] theorem ev_blt (b : Blt) (es : CEs) : ev S (.blt b es) ρ M = bnd (evs S es ρ M) fun ds M1 => bndO (bltD b M1 ds) fun d => some (d, M1) := rfl
@[simp] theorem ev_isi (a : CE) (t : String) : ev S (.isi a t) ρ M = bnd (ev S a ρ M) fun x M1 => bndO (isiD M1 x t) fun k => some (.bl k, M1) := rfl
@[simp] theorem ev_bits (a : CE) : ev S (.bits a) ρ M = bnd (ev S a ρ M) fun x M1 => bndO (bitsD x) fun d => some (d, M1) := rfl
/-- a comprehension's turn -/
def goC (S : Sys) (e : CE) (vs : List Nat) (tg : Tg) (cond : CO) (ρ : Rho) (x : D) (M : Sto) : Re (Option D) := bndO (setT tg x (wipeD ρ vs)) fun ρ1 => bnd (evc S cond ρ1 M) fun k M' => if k = true then bnd (ev S e ρ1 M') fun y M'' => if val y = true then some (some y, M'') else none else some (none, M')
@[simp] theorem ev_comp (e : CE) (vs : List Nat) (tg : Tg) (it : CI) (cond : CO) : ev S (.comp e vs tg it cond) ρ M = bnd (evi S it ρ M) fun xs M1 => bnd (compL (goC S e vs tg cond ρ) xs M1) fun ys M2 => if ys.length ≤ line then some (.lst ys, M2) else none := rfl
@[simp] theorem evs_nil : evs S .nil ρ M = some ([], M) := rfl
@[simp] theorem evs_cons (e : CE) (r : CEs) : evs S (.cons e r) ρ M = bnd (ev S e ρ M) fun x M1 => bnd (evs S r ρ M1) fun xs M2 => some (x :: xs, M2) := rfl
@[simp] theorem evb_one (op : BoolOp) (e : CE) : evb S op (.cons e .nil) ρ M = ev S e ρ M := rfl
@[simp] theorem evb_and (e f : CE) (r : CEs) : evb S .And (.cons e (.cons f r)) ρ M = bnd (ev S e ρ M) fun x M1 => bndO (truD M1 x) fun k => if k = true then evb S .And (.cons f r) ρ M1 else some (x, M1) := rfl
@[simp] theorem evb_or (e f : CE) (r : CEs) : evb S .Or (.cons e (.cons f r)) ρ M = bnd (ev S e ρ M) fun x M1 => bndO (truD M1 x) fun k => if k = true then some (x, M1) else evb S .Or (.cons f r) ρ M1 := rfl
def intO (x : D) (M : Sto) : Re (Option Int) := match x with
  | .int i => some (some i, M)
  | _ => none
@[simp] theorem intO_int (i : Int) : intO (.int i) M = some (some i, M) := rfl
@[simp] theorem evo_no : evo S .no ρ M = some (none, M) := rfl
@[simp] theorem evo_yes (e : CE) : evo S (.yes e) ρ M = bnd (ev S e ρ M) fun x M1 => intO x M1 := rfl
@[simp] theorem evc_no : evc S .no ρ M = some (true, M) := rfl
@[simp] theorem evc_yes (e : CE) : evc S (.yes e) ρ M = bnd (ev S e ρ M) fun x M1 => bndO (truD M1 x) fun k => some (k, M1) := rfl
def exI (x : D) (M : Sto) : Re (List D) := match x with
  | .tup l => some (l, M)
  | .lst l => some (l, M)
  | _ => none
@[simp] theorem exI_tup (l : List D) : exI (.tup l) M = some (l, M) := rfl
@[simp] theorem exI_lst (l : List D) : exI (.lst l) M = some (l, M) := rfl
def rngI (x : D) (M : Sto) : Re (List D) := match x with
  | .int j => if -(2 ^ 62) ≤ j ∧ j < 2 ^ 62 then some ((List.range j.toNat).map (fun k : Nat => D.int (0 + (k : Int))), M) else none
  | _ => none
theorem rngI_int {j : Int} (h : -(2 ^ 62) ≤ j ∧ j < 2 ^ 62) : rngI (.int j) M = some ((List.range j.toNat).map (fun k : Nat => D.int (k : Int)), M) := by
  unfold rngI
  dsimp only
  rw [if_pos h]
  congr 3
  funext k
  rw [Int.zero_add]
theorem rngI_nat {n : Nat} (h : n < 2 ^ 62) : rngI (.int n) M = some ((List.range n).map (fun k : Nat => D.int (k : Int)), M) := by
  rw [rngI_int (by omega), Int.toNat_natCast]
def enumI (x : D) (M : Sto) : Re (List D) := match x with
  | .lst l => some (enumL 0 l, M)
  | _ => none
@[simp] theorem enumI_lst (l : List D) : enumI (.lst l) M = some (enumL 0 l, M) := rfl
def zipI (x y : D) (M : Sto) : Re (List D) := match x, y with
  | .lst l, .lst r => some (zipL l r, M)
  | _, _ => none
@[simp] theorem zipI_lst (l r : List D) : zipI (.lst l) (.lst r) M = some (zipL l r, M) := rfl
@[simp] theorem evi_ex (e : CE) : evi S (.ex e) ρ M = bnd (ev S e ρ M) fun x M1 => exI x M1 := rfl
@[simp] theorem evi_rng (a : CE) : evi S (.rng1 a) ρ M = bnd (ev S a ρ M) fun x M1 => rngI x M1 := by
  have e : ∀ f g : D → Sto → Re (List D), f = g → bnd (ev S a ρ M) f = bnd (ev S a ρ M) g := fun f g h => by rw [h]
  exact e _ _ (by funext x M1; cases x <;> rfl)
@[simp] theorem evi_enum (a : CE) : evi S (.enum a) ρ M = bnd (ev S a ρ M) fun x M1 => enumI x M1 := rfl
@[simp] theorem evi_zip (a b : CE) : evi S (.zip a b) ρ M = bnd (ev S a ρ M) fun x M1 => bnd (ev S b ρ M1) fun y M2 => zipI x y M2 := rfl
/-! statements -/
@[simp] theorem ex_asg (i : Nat) (e : CE) : ex S (.asg i e) ρ M = bndX (ev S e ρ M) fun d M1 => some (.nx (ρ.set i (some d)) M1) := by
  show (match ev S e ρ M with | some (d, M1) => some (Out.nx (ρ.set i (some d)) M1) | none => none) = _
  cases ev S e ρ M <;> rfl
def newR (i : Nat) (ρ : Rho) (d : D) (M : Sto) : Option Out := match d with
  | .lst l => some (.nx (ρ.set i (some (.ref M.length))) (M ++ [.lst l]))
  | _ => none
@[simp] theorem newR_lst (i : Nat) (l : List D) : newR i ρ (.lst l) M = some (.nx (ρ.set i (some (.ref M.length))) (M ++ [.lst l])) := rfl
@[simp] theorem ex_asgR (i : Nat) (e : CE) : ex S (.asgR i e) ρ M = bndX (ev S e ρ M) (newR i ρ) := by
  show (match ev S e ρ M with | some (D.lst l, M1) => some (Out.nx (ρ.set i (some (.ref M1.length))) (M1 ++ [Ob.lst l])) | _ => none) = _
  cases ev S e ρ M with
  | none => rfl
  | some p =>
    obtain ⟨x, M1⟩ := p
    cases x <;> rfl
def spr (l : List Nat) (ρ : Rho) (d : D) (M : Sto) : Option Out := match d with
  | .tup ds => if ds.length = l.length then some (.nx (setN l ds ρ) M) else none
  | _ => none
@[simp] theorem spr_tup (l : List Nat) (ds : List D) : spr l ρ (.tup ds) M = if ds.length = l.length then some (.nx (setN l ds ρ) M) else none := rfl
@[simp] theorem ex_asgT (l : List Nat) (e : CE) : ex S (.asgT l e) ρ M = bndX (ev S e ρ M) (spr l ρ) := by
  show (match ev S e ρ M with | some (D.tup ds, M1) => if ds.length = l.length then some (Out.nx (setN l ds ρ) M1) else none | _ => none) = _
  cases ev S e ρ M with
  | none => rfl
  | some p =>
    obtain ⟨x, M1⟩ := p
    cases x <;> rfl
@[simp] theorem ex_par (i j : Nat) (a b : CE) : ex S (.par i j a b) ρ M = bndX (ev S a ρ M) fun x M1 => bndX (ev S b ρ M1) fun y M2 => some (.nx ((ρ.set i (some x)).set j (some y)) M2) := by
  show (match ev S a ρ M with | some (x, M1) => (match ev S b ρ M1 with | some (y, M2) => some (Out.nx ((ρ.set i (some x)).set j (some y)) M2) | none => none) | none => none) = _
  cases ev S a ρ M with
  | none => rfl
  | some p =>
    show (match ev S b ρ p.2 with | some (y, M2) => some (Out.nx ((ρ.set i (some p.1)).set j (some y)) M2) | none => none) = bndX (ev S b ρ p.2) _
    cases ev S b ρ p.2 <;> rfl
/-- writing into a list -/
def putA (n : Nat) (j : Int) (x : D) (M : Sto) : Option Sto := match M[n]? with
  | some (.lst l) => (match ixN l.length j with
    | some p => if val x = true then some (M.set n (.lst (l.set p x))) else none
    | none => none)
  | _ => none
def putI (o : Option (Option D)) (S : Sys) (k : CE) (ρ : Rho) (x : D) (M1 : Sto) : Option Out := match o with
  | some (some (.ref n)) => bndX (ev S k ρ M1) fun y M2 => (match y with
    | .int j => bndC (putA n j x M2) fun M3 => some (.nx ρ M3)
    | _ => none)
  | _ => none
def putJ (n : Nat) (x : D) (ρ : Rho) (y : D) (M2 : Sto) : Option Out := match y with
    | .int j => bndC (putA n j x M2) fun M3 => some (.nx ρ M3)
    | _ => none
@[simp] theorem putJ_int (n : Nat) (x : D) (j : Int) : putJ n x ρ (.int j) M = bndC (putA n j x M) fun M3 => some (.nx ρ M3) := rfl
@[simp] theorem putI_ref (n : Nat) (k : CE) (x : D) : putI (some (some (.ref n))) S k ρ x M = bndX (ev S k ρ M) (putJ n x ρ) := rfl
@[simp] theorem ex_setI (i : Nat) (k v : CE) : ex S (.setI i k v) ρ M = bndX (ev S v ρ M) fun x M1 => putI ρ[i]? S k ρ x M1 := by
  show (match ev S v ρ M with
    | some (x, M1) => (match ρ[i]? with
      | some (some (.ref n)) => (match ev S k ρ M1 with
        | some (.int j, M2) => (match M2[n]? with
          | some (.lst l) => (match ixN l.length j with
            | some p => if val x = true then some (Out.nx ρ (M2.set n (.lst (l.set p x)))) else none
            | none => none)
          | _ => none)
        | _ => none)
      | _ => none)
    | none => none) = _
  cases ev S v ρ M with
  | none => rfl
  | some p =>
    obtain ⟨x, M1⟩ := p
    show (match ρ[i]? with
      | some (some (.ref n)) => (match ev S k ρ M1 with
        | some (.int j, M2) => (match M2[n]? with
          | some (.lst l) => (match ixN l.length j with
            | some p => if val x = true then some (Out.nx ρ (M2.set n (.lst (l.set p x)))) else none
            | none => none)
          | _ => none)
        | _ => none)
      | _ => none) = putI ρ[i]? S k ρ x M1
    rcases ρ[i]? with _ | _ | d <;> try rfl
    cases d <;> try rfl
    rename_i n
    show (match ev S k ρ M1 with
        | some (.int j, M2) => (match M2[n]? with
          | some (.lst l) => (match ixN l.length j with
            | some p => if val x = true then some (Out.nx ρ (M2.set n (.lst (l.set p x)))) else none
            | none => none)
          | _ => none)
        | _ => none) = bndX (ev S k ρ M1) (putJ n x ρ)
    cases ev S k ρ M1 with
    | none => rfl
    | some q =>
      obtain ⟨y, M2⟩ := q
      cases y <;> try rfl
      rename_i j
      show (match M2[n]? with
          | some (.lst l) => (match ixN l.length j with
            | some p => if val x = true then some (Out.nx ρ (M2.set n (.lst (l.set p x)))) else none
            | none => none)
          | _ => none) = bndC (match M2[n]? with
  | some (.lst l) => (match ixN l.length j with
    | some p => if val x = true then some (M2.set n (.lst (l.set p x))) else none
    | none => none)
  | _ => none) _
      rcases M2[n]? with _ | ob <;> try rfl
      cases ob <;> try rfl
      rename_i l
      show (match ixN l.length j with
            | some p => if val x = true then some (Out.nx ρ (M2.set n (.lst (l.set p x)))) else none
            | none => none) = bndC (match ixN l.length j with
    | some p => if val x = true then some (M2.set n (.lst (l.set p x))) else none
    | none => none) _
      cases ixN l.length j with
      | none => rfl
      | some p =>
        show (if val x = true then some (Out.nx ρ (M2.set n (.lst (l.set p x)))) else none) = bndC (if val x = true then some (M2.set n (.lst (l.set p x))) else none) _
        split <;> rfl
def appI (o : Option (Option D)) (S : Sys) (e : CE) (ρ : Rho) (M : Sto) : Option Out := match o with
  | some (some (.ref n)) => (match M[n]? with
      | some (.lst _) => (match ev S e ρ M with
        | some (x, M1) => (match M1[n]? with
          | some (.lst l) => if l.length < line ∧ val x = true then some (.nx ρ (M1.set n (.lst (l ++ [x])))) else none
          | _ => none)
        | none => none)
      | _ => none)
  | _ => none
@[simp] theorem ex_app (i : Nat) (e : CE) : ex S (.app i e) ρ M = appI ρ[i]? S e ρ M := rfl
@[simp] theorem ex_ife (t : CE) (a b : CSs) : ex S (.ife t a b) ρ M = bndX (ev S t ρ M) fun x M1 => bndC (truD M1 x) fun k => if k = true then exs S a ρ M1 else exs S b ρ M1 := by
  show (match bnd (ev S t ρ M) fun x M1 => bndO (truD M1 x) fun k => some (k, M1) with
    | some (k, M1) => if k = true then exs S a ρ M1 else exs S b ρ M1
    | none => none) = _
  cases ev S t ρ M with
  | none => rfl
  | some p =>
    obtain ⟨x, M1⟩ := p
    show (match bndO (truD M1 x) fun k => some (k, M1) with
      | some (k, M1) => if k = true then exs S a ρ M1 else exs S b ρ M1
      | none => none) = bndC (truD M1 x) _
    cases truD M1 x <;> rfl
/-- a loop's turn -/
def goF (S : Sys) (tg : Tg) (b : CSs) (x : D) (ρ : Rho) (M : Sto) : Option Out := match setT tg x ρ with
  | some ρ1 => exs S b ρ1 M
  | none => none
@[simp] theorem ex_for (tg : Tg) (it : CI) (b : CSs) : ex S (.for tg it b) ρ M = bndX (evi S it ρ M) fun xs M1 => forL (goF S tg b) xs ρ M1 := by
  show (match evi S it ρ M with | some (xs, M1) => forL (goF S tg b) xs ρ M1 | none => none) = _
  cases evi S it ρ M <;> rfl
def testW (S : Sys) (t : CE) (ρ : Rho) (M : Sto) : Re Bool := bnd (ev S t ρ M) fun x M1 => bndO (truD M1 x) fun k => some (k, M1)
@[simp] theorem ex_whl (t : CE) (b : CSs) : ex S (.whl t b) ρ M = whlL (testW S t) (exs S b) S.fuel ρ M := rfl
@[simp] theorem ex_ret (e : CE) : ex S (.ret e) ρ M = bndX (ev S e ρ M) fun d M1 => some (.rt d M1) := by
  show (match ev S e ρ M with | some (d, M1) => some (Out.rt d M1) | none => none) = _
  cases ev S e ρ M <;> rfl
def retI (o : Option (Option D)) (M : Sto) : Option Out := match o with
  | some (some (.ref n)) => some (.rt (.ref n) M)
  | _ => none
@[simp] theorem retI_ref (n : Nat) : retI (some (some (.ref n))) M = some (.rt (.ref n) M) := rfl
@[simp] theorem ex_retR (i : Nat) : ex S (.retR i) ρ M = retI ρ[i]? M := rfl
@[simp] theorem ex_drop (e : CE) : ex S (.drop e) ρ M = bndX (ev S e ρ M) fun _ M1 => some (.nx ρ M1) := by
  show (match ev S e ρ M with | some (_, M1) => some (Out.nx ρ M1) | none => none) = _
  cases ev S e ρ M <;> rfl
@[simp] theorem exs_nil : exs S .nil ρ M = some (.nx ρ M) := rfl
@[simp] theorem exs_cons (s : CS) (r : CSs) : exs S (.cons s r) ρ M = bndS (ex S s ρ M) fun ρ1 M1 => exs S r ρ1 M1 := rfl
/-! values -/
@[simp] theorem val_non : val .non = true := rfl
@[simp] theorem val_bl (b : Bool) : val (.bl b) = true := rfl
@[simp] theorem val_int (b : Int) : val (.int b) = true := rfl
@[simp] theorem val_str (b : Str) : val (.str b) = true := rfl
@[simp] theorem val_tup (b : List D) : val (.tup b) = true := rfl
@[simp] theorem val_lst (b : List D) : val (.lst b) = true := rfl
@[simp] theorem tru_bl (b : Bool) : truD M (.bl b) = some b := rfl
@[simp] theorem tru_int (b : Int) : truD M (.int b) = some (b != 0) := rfl
@[simp] theorem bin_add (a b : Int) : binD .Add M (.int a) (.int b) = some (.int (a + b)) := rfl
@[simp] theorem bin_sub (a b : Int) : binD .Sub M (.int a) (.int b) = some (.int (a - b)) := rfl
@[simp] theorem bin_mul (a b : Int) : binD .Mult M (.int a) (.int b) = if mulOk a b = true then some (.int (a * b)) else none := rfl
@[simp] theorem bin_fdiv (a b : Int) : binD .FloorDiv M (.int a) (.int b) = if divOk b = true then some (.int (a.fdiv b)) else none := rfl
@[simp] theorem bin_mod (a b : Int) : binD .Mod M (.int a) (.int b) = if b ≠ 0 then some (.int (a.fmod b)) else none := rfl
@[simp] theorem bin_pow (a b : Int) : binD .Pow M (.int a) (.int b) = if 0 ≤ b ∧ b ≤ 1000000 ∧ a.natAbs < 2 ^ 64 then some (.int (a ^ b.toNat)) else none := rfl
@[simp] theorem bin_shl (a b : Int) : binD .LShift M (.int a) (.int b) = if 0 ≤ b ∧ b ≤ 1000000 ∧ a.natAbs.log2 < 1000000 then some (.int (a * 2 ^ b.toNat)) else none := rfl
@[simp] theorem bin_addL (a b : List D) : binD .Add M (.lst a) (.lst b) = if a.length + b.length ≤ line then some (.lst (a ++ b)) else none := rfl
@[simp] theorem bin_mulL (a : List D) (k : Int) : binD .Mult M (.lst a) (.int k) = if -(2 ^ 63) ≤ k ∧ k < 2 ^ 63 ∧ a.length * k.toNat ≤ line then some (.lst (List.replicate k.toNat a).flatten) else none := rfl
@[simp] theorem neg_int (a : Int) : negD (.int a) = some (.int (-a)) := rfl
@[simp] theorem cmp_eq (a b : Int) : cmpD .Eq M (.int a) (.int b) = some (decide (a = b)) := rfl
@[simp] theorem cmp_ne (a b : Int) : cmpD .NotEq M (.int a) (.int b) = some (!decide (a = b)) := rfl
@[simp] theorem cmp_eqS (a b : Str) : cmpD .Eq M (.str a) (.str b) = some (decide (a = b)) := rfl
@[simp] theorem cmp_neS (a b : Str) : cmpD .NotEq M (.str a) (.str b) = some (!decide (a = b)) := rfl
@[simp] theorem cmp_lt (a b : Int) : cmpD .Lt M (.int a) (.int b) = some (decide (a < b)) := rfl
@[simp] theorem cmp_le (a b : Int) : cmpD .LtE M (.int a) (.int b) = some (decide (a ≤ b)) := rfl
@[simp] theorem cmp_gt (a b : Int) : cmpD .Gt M (.int a) (.int b) = some (decide (b < a)) := rfl
@[simp] theorem cmp_ge (a b : Int) : cmpD .GtE M (.int a) (.int b) = some (decide (b ≤ a)) := rfl
@[simp] theorem cmp_isB (a b : Bool) : cmpD .Is M (.bl a) (.bl b) = some (decide (a = b)) := rfl
@[simp] theorem cmp_isnB (a b : Bool) : cmpD .IsNot M (.bl a) (.bl b) = some (!decide (a = b)) := rfl
@[simp] theorem cmp_isNon : cmpD .Is M .non .non = some true := rfl
@[simp] theorem cmp_isTup (l : List D) : cmpD .Is M (.tup l) .non = some false := rfl
@[simp] theorem cmp_isnNon : cmpD .IsNot M .non .non = some false := rfl
@[simp] theorem cmp_isnTup (l : List D) : cmpD .IsNot M (.tup l) .non = some true := rfl
@[simp] theorem idx_tup (l : List D) (i : Int) : idxD M (.tup l) (.int i) = atI l i := rfl
@[simp] theorem idx_lst (l : List D) (i : Int) : idxD M (.lst l) (.int i) = atI l i := rfl
theorem atI_nat' (l : List D) (n : Nat) : atI l (n : Int) = l[n]? := by
  cases h : l[n]? with
  | none =>
    have := List.getElem?_eq_none_iff.mp h
    unfold atI ixN
    rw [if_pos (by omega), if_neg (by omega)]
    rfl
  | some x => exact atI_nat h
@[simp] theorem blt_lenT (l : List D) : bltD .len M [.tup l] = some (.int l.length) := rfl
@[simp] theorem blt_lenL (l : List D) : bltD .len M [.lst l] = some (.int l.length) := rfl
@[simp] theorem blt_abs (i : Int) : bltD .abs M [.int i] = some (.int i.natAbs) := by
  show some (D.int (if i < 0 then -i else i)) = _
  congr 2
  split <;> omega
@[simp] theorem blt_max (i j : Int) : bltD .max M [.int i, .int j] = some (.int (max i j)) := by
  show some (D.int (if j > i then j else i)) = _
  congr 2
  split <;> omega
@[simp] theorem blt_min (i j : Int) : bltD .min M [.int i, .int j] = some (.int (min i j)) := by
  show some (D.int (if j < i then j else i)) = _
  congr 2
  split <;> omega
@[simp] theorem blt_int (i : Int) : bltD .int M [.int i] = some (.int i) := rfl
@[simp] theorem blt_gcd (i j : Int) : bltD .gcd M [.int i, .int j] = some (.int (Nat.gcd i.natAbs j.natAbs : Nat)) := rfl
@[simp] theorem blt_listS (l : List Int) : bltD .list M [.scr l] = some (.lst (l.map D.int)) := rfl
@[simp] theorem bits_int (i : Int) : bitsD (.int i) = some (.int (Builtin.Int.intBits i : Nat)) := rfl
@[simp] theorem rev_lst (l : List D) : revD M (.lst l) = some (.lst l.reverse) := rfl
@[simp] theorem forL_nil (f : D → Rho → Sto → Option Out) : forL f [] ρ M = some (.nx ρ M) := rfl
theorem forL_cons (f : D → Rho → Sto → Option Out) (x : D) (r : List D) : forL f (x :: r) ρ M = bndS (f x ρ M) fun ρ1 M1 => forL f r ρ1 M1 := rfl
@[simp] theorem compL_nil (f : D → Sto → Re (Option D)) : compL f [] M = some ([], M) := rfl
/-- turns that leave the store alone -/
theorem compL_map {f : D → Sto → Re (Option D)} {g : D → Option D} : ∀ {xs : List D}, (∀ x ∈ xs, f x M = some (g x, M)) → compL f xs M = some (xs.filterMap g, M)
  | [], _ => rfl
  | x :: xs, h => by
    unfold compL
    rw [h x List.mem_cons_self, bnd_someP, compL_map fun y hy => h y (List.mem_cons_of_mem _ hy), bnd_someP]
    cases hg : g x with
    | none => rw [List.filterMap_cons_none hg]
    | some y => rw [List.filterMap_cons_some hg]
end
section
variable {T : List Fn} {gl : Nat → Option D} {fuel : Nat}
/-- what a call ends with -/
def fin (m : Nat) (fr : Bool) (o : Option Out) : Re D := match o with
  | some (.rt d M1) => (match handed m d M1 with
    | some (.lst l, M2) => some (.lst l, M2)
    | some (d2, M2) => if fr = true then none else some (d2, M2)
    | none => none)
  | some (.nx _ M1) => if fr = true then none else some (.non, M1.take m)
  | none => none
theorem run_call {k f : Nat} {ds : List D} {M : Sto} (F : Fn) (h : T[f]? = some F) (hl : ds.length = F.pars) : run T gl fuel (k + 1) f ds M = fin M.length F.fresh (exs ⟨run T gl fuel k, gl, fuel⟩ F.body (ds.map some ++ List.replicate (F.names - ds.length) none) M) := by
  have e : run T gl fuel (k + 1) f ds M = (match T[f]? with
    | some F => if ds.length = F.pars then fin M.length F.fresh (exs ⟨run T gl fuel k, gl, fuel⟩ F.body (ds.map some ++ List.replicate (F.names - ds.length) none) M) else none
    | none => none) := rfl
  rw [e, h]
  exact if_pos hl
/-- a value that is no list of the store, the store as long as before -/
@[simp] theorem fin_int (m : Nat) (i : Int) (M : Sto) : fin m false (some (.rt (.int i) M)) = some (.int i, M.take m) := rfl
@[simp] theorem fin_bl (m : Nat) (i : Bool) (M : Sto) : fin m false (some (.rt (.bl i) M)) = some (.bl i, M.take m) := rfl
@[simp] theorem fin_non (m : Nat) (M : Sto) : fin m false (some (.rt .non M)) = some (.non, M.take m) := rfl
@[simp] theorem fin_str (m : Nat) (i : Str) (M : Sto) : fin m false (some (.rt (.str i) M)) = some (.str i, M.take m) := rfl
@[simp] theorem fin_tup (m : Nat) (i : List D) (M : Sto) : fin m false (some (.rt (.tup i) M)) = some (.tup i, M.take m) := rfl
@[simp] theorem fin_lst (m : Nat) (fr : Bool) (i : List D) (M : Sto) : fin m fr (some (.rt (.lst i) M)) = some (.lst i, M.take m) := rfl
@[simp] theorem fin_nx (m : Nat) (ρ : Rho) (M : Sto) : fin m false (some (.nx ρ M)) = some (.non, M.take m) := rfl
@[simp] theorem fin_ref (fr : Bool) (l : List D) (M : Sto) : fin M.length fr (some (.rt (.ref M.length) (M ++ [Ob.lst l]))) = some (D.lst l, M) := by
  unfold fin handed
  simp
end
end Mn.Sx
namespace K45
open PySem PySem.Spec PyProof.Rows L2 Mn
def top (i : Nat) : Stmt := PySem.Challenge.pw_nearplain_k45_plain_integrands_and_amoun.main.body.getD i (.Pass ⟨0, 0, 0, 0⟩)
def gls : List (Str × D) := [("GREATEST", .int 1000000000000), ("NONE", .tup [.int 0, .int 1]), ("ONE", .tup [.int 1, .int 1]), ("COEFFICIENT", .int 1000000), ("DEGREE_lines", .int 8), ("NODES", .int 40), ("HEIGHT", .int 12), ("EXPONENT", .int 12), ("END", .tup [.int 8, .int 1]), ("ONE_PART", .tup [.str "abs", .str "atan", .str "cos", .str "exp", .str "log", .str "minus", .str "sin", .str "sqrt"]), ("TWO_PARTS", .tup [.str "by", .str "least", .str "less", .str "most", .str "plus", .str "times"]), ("SMOOTH", .tup [.str "cos", .str "exp", .str "less", .str "minus", .str "number", .str "pi", .str "plus", .str "power", .str "sin", .str "times", .str "unknown"]), ("WAVES", .tup [.str "cos", .str "exp", .str "sin"]), ("STEEP", .int 16), ("SLOPE", .int 50), ("GREAT", .int 64), ("DEGREE_integrands", .int 48), ("WEIGHT", .int 2000), ("WAVE", .int 40), ("FOUR", .tup [.int 4, .int 1])]
/-- is_whole -/
def b_is_whole : CSs := (.cons (.ret (.bool .And (.cons (.isi (.var 0) "int") (.cons (.not (.isi (.var 0) "bool")) (.cons (.chain .LtE .LtE (.var 1) (.var 0) (.var 2)) .nil)))))
      .nil)
def f_is_whole : FnD := ⟨"is_whole", ["value", "low", "high"], ["value", "low", "high"], top 6, ⟨3, 3, b_is_whole, false⟩⟩
abbrev i_is_whole : Nat := 0
/-- is_integer -/
def b_is_integer : CSs := (.cons (.ret (.bool .And (.cons (.isi (.var 0) "int") (.cons (.not (.isi (.var 0) "bool")) .nil))))
      .nil)
def f_is_integer : FnD := ⟨"is_integer", ["value"], ["value"], top 7, ⟨1, 1, b_is_integer, false⟩⟩
abbrev i_is_integer : Nat := 1
/-- is_tuple_of -/
def b_is_tuple_of : CSs := (.cons (.ret (.bool .And (.cons (.isi (.var 0) "tuple") (.cons (.chain .LtE .LtE (.var 1) (.blt .len (.cons (.var 0) .nil)) (.var 2)) .nil))))
      .nil)
def f_is_tuple_of : FnD := ⟨"is_tuple_of", ["value", "low", "high"], ["value", "low", "high"], top 8, ⟨3, 3, b_is_tuple_of, false⟩⟩
abbrev i_is_tuple_of : Nat := 2
/-- made -/
def b_made : CSs := (.cons (.asg 2 (.blt .gcd (.cons (.var 0) (.cons (.var 1) .nil))))
      (.cons (.asg 2 (.ite (.cmp .Gt (.var 1) (.int 0)) (.var 2) (.neg (.var 2))))
      (.cons (.ret (.tup (.cons (.bin .FloorDiv (.var 0) (.var 2)) (.cons (.bin .FloorDiv (.var 1) (.var 2)) .nil))))
      .nil)))
def f_made : FnD := ⟨"made", ["over", "under"], ["over", "under", "common"], top 13, ⟨2, 3, b_made, false⟩⟩
abbrev i_made : Nat := 3
/-- fits_any -/
def b_fits_any : CSs := (.cons (.ife (.bool .Or (.cons (.not (.call 2 (.cons (.var 0) (.cons (.int 2) (.cons (.int 2) .nil))))) (.cons (.not (.call 1 (.cons (.idx (.var 0) (.int 0)) .nil))) (.cons (.not (.call 1 (.cons (.idx (.var 0) (.int 1)) .nil))) .nil)))) (.cons (.ret (.bl false))
      .nil) .nil)
      (.cons (.ret (.bool .And (.cons (.cmp .Gt (.idx (.var 0) (.int 1)) (.int 0)) (.cons (.cmp .Eq (.blt .gcd (.cons (.idx (.var 0) (.int 0)) (.cons (.idx (.var 0) (.int 1)) .nil))) (.int 1)) .nil))))
      .nil))
def f_fits_any : FnD := ⟨"fits_any", ["value"], ["value"], top 14, ⟨1, 1, b_fits_any, false⟩⟩
abbrev i_fits_any : Nat := 4
/-- fits_fraction -/
def b_fits_fraction : CSs := (.cons (.ret (.bool .And (.cons (.call 4 (.cons (.var 0) .nil)) (.cons (.cmp .LtE (.blt .abs (.cons (.idx (.var 0) (.int 0)) .nil)) (.gl 0)) (.cons (.cmp .LtE (.idx (.var 0) (.int 1)) (.gl 0)) .nil)))))
      .nil)
def f_fits_fraction : FnD := ⟨"fits_fraction", ["value"], ["value"], top 15, ⟨1, 1, b_fits_fraction, false⟩⟩
abbrev i_fits_fraction : Nat := 5
/-- plus -/
def b_plus : CSs := (.cons (.ret (.call 3 (.cons (.bin .Add (.bin .Mult (.idx (.var 0) (.int 0)) (.idx (.var 1) (.int 1))) (.bin .Mult (.idx (.var 1) (.int 0)) (.idx (.var 0) (.int 1)))) (.cons (.bin .Mult (.idx (.var 0) (.int 1)) (.idx (.var 1) (.int 1))) .nil))))
      .nil)
def f_plus : FnD := ⟨"plus", ["one", "other"], ["one", "other"], top 16, ⟨2, 2, b_plus, false⟩⟩
abbrev i_plus : Nat := 6
/-- times -/
def b_times : CSs := (.cons (.ret (.call 3 (.cons (.bin .Mult (.idx (.var 0) (.int 0)) (.idx (.var 1) (.int 0))) (.cons (.bin .Mult (.idx (.var 0) (.int 1)) (.idx (.var 1) (.int 1))) .nil))))
      .nil)
def f_times : FnD := ⟨"times", ["one", "other"], ["one", "other"], top 17, ⟨2, 2, b_times, false⟩⟩
abbrev i_times : Nat := 7
/-- is_less -/
def b_is_less : CSs := (.cons (.ret (.cmp .Lt (.bin .Mult (.idx (.var 0) (.int 0)) (.idx (.var 1) (.int 1))) (.bin .Mult (.idx (.var 1) (.int 0)) (.idx (.var 0) (.int 1)))))
      .nil)
def f_is_less : FnD := ⟨"is_less", ["one", "other"], ["one", "other"], top 18, ⟨2, 2, b_is_less, false⟩⟩
abbrev i_is_less : Nat := 8
/-- most -/
def b_most : CSs := (.cons (.ret (.ite (.call 8 (.cons (.var 0) (.cons (.var 1) .nil))) (.var 1) (.var 0)))
      .nil)
def f_most : FnD := ⟨"most", ["one", "other"], ["one", "other"], top 19, ⟨2, 2, b_most, false⟩⟩
abbrev i_most : Nat := 9
/-- amount -/
def b_amount : CSs := (.cons (.ret (.tup (.cons (.blt .abs (.cons (.idx (.var 0) (.int 0)) .nil)) (.cons (.idx (.var 0) (.int 1)) .nil))))
      .nil)
def f_amount : FnD := ⟨"amount", ["one"], ["one"], top 20, ⟨1, 1, b_amount, false⟩⟩
abbrev i_amount : Nat := 10
/-- two_to -/
def b_two_to : CSs := (.cons (.ret (.ite (.cmp .GtE (.var 0) (.int 0)) (.tup (.cons (.bin .LShift (.int 1) (.var 0)) (.cons (.int 1) .nil))) (.tup (.cons (.int 1) (.cons (.bin .LShift (.int 1) (.neg (.var 0))) .nil)))))
      .nil)
def f_two_to : FnD := ⟨"two_to", ["many"], ["many"], top 21, ⟨1, 1, b_two_to, false⟩⟩
abbrev i_two_to : Nat := 11
/-- fits_line -/
def b_fits_line : CSs := (.cons (.ife (.bool .Or (.cons (.not (.call 2 (.cons (.var 0) (.cons (.int 0) (.cons (.bin .Add (.gl 4) (.int 1)) .nil))))) (.cons (.not (.blt .all (.cons (.comp (.call 0 (.cons (.var 1) (.cons (.neg (.gl 3)) (.cons (.gl 3) .nil)))) [1] (.name 1) (.ex (.var 0)) .no) .nil))) .nil))) (.cons (.ret (.bl false))
      .nil) .nil)
      (.cons (.ret (.bool .Or (.cons (.cmp .Eq (.var 0) (.tup .nil)) (.cons (.cmp .NotEq (.idx (.var 0) (.neg (.int 1))) (.int 0)) .nil))))
      .nil))
def f_fits_line : FnD := ⟨"fits_line", ["value"], ["value", "own"], top 25, ⟨1, 2, b_fits_line, false⟩⟩
abbrev i_fits_line : Nat := 12
/-- is_end -/
def b_is_end : CSs := (.cons (.ret (.bool .And (.cons (.call 5 (.cons (.var 0) .nil)) (.cons (.not (.call 8 (.cons (.gl 8) (.cons (.call 3 (.cons (.blt .abs (.cons (.idx (.var 0) (.int 0)) .nil)) (.cons (.idx (.var 0) (.int 1)) .nil))) .nil)))) .nil))))
      .nil)
def f_is_end : FnD := ⟨"is_end", ["value"], ["value"], top 34, ⟨1, 1, b_is_end, false⟩⟩
abbrev i_is_end : Nat := 13
/-- is_leaf -/
def b_is_leaf : CSs := (.cons (.ife (.cmp .Eq (.idx (.var 0) (.int 0)) (.str "number")) (.cons (.ret (.bool .And (.cons (.cmp .Eq (.blt .len (.cons (.var 0) .nil)) (.int 2)) (.cons (.call 5 (.cons (.idx (.var 0) (.int 1)) .nil)) .nil))))
      .nil) .nil)
      (.cons (.ife (.cmp .In (.idx (.var 0) (.int 0)) (.tup (.cons (.str "pi") (.cons (.str "unknown") .nil)))) (.cons (.ret (.bool .And (.cons (.cmp .Eq (.blt .len (.cons (.var 0) .nil)) (.int 1)) (.cons (.bool .Or (.cons (.cmp .Eq (.idx (.var 0) (.int 0)) (.str "pi")) (.cons (.var 1) .nil))) .nil))))
      .nil) .nil)
      (.cons (.ife (.bool .Or (.cons (.cmp .NotEq (.idx (.var 0) (.int 0)) (.str "root")) (.cons (.cmp .NotEq (.blt .len (.cons (.var 0) .nil)) (.int 3)) .nil))) (.cons (.ret (.bl false))
      .nil) .nil)
      (.cons (.ret (.bool .And (.cons (.call 12 (.cons (.idx (.var 0) (.int 1)) .nil)) (.cons (.cmp .Gt (.blt .len (.cons (.idx (.var 0) (.int 1)) .nil)) (.int 1)) (.cons (.call 0 (.cons (.idx (.var 0) (.int 2)) (.cons (.int 0) (.cons (.bin .Sub (.gl 4) (.int 1)) .nil)))) .nil)))))
      .nil))))
def f_is_leaf : FnD := ⟨"is_leaf", ["value", "is_integrand"], ["value", "is_integrand"], top 35, ⟨2, 2, b_is_leaf, false⟩⟩
abbrev i_is_leaf : Nat := 14
/-- left_of -/
def b_left_of : CSs := (.cons (.ife (.bool .Or (.cons (.cmp .Eq (.var 1) (.int 0)) (.cons (.cmp .Eq (.var 2) (.int 0)) (.cons (.not (.call 2 (.cons (.var 0) (.cons (.int 1) (.cons (.int 4) .nil))))) (.cons (.not (.isi (.idx (.var 0) (.int 0)) "str")) .nil))))) (.cons (.ret (.neg (.int 1)))
      .nil) .nil)
      (.cons (.ife (.bool .And (.cons (.var 3) (.cons (.cmp .NotIn (.idx (.var 0) (.int 0)) (.gl 11)) .nil))) (.cons (.ret (.neg (.int 1)))
      .nil) .nil)
      (.cons (.ife (.bool .And (.cons (.cmp .In (.idx (.var 0) (.int 0)) (.gl 9)) (.cons (.cmp .Eq (.blt .len (.cons (.var 0) .nil)) (.int 2)) .nil))) (.cons (.ret (.call 15 (.cons (.idx (.var 0) (.int 1)) (.cons (.bin .Sub (.var 1) (.int 1)) (.cons (.bin .Sub (.var 2) (.int 1)) (.cons (.var 3) .nil))))))
      .nil) .nil)
      (.cons (.ife (.bool .And (.cons (.cmp .Eq (.idx (.var 0) (.int 0)) (.str "power")) (.cons (.cmp .Eq (.blt .len (.cons (.var 0) .nil)) (.int 3)) .nil))) (.cons (.ret (.ite (.call 0 (.cons (.idx (.var 0) (.int 2)) (.cons (.int 0) (.cons (.gl 7) .nil)))) (.call 15 (.cons (.idx (.var 0) (.int 1)) (.cons (.bin .Sub (.var 1) (.int 1)) (.cons (.bin .Sub (.var 2) (.int 1)) (.cons (.var 3) .nil))))) (.neg (.int 1))))
      .nil) .nil)
      (.cons (.ife (.bool .And (.cons (.cmp .In (.idx (.var 0) (.int 0)) (.gl 10)) (.cons (.cmp .Eq (.blt .len (.cons (.var 0) .nil)) (.int 3)) .nil))) (.cons (.asg 4 (.call 15 (.cons (.idx (.var 0) (.int 1)) (.cons (.bin .Sub (.var 1) (.int 1)) (.cons (.bin .Sub (.var 2) (.int 1)) (.cons (.var 3) .nil))))))
      (.cons (.ret (.ite (.cmp .GtE (.var 4) (.int 0)) (.call 15 (.cons (.idx (.var 0) (.int 2)) (.cons (.bin .Sub (.var 1) (.int 1)) (.cons (.var 4) (.cons (.var 3) .nil))))) (.neg (.int 1))))
      .nil)) .nil)
      (.cons (.ife (.bool .And (.cons (.cmp .Eq (.idx (.var 0) (.int 0)) (.str "area")) (.cons (.cmp .Eq (.blt .len (.cons (.var 0) .nil)) (.int 4)) .nil))) (.cons (.ife (.bool .Or (.cons (.not (.call 13 (.cons (.idx (.var 0) (.int 2)) .nil))) (.cons (.not (.call 13 (.cons (.idx (.var 0) (.int 3)) .nil))) .nil))) (.cons (.ret (.neg (.int 1)))
      .nil) .nil)
      (.cons (.ret (.call 15 (.cons (.idx (.var 0) (.int 1)) (.cons (.bin .Sub (.var 1) (.int 1)) (.cons (.bin .Sub (.var 2) (.int 1)) (.cons (.bl true) .nil))))))
      .nil)) .nil)
      (.cons (.ret (.ite (.call 14 (.cons (.var 0) (.cons (.var 3) .nil))) (.bin .Sub (.var 2) (.int 1)) (.neg (.int 1))))
      .nil)))))))
def f_left_of : FnD := ⟨"left_of", ["value", "high", "many", "is_integrand"], ["value", "high", "many", "is_integrand", "rest"], top 36, ⟨4, 5, b_left_of, false⟩⟩
abbrev i_left_of : Nat := 15
/-- fits_tree -/
def b_fits_tree : CSs := (.cons (.ret (.cmp .GtE (.call 15 (.cons (.var 0) (.cons (.gl 6) (.cons (.gl 5) (.cons (.bl false) .nil))))) (.int 0)))
      .nil)
def f_fits_tree : FnD := ⟨"fits_tree", ["value"], ["value"], top 37, ⟨1, 1, b_fits_tree, false⟩⟩
abbrev i_fits_tree : Nat := 16
/-- fits_integrand -/
def b_fits_integrand : CSs := (.cons (.ret (.cmp .GtE (.call 15 (.cons (.var 0) (.cons (.gl 6) (.cons (.gl 5) (.cons (.bl true) .nil))))) (.int 0)))
      .nil)
def f_fits_integrand : FnD := ⟨"fits_integrand", ["value"], ["value"], top 38, ⟨1, 1, b_fits_integrand, false⟩⟩
abbrev i_fits_integrand : Nat := 17
/-- inner -/
def b_inner : CSs := (.cons (.ife (.bool .Or (.cons (.cmp .In (.idx (.var 0) (.int 0)) (.gl 9)) (.cons (.cmp .In (.idx (.var 0) (.int 0)) (.tup (.cons (.str "area") (.cons (.str "power") .nil)))) .nil))) (.cons (.ret (.tup (.cons (.idx (.var 0) (.int 1)) .nil)))
      .nil) .nil)
      (.cons (.ret (.ite (.cmp .In (.idx (.var 0) (.int 0)) (.gl 10)) (.cut (.var 0) (.yes (.int 1)) .no) (.tup .nil)))
      .nil))
def f_inner : FnD := ⟨"inner", ["tree"], ["tree"], top 39, ⟨1, 1, b_inner, false⟩⟩
abbrev i_inner : Nat := 18
/-- parts -/
def b_parts : CSs := (.cons (.asg 1 (.lst (.cons (.var 0) .nil)))
      (.cons (.for (.name 2) (.ex (.call 18 (.cons (.var 0) .nil))) (.cons (.asg 1 (.bin .Add (.var 1) (.call 19 (.cons (.var 2) .nil))))
      .nil))
      (.cons (.ret (.var 1))
      .nil)))
def f_parts : FnD := ⟨"parts", ["tree"], ["tree", "found", "part"], top 40, ⟨1, 3, b_parts, false⟩⟩
abbrev i_parts : Nat := 19
/-- power_of -/
def b_power_of : CSs := (.cons (.asg 2 (.gl 2))
      (.cons (.for (.name 3) (.rng1 (.var 1)) (.cons (.asg 2 (.call 7 (.cons (.var 2) (.cons (.var 0) .nil))))
      .nil))
      (.cons (.ret (.var 2))
      .nil)))
def f_power_of : FnD := ⟨"power_of", ["one", "many"], ["one", "many", "found", "turn"], top 50, ⟨2, 4, b_power_of, false⟩⟩
abbrev i_power_of : Nat := 20
/-- figures -/
def b_figures : CSs := (.cons (.ret (.bin .Add (.bits (.blt .abs (.cons (.idx (.var 0) (.int 0)) .nil))) (.bits (.idx (.var 0) (.int 1)))))
      .nil)
def f_figures : FnD := ⟨"figures", ["one"], ["one"], top 51, ⟨1, 1, b_figures, false⟩⟩
abbrev i_figures : Nat := 21
/-- leaf_measures -/
def b_leaf_measures : CSs := (.cons (.ife (.cmp .Eq (.idx (.var 0) (.int 0)) (.str "number")) (.cons (.ret (.tup (.cons (.call 10 (.cons (.idx (.var 0) (.int 1)) .nil)) (.cons (.gl 1) (.cons (.int 0) (.cons (.call 21 (.cons (.idx (.var 0) (.int 1)) .nil)) .nil))))))
      .nil) .nil)
      (.cons (.ife (.cmp .Eq (.idx (.var 0) (.int 0)) (.str "pi")) (.cons (.ret (.tup (.cons (.gl 19) (.cons (.gl 1) (.cons (.int 0) (.cons (.int 1) .nil))))))
      .nil) .nil)
      (.cons (.ret (.tup (.cons (.call 9 (.cons (.call 10 (.cons (.idx (.var 1) (.int 0)) .nil)) (.cons (.call 10 (.cons (.idx (.var 1) (.int 1)) .nil)) .nil))) (.cons (.gl 2) (.cons (.int 1) (.cons (.blt .max (.cons (.call 21 (.cons (.idx (.var 1) (.int 0)) .nil)) (.cons (.call 21 (.cons (.idx (.var 1) (.int 1)) .nil)) .nil))) .nil))))))
      .nil)))
def f_leaf_measures : FnD := ⟨"leaf_measures", ["integrand", "ends"], ["integrand", "ends"], top 52, ⟨2, 2, b_leaf_measures, false⟩⟩
abbrev i_leaf_measures : Nat := 22
/-- wave_measures -/
def b_wave_measures : CSs := (.cons (.ife (.call 8 (.cons (.tup (.cons (.gl 13) (.cons (.int 1) .nil))) (.cons (.idx (.var 1) (.int 0)) .nil))) (.cons .fail
      .nil) .nil)
      (.cons (.ife (.call 8 (.cons (.tup (.cons (.gl 14) (.cons (.int 1) .nil))) (.cons (.idx (.var 1) (.int 1)) .nil))) (.cons .fail
      .nil) .nil)
      (.cons (.asg 2 (.ite (.cmp .Eq (.var 0) (.str "exp")) (.call 11 (.cons (.bin .Mult (.int 2) (.neg (.bin .FloorDiv (.neg (.idx (.idx (.var 1) (.int 0)) (.int 0))) (.idx (.idx (.var 1) (.int 0)) (.int 1))))) .nil)) (.gl 2)))
      (.cons (.ret (.tup (.cons (.var 2) (.cons (.call 7 (.cons (.var 2) (.cons (.idx (.var 1) (.int 1)) .nil))) (.cons (.idx (.var 1) (.int 2)) (.cons (.gl 18) .nil))))))
      .nil))))
def f_wave_measures : FnD := ⟨"wave_measures", ["sort", "one"], ["sort", "one", "own"], top 53, ⟨2, 3, b_wave_measures, false⟩⟩
abbrev i_wave_measures : Nat := 23
/-- power_measures -/
def b_power_measures : CSs := (.cons (.ife (.cmp .Eq (.var 1) (.int 0)) (.cons (.ret (.tup (.cons (.gl 2) (.cons (.gl 1) (.cons (.int 0) (.cons (.int 1) .nil))))))
      .nil) .nil)
      (.cons (.asg 2 (.call 20 (.cons (.idx (.var 0) (.int 0)) (.cons (.bin .Sub (.var 1) (.int 1)) .nil))))
      (.cons (.ret (.tup (.cons (.call 7 (.cons (.var 2) (.cons (.idx (.var 0) (.int 0)) .nil))) (.cons (.call 7 (.cons (.tup (.cons (.var 1) (.cons (.int 1) .nil))) (.cons (.call 7 (.cons (.var 2) (.cons (.idx (.var 0) (.int 1)) .nil))) .nil))) (.cons (.bin .Mult (.idx (.var 0) (.int 2)) (.var 1)) (.cons (.bin .Add (.bin .Mult (.idx (.var 0) (.int 3)) (.var 1)) (.int 1)) .nil))))))
      .nil)))
def f_power_measures : FnD := ⟨"power_measures", ["one", "many"], ["one", "many", "below"], top 54, ⟨2, 3, b_power_measures, false⟩⟩
abbrev i_power_measures : Nat := 24
/-- pair_measures -/
def b_pair_measures : CSs := (.cons (.ife (.cmp .Eq (.var 0) (.str "times")) (.cons (.asg 3 (.call 6 (.cons (.call 7 (.cons (.idx (.var 1) (.int 0)) (.cons (.idx (.var 2) (.int 1)) .nil))) (.cons (.call 7 (.cons (.idx (.var 1) (.int 1)) (.cons (.idx (.var 2) (.int 0)) .nil))) .nil))))
      (.cons (.ret (.tup (.cons (.call 7 (.cons (.idx (.var 1) (.int 0)) (.cons (.idx (.var 2) (.int 0)) .nil))) (.cons (.var 3) (.cons (.bin .Add (.idx (.var 1) (.int 2)) (.idx (.var 2) (.int 2))) (.cons (.bin .Add (.idx (.var 1) (.int 3)) (.idx (.var 2) (.int 3))) .nil))))))
      .nil)) .nil)
      (.cons (.ret (.tup (.cons (.call 6 (.cons (.idx (.var 1) (.int 0)) (.cons (.idx (.var 2) (.int 0)) .nil))) (.cons (.call 6 (.cons (.idx (.var 1) (.int 1)) (.cons (.idx (.var 2) (.int 1)) .nil))) (.cons (.blt .max (.cons (.idx (.var 1) (.int 2)) (.cons (.idx (.var 2) (.int 2)) .nil))) (.cons (.bin .Add (.bin .Add (.idx (.var 1) (.int 3)) (.idx (.var 2) (.int 3))) (.int 1)) .nil))))))
      .nil))
def f_pair_measures : FnD := ⟨"pair_measures", ["sort", "one", "other"], ["sort", "one", "other", "slope"], top 55, ⟨3, 4, b_pair_measures, false⟩⟩
abbrev i_pair_measures : Nat := 25
/-- node_measures -/
def b_node_measures : CSs := (.cons (.asg 3 (.idx (.var 0) (.int 0)))
      (.cons (.ife (.cmp .Eq (.var 1) (.lst .nil)) (.cons (.ret (.call 22 (.cons (.var 0) (.cons (.var 2) .nil))))
      .nil) .nil)
      (.cons (.ife (.cmp .In (.var 3) (.gl 12)) (.cons (.ret (.call 23 (.cons (.var 3) (.cons (.idx (.var 1) (.int 0)) .nil))))
      .nil) .nil)
      (.cons (.ife (.cmp .Eq (.var 3) (.str "power")) (.cons (.ret (.call 24 (.cons (.idx (.var 1) (.int 0)) (.cons (.idx (.var 0) (.int 2)) .nil))))
      .nil) .nil)
      (.cons (.ret (.ite (.cmp .Eq (.var 3) (.str "minus")) (.idx (.var 1) (.int 0)) (.call 25 (.cons (.var 3) (.cons (.idx (.var 1) (.int 0)) (.cons (.idx (.var 1) (.int 1)) .nil))))))
      .nil)))))
def f_node_measures : FnD := ⟨"node_measures", ["integrand", "found", "ends"], ["integrand", "found", "ends", "sort"], top 56, ⟨3, 4, b_node_measures, false⟩⟩
abbrev i_node_measures : Nat := 26
/-- measured -/
def b_measured : CSs := (.cons (.asg 2 (.idx (.var 0) (.int 0)))
      (.cons (.asg 3 (.ite (.cmp .In (.var 2) (.tup (.cons (.str "less") (.cons (.str "plus") (.cons (.str "times") .nil))))) (.cut (.var 0) (.yes (.int 1)) .no) (.cut (.var 0) (.yes (.int 1)) (.yes (.int 2)))))
      (.cons (.asg 4 (.ite (.cmp .NotIn (.var 2) (.tup (.cons (.str "number") (.cons (.str "pi") (.cons (.str "unknown") .nil))))) (.comp (.call 27 (.cons (.var 6) (.cons (.var 1) .nil))) [6] (.name 6) (.ex (.var 3)) .no) (.lst .nil)))
      (.cons (.asg 5 (.call 26 (.cons (.var 0) (.cons (.var 4) (.cons (.var 1) .nil)))))
      (.cons (.ife (.call 8 (.cons (.call 11 (.cons (.gl 15) .nil)) (.cons (.idx (.var 5) (.int 0)) .nil))) (.cons .fail
      .nil) .nil)
      (.cons (.ife (.cmp .Gt (.idx (.var 5) (.int 2)) (.gl 16)) (.cons .fail
      .nil) .nil)
      (.cons (.ife (.cmp .Gt (.idx (.var 5) (.int 3)) (.gl 17)) (.cons .fail
      .nil) .nil)
      (.cons (.ret (.var 5))
      .nil))))))))
def f_measured : FnD := ⟨"measured", ["integrand", "ends"], ["integrand", "ends", "sort", "some", "found", "told", "own"], top 57, ⟨2, 7, b_measured, false⟩⟩
abbrev i_measured : Nat := 27
/-- is_plain_in -/
def b_is_plain_in : CSs := (.cons (.ret (.blt .all (.cons (.comp (.bool .And (.cons (.cmp .NotIn (.idx (.var 1) (.int 0)) (.gl 12)) (.cons (.cmp .NotEq (.idx (.var 1) (.int 0)) (.str "pi")) .nil))) [1] (.name 1) (.ex (.call 19 (.cons (.var 0) .nil))) .no) .nil)))
      .nil)
def f_is_plain_in : FnD := ⟨"is_plain_in", ["integrand"], ["integrand", "own"], top 58, ⟨1, 2, b_is_plain_in, false⟩⟩
abbrev i_is_plain_in : Nat := 28
/-- summed -/
def b_summed : CSs := (.cons (.asg 2 (.blt .max (.cons (.blt .len (.cons (.var 0) .nil)) (.cons (.blt .len (.cons (.var 1) .nil)) .nil))))
      (.cons (.par 3 4 (.bin .Add (.var 0) (.bin .Mult (.lst (.cons (.gl 1) .nil)) (.bin .Sub (.var 2) (.blt .len (.cons (.var 0) .nil))))) (.bin .Add (.var 1) (.bin .Mult (.lst (.cons (.gl 1) .nil)) (.bin .Sub (.var 2) (.blt .len (.cons (.var 1) .nil))))))
      (.cons (.ret (.comp (.call 6 (.cons (.var 5) (.cons (.var 6) .nil))) [5, 6] (.tup [5, 6]) (.zip (.var 3) (.var 4)) .no))
      .nil)))
def f_summed : FnD := ⟨"summed", ["one", "other"], ["one", "other", "many", "first", "second", "low", "high"], top 59, ⟨2, 7, b_summed, false⟩⟩
abbrev i_summed : Nat := 29
/-- multiplied -/
def b_multiplied : CSs := (.cons (.asgR 2 (.bin .Mult (.lst (.cons (.gl 1) .nil)) (.bin .Sub (.bin .Add (.blt .len (.cons (.var 0) .nil)) (.blt .len (.cons (.var 1) .nil))) (.int 1))))
      (.cons (.for (.tup [3, 4]) (.enum (.var 0)) (.cons (.for (.tup [5, 6]) (.enum (.var 1)) (.cons (.setI 2 (.bin .Add (.var 3) (.var 5)) (.call 6 (.cons (.idx (.var 2) (.bin .Add (.var 3) (.var 5))) (.cons (.call 7 (.cons (.var 4) (.cons (.var 6) .nil))) .nil))))
      .nil))
      .nil))
      (.cons (.ret (.var 2))
      .nil)))
def f_multiplied : FnD := ⟨"multiplied", ["one", "other"], ["one", "other", "found", "low", "first", "high", "second"], top 60, ⟨2, 7, b_multiplied, false⟩⟩
abbrev i_multiplied : Nat := 30
/-- polynomial_of -/
def b_polynomial_of : CSs := (.cons (.asg 1 (.idx (.var 0) (.int 0)))
      (.cons (.ife (.cmp .In (.var 1) (.tup (.cons (.str "number") (.cons (.str "unknown") .nil)))) (.cons (.ret (.ite (.cmp .Eq (.var 1) (.str "number")) (.lst (.cons (.idx (.var 0) (.int 1)) .nil)) (.lst (.cons (.gl 1) (.cons (.gl 2) .nil)))))
      .nil) .nil)
      (.cons (.asg 2 (.call 31 (.cons (.idx (.var 0) (.int 1)) .nil)))
      (.cons (.ife (.cmp .Eq (.var 1) (.str "minus")) (.cons (.ret (.comp (.call 7 (.cons (.tup (.cons (.neg (.int 1)) (.cons (.int 1) .nil))) (.cons (.var 6) .nil))) [6] (.name 6) (.ex (.var 2)) .no))
      .nil) .nil)
      (.cons (.ife (.cmp .Eq (.var 1) (.str "power")) (.cons (.asg 4 (.lst (.cons (.gl 2) .nil)))
      (.cons (.for (.name 5) (.rng1 (.idx (.var 0) (.int 2))) (.cons (.asg 4 (.call 30 (.cons (.var 4) (.cons (.var 2) .nil))))
      .nil))
      (.cons (.ret (.var 4))
      .nil))) .nil)
      (.cons (.asg 3 (.call 31 (.cons (.idx (.var 0) (.int 2)) .nil)))
      (.cons (.ife (.cmp .Eq (.var 1) (.str "times")) (.cons (.ret (.call 30 (.cons (.var 2) (.cons (.var 3) .nil))))
      .nil) .nil)
      (.cons (.ret (.call 29 (.cons (.var 2) (.cons (.ite (.cmp .Eq (.var 1) (.str "plus")) (.var 3) (.comp (.call 7 (.cons (.tup (.cons (.neg (.int 1)) (.cons (.int 1) .nil))) (.cons (.var 6) .nil))) [6] (.name 6) (.ex (.var 3)) .no)) .nil))))
      .nil))))))))
def f_polynomial_of : FnD := ⟨"polynomial_of", ["integrand"], ["integrand", "sort", "one", "other", "found", "turn", "own"], top 61, ⟨1, 7, b_polynomial_of, false⟩⟩
abbrev i_polynomial_of : Nat := 31
/-- value_at -/
def b_value_at : CSs := (.cons (.asg 2 (.gl 1))
      (.cons (.for (.name 3) (.ex (.rev (.var 0))) (.cons (.asg 2 (.call 6 (.cons (.call 7 (.cons (.var 2) (.cons (.var 1) .nil))) (.cons (.var 3) .nil))))
      .nil))
      (.cons (.ret (.var 2))
      .nil)))
def f_value_at : FnD := ⟨"value_at", ["line", "at"], ["line", "at", "found", "own"], top 62, ⟨2, 4, b_value_at, false⟩⟩
abbrev i_value_at : Nat := 32
/-- plain_in -/
def b_plain_in : CSs := (.cons (.asg 1 (.bin .Add (.lst (.cons (.gl 1) .nil)) (.comp (.call 7 (.cons (.var 3) (.cons (.tup (.cons (.int 1) (.cons (.bin .Add (.var 2) (.int 1)) .nil))) .nil))) [2, 3] (.tup [2, 3]) (.enum (.call 31 (.cons (.idx (.var 0) (.int 1)) .nil))) .no)))
      (.cons (.ret (.call 6 (.cons (.call 32 (.cons (.var 1) (.cons (.idx (.var 0) (.int 3)) .nil))) (.cons (.call 7 (.cons (.tup (.cons (.neg (.int 1)) (.cons (.int 1) .nil))) (.cons (.call 32 (.cons (.var 1) (.cons (.idx (.var 0) (.int 2)) .nil))) .nil))) .nil))))
      .nil))
def f_plain_in : FnD := ⟨"plain_in", ["area"], ["area", "line", "at", "own"], top 63, ⟨1, 4, b_plain_in, false⟩⟩
abbrev i_plain_in : Nat := 33
/-- need_integrand -/
def b_need_integrand : CSs := (.cons (.ife (.not (.call 17 (.cons (.var 0) .nil))) (.cons .fail
      .nil) .nil)
      .nil)
def f_need_integrand : FnD := ⟨"need_integrand", ["value"], ["value"], top 64, ⟨1, 1, b_need_integrand, false⟩⟩
abbrev i_need_integrand : Nat := 34
/-- need_area -/
def b_need_area : CSs := (.cons (.ife (.bool .Or (.cons (.not (.call 16 (.cons (.var 0) .nil))) (.cons (.cmp .NotEq (.idx (.var 0) (.int 0)) (.str "area")) .nil))) (.cons .fail
      .nil) .nil)
      (.cons (.drop (.call 27 (.cons (.idx (.var 0) (.int 1)) (.cons (.cut (.var 0) (.yes (.int 2)) .no) .nil))))
      .nil))
def f_need_area : FnD := ⟨"need_area", ["value"], ["value"], top 65, ⟨1, 1, b_need_area, false⟩⟩
abbrev i_need_area : Nat := 35
/-- is_plain -/
def b_is_plain : CSs := (.cons (.drop (.call 34 (.cons (.var 0) .nil)))
      (.cons (.ret (.call 28 (.cons (.var 0) .nil)))
      .nil))
def f_is_plain : FnD := ⟨"is_plain", ["integrand"], ["integrand"], top 66, ⟨1, 1, b_is_plain, false⟩⟩
abbrev i_is_plain : Nat := 36
/-- area_amount -/
def b_area_amount : CSs := (.cons (.drop (.call 35 (.cons (.var 0) .nil)))
      (.cons (.ret (.idx (.call 27 (.cons (.idx (.var 0) (.int 1)) (.cons (.cut (.var 0) (.yes (.int 2)) .no) .nil))) (.int 0)))
      .nil))
def f_area_amount : FnD := ⟨"area_amount", ["area"], ["area"], top 67, ⟨1, 1, b_area_amount, false⟩⟩
abbrev i_area_amount : Nat := 37
/-- plain_area -/
def b_plain_area : CSs := (.cons (.drop (.call 35 (.cons (.var 0) .nil)))
      (.cons (.ret (.ite (.call 28 (.cons (.idx (.var 0) (.int 1)) .nil)) (.call 33 (.cons (.var 0) .nil)) .non))
      .nil))
def f_plain_area : FnD := ⟨"plain_area", ["area"], ["area"], top 68, ⟨1, 1, b_plain_area, false⟩⟩
abbrev i_plain_area : Nat := 38
/-- _law_cup -/
def b__law_cup : CSs := (.cons (.asg 1 (.blt .abs (.cons (.idx (.bin .Add (.blt .list (.cons (.var 0) .nil)) (.lst (.cons (.int 0) .nil))) (.int 0)) .nil)))
      (.cons (.ret (.lst (.cons (.ite (.cmp .GtE (.var 1) (.bin .Pow (.int 10) (.int 18))) (.bin .FloorDiv (.var 1) (.int 83)) (.int 0)) (.cons (.bin .Add (.bin .Mod (.blt .int (.cons (.bin .Add (.bin .Mult (.var 1) (.int 307)) (.int 2707)) .nil)) (.int 2077503121)) (.int 181)) .nil))))
      .nil))
def f__law_cup : FnD := ⟨"_law_cup", ["script"], ["script", "cell"], top 70, ⟨1, 2, b__law_cup, true⟩⟩
abbrev i__law_cup : Nat := 39
/-- _law_roll -/
def b__law_roll : CSs := (.cons (.ife (.cmp .Gt (.idx (.var 0) (.int 0)) (.int 0)) (.cons (.asg 3 (.bin .Mod (.blt .int (.cons (.idx (.var 0) (.int 0)) .nil)) (.var 1)))
      (.cons (.setI 0 (.int 0) (.bin .FloorDiv (.idx (.var 0) (.int 0)) (.var 1)))
      (.cons (.ret (.var 3))
      .nil))) .nil)
      (.cons (.setI 0 (.int 1) (.bin .Mod (.blt .int (.cons (.bin .Add (.bin .Mult (.idx (.var 0) (.int 1)) (.int 31081)) (.int 8039)) .nil)) (.int 2147483543)))
      (.cons (.asg 2 (.bin .Mod (.blt .int (.cons (.bin .Mult (.idx (.var 0) (.int 1)) (.bin .Add (.idx (.var 0) (.int 1)) (.int 251))) .nil)) (.int 2147483587)))
      (.cons (.ret (.bin .Mod (.blt .int (.cons (.bin .FloorDiv (.var 2) (.int 839)) .nil)) (.var 1)))
      .nil))))
def f__law_roll : FnD := ⟨"_law_roll", ["cup", "many"], ["cup", "many", "deep", "found"], top 71, ⟨2, 4, b__law_roll, false⟩⟩
abbrev i__law_roll : Nat := 40
/-- _law_some -/
def b__law_some : CSs := (.cons (.ret (.idx (.var 1) (.call 40 (.cons (.var 0) (.cons (.blt .len (.cons (.var 1) .nil)) .nil)))))
      .nil)
def f__law_some : FnD := ⟨"_law_some", ["cup", "things"], ["cup", "things"], top 72, ⟨2, 2, b__law_some, false⟩⟩
abbrev i__law_some : Nat := 41
/-- _law_common -/
def b__law_common : CSs := (.cons (.whl (.var 1) (.cons (.par 0 1 (.var 1) (.bin .Mod (.blt .int (.cons (.var 0) .nil)) (.var 1)))
      .nil))
      (.cons (.ret (.ite (.cmp .Gt (.var 0) (.int 0)) (.var 0) (.neg (.var 0))))
      .nil))
def f__law_common : FnD := ⟨"_law_common", ["one", "other"], ["one", "other"], top 73, ⟨2, 2, b__law_common, false⟩⟩
abbrev i__law_common : Nat := 42
/-- _law_made -/
def b__law_made : CSs := (.cons (.asg 2 (.call 42 (.cons (.var 0) (.cons (.var 1) .nil))))
      (.cons (.asg 2 (.ite (.cmp .Gt (.var 1) (.int 0)) (.var 2) (.neg (.var 2))))
      (.cons (.ret (.tup (.cons (.bin .FloorDiv (.var 0) (.var 2)) (.cons (.bin .FloorDiv (.var 1) (.var 2)) .nil))))
      .nil)))
def f__law_made : FnD := ⟨"_law_made", ["over", "under"], ["over", "under", "common"], top 74, ⟨2, 3, b__law_made, false⟩⟩
abbrev i__law_made : Nat := 43
/-- _law_plus -/
def b__law_plus : CSs := (.cons (.ret (.call 43 (.cons (.bin .Add (.bin .Mult (.idx (.var 0) (.int 0)) (.idx (.var 1) (.int 1))) (.bin .Mult (.idx (.var 1) (.int 0)) (.idx (.var 0) (.int 1)))) (.cons (.bin .Mult (.idx (.var 0) (.int 1)) (.idx (.var 1) (.int 1))) .nil))))
      .nil)
def f__law_plus : FnD := ⟨"_law_plus", ["one", "other"], ["one", "other"], top 75, ⟨2, 2, b__law_plus, false⟩⟩
abbrev i__law_plus : Nat := 44
/-- _law_minus -/
def b__law_minus : CSs := (.cons (.ret (.tup (.cons (.neg (.idx (.var 0) (.int 0))) (.cons (.idx (.var 0) (.int 1)) .nil))))
      .nil)
def f__law_minus : FnD := ⟨"_law_minus", ["one"], ["one"], top 76, ⟨1, 1, b__law_minus, false⟩⟩
abbrev i__law_minus : Nat := 45
/-- _law_times -/
def b__law_times : CSs := (.cons (.ret (.call 43 (.cons (.bin .Mult (.idx (.var 0) (.int 0)) (.idx (.var 1) (.int 0))) (.cons (.bin .Mult (.idx (.var 0) (.int 1)) (.idx (.var 1) (.int 1))) .nil))))
      .nil)
def f__law_times : FnD := ⟨"_law_times", ["one", "other"], ["one", "other"], top 77, ⟨2, 2, b__law_times, false⟩⟩
abbrev i__law_times : Nat := 46
/-- _law_is_less -/
def b__law_is_less : CSs := (.cons (.ret (.cmp .Lt (.bin .Mult (.idx (.var 0) (.int 0)) (.idx (.var 1) (.int 1))) (.bin .Mult (.idx (.var 1) (.int 0)) (.idx (.var 0) (.int 1)))))
      .nil)
def f__law_is_less : FnD := ⟨"_law_is_less", ["one", "other"], ["one", "other"], top 78, ⟨2, 2, b__law_is_less, false⟩⟩
abbrev i__law_is_less : Nat := 47
/-- _law_inner -/
def b__law_inner : CSs := (.cons (.ret (.comp (.var 1) [1] (.name 1) (.ex (.cut (.var 0) (.yes (.int 1)) .no)) (.yes (.bool .And (.cons (.isi (.var 1) "tuple") (.cons (.cmp .Gt (.blt .len (.cons (.var 1) .nil)) (.int 0)) (.cons (.isi (.idx (.var 1) (.int 0)) "str") .nil)))))))
      .nil)
def f__law_inner : FnD := ⟨"_law_inner", ["tree"], ["tree", "part"], top 79, ⟨1, 2, b__law_inner, false⟩⟩
abbrev i__law_inner : Nat := 48
/-- _law_parts -/
def b__law_parts : CSs := (.cons (.asg 1 (.lst (.cons (.var 0) .nil)))
      (.cons (.for (.name 2) (.ex (.call 48 (.cons (.var 0) .nil))) (.cons (.asg 1 (.bin .Add (.var 1) (.call 49 (.cons (.var 2) .nil))))
      .nil))
      (.cons (.ret (.var 1))
      .nil)))
def f__law_parts : FnD := ⟨"_law_parts", ["tree"], ["tree", "found", "part"], top 80, ⟨1, 3, b__law_parts, false⟩⟩
abbrev i__law_parts : Nat := 49
/-- _law_fraction -/
def b__law_fraction : CSs := (.cons (.ret (.call 43 (.cons (.bin .Sub (.call 40 (.cons (.var 0) (.cons (.int 19) .nil))) (.int 9)) (.cons (.bin .Add (.int 1) (.call 40 (.cons (.var 0) (.cons (.int 5) .nil)))) .nil))))
      .nil)
def f__law_fraction : FnD := ⟨"_law_fraction", ["cup"], ["cup"], top 81, ⟨1, 1, b__law_fraction, false⟩⟩
abbrev i__law_fraction : Nat := 50
/-- _law_line_of -/
def b__law_line_of : CSs := (.cons (.asg 1 (.idx (.var 0) (.int 0)))
      (.cons (.ife (.cmp .In (.var 1) (.tup (.cons (.str "number") (.cons (.str "unknown") .nil)))) (.cons (.ret (.ite (.cmp .Eq (.var 1) (.str "number")) (.lst (.cons (.idx (.var 0) (.int 1)) .nil)) (.lst (.cons (.tup (.cons (.int 0) (.cons (.int 1) .nil))) (.cons (.tup (.cons (.int 1) (.cons (.int 1) .nil))) .nil)))))
      .nil) .nil)
      (.cons (.asg 2 (.call 51 (.cons (.idx (.var 0) (.int 1)) .nil)))
      (.cons (.ife (.cmp .Eq (.var 1) (.str "minus")) (.cons (.ret (.comp (.call 45 (.cons (.var 9) .nil)) [9] (.name 9) (.ex (.var 2)) .no))
      .nil) .nil)
      (.cons (.ife (.cmp .Eq (.var 1) (.str "power")) (.cons (.asg 5 (.lst (.cons (.tup (.cons (.int 1) (.cons (.int 1) .nil))) .nil)))
      (.cons (.for (.name 6) (.rng1 (.idx (.var 0) (.int 2))) (.cons (.asg 5 (.call 52 (.cons (.var 5) (.cons (.var 2) .nil))))
      .nil))
      (.cons (.ret (.var 5))
      .nil))) .nil)
      (.cons (.asg 3 (.call 51 (.cons (.idx (.var 0) (.int 2)) .nil)))
      (.cons (.ife (.cmp .Eq (.var 1) (.str "times")) (.cons (.ret (.call 52 (.cons (.var 2) (.cons (.var 3) .nil))))
      .nil) .nil)
      (.cons (.asg 4 (.blt .max (.cons (.blt .len (.cons (.var 2) .nil)) (.cons (.blt .len (.cons (.var 3) .nil)) .nil))))
      (.cons (.par 2 3 (.bin .Add (.var 2) (.bin .Mult (.lst (.cons (.tup (.cons (.int 0) (.cons (.int 1) .nil))) .nil)) (.bin .Sub (.var 4) (.blt .len (.cons (.var 2) .nil))))) (.bin .Add (.var 3) (.bin .Mult (.lst (.cons (.tup (.cons (.int 0) (.cons (.int 1) .nil))) .nil)) (.bin .Sub (.var 4) (.blt .len (.cons (.var 3) .nil))))))
      (.cons (.ret (.comp (.call 44 (.cons (.var 7) (.cons (.ite (.cmp .Eq (.var 1) (.str "plus")) (.var 8) (.call 45 (.cons (.var 8) .nil))) .nil))) [7, 8] (.tup [7, 8]) (.zip (.var 2) (.var 3)) .no))
      .nil))))))))))
def f__law_line_of : FnD := ⟨"_law_line_of", ["tree"], ["tree", "sort", "one", "other", "many", "found", "turn", "low", "high", "own"], top 82, ⟨1, 10, b__law_line_of, false⟩⟩
abbrev i__law_line_of : Nat := 51
/-- _law_mul -/
def b__law_mul : CSs := (.cons (.asgR 2 (.bin .Mult (.lst (.cons (.tup (.cons (.int 0) (.cons (.int 1) .nil))) .nil)) (.bin .Sub (.bin .Add (.blt .len (.cons (.var 0) .nil)) (.blt .len (.cons (.var 1) .nil))) (.int 1))))
      (.cons (.for (.name 3) (.rng1 (.blt .len (.cons (.var 0) .nil))) (.cons (.for (.name 4) (.rng1 (.blt .len (.cons (.var 1) .nil))) (.cons (.setI 2 (.bin .Add (.var 3) (.var 4)) (.call 44 (.cons (.idx (.var 2) (.bin .Add (.var 3) (.var 4))) (.cons (.call 46 (.cons (.idx (.var 0) (.var 3)) (.cons (.idx (.var 1) (.var 4)) .nil))) .nil))))
      .nil))
      .nil))
      (.cons (.ret (.var 2))
      .nil)))
def f__law_mul : FnD := ⟨"_law_mul", ["one", "other"], ["one", "other", "found", "low", "high"], top 83, ⟨2, 5, b__law_mul, false⟩⟩
abbrev i__law_mul : Nat := 52
/-- _law_plain_tree -/
def b__law_plain_tree : CSs := (.cons (.asg 2 (.call 40 (.cons (.var 0) (.cons (.int 7) .nil))))
      (.cons (.ife (.bool .Or (.cons (.cmp .Eq (.var 1) (.int 0)) (.cons (.cmp .Lt (.var 2) (.int 2)) .nil))) (.cons (.ret (.ite (.cmp .Gt (.call 40 (.cons (.var 0) (.cons (.int 3) .nil))) (.int 0)) (.tup (.cons (.str "unknown") .nil)) (.tup (.cons (.str "number") (.cons (.call 50 (.cons (.var 0) .nil)) .nil)))))
      .nil) .nil)
      (.cons (.ife (.cmp .Eq (.var 2) (.int 2)) (.cons (.ret (.tup (.cons (.str "minus") (.cons (.call 53 (.cons (.var 0) (.cons (.bin .Sub (.var 1) (.int 1)) .nil))) .nil))))
      .nil) .nil)
      (.cons (.ife (.cmp .Eq (.var 2) (.int 3)) (.cons (.ret (.tup (.cons (.str "power") (.cons (.call 53 (.cons (.var 0) (.cons (.bin .Sub (.var 1) (.int 1)) .nil))) (.cons (.call 40 (.cons (.var 0) (.cons (.int 4) .nil))) .nil)))))
      .nil) .nil)
      (.cons (.ret (.tup (.cons (.call 41 (.cons (.var 0) (.cons (.lst (.cons (.str "plus") (.cons (.str "less") (.cons (.str "times") .nil)))) .nil))) (.cons (.call 53 (.cons (.var 0) (.cons (.bin .Sub (.var 1) (.int 1)) .nil))) (.cons (.call 53 (.cons (.var 0) (.cons (.bin .Sub (.var 1) (.int 1)) .nil))) .nil)))))
      .nil)))))
def f__law_plain_tree : FnD := ⟨"_law_plain_tree", ["cup", "deep"], ["cup", "deep", "way"], top 84, ⟨2, 3, b__law_plain_tree, false⟩⟩
abbrev i__law_plain_tree : Nat := 53
/-- _law_area_of -/
def b__law_area_of : CSs := (.cons (.asg 3 (.tup (.cons (.int 0) (.cons (.int 1) .nil))))
      (.cons (.for (.name 4) (.rng1 (.blt .len (.cons (.var 0) .nil))) (.cons (.par 5 6 (.call 46 (.cons (.idx (.var 0) (.var 4)) (.cons (.tup (.cons (.int 1) (.cons (.bin .Add (.var 4) (.int 1)) .nil))) .nil))) (.lst (.cons (.tup (.cons (.int 1) (.cons (.int 1) .nil))) (.cons (.tup (.cons (.int 1) (.cons (.int 1) .nil))) .nil))))
      (.cons (.for (.name 7) (.rng1 (.bin .Add (.var 4) (.int 1))) (.cons (.asg 6 (.lst (.cons (.call 46 (.cons (.idx (.var 6) (.int 0)) (.cons (.var 1) .nil))) (.cons (.call 46 (.cons (.idx (.var 6) (.int 1)) (.cons (.var 2) .nil))) .nil))))
      .nil))
      (.cons (.asg 3 (.call 44 (.cons (.var 3) (.cons (.call 46 (.cons (.var 5) (.cons (.call 44 (.cons (.idx (.var 6) (.int 1)) (.cons (.call 45 (.cons (.idx (.var 6) (.int 0)) .nil)) .nil))) .nil))) .nil))))
      .nil))))
      (.cons (.ret (.var 3))
      .nil)))
def f__law_area_of : FnD := ⟨"_law_area_of", ["line", "low", "high"], ["line", "low", "high", "found", "at", "own", "ends", "turn"], top 85, ⟨3, 8, b__law_area_of, false⟩⟩
abbrev i__law_area_of : Nat := 54
/-- _law_amount -/
def b__law_amount : CSs := (.cons (.asg 2 (.idx (.var 0) (.int 0)))
      (.cons (.ife (.cmp .Eq (.var 2) (.str "number")) (.cons (.ret (.tup (.cons (.blt .abs (.cons (.idx (.idx (.var 0) (.int 1)) (.int 0)) .nil)) (.cons (.idx (.idx (.var 0) (.int 1)) (.int 1)) .nil))))
      .nil) .nil)
      (.cons (.ife (.cmp .In (.var 2) (.tup (.cons (.str "pi") (.cons (.str "unknown") .nil)))) (.cons (.ret (.ite (.cmp .Eq (.var 2) (.str "pi")) (.tup (.cons (.int 4) (.cons (.int 1) .nil))) (.var 1)))
      .nil) .nil)
      (.cons (.asg 3 (.call 55 (.cons (.idx (.var 0) (.int 1)) (.cons (.var 1) .nil))))
      (.cons (.ife (.cmp .In (.var 2) (.tup (.cons (.str "sin") (.cons (.str "cos") .nil)))) (.cons (.ret (.tup (.cons (.int 1) (.cons (.int 1) .nil))))
      .nil) .nil)
      (.cons (.ife (.cmp .Eq (.var 2) (.str "minus")) (.cons (.ret (.var 3))
      .nil) .nil)
      (.cons (.ife (.cmp .Eq (.var 2) (.str "exp")) (.cons (.ret (.tup (.cons (.bin .LShift (.int 1) (.bin .Mult (.int 2) (.bin .Sub (.int 0) (.bin .FloorDiv (.bin .Sub (.int 0) (.idx (.var 3) (.int 0))) (.idx (.var 3) (.int 1)))))) (.cons (.int 1) .nil))))
      .nil) .nil)
      (.cons (.ife (.cmp .Eq (.var 2) (.str "power")) (.cons (.asg 5 (.tup (.cons (.int 1) (.cons (.int 1) .nil))))
      (.cons (.for (.name 6) (.rng1 (.idx (.var 0) (.int 2))) (.cons (.asg 5 (.call 46 (.cons (.var 5) (.cons (.var 3) .nil))))
      .nil))
      (.cons (.ret (.var 5))
      .nil))) .nil)
      (.cons (.asg 4 (.call 55 (.cons (.idx (.var 0) (.int 2)) (.cons (.var 1) .nil))))
      (.cons (.ret (.ite (.cmp .Eq (.var 2) (.str "times")) (.call 46 (.cons (.var 3) (.cons (.var 4) .nil))) (.call 44 (.cons (.var 3) (.cons (.var 4) .nil)))))
      .nil))))))))))
def f__law_amount : FnD := ⟨"_law_amount", ["tree", "far"], ["tree", "far", "sort", "one", "other", "found", "turn"], top 86, ⟨2, 7, b__law_amount, false⟩⟩
abbrev i__law_amount : Nat := 55
/-- _law_any_tree -/
def b__law_any_tree : CSs := (.cons (.ife (.bool .Or (.cons (.cmp .Eq (.var 1) (.int 0)) (.cons (.cmp .Eq (.call 40 (.cons (.var 0) (.cons (.int 4) .nil))) (.int 0)) .nil))) (.cons (.ret (.call 41 (.cons (.var 0) (.cons (.lst (.cons (.tup (.cons (.str "unknown") .nil)) (.cons (.tup (.cons (.str "pi") .nil)) (.cons (.tup (.cons (.str "number") (.cons (.call 43 (.cons (.bin .Sub (.call 40 (.cons (.var 0) (.cons (.int 7) .nil))) (.int 3)) (.cons (.int 2) .nil))) .nil))) .nil)))) .nil))))
      .nil) .nil)
      (.cons (.ife (.cmp .Eq (.call 40 (.cons (.var 0) (.cons (.int 2) .nil))) (.int 0)) (.cons (.ret (.tup (.cons (.call 41 (.cons (.var 0) (.cons (.lst (.cons (.str "sin") (.cons (.str "cos") (.cons (.str "minus") (.cons (.str "exp") .nil))))) .nil))) (.cons (.call 41 (.cons (.var 0) (.cons (.lst (.cons (.tup (.cons (.str "sin") (.cons (.tup (.cons (.str "unknown") .nil)) .nil))) (.cons (.call 56 (.cons (.var 0) (.cons (.int 0) .nil))) .nil))) .nil))) .nil))))
      .nil) .nil)
      (.cons (.ret (.tup (.cons (.call 41 (.cons (.var 0) (.cons (.lst (.cons (.str "plus") (.cons (.str "less") (.cons (.str "times") .nil)))) .nil))) (.cons (.call 56 (.cons (.var 0) (.cons (.bin .Sub (.var 1) (.int 1)) .nil))) (.cons (.call 56 (.cons (.var 0) (.cons (.bin .Sub (.var 1) (.int 1)) .nil))) .nil)))))
      .nil)))
def f__law_any_tree : FnD := ⟨"_law_any_tree", ["cup", "deep"], ["cup", "deep"], top 87, ⟨2, 2, b__law_any_tree, false⟩⟩
abbrev i__law_any_tree : Nat := 56
/-- law -/
def b_law : CSs := (.cons (.asgR 1 (.call 39 (.cons (.var 0) .nil)))
      (.cons (.for (.name 2) (.rng1 (.int 4)) (.cons (.asg 6 (.call 53 (.cons (.var 1) (.cons (.int 2) .nil))))
      (.cons (.par 7 8 (.call 43 (.cons (.bin .Sub (.call 40 (.cons (.var 1) (.cons (.int 17) .nil))) (.int 8)) (.cons (.int 4) .nil))) (.call 43 (.cons (.bin .Sub (.call 40 (.cons (.var 1) (.cons (.int 17) .nil))) (.int 8)) (.cons (.bin .Add (.int 1) (.call 40 (.cons (.var 1) (.cons (.int 3) .nil)))) .nil))))
      (.cons (.asg 9 (.call 38 (.cons (.tup (.cons (.str "area") (.cons (.var 6) (.cons (.var 7) (.cons (.var 8) .nil))))) .nil)))
      (.cons (.ife (.bool .Or (.cons (.cmp .IsNot (.call 36 (.cons (.var 6) .nil)) (.bl true)) (.cons (.cmp .NotEq (.var 9) (.call 54 (.cons (.call 51 (.cons (.var 6) .nil)) (.cons (.var 7) (.cons (.var 8) .nil))))) (.cons (.isi (.idx (.var 9) (.int 0)) "bool") .nil)))) (.cons (.ret (.bl false))
      .nil) .nil)
      (.cons (.asg 10 (.call 56 (.cons (.var 1) (.cons (.int 2) .nil))))
      (.cons (.asg 11 (.tup (.cons (.blt .abs (.cons (.idx (.var 7) (.int 0)) .nil)) (.cons (.idx (.var 7) (.int 1)) .nil))))
      (.cons (.ife (.call 47 (.cons (.var 11) (.cons (.tup (.cons (.blt .abs (.cons (.idx (.var 8) (.int 0)) .nil)) (.cons (.idx (.var 8) (.int 1)) .nil))) .nil))) (.cons (.asg 11 (.tup (.cons (.blt .abs (.cons (.idx (.var 8) (.int 0)) .nil)) (.cons (.idx (.var 8) (.int 1)) .nil))))
      .nil) .nil)
      (.cons (.ife (.cmp .NotEq (.call 37 (.cons (.tup (.cons (.str "area") (.cons (.var 10) (.cons (.var 7) (.cons (.var 8) .nil))))) .nil)) (.call 55 (.cons (.var 10) (.cons (.var 11) .nil)))) (.cons (.ret (.bl false))
      .nil) .nil)
      (.cons (.par 12 13 (.tup (.cons (.str "plus") (.cons (.tup (.cons (.str "unknown") .nil)) (.cons (.tup (.cons (.str "number") (.cons (.tup (.cons (.int 1) (.cons (.int 1) .nil))) .nil))) .nil)))) (.call 41 (.cons (.var 1) (.cons (.lst (.cons (.int 0) (.cons (.int 1) (.cons (.int 3) (.cons (.int 5) (.cons (.int 12) .nil)))))) .nil))))
      (.cons (.asg 12 (.tup (.cons (.str "area") (.cons (.tup (.cons (.str "power") (.cons (.var 12) (.cons (.var 13) .nil)))) (.cons (.var 7) (.cons (.var 8) .nil))))))
      (.cons (.ife (.bool .Or (.cons (.cmp .NotEq (.call 37 (.cons (.var 12) .nil)) (.call 55 (.cons (.idx (.var 12) (.int 1)) (.cons (.var 11) .nil)))) (.cons (.cmp .NotEq (.call 38 (.cons (.var 12) .nil)) (.call 54 (.cons (.call 51 (.cons (.idx (.var 12) (.int 1)) .nil)) (.cons (.var 7) (.cons (.var 8) .nil))))) .nil))) (.cons (.ret (.bl false))
      .nil) .nil)
      (.cons (.asg 14 (.comp (.var 15) [15] (.name 15) (.ex (.call 49 (.cons (.var 10) .nil))) (.yes (.cmp .In (.idx (.var 15) (.int 0)) (.tup (.cons (.str "pi") (.cons (.str "sin") (.cons (.str "cos") (.cons (.str "exp") .nil)))))))))
      (.cons (.ife (.bool .Or (.cons (.cmp .NotEq (.call 36 (.cons (.var 10) .nil)) (.cmp .Eq (.var 14) (.lst .nil))) (.cons (.cmp .NotEq (.cmp .Is (.call 38 (.cons (.tup (.cons (.str "area") (.cons (.var 10) (.cons (.var 7) (.cons (.var 8) .nil))))) .nil)) .non) (.cmp .NotEq (.var 14) (.lst .nil))) .nil))) (.cons (.ret (.bl false))
      .nil) .nil)
      .nil))))))))))))))
      (.cons (.asgT [3, 4] (.tup (.cons (.tup (.cons (.str "unknown") .nil)) (.cons (.tup (.cons (.str "number") (.cons (.tup (.cons (.int 1) (.cons (.int 1) .nil))) .nil))) .nil))))
      (.cons (.asg 5 (.tup (.cons (.str "area") (.cons (.tup (.cons (.str "less") (.cons (.tup (.cons (.str "power") (.cons (.var 3) (.cons (.int 2) .nil)))) (.cons (.var 4) .nil)))) (.cons (.tup (.cons (.int 0) (.cons (.int 1) .nil))) (.cons (.tup (.cons (.int 3) (.cons (.int 1) .nil))) .nil))))))
      (.cons (.ife (.bool .Or (.cons (.cmp .NotEq (.call 38 (.cons (.var 5) .nil)) (.tup (.cons (.int 6) (.cons (.int 1) .nil)))) (.cons (.cmp .NotEq (.call 37 (.cons (.var 5) .nil)) (.tup (.cons (.int 10) (.cons (.int 1) .nil)))) (.cons (.cmp .IsNot (.call 36 (.cons (.tup (.cons (.str "sin") (.cons (.var 3) .nil))) .nil)) (.bl false)) .nil)))) (.cons (.ret (.bl false))
      .nil) .nil)
      (.cons (.ife (.cmp .NotEq (.call 38 (.cons (.tup (.cons (.str "area") (.cons (.tup (.cons (.str "power") (.cons (.var 3) (.cons (.int 0) .nil)))) (.cons (.tup (.cons (.int 3) (.cons (.int 1) .nil))) (.cons (.tup (.cons (.int 1) (.cons (.int 1) .nil))) .nil))))) .nil)) (.tup (.cons (.neg (.int 2)) (.cons (.int 1) .nil)))) (.cons (.ret (.bl false))
      .nil) .nil)
      (.cons (.ife (.cmp .IsNot (.call 38 (.cons (.tup (.cons (.str "area") (.cons (.tup (.cons (.str "exp") (.cons (.var 3) .nil))) (.cons (.tup (.cons (.int 0) (.cons (.int 1) .nil))) (.cons (.tup (.cons (.int 1) (.cons (.int 1) .nil))) .nil))))) .nil)) .non) (.cons (.ret (.bl false))
      .nil) .nil)
      (.cons (.ret (.bool .And (.cons (.cmp .Eq (.call 38 (.cons (.tup (.cons (.str "area") (.cons (.var 3) (.cons (.tup (.cons (.int 5) (.cons (.int 2) .nil))) (.cons (.tup (.cons (.int 5) (.cons (.int 2) .nil))) .nil))))) .nil)) (.tup (.cons (.int 0) (.cons (.int 1) .nil)))) (.cons (.cmp .Eq (.call 37 (.cons (.tup (.cons (.str "area") (.cons (.tup (.cons (.str "exp") (.cons (.var 3) .nil))) (.cons (.tup (.cons (.neg (.int 5)) (.cons (.int 2) .nil))) (.cons (.tup (.cons (.int 0) (.cons (.int 1) .nil))) .nil))))) .nil)) (.tup (.cons (.int 64) (.cons (.int 1) .nil)))) .nil))))
      .nil))))))))
def f_law : FnD := ⟨"law", ["script"], ["script", "cup", "turn", "x", "one", "area", "tree", "low", "high", "told", "other", "far", "tall", "many", "waves", "own"], top 88, ⟨1, 16, b_law, false⟩⟩
abbrev i_law : Nat := 57
def fs : List FnD := [f_is_whole, f_is_integer, f_is_tuple_of, f_made, f_fits_any, f_fits_fraction, f_plus, f_times, f_is_less, f_most, f_amount, f_two_to, f_fits_line, f_is_end, f_is_leaf, f_left_of, f_fits_tree, f_fits_integrand, f_inner, f_parts, f_power_of, f_figures, f_leaf_measures, f_wave_measures, f_power_measures, f_pair_measures, f_node_measures, f_measured, f_is_plain_in, f_summed, f_multiplied, f_polynomial_of, f_value_at, f_plain_in, f_need_integrand, f_need_area, f_is_plain, f_area_amount, f_plain_area, f__law_cup, f__law_roll, f__law_some, f__law_common, f__law_made, f__law_plus, f__law_minus, f__law_times, f__law_is_less, f__law_inner, f__law_parts, f__law_fraction, f__law_line_of, f__law_mul, f__law_plain_tree, f__law_area_of, f__law_amount, f__law_any_tree, f_law]
theorem fs_ok : ∀ F ∈ fs, F.ok (tabOf fs gls) = true := by decide +kernel
end K45
namespace K45
open PySem PySem.Spec PyProof.Rows L2 Mn Mn.Sx
def fuel : Nat := 2 ^ 20000
def rn (k f : Nat) (ds : List D) (M : Sto) : Re D := run (fs.map (·.fn)) (glOf gls) fuel k f ds M
def sy (k : Nat) : Sys := ⟨run (fs.map (·.fn)) (glOf gls) fuel k, glOf gls, fuel⟩
@[simp] theorem sy_call (k f : Nat) (ds : List D) (M : Sto) : (sy k).call f ds M = rn k f ds M := rfl
@[simp] theorem sy_fuel (k : Nat) : (sy k).fuel = fuel := rfl
theorem rn_call {k f : Nat} {ds : List D} {M : Sto} (F : Fn) (h : (fs.map (·.fn))[f]? = some F) (hl : ds.length = F.pars) : rn (k + 1) f ds M = fin M.length F.fresh (exs (sy k) F.body (ds.map some ++ List.replicate (F.names - ds.length) none) M) := run_call F h hl
/-- a fraction -/
def P (r : Rat) : D := .tup [.int r.num, .int r.den]
@[simp] theorem val_P (r : Rat) : val (P r) = true := rfl
/-- small enough for all that is done with it -/
def Sm (r : Rat) : Prop := r.num.natAbs < 2 ^ 3000 ∧ r.den < 2 ^ 3000
theorem log_lt {n k : Nat} (h : n < 2 ^ k) (hk : 0 < k) : n.log2 < k := PySem.Flt.log2_lt_of hk h
theorem mul_ok {a b : Int} {i j : Nat} (ha : a.natAbs < 2 ^ i) (hb : b.natAbs < 2 ^ j) (hi : 0 < i) (hj : 0 < j) (h : i + j ≤ 134217000) : mulOk a b = true := by
  have h1 := log_lt ha hi
  have h2 := log_lt hb hj
  unfold mulOk
  exact decide_eq_true (by omega)
theorem mul_sm {a b : Int} (ha : a.natAbs < 2 ^ 6100) (hb : b.natAbs < 2 ^ 6100) : mulOk a b = true := mul_ok ha hb (by decide) (by decide) (by decide)
theorem div_ok {b : Int} (h0 : b ≠ 0) (h : b.natAbs < 2 ^ 8000) : divOk b = true := by
  have := log_lt h (by decide)
  unfold divOk
  rw [Bool.and_eq_true]
  exact ⟨by simpa using h0, decide_eq_true (by omega)⟩
theorem pow_mono {a i j : Nat} (h : a < 2 ^ i) (hij : i ≤ j) : a < 2 ^ j := Nat.lt_of_lt_of_le h (Nat.pow_le_pow_right (by decide) hij)
theorem mul_lt {a b : Int} {i j : Nat} (ha : a.natAbs < 2 ^ i) (hb : b.natAbs < 2 ^ j) : (a * b).natAbs < 2 ^ (i + j) := by
  rw [Int.natAbs_mul, Nat.pow_add]
  exact Nat.mul_lt_mul'' ha hb
theorem made_val {a b : Int} (hb : 0 < b) : a.fdiv ((Nat.gcd a.natAbs b.natAbs : Nat) : Int) = ((a : Rat) / b).num ∧ b.fdiv ((Nat.gcd a.natAbs b.natAbs : Nat) : Int) = (((a : Rat) / b).den : Int) := by
  rw [← Rat.divInt_eq_div]
  have h1 := Rat.num_divInt a b
  have h2 := Rat.den_divInt a b
  rw [Int.sign_eq_one_of_pos hb, Int.one_mul] at h1
  rw [if_neg (by omega)] at h2
  have e : b.gcd a = Nat.gcd a.natAbs b.natAbs := Nat.gcd_comm _ _
  rw [e] at h1 h2
  rw [h1, h2, Int.fdiv_eq_ediv_of_nonneg _ (Int.natCast_nonneg _), Int.fdiv_eq_ediv_of_nonneg _ (Int.natCast_nonneg _)]
  refine ⟨rfl, ?_⟩
  rw [Int.natCast_ediv, Int.natAbs_of_nonneg (by omega)]
theorem gcd_pos {a b : Int} (hb : 0 < b) : ((Nat.gcd a.natAbs b.natAbs : Nat) : Int) ≠ 0 := by
  have := Nat.gcd_pos_of_pos_right a.natAbs (show 0 < b.natAbs by omega)
  omega
theorem gcd_lt {a b : Int} {k : Nat} (hb : 0 < b) (h : b.natAbs < 2 ^ k) : ((Nat.gcd a.natAbs b.natAbs : Nat) : Int).natAbs < 2 ^ k := by
  have := Nat.gcd_le_right a.natAbs (show 0 < b.natAbs by omega)
  rw [Int.natAbs_natCast]
  omega
theorem e_made {k : Nat} {a b : Int} {M : Sto} (hb : 0 < b) (h : b.natAbs < 2 ^ 8000) : rn (k + 1) i_made [.int a, .int b] M = some (P ((a : Rat) / b), M) := by
  have h1 := div_ok (gcd_pos (a := a) hb) (gcd_lt hb h)
  obtain ⟨h2, h3⟩ := made_val (a := a) hb
  rw [rn_call _ rfl rfl]
  simp [f_made, b_made, hb, h1, h2, h3, P, line]
@[simp] theorem atI_0 {α : Type} (x : α) (l : List α) : atI (x :: l) 0 = some x := atI_nat (j := 0) rfl
@[simp] theorem atI_1 {α : Type} (x y : α) (l : List α) : atI (x :: y :: l) 1 = some y := atI_nat (j := 1) rfl
@[simp] theorem atI_2 {α : Type} (x y z : α) (l : List α) : atI (x :: y :: z :: l) 2 = some z := atI_nat (j := 2) rfl
@[simp] theorem atI_3 {α : Type} (x y z u : α) (l : List α) : atI (x :: y :: z :: u :: l) 3 = some u := atI_nat (j := 3) rfl
@[simp] theorem idx_P0 (M : Sto) (r : Rat) : idxD M (P r) (.int 0) = some (.int r.num) := by
  unfold P
  rw [idx_tup, atI_0]
@[simp] theorem idx_P1 (M : Sto) (r : Rat) : idxD M (P r) (.int 1) = some (.int r.den) := by
  unfold P
  rw [idx_tup, atI_1]
@[simp] theorem fin_P (m : Nat) (r : Rat) (M : Sto) : fin m false (some (.rt (P r) M)) = some (P r, M.take m) := rfl
@[simp] theorem line_le (n : Nat) (h : n ≤ 1000) : n ≤ line := Nat.le_trans h (by decide)
theorem Sm.num {r : Rat} (h : Sm r) : r.num.natAbs < 2 ^ 3000 := h.1
theorem Sm.den {r : Rat} (h : Sm r) : (r.den : Int).natAbs < 2 ^ 3000 := by rw [Int.natAbs_natCast]; exact h.2
theorem sm_mul {a b : Int} (ha : a.natAbs < 2 ^ 3000) (hb : b.natAbs < 2 ^ 3000) : mulOk a b = true := mul_ok ha hb (by decide) (by decide) (by decide)
theorem den_pos (r : Rat) : (0 : Int) < r.den := by have := r.den_pos; omega
theorem rat_self (r : Rat) : (r.num : Rat) / ((r.den : Int) : Rat) = r := by rw [← Rat.divInt_eq_div]; exact Rat.num_divInt_den r
theorem rat_add (r s : Rat) : ((r.num * s.den + s.num * r.den : Int) : Rat) / (((r.den : Int) * (s.den : Int) : Int) : Rat) = r + s := by
  rw [← Rat.divInt_eq_div, ← Rat.divInt_add_divInt _ _ (by have := den_pos r; omega) (by have := den_pos s; omega), Rat.num_divInt_den, Rat.num_divInt_den]
theorem rat_mul (r s : Rat) : ((r.num * s.num : Int) : Rat) / (((r.den : Int) * (s.den : Int) : Int) : Rat) = r * s := by
  rw [← Rat.divInt_eq_div, ← Rat.divInt_mul_divInt, Rat.num_divInt_den, Rat.num_divInt_den]
theorem rat_add' (r s : Rat) : ((r.num : Rat) * ((s.den : Int) : Rat) + (s.num : Rat) * ((r.den : Int) : Rat)) / (((r.den : Int) : Rat) * ((s.den : Int) : Rat)) = r + s := by
  have e := rat_add r s
  rw [Rat.intCast_add, Rat.intCast_mul, Rat.intCast_mul, Rat.intCast_mul] at e
  exact e
theorem rat_mul' (r s : Rat) : ((r.num : Rat) * (s.num : Rat)) / (((r.den : Int) : Rat) * ((s.den : Int) : Rat)) = r * s := by
  have e := rat_mul r s
  rw [Rat.intCast_mul, Rat.intCast_mul] at e
  exact e
theorem den_mul (r s : Rat) : (0 : Int) < (r.den : Int) * (s.den : Int) := Int.mul_pos (den_pos r) (den_pos s)
theorem den_lt {r s : Rat} (hr : Sm r) (hs : Sm s) : ((r.den : Int) * (s.den : Int)).natAbs < 2 ^ 8000 := pow_mono (mul_lt hr.den hs.den) (by decide)
theorem e_plus {k : Nat} {r s : Rat} {M : Sto} (hr : Sm r) (hs : Sm s) : rn (k + 2) i_plus [P r, P s] M = some (P (r + s), M) := by
  rw [rn_call _ rfl rfl]
  simp [f_plus, b_plus, sm_mul hr.num hs.den, sm_mul hs.num hr.den, sm_mul hr.den hs.den, e_made (den_mul r s) (den_lt hr hs)]
  rw [rat_add']
theorem e_times {k : Nat} {r s : Rat} {M : Sto} (hr : Sm r) (hs : Sm s) : rn (k + 2) i_times [P r, P s] M = some (P (r * s), M) := by
  rw [rn_call _ rfl rfl]
  simp [f_times, b_times, sm_mul hr.num hs.num, sm_mul hr.den hs.den, e_made (den_mul r s) (den_lt hr hs)]
  rw [rat_mul']
theorem e_is_less {k : Nat} {r s : Rat} {M : Sto} (hr : Sm r) (hs : Sm s) : rn (k + 1) i_is_less [P r, P s] M = some (.bl (decide (r < s)), M) := by
  rw [rn_call _ rfl rfl]
  simp [f_is_less, b_is_less, sm_mul hr.num hs.den, sm_mul hs.num hr.den, Rat.lt_iff]
theorem e_most {k : Nat} {r s : Rat} {M : Sto} (hr : Sm r) (hs : Sm s) : rn (k + 2) i_most [P r, P s] M = some (P (if r < s then s else r), M) := by
  rw [rn_call _ rfl rfl]
  simp [f_most, b_most, e_is_less hr hs]
  split <;> simp
/-- the size of a fraction -/
def ab (r : Rat) : Rat := if 0 ≤ r then r else -r
theorem ab_P (r : Rat) : P (ab r) = .tup [.int r.num.natAbs, .int r.den] := by
  unfold ab P
  split
  · rename_i h
    have := Rat.num_nonneg.mpr h
    rw [show (r.num.natAbs : Int) = r.num by omega]
  · rename_i h
    have : ¬ 0 ≤ r.num := fun z => h (Rat.num_nonneg.mp z)
    rw [Rat.neg_num, Rat.neg_den, show (r.num.natAbs : Int) = -r.num by omega]
theorem e_amount {k : Nat} {r : Rat} {M : Sto} : rn (k + 1) i_amount [P r] M = some (P (ab r), M) := by
  rw [rn_call _ rfl rfl, ab_P]
  simp [f_amount, b_amount]
theorem e_two_to {k n : Nat} {M : Sto} (h : n ≤ 1000) : rn (k + 1) i_two_to [.int n] M = some (P (2 ^ n), M) := by
  rw [rn_call _ rfl rfl]
  have e1 : ((2 : Rat) ^ n).num = 2 ^ n := by
    rw [Rat.num_pow]; rfl
  have e2 : ((2 : Rat) ^ n).den = 1 := by
    rw [Rat.den_pow]; exact Nat.one_pow n
  have e3 : Nat.log2 1 = 0 := by decide
  have e4 : (n : Int) ≤ 1000000 := by omega
  simp [f_two_to, b_two_to, P, e1, e2, e3, e4]
/-! the law's own -/
theorem common_loop {k : Nat} {M : Sto} : ∀ (n : Nat) (o : Nat) (a : Int), o < n → (o = 0 → 0 < a) →
    whlL (testW (sy k) (.var 1)) (exs (sy k) (.cons (.par 0 1 (.var 1) (.bin .Mod (.blt .int (.cons (.var 0) .nil)) (.var 1))) .nil)) n [some (.int a), some (.int o)] M = some (.nx [some (.int (Nat.gcd a.natAbs o : Nat)), some (.int 0)] M)
  | 0, o, a, h, _ => by omega
  | n + 1, o, a, h, h0 => by
    unfold whlL
    by_cases ho : o = 0
    · subst ho
      simp [testW]
      have := h0 rfl
      omega
    · obtain ⟨m, hm⟩ : ∃ m : Nat, a.fmod o = m := by
        rw [Int.fmod_eq_emod_of_nonneg _ (by omega)]
        exact ⟨(a % o).toNat, (Int.toNat_of_nonneg (Int.emod_nonneg _ (by omega))).symm⟩
      have lt : m < o := by
        have := Int.fmod_lt_of_pos a (show (0 : Int) < o by omega)
        omega
      have eg : Nat.gcd o m = Nat.gcd a.natAbs o := by
        have h1 : a % (o : Int) = m := by
          rw [← hm, Int.fmod_eq_emod_of_nonneg _ (by omega)]
        have h2 : Int.gcd (a % (o : Int)) (o : Int) = Int.gcd a o := by
          have := Int.gcd_add_mul_left_left (o : Int) (a % (o : Int)) (a / (o : Int))
          rw [Int.emod_add_mul_ediv] at this
          exact this.symm
        rw [h1] at h2
        rw [Nat.gcd_comm]
        exact h2
      simp [testW, ho, hm]
      have := common_loop (M := M) (k := k) n m o (by omega) (fun _ => by omega)
      rw [this, Int.natAbs_natCast, eg]
theorem e_lcommon {k : Nat} {a b : Int} {M : Sto} (hb : 0 < b) (h : b.natAbs < 2 ^ 8000) : rn (k + 1) i__law_common [.int a, .int b] M = some (.int (Nat.gcd a.natAbs b.natAbs : Nat), M) := by
  obtain ⟨o, rfl⟩ : ∃ o : Nat, b = o := ⟨b.toNat, by omega⟩
  have hf : o < fuel := by
    have := pow_mono (j := 20000) h (by decide)
    unfold fuel
    omega
  have g := gcd_pos (a := a) hb
  have g2 : (0 : Int) < (Nat.gcd a.natAbs (o : Int).natAbs : Nat) := by omega
  rw [rn_call _ rfl rfl]
  simp [f__law_common, b__law_common, common_loop fuel o a hf (fun z => by omega)]
  simp at g2
  simp [g2]
theorem e_lmade {k : Nat} {a b : Int} {M : Sto} (hb : 0 < b) (h : b.natAbs < 2 ^ 8000) : rn (k + 2) i__law_made [.int a, .int b] M = some (P ((a : Rat) / b), M) := by
  have h1 := div_ok (gcd_pos (a := a) hb) (gcd_lt hb h)
  obtain ⟨h2, h3⟩ := made_val (a := a) hb
  rw [rn_call _ rfl rfl]
  simp [f__law_made, b__law_made, hb, h1, h2, h3, P, line, e_lcommon hb h]
theorem e_lplus {k : Nat} {r s : Rat} {M : Sto} (hr : Sm r) (hs : Sm s) : rn (k + 3) i__law_plus [P r, P s] M = some (P (r + s), M) := by
  rw [rn_call _ rfl rfl]
  simp [f__law_plus, b__law_plus, sm_mul hr.num hs.den, sm_mul hs.num hr.den, sm_mul hr.den hs.den, e_lmade (den_mul r s) (den_lt hr hs)]
  rw [rat_add']
theorem e_ltimes {k : Nat} {r s : Rat} {M : Sto} (hr : Sm r) (hs : Sm s) : rn (k + 3) i__law_times [P r, P s] M = some (P (r * s), M) := by
  rw [rn_call _ rfl rfl]
  simp [f__law_times, b__law_times, sm_mul hr.num hs.num, sm_mul hr.den hs.den, e_lmade (den_mul r s) (den_lt hr hs)]
  rw [rat_mul']
theorem e_lminus {k : Nat} {r : Rat} {M : Sto} : rn (k + 1) i__law_minus [P r] M = some (P (-r), M) := by
  rw [rn_call _ rfl rfl]
  simp [f__law_minus, b__law_minus]
  simp [P, Rat.neg_num, Rat.neg_den]
theorem e_lis_less {k : Nat} {r s : Rat} {M : Sto} (hr : Sm r) (hs : Sm s) : rn (k + 1) i__law_is_less [P r, P s] M = some (.bl (decide (r < s)), M) := by
  rw [rn_call _ rfl rfl]
  simp [f__law_is_less, b__law_is_less, sm_mul hr.num hs.den, sm_mul hs.num hr.den, Rat.lt_iff]
end K45
namespace K45
open PySem PySem.Spec PyProof.Rows L2 Mn Mn.Sx
@[simp] theorem g_GREATEST (k : Nat) : (sy k).gl 0 = some (.int 1000000000000) := rfl
@[simp] theorem g_NONE (k : Nat) : (sy k).gl 1 = some (.tup [.int 0, .int 1]) := rfl
@[simp] theorem g_ONE (k : Nat) : (sy k).gl 2 = some (.tup [.int 1, .int 1]) := rfl
@[simp] theorem g_COEFFICIENT (k : Nat) : (sy k).gl 3 = some (.int 1000000) := rfl
@[simp] theorem g_DEGREE_lines (k : Nat) : (sy k).gl 4 = some (.int 8) := rfl
@[simp] theorem g_NODES (k : Nat) : (sy k).gl 5 = some (.int 40) := rfl
@[simp] theorem g_HEIGHT (k : Nat) : (sy k).gl 6 = some (.int 12) := rfl
@[simp] theorem g_EXPONENT (k : Nat) : (sy k).gl 7 = some (.int 12) := rfl
@[simp] theorem g_END (k : Nat) : (sy k).gl 8 = some (.tup [.int 8, .int 1]) := rfl
@[simp] theorem g_ONE_PART (k : Nat) : (sy k).gl 9 = some (.tup [.str "abs", .str "atan", .str "cos", .str "exp", .str "log", .str "minus", .str "sin", .str "sqrt"]) := rfl
@[simp] theorem g_TWO_PARTS (k : Nat) : (sy k).gl 10 = some (.tup [.str "by", .str "least", .str "less", .str "most", .str "plus", .str "times"]) := rfl
@[simp] theorem g_SMOOTH (k : Nat) : (sy k).gl 11 = some (.tup [.str "cos", .str "exp", .str "less", .str "minus", .str "number", .str "pi", .str "plus", .str "power", .str "sin", .str "times", .str "unknown"]) := rfl
@[simp] theorem g_WAVES (k : Nat) : (sy k).gl 12 = some (.tup [.str "cos", .str "exp", .str "sin"]) := rfl
@[simp] theorem g_STEEP (k : Nat) : (sy k).gl 13 = some (.int 16) := rfl
@[simp] theorem g_SLOPE (k : Nat) : (sy k).gl 14 = some (.int 50) := rfl
@[simp] theorem g_GREAT (k : Nat) : (sy k).gl 15 = some (.int 64) := rfl
@[simp] theorem g_DEGREE_integrands (k : Nat) : (sy k).gl 16 = some (.int 48) := rfl
@[simp] theorem g_WEIGHT (k : Nat) : (sy k).gl 17 = some (.int 2000) := rfl
@[simp] theorem g_WAVE (k : Nat) : (sy k).gl 18 = some (.int 40) := rfl
@[simp] theorem g_FOUR (k : Nat) : (sy k).gl 19 = some (.tup [.int 4, .int 1]) := rfl
@[simp] theorem s_number_unknown : (("number" : Str) = "unknown") = False := eq_false (by decide +kernel)
@[simp] theorem s_number_pi : (("number" : Str) = "pi") = False := eq_false (by decide +kernel)
@[simp] theorem s_number_minus : (("number" : Str) = "minus") = False := eq_false (by decide +kernel)
@[simp] theorem s_number_power : (("number" : Str) = "power") = False := eq_false (by decide +kernel)
@[simp] theorem s_number_sin : (("number" : Str) = "sin") = False := eq_false (by decide +kernel)
@[simp] theorem s_number_cos : (("number" : Str) = "cos") = False := eq_false (by decide +kernel)
@[simp] theorem s_number_exp : (("number" : Str) = "exp") = False := eq_false (by decide +kernel)
@[simp] theorem s_number_plus : (("number" : Str) = "plus") = False := eq_false (by decide +kernel)
@[simp] theorem s_number_less : (("number" : Str) = "less") = False := eq_false (by decide +kernel)
@[simp] theorem s_number_times : (("number" : Str) = "times") = False := eq_false (by decide +kernel)
@[simp] theorem s_number_root : (("number" : Str) = "root") = False := eq_false (by decide +kernel)
@[simp] theorem s_number_area : (("number" : Str) = "area") = False := eq_false (by decide +kernel)
@[simp] theorem s_number_abs : (("number" : Str) = "abs") = False := eq_false (by decide +kernel)
@[simp] theorem s_number_atan : (("number" : Str) = "atan") = False := eq_false (by decide +kernel)
@[simp] theorem s_number_log : (("number" : Str) = "log") = False := eq_false (by decide +kernel)
@[simp] theorem s_number_sqrt : (("number" : Str) = "sqrt") = False := eq_false (by decide +kernel)
@[simp] theorem s_number_by : (("number" : Str) = "by") = False := eq_false (by decide +kernel)
@[simp] theorem s_number_least : (("number" : Str) = "least") = False := eq_false (by decide +kernel)
@[simp] theorem s_number_most : (("number" : Str) = "most") = False := eq_false (by decide +kernel)
@[simp] theorem s_unknown_number : (("unknown" : Str) = "number") = False := eq_false (by decide +kernel)
@[simp] theorem s_unknown_pi : (("unknown" : Str) = "pi") = False := eq_false (by decide +kernel)
@[simp] theorem s_unknown_minus : (("unknown" : Str) = "minus") = False := eq_false (by decide +kernel)
@[simp] theorem s_unknown_power : (("unknown" : Str) = "power") = False := eq_false (by decide +kernel)
@[simp] theorem s_unknown_sin : (("unknown" : Str) = "sin") = False := eq_false (by decide +kernel)
@[simp] theorem s_unknown_cos : (("unknown" : Str) = "cos") = False := eq_false (by decide +kernel)
@[simp] theorem s_unknown_exp : (("unknown" : Str) = "exp") = False := eq_false (by decide +kernel)
@[simp] theorem s_unknown_plus : (("unknown" : Str) = "plus") = False := eq_false (by decide +kernel)
@[simp] theorem s_unknown_less : (("unknown" : Str) = "less") = False := eq_false (by decide +kernel)
@[simp] theorem s_unknown_times : (("unknown" : Str) = "times") = False := eq_false (by decide +kernel)
@[simp] theorem s_unknown_root : (("unknown" : Str) = "root") = False := eq_false (by decide +kernel)
@[simp] theorem s_unknown_area : (("unknown" : Str) = "area") = False := eq_false (by decide +kernel)
@[simp] theorem s_unknown_abs : (("unknown" : Str) = "abs") = False := eq_false (by decide +kernel)
@[simp] theorem s_unknown_atan : (("unknown" : Str) = "atan") = False := eq_false (by decide +kernel)
@[simp] theorem s_unknown_log : (("unknown" : Str) = "log") = False := eq_false (by decide +kernel)
@[simp] theorem s_unknown_sqrt : (("unknown" : Str) = "sqrt") = False := eq_false (by decide +kernel)
@[simp] theorem s_unknown_by : (("unknown" : Str) = "by") = False := eq_false (by decide +kernel)
@[simp] theorem s_unknown_least : (("unknown" : Str) = "least") = False := eq_false (by decide +kernel)
@[simp] theorem s_unknown_most : (("unknown" : Str) = "most") = False := eq_false (by decide +kernel)
@[simp] theorem s_pi_number : (("pi" : Str) = "number") = False := eq_false (by decide +kernel)
@[simp] theorem s_pi_unknown : (("pi" : Str) = "unknown") = False := eq_false (by decide +kernel)
@[simp] theorem s_pi_minus : (("pi" : Str) = "minus") = False := eq_false (by decide +kernel)
@[simp] theorem s_pi_power : (("pi" : Str) = "power") = False := eq_false (by decide +kernel)
@[simp] theorem s_pi_sin : (("pi" : Str) = "sin") = False := eq_false (by decide +kernel)
@[simp] theorem s_pi_cos : (("pi" : Str) = "cos") = False := eq_false (by decide +kernel)
@[simp] theorem s_pi_exp : (("pi" : Str) = "exp") = False := eq_false (by decide +kernel)
@[simp] theorem s_pi_plus : (("pi" : Str) = "plus") = False := eq_false (by decide +kernel)
@[simp] theorem s_pi_less : (("pi" : Str) = "less") = False := eq_false (by decide +kernel)
@[simp] theorem s_pi_times : (("pi" : Str) = "times") = False := eq_false (by decide +kernel)
@[simp] theorem s_pi_root : (("pi" : Str) = "root") = False := eq_false (by decide +kernel)
@[simp] theorem s_pi_area : (("pi" : Str) = "area") = False := eq_false (by decide +kernel)
@[simp] theorem s_pi_abs : (("pi" : Str) = "abs") = False := eq_false (by decide +kernel)
@[simp] theorem s_pi_atan : (("pi" : Str) = "atan") = False := eq_false (by decide +kernel)
@[simp] theorem s_pi_log : (("pi" : Str) = "log") = False := eq_false (by decide +kernel)
@[simp] theorem s_pi_sqrt : (("pi" : Str) = "sqrt") = False := eq_false (by decide +kernel)
@[simp] theorem s_pi_by : (("pi" : Str) = "by") = False := eq_false (by decide +kernel)
@[simp] theorem s_pi_least : (("pi" : Str) = "least") = False := eq_false (by decide +kernel)
@[simp] theorem s_pi_most : (("pi" : Str) = "most") = False := eq_false (by decide +kernel)
@[simp] theorem s_minus_number : (("minus" : Str) = "number") = False := eq_false (by decide +kernel)
@[simp] theorem s_minus_unknown : (("minus" : Str) = "unknown") = False := eq_false (by decide +kernel)
@[simp] theorem s_minus_pi : (("minus" : Str) = "pi") = False := eq_false (by decide +kernel)
@[simp] theorem s_minus_power : (("minus" : Str) = "power") = False := eq_false (by decide +kernel)
@[simp] theorem s_minus_sin : (("minus" : Str) = "sin") = False := eq_false (by decide +kernel)
@[simp] theorem s_minus_cos : (("minus" : Str) = "cos") = False := eq_false (by decide +kernel)
@[simp] theorem s_minus_exp : (("minus" : Str) = "exp") = False := eq_false (by decide +kernel)
@[simp] theorem s_minus_plus : (("minus" : Str) = "plus") = False := eq_false (by decide +kernel)
@[simp] theorem s_minus_less : (("minus" : Str) = "less") = False := eq_false (by decide +kernel)
@[simp] theorem s_minus_times : (("minus" : Str) = "times") = False := eq_false (by decide +kernel)
@[simp] theorem s_minus_root : (("minus" : Str) = "root") = False := eq_false (by decide +kernel)
@[simp] theorem s_minus_area : (("minus" : Str) = "area") = False := eq_false (by decide +kernel)
@[simp] theorem s_minus_abs : (("minus" : Str) = "abs") = False := eq_false (by decide +kernel)
@[simp] theorem s_minus_atan : (("minus" : Str) = "atan") = False := eq_false (by decide +kernel)
@[simp] theorem s_minus_log : (("minus" : Str) = "log") = False := eq_false (by decide +kernel)
@[simp] theorem s_minus_sqrt : (("minus" : Str) = "sqrt") = False := eq_false (by decide +kernel)
@[simp] theorem s_minus_by : (("minus" : Str) = "by") = False := eq_false (by decide +kernel)
@[simp] theorem s_minus_least : (("minus" : Str) = "least") = False := eq_false (by decide +kernel)
@[simp] theorem s_minus_most : (("minus" : Str) = "most") = False := eq_false (by decide +kernel)
@[simp] theorem s_power_number : (("power" : Str) = "number") = False := eq_false (by decide +kernel)
@[simp] theorem s_power_unknown : (("power" : Str) = "unknown") = False := eq_false (by decide +kernel)
@[simp] theorem s_power_pi : (("power" : Str) = "pi") = False := eq_false (by decide +kernel)
@[simp] theorem s_power_minus : (("power" : Str) = "minus") = False := eq_false (by decide +kernel)
@[simp] theorem s_power_sin : (("power" : Str) = "sin") = False := eq_false (by decide +kernel)
@[simp] theorem s_power_cos : (("power" : Str) = "cos") = False := eq_false (by decide +kernel)
@[simp] theorem s_power_exp : (("power" : Str) = "exp") = False := eq_false (by decide +kernel)
@[simp] theorem s_power_plus : (("power" : Str) = "plus") = False := eq_false (by decide +kernel)
@[simp] theorem s_power_less : (("power" : Str) = "less") = False := eq_false (by decide +kernel)
@[simp] theorem s_power_times : (("power" : Str) = "times") = False := eq_false (by decide +kernel)
@[simp] theorem s_power_root : (("power" : Str) = "root") = False := eq_false (by decide +kernel)
@[simp] theorem s_power_area : (("power" : Str) = "area") = False := eq_false (by decide +kernel)
@[simp] theorem s_power_abs : (("power" : Str) = "abs") = False := eq_false (by decide +kernel)
@[simp] theorem s_power_atan : (("power" : Str) = "atan") = False := eq_false (by decide +kernel)
@[simp] theorem s_power_log : (("power" : Str) = "log") = False := eq_false (by decide +kernel)
@[simp] theorem s_power_sqrt : (("power" : Str) = "sqrt") = False := eq_false (by decide +kernel)
@[simp] theorem s_power_by : (("power" : Str) = "by") = False := eq_false (by decide +kernel)
@[simp] theorem s_power_least : (("power" : Str) = "least") = False := eq_false (by decide +kernel)
@[simp] theorem s_power_most : (("power" : Str) = "most") = False := eq_false (by decide +kernel)
@[simp] theorem s_sin_number : (("sin" : Str) = "number") = False := eq_false (by decide +kernel)
@[simp] theorem s_sin_unknown : (("sin" : Str) = "unknown") = False := eq_false (by decide +kernel)
@[simp] theorem s_sin_pi : (("sin" : Str) = "pi") = False := eq_false (by decide +kernel)
@[simp] theorem s_sin_minus : (("sin" : Str) = "minus") = False := eq_false (by decide +kernel)
@[simp] theorem s_sin_power : (("sin" : Str) = "power") = False := eq_false (by decide +kernel)
@[simp] theorem s_sin_cos : (("sin" : Str) = "cos") = False := eq_false (by decide +kernel)
@[simp] theorem s_sin_exp : (("sin" : Str) = "exp") = False := eq_false (by decide +kernel)
@[simp] theorem s_sin_plus : (("sin" : Str) = "plus") = False := eq_false (by decide +kernel)
@[simp] theorem s_sin_less : (("sin" : Str) = "less") = False := eq_false (by decide +kernel)
@[simp] theorem s_sin_times : (("sin" : Str) = "times") = False := eq_false (by decide +kernel)
@[simp] theorem s_sin_root : (("sin" : Str) = "root") = False := eq_false (by decide +kernel)
@[simp] theorem s_sin_area : (("sin" : Str) = "area") = False := eq_false (by decide +kernel)
@[simp] theorem s_sin_abs : (("sin" : Str) = "abs") = False := eq_false (by decide +kernel)
@[simp] theorem s_sin_atan : (("sin" : Str) = "atan") = False := eq_false (by decide +kernel)
@[simp] theorem s_sin_log : (("sin" : Str) = "log") = False := eq_false (by decide +kernel)
@[simp] theorem s_sin_sqrt : (("sin" : Str) = "sqrt") = False := eq_false (by decide +kernel)
@[simp] theorem s_sin_by : (("sin" : Str) = "by") = False := eq_false (by decide +kernel)
@[simp] theorem s_sin_least : (("sin" : Str) = "least") = False := eq_false (by decide +kernel)
@[simp] theorem s_sin_most : (("sin" : Str) = "most") = False := eq_false (by decide +kernel)
@[simp] theorem s_cos_number : (("cos" : Str) = "number") = False := eq_false (by decide +kernel)
@[simp] theorem s_cos_unknown : (("cos" : Str) = "unknown") = False := eq_false (by decide +kernel)
@[simp] theorem s_cos_pi : (("cos" : Str) = "pi") = False := eq_false (by decide +kernel)
@[simp] theorem s_cos_minus : (("cos" : Str) = "minus") = False := eq_false (by decide +kernel)
@[simp] theorem s_cos_power : (("cos" : Str) = "power") = False := eq_false (by decide +kernel)
@[simp] theorem s_cos_sin : (("cos" : Str) = "sin") = False := eq_false (by decide +kernel)
@[simp] theorem s_cos_exp : (("cos" : Str) = "exp") = False := eq_false (by decide +kernel)
@[simp] theorem s_cos_plus : (("cos" : Str) = "plus") = False := eq_false (by decide +kernel)
@[simp] theorem s_cos_less : (("cos" : Str) = "less") = False := eq_false (by decide +kernel)
@[simp] theorem s_cos_times : (("cos" : Str) = "times") = False := eq_false (by decide +kernel)
@[simp] theorem s_cos_root : (("cos" : Str) = "root") = False := eq_false (by decide +kernel)
@[simp] theorem s_cos_area : (("cos" : Str) = "area") = False := eq_false (by decide +kernel)
@[simp] theorem s_cos_abs : (("cos" : Str) = "abs") = False := eq_false (by decide +kernel)
@[simp] theorem s_cos_atan : (("cos" : Str) = "atan") = False := eq_false (by decide +kernel)
@[simp] theorem s_cos_log : (("cos" : Str) = "log") = False := eq_false (by decide +kernel)
@[simp] theorem s_cos_sqrt : (("cos" : Str) = "sqrt") = False := eq_false (by decide +kernel)
@[simp] theorem s_cos_by : (("cos" : Str) = "by") = False := eq_false (by decide +kernel)
@[simp] theorem s_cos_least : (("cos" : Str) = "least") = False := eq_false (by decide +kernel)
@[simp] theorem s_cos_most : (("cos" : Str) = "most") = False := eq_false (by decide +kernel)
@[simp] theorem s_exp_number : (("exp" : Str) = "number") = False := eq_false (by decide +kernel)
@[simp] theorem s_exp_unknown : (("exp" : Str) = "unknown") = False := eq_false (by decide +kernel)
@[simp] theorem s_exp_pi : (("exp" : Str) = "pi") = False := eq_false (by decide +kernel)
@[simp] theorem s_exp_minus : (("exp" : Str) = "minus") = False := eq_false (by decide +kernel)
@[simp] theorem s_exp_power : (("exp" : Str) = "power") = False := eq_false (by decide +kernel)
@[simp] theorem s_exp_sin : (("exp" : Str) = "sin") = False := eq_false (by decide +kernel)
@[simp] theorem s_exp_cos : (("exp" : Str) = "cos") = False := eq_false (by decide +kernel)
@[simp] theorem s_exp_plus : (("exp" : Str) = "plus") = False := eq_false (by decide +kernel)
@[simp] theorem s_exp_less : (("exp" : Str) = "less") = False := eq_false (by decide +kernel)
@[simp] theorem s_exp_times : (("exp" : Str) = "times") = False := eq_false (by decide +kernel)
@[simp] theorem s_exp_root : (("exp" : Str) = "root") = False := eq_false (by decide +kernel)
@[simp] theorem s_exp_area : (("exp" : Str) = "area") = False := eq_false (by decide +kernel)
@[simp] theorem s_exp_abs : (("exp" : Str) = "abs") = False := eq_false (by decide +kernel)
@[simp] theorem s_exp_atan : (("exp" : Str) = "atan") = False := eq_false (by decide +kernel)
@[simp] theorem s_exp_log : (("exp" : Str) = "log") = False := eq_false (by decide +kernel)
@[simp] theorem s_exp_sqrt : (("exp" : Str) = "sqrt") = False := eq_false (by decide +kernel)
@[simp] theorem s_exp_by : (("exp" : Str) = "by") = False := eq_false (by decide +kernel)
@[simp] theorem s_exp_least : (("exp" : Str) = "least") = False := eq_false (by decide +kernel)
@[simp] theorem s_exp_most : (("exp" : Str) = "most") = False := eq_false (by decide +kernel)
@[simp] theorem s_plus_number : (("plus" : Str) = "number") = False := eq_false (by decide +kernel)
@[simp] theorem s_plus_unknown : (("plus" : Str) = "unknown") = False := eq_false (by decide +kernel)
@[simp] theorem s_plus_pi : (("plus" : Str) = "pi") = False := eq_false (by decide +kernel)
@[simp] theorem s_plus_minus : (("plus" : Str) = "minus") = False := eq_false (by decide +kernel)
@[simp] theorem s_plus_power : (("plus" : Str) = "power") = False := eq_false (by decide +kernel)
@[simp] theorem s_plus_sin : (("plus" : Str) = "sin") = False := eq_false (by decide +kernel)
@[simp] theorem s_plus_cos : (("plus" : Str) = "cos") = False := eq_false (by decide +kernel)
@[simp] theorem s_plus_exp : (("plus" : Str) = "exp") = False := eq_false (by decide +kernel)
@[simp] theorem s_plus_less : (("plus" : Str) = "less") = False := eq_false (by decide +kernel)
@[simp] theorem s_plus_times : (("plus" : Str) = "times") = False := eq_false (by decide +kernel)
@[simp] theorem s_plus_root : (("plus" : Str) = "root") = False := eq_false (by decide +kernel)
@[simp] theorem s_plus_area : (("plus" : Str) = "area") = False := eq_false (by decide +kernel)
@[simp] theorem s_plus_abs : (("plus" : Str) = "abs") = False := eq_false (by decide +kernel)
@[simp] theorem s_plus_atan : (("plus" : Str) = "atan") = False := eq_false (by decide +kernel)
@[simp] theorem s_plus_log : (("plus" : Str) = "log") = False := eq_false (by decide +kernel)
@[simp] theorem s_plus_sqrt : (("plus" : Str) = "sqrt") = False := eq_false (by decide +kernel)
@[simp] theorem s_plus_by : (("plus" : Str) = "by") = False := eq_false (by decide +kernel)
@[simp] theorem s_plus_least : (("plus" : Str) = "least") = False := eq_false (by decide +kernel)
@[simp] theorem s_plus_most : (("plus" : Str) = "most") = False := eq_false (by decide +kernel)
@[simp] theorem s_less_number : (("less" : Str) = "number") = False := eq_false (by decide +kernel)
@[simp] theorem s_less_unknown : (("less" : Str) = "unknown") = False := eq_false (by decide +kernel)
@[simp] theorem s_less_pi : (("less" : Str) = "pi") = False := eq_false (by decide +kernel)
@[simp] theorem s_less_minus : (("less" : Str) = "minus") = False := eq_false (by decide +kernel)
@[simp] theorem s_less_power : (("less" : Str) = "power") = False := eq_false (by decide +kernel)
@[simp] theorem s_less_sin : (("less" : Str) = "sin") = False := eq_false (by decide +kernel)
@[simp] theorem s_less_cos : (("less" : Str) = "cos") = False := eq_false (by decide +kernel)
@[simp] theorem s_less_exp : (("less" : Str) = "exp") = False := eq_false (by decide +kernel)
@[simp] theorem s_less_plus : (("less" : Str) = "plus") = False := eq_false (by decide +kernel)
@[simp] theorem s_less_times : (("less" : Str) = "times") = False := eq_false (by decide +kernel)
@[simp] theorem s_less_root : (("less" : Str) = "root") = False := eq_false (by decide +kernel)
@[simp] theorem s_less_area : (("less" : Str) = "area") = False := eq_false (by decide +kernel)
@[simp] theorem s_less_abs : (("less" : Str) = "abs") = False := eq_false (by decide +kernel)
@[simp] theorem s_less_atan : (("less" : Str) = "atan") = False := eq_false (by decide +kernel)
@[simp] theorem s_less_log : (("less" : Str) = "log") = False := eq_false (by decide +kernel)
@[simp] theorem s_less_sqrt : (("less" : Str) = "sqrt") = False := eq_false (by decide +kernel)
@[simp] theorem s_less_by : (("less" : Str) = "by") = False := eq_false (by decide +kernel)
@[simp] theorem s_less_least : (("less" : Str) = "least") = False := eq_false (by decide +kernel)
@[simp] theorem s_less_most : (("less" : Str) = "most") = False := eq_false (by decide +kernel)
@[simp] theorem s_times_number : (("times" : Str) = "number") = False := eq_false (by decide +kernel)
@[simp] theorem s_times_unknown : (("times" : Str) = "unknown") = False := eq_false (by decide +kernel)
@[simp] theorem s_times_pi : (("times" : Str) = "pi") = False := eq_false (by decide +kernel)
@[simp] theorem s_times_minus : (("times" : Str) = "minus") = False := eq_false (by decide +kernel)
@[simp] theorem s_times_power : (("times" : Str) = "power") = False := eq_false (by decide +kernel)
@[simp] theorem s_times_sin : (("times" : Str) = "sin") = False := eq_false (by decide +kernel)
@[simp] theorem s_times_cos : (("times" : Str) = "cos") = False := eq_false (by decide +kernel)
@[simp] theorem s_times_exp : (("times" : Str) = "exp") = False := eq_false (by decide +kernel)
@[simp] theorem s_times_plus : (("times" : Str) = "plus") = False := eq_false (by decide +kernel)
@[simp] theorem s_times_less : (("times" : Str) = "less") = False := eq_false (by decide +kernel)
@[simp] theorem s_times_root : (("times" : Str) = "root") = False := eq_false (by decide +kernel)
@[simp] theorem s_times_area : (("times" : Str) = "area") = False := eq_false (by decide +kernel)
@[simp] theorem s_times_abs : (("times" : Str) = "abs") = False := eq_false (by decide +kernel)
@[simp] theorem s_times_atan : (("times" : Str) = "atan") = False := eq_false (by decide +kernel)
@[simp] theorem s_times_log : (("times" : Str) = "log") = False := eq_false (by decide +kernel)
@[simp] theorem s_times_sqrt : (("times" : Str) = "sqrt") = False := eq_false (by decide +kernel)
@[simp] theorem s_times_by : (("times" : Str) = "by") = False := eq_false (by decide +kernel)
@[simp] theorem s_times_least : (("times" : Str) = "least") = False := eq_false (by decide +kernel)
@[simp] theorem s_times_most : (("times" : Str) = "most") = False := eq_false (by decide +kernel)
@[simp] theorem s_root_number : (("root" : Str) = "number") = False := eq_false (by decide +kernel)
@[simp] theorem s_root_unknown : (("root" : Str) = "unknown") = False := eq_false (by decide +kernel)
@[simp] theorem s_root_pi : (("root" : Str) = "pi") = False := eq_false (by decide +kernel)
@[simp] theorem s_root_minus : (("root" : Str) = "minus") = False := eq_false (by decide +kernel)
@[simp] theorem s_root_power : (("root" : Str) = "power") = False := eq_false (by decide +kernel)
@[simp] theorem s_root_sin : (("root" : Str) = "sin") = False := eq_false (by decide +kernel)
@[simp] theorem s_root_cos : (("root" : Str) = "cos") = False := eq_false (by decide +kernel)
@[simp] theorem s_root_exp : (("root" : Str) = "exp") = False := eq_false (by decide +kernel)
@[simp] theorem s_root_plus : (("root" : Str) = "plus") = False := eq_false (by decide +kernel)
@[simp] theorem s_root_less : (("root" : Str) = "less") = False := eq_false (by decide +kernel)
@[simp] theorem s_root_times : (("root" : Str) = "times") = False := eq_false (by decide +kernel)
@[simp] theorem s_root_area : (("root" : Str) = "area") = False := eq_false (by decide +kernel)
@[simp] theorem s_root_abs : (("root" : Str) = "abs") = False := eq_false (by decide +kernel)
@[simp] theorem s_root_atan : (("root" : Str) = "atan") = False := eq_false (by decide +kernel)
@[simp] theorem s_root_log : (("root" : Str) = "log") = False := eq_false (by decide +kernel)
@[simp] theorem s_root_sqrt : (("root" : Str) = "sqrt") = False := eq_false (by decide +kernel)
@[simp] theorem s_root_by : (("root" : Str) = "by") = False := eq_false (by decide +kernel)
@[simp] theorem s_root_least : (("root" : Str) = "least") = False := eq_false (by decide +kernel)
@[simp] theorem s_root_most : (("root" : Str) = "most") = False := eq_false (by decide +kernel)
@[simp] theorem s_area_number : (("area" : Str) = "number") = False := eq_false (by decide +kernel)
@[simp] theorem s_area_unknown : (("area" : Str) = "unknown") = False := eq_false (by decide +kernel)
@[simp] theorem s_area_pi : (("area" : Str) = "pi") = False := eq_false (by decide +kernel)
@[simp] theorem s_area_minus : (("area" : Str) = "minus") = False := eq_false (by decide +kernel)
@[simp] theorem s_area_power : (("area" : Str) = "power") = False := eq_false (by decide +kernel)
@[simp] theorem s_area_sin : (("area" : Str) = "sin") = False := eq_false (by decide +kernel)
@[simp] theorem s_area_cos : (("area" : Str) = "cos") = False := eq_false (by decide +kernel)
@[simp] theorem s_area_exp : (("area" : Str) = "exp") = False := eq_false (by decide +kernel)
@[simp] theorem s_area_plus : (("area" : Str) = "plus") = False := eq_false (by decide +kernel)
@[simp] theorem s_area_less : (("area" : Str) = "less") = False := eq_false (by decide +kernel)
@[simp] theorem s_area_times : (("area" : Str) = "times") = False := eq_false (by decide +kernel)
@[simp] theorem s_area_root : (("area" : Str) = "root") = False := eq_false (by decide +kernel)
@[simp] theorem s_area_abs : (("area" : Str) = "abs") = False := eq_false (by decide +kernel)
@[simp] theorem s_area_atan : (("area" : Str) = "atan") = False := eq_false (by decide +kernel)
@[simp] theorem s_area_log : (("area" : Str) = "log") = False := eq_false (by decide +kernel)
@[simp] theorem s_area_sqrt : (("area" : Str) = "sqrt") = False := eq_false (by decide +kernel)
@[simp] theorem s_area_by : (("area" : Str) = "by") = False := eq_false (by decide +kernel)
@[simp] theorem s_area_least : (("area" : Str) = "least") = False := eq_false (by decide +kernel)
@[simp] theorem s_area_most : (("area" : Str) = "most") = False := eq_false (by decide +kernel)
@[simp] theorem s_abs_number : (("abs" : Str) = "number") = False := eq_false (by decide +kernel)
@[simp] theorem s_abs_unknown : (("abs" : Str) = "unknown") = False := eq_false (by decide +kernel)
@[simp] theorem s_abs_pi : (("abs" : Str) = "pi") = False := eq_false (by decide +kernel)
@[simp] theorem s_abs_minus : (("abs" : Str) = "minus") = False := eq_false (by decide +kernel)
@[simp] theorem s_abs_power : (("abs" : Str) = "power") = False := eq_false (by decide +kernel)
@[simp] theorem s_abs_sin : (("abs" : Str) = "sin") = False := eq_false (by decide +kernel)
@[simp] theorem s_abs_cos : (("abs" : Str) = "cos") = False := eq_false (by decide +kernel)
@[simp] theorem s_abs_exp : (("abs" : Str) = "exp") = False := eq_false (by decide +kernel)
@[simp] theorem s_abs_plus : (("abs" : Str) = "plus") = False := eq_false (by decide +kernel)
@[simp] theorem s_abs_less : (("abs" : Str) = "less") = False := eq_false (by decide +kernel)
@[simp] theorem s_abs_times : (("abs" : Str) = "times") = False := eq_false (by decide +kernel)
@[simp] theorem s_abs_root : (("abs" : Str) = "root") = False := eq_false (by decide +kernel)
@[simp] theorem s_abs_area : (("abs" : Str) = "area") = False := eq_false (by decide +kernel)
@[simp] theorem s_abs_atan : (("abs" : Str) = "atan") = False := eq_false (by decide +kernel)
@[simp] theorem s_abs_log : (("abs" : Str) = "log") = False := eq_false (by decide +kernel)
@[simp] theorem s_abs_sqrt : (("abs" : Str) = "sqrt") = False := eq_false (by decide +kernel)
@[simp] theorem s_abs_by : (("abs" : Str) = "by") = False := eq_false (by decide +kernel)
@[simp] theorem s_abs_least : (("abs" : Str) = "least") = False := eq_false (by decide +kernel)
@[simp] theorem s_abs_most : (("abs" : Str) = "most") = False := eq_false (by decide +kernel)
@[simp] theorem s_atan_number : (("atan" : Str) = "number") = False := eq_false (by decide +kernel)
@[simp] theorem s_atan_unknown : (("atan" : Str) = "unknown") = False := eq_false (by decide +kernel)
@[simp] theorem s_atan_pi : (("atan" : Str) = "pi") = False := eq_false (by decide +kernel)
@[simp] theorem s_atan_minus : (("atan" : Str) = "minus") = False := eq_false (by decide +kernel)
@[simp] theorem s_atan_power : (("atan" : Str) = "power") = False := eq_false (by decide +kernel)
@[simp] theorem s_atan_sin : (("atan" : Str) = "sin") = False := eq_false (by decide +kernel)
@[simp] theorem s_atan_cos : (("atan" : Str) = "cos") = False := eq_false (by decide +kernel)
@[simp] theorem s_atan_exp : (("atan" : Str) = "exp") = False := eq_false (by decide +kernel)
@[simp] theorem s_atan_plus : (("atan" : Str) = "plus") = False := eq_false (by decide +kernel)
@[simp] theorem s_atan_less : (("atan" : Str) = "less") = False := eq_false (by decide +kernel)
@[simp] theorem s_atan_times : (("atan" : Str) = "times") = False := eq_false (by decide +kernel)
@[simp] theorem s_atan_root : (("atan" : Str) = "root") = False := eq_false (by decide +kernel)
@[simp] theorem s_atan_area : (("atan" : Str) = "area") = False := eq_false (by decide +kernel)
@[simp] theorem s_atan_abs : (("atan" : Str) = "abs") = False := eq_false (by decide +kernel)
@[simp] theorem s_atan_log : (("atan" : Str) = "log") = False := eq_false (by decide +kernel)
@[simp] theorem s_atan_sqrt : (("atan" : Str) = "sqrt") = False := eq_false (by decide +kernel)
@[simp] theorem s_atan_by : (("atan" : Str) = "by") = False := eq_false (by decide +kernel)
@[simp] theorem s_atan_least : (("atan" : Str) = "least") = False := eq_false (by decide +kernel)
@[simp] theorem s_atan_most : (("atan" : Str) = "most") = False := eq_false (by decide +kernel)
@[simp] theorem s_log_number : (("log" : Str) = "number") = False := eq_false (by decide +kernel)
@[simp] theorem s_log_unknown : (("log" : Str) = "unknown") = False := eq_false (by decide +kernel)
@[simp] theorem s_log_pi : (("log" : Str) = "pi") = False := eq_false (by decide +kernel)
@[simp] theorem s_log_minus : (("log" : Str) = "minus") = False := eq_false (by decide +kernel)
@[simp] theorem s_log_power : (("log" : Str) = "power") = False := eq_false (by decide +kernel)
@[simp] theorem s_log_sin : (("log" : Str) = "sin") = False := eq_false (by decide +kernel)
@[simp] theorem s_log_cos : (("log" : Str) = "cos") = False := eq_false (by decide +kernel)
@[simp] theorem s_log_exp : (("log" : Str) = "exp") = False := eq_false (by decide +kernel)
@[simp] theorem s_log_plus : (("log" : Str) = "plus") = False := eq_false (by decide +kernel)
@[simp] theorem s_log_less : (("log" : Str) = "less") = False := eq_false (by decide +kernel)
@[simp] theorem s_log_times : (("log" : Str) = "times") = False := eq_false (by decide +kernel)
@[simp] theorem s_log_root : (("log" : Str) = "root") = False := eq_false (by decide +kernel)
@[simp] theorem s_log_area : (("log" : Str) = "area") = False := eq_false (by decide +kernel)
@[simp] theorem s_log_abs : (("log" : Str) = "abs") = False := eq_false (by decide +kernel)
@[simp] theorem s_log_atan : (("log" : Str) = "atan") = False := eq_false (by decide +kernel)
@[simp] theorem s_log_sqrt : (("log" : Str) = "sqrt") = False := eq_false (by decide +kernel)
@[simp] theorem s_log_by : (("log" : Str) = "by") = False := eq_false (by decide +kernel)
@[simp] theorem s_log_least : (("log" : Str) = "least") = False := eq_false (by decide +kernel)
@[simp] theorem s_log_most : (("log" : Str) = "most") = False := eq_false (by decide +kernel)
@[simp] theorem s_sqrt_number : (("sqrt" : Str) = "number") = False := eq_false (by decide +kernel)
@[simp] theorem s_sqrt_unknown : (("sqrt" : Str) = "unknown") = False := eq_false (by decide +kernel)
@[simp] theorem s_sqrt_pi : (("sqrt" : Str) = "pi") = False := eq_false (by decide +kernel)
@[simp] theorem s_sqrt_minus : (("sqrt" : Str) = "minus") = False := eq_false (by decide +kernel)
@[simp] theorem s_sqrt_power : (("sqrt" : Str) = "power") = False := eq_false (by decide +kernel)
@[simp] theorem s_sqrt_sin : (("sqrt" : Str) = "sin") = False := eq_false (by decide +kernel)
@[simp] theorem s_sqrt_cos : (("sqrt" : Str) = "cos") = False := eq_false (by decide +kernel)
@[simp] theorem s_sqrt_exp : (("sqrt" : Str) = "exp") = False := eq_false (by decide +kernel)
@[simp] theorem s_sqrt_plus : (("sqrt" : Str) = "plus") = False := eq_false (by decide +kernel)
@[simp] theorem s_sqrt_less : (("sqrt" : Str) = "less") = False := eq_false (by decide +kernel)
@[simp] theorem s_sqrt_times : (("sqrt" : Str) = "times") = False := eq_false (by decide +kernel)
@[simp] theorem s_sqrt_root : (("sqrt" : Str) = "root") = False := eq_false (by decide +kernel)
@[simp] theorem s_sqrt_area : (("sqrt" : Str) = "area") = False := eq_false (by decide +kernel)
@[simp] theorem s_sqrt_abs : (("sqrt" : Str) = "abs") = False := eq_false (by decide +kernel)
@[simp] theorem s_sqrt_atan : (("sqrt" : Str) = "atan") = False := eq_false (by decide +kernel)
@[simp] theorem s_sqrt_log : (("sqrt" : Str) = "log") = False := eq_false (by decide +kernel)
@[simp] theorem s_sqrt_by : (("sqrt" : Str) = "by") = False := eq_false (by decide +kernel)
@[simp] theorem s_sqrt_least : (("sqrt" : Str) = "least") = False := eq_false (by decide +kernel)
@[simp] theorem s_sqrt_most : (("sqrt" : Str) = "most") = False := eq_false (by decide +kernel)
@[simp] theorem s_by_number : (("by" : Str) = "number") = False := eq_false (by decide +kernel)
@[simp] theorem s_by_unknown : (("by" : Str) = "unknown") = False := eq_false (by decide +kernel)
@[simp] theorem s_by_pi : (("by" : Str) = "pi") = False := eq_false (by decide +kernel)
@[simp] theorem s_by_minus : (("by" : Str) = "minus") = False := eq_false (by decide +kernel)
@[simp] theorem s_by_power : (("by" : Str) = "power") = False := eq_false (by decide +kernel)
@[simp] theorem s_by_sin : (("by" : Str) = "sin") = False := eq_false (by decide +kernel)
@[simp] theorem s_by_cos : (("by" : Str) = "cos") = False := eq_false (by decide +kernel)
@[simp] theorem s_by_exp : (("by" : Str) = "exp") = False := eq_false (by decide +kernel)
@[simp] theorem s_by_plus : (("by" : Str) = "plus") = False := eq_false (by decide +kernel)
@[simp] theorem s_by_less : (("by" : Str) = "less") = False := eq_false (by decide +kernel)
@[simp] theorem s_by_times : (("by" : Str) = "times") = False := eq_false (by decide +kernel)
@[simp] theorem s_by_root : (("by" : Str) = "root") = False := eq_false (by decide +kernel)
@[simp] theorem s_by_area : (("by" : Str) = "area") = False := eq_false (by decide +kernel)
@[simp] theorem s_by_abs : (("by" : Str) = "abs") = False := eq_false (by decide +kernel)
@[simp] theorem s_by_atan : (("by" : Str) = "atan") = False := eq_false (by decide +kernel)
@[simp] theorem s_by_log : (("by" : Str) = "log") = False := eq_false (by decide +kernel)
@[simp] theorem s_by_sqrt : (("by" : Str) = "sqrt") = False := eq_false (by decide +kernel)
@[simp] theorem s_by_least : (("by" : Str) = "least") = False := eq_false (by decide +kernel)
@[simp] theorem s_by_most : (("by" : Str) = "most") = False := eq_false (by decide +kernel)
@[simp] theorem s_least_number : (("least" : Str) = "number") = False := eq_false (by decide +kernel)
@[simp] theorem s_least_unknown : (("least" : Str) = "unknown") = False := eq_false (by decide +kernel)
@[simp] theorem s_least_pi : (("least" : Str) = "pi") = False := eq_false (by decide +kernel)
@[simp] theorem s_least_minus : (("least" : Str) = "minus") = False := eq_false (by decide +kernel)
@[simp] theorem s_least_power : (("least" : Str) = "power") = False := eq_false (by decide +kernel)
@[simp] theorem s_least_sin : (("least" : Str) = "sin") = False := eq_false (by decide +kernel)
@[simp] theorem s_least_cos : (("least" : Str) = "cos") = False := eq_false (by decide +kernel)
@[simp] theorem s_least_exp : (("least" : Str) = "exp") = False := eq_false (by decide +kernel)
@[simp] theorem s_least_plus : (("least" : Str) = "plus") = False := eq_false (by decide +kernel)
@[simp] theorem s_least_less : (("least" : Str) = "less") = False := eq_false (by decide +kernel)
@[simp] theorem s_least_times : (("least" : Str) = "times") = False := eq_false (by decide +kernel)
@[simp] theorem s_least_root : (("least" : Str) = "root") = False := eq_false (by decide +kernel)
@[simp] theorem s_least_area : (("least" : Str) = "area") = False := eq_false (by decide +kernel)
@[simp] theorem s_least_abs : (("least" : Str) = "abs") = False := eq_false (by decide +kernel)
@[simp] theorem s_least_atan : (("least" : Str) = "atan") = False := eq_false (by decide +kernel)
@[simp] theorem s_least_log : (("least" : Str) = "log") = False := eq_false (by decide +kernel)
@[simp] theorem s_least_sqrt : (("least" : Str) = "sqrt") = False := eq_false (by decide +kernel)
@[simp] theorem s_least_by : (("least" : Str) = "by") = False := eq_false (by decide +kernel)
@[simp] theorem s_least_most : (("least" : Str) = "most") = False := eq_false (by decide +kernel)
@[simp] theorem s_most_number : (("most" : Str) = "number") = False := eq_false (by decide +kernel)
@[simp] theorem s_most_unknown : (("most" : Str) = "unknown") = False := eq_false (by decide +kernel)
@[simp] theorem s_most_pi : (("most" : Str) = "pi") = False := eq_false (by decide +kernel)
@[simp] theorem s_most_minus : (("most" : Str) = "minus") = False := eq_false (by decide +kernel)
@[simp] theorem s_most_power : (("most" : Str) = "power") = False := eq_false (by decide +kernel)
@[simp] theorem s_most_sin : (("most" : Str) = "sin") = False := eq_false (by decide +kernel)
@[simp] theorem s_most_cos : (("most" : Str) = "cos") = False := eq_false (by decide +kernel)
@[simp] theorem s_most_exp : (("most" : Str) = "exp") = False := eq_false (by decide +kernel)
@[simp] theorem s_most_plus : (("most" : Str) = "plus") = False := eq_false (by decide +kernel)
@[simp] theorem s_most_less : (("most" : Str) = "less") = False := eq_false (by decide +kernel)
@[simp] theorem s_most_times : (("most" : Str) = "times") = False := eq_false (by decide +kernel)
@[simp] theorem s_most_root : (("most" : Str) = "root") = False := eq_false (by decide +kernel)
@[simp] theorem s_most_area : (("most" : Str) = "area") = False := eq_false (by decide +kernel)
@[simp] theorem s_most_abs : (("most" : Str) = "abs") = False := eq_false (by decide +kernel)
@[simp] theorem s_most_atan : (("most" : Str) = "atan") = False := eq_false (by decide +kernel)
@[simp] theorem s_most_log : (("most" : Str) = "log") = False := eq_false (by decide +kernel)
@[simp] theorem s_most_sqrt : (("most" : Str) = "sqrt") = False := eq_false (by decide +kernel)
@[simp] theorem s_most_by : (("most" : Str) = "by") = False := eq_false (by decide +kernel)
@[simp] theorem s_most_least : (("most" : Str) = "least") = False := eq_false (by decide +kernel)
end K45
namespace K45
open PySem PySem.Spec PyProof.Rows L2 Mn Mn.Sx
def allS : List D → Bool
  | [] => true
  | .str _ :: r => allS r
  | _ => false
def inS (s : Str) : List D → Bool
  | [] => false
  | .str t :: r => decide (s = t) || inS s r
  | _ :: r => inS s r
@[simp] theorem allS_nil : allS [] = true := rfl
@[simp] theorem allS_cons (t : Str) (r : List D) : allS (.str t :: r) = allS r := rfl
@[simp] theorem inS_nil (s : Str) : inS s [] = false := rfl
@[simp] theorem inS_cons (s t : Str) (r : List D) : inS s (.str t :: r) = (decide (s = t) || inS s r) := rfl
theorem inS_flat {s : Str} : ∀ {l : List D}, allS l = true → ∃ vs, flats l = some vs ∧ inV (.str s) vs = inS s l
  | [], _ => ⟨[], rfl, rfl⟩
  | .str t :: r, h => by
    obtain ⟨vs, e1, e2⟩ := inS_flat (s := s) (l := r) h
    refine ⟨.str t :: vs, ?_, ?_⟩
    · unfold flats
      rw [e1]
      rfl
    · show (eqV (.str t) (.str s) || inV (.str s) vs) = _
      rw [e2, inS_cons]
      congr 1
      show (t == s) = _
      by_cases h : s = t
      · subst h
        simp
      · rw [beq_false_of_ne (fun z => h z.symm)]
        simp [h]
@[simp] theorem in_strs (M : Sto) (s : Str) (l : List D) : cmpD .In M (.str s) (.tup l) = if allS l = true then some (inS s l) else inD M (.str s) (.tup l) := by
  split
  · rename_i h
    obtain ⟨vs, e1, e2⟩ := inS_flat (s := s) h
    show bndO (some (V.str s)) (fun v => bndO (some l) fun l => bndO (flats l) fun vs => some (inV v vs)) = _
    simp [e1, e2]
  · rfl
@[simp] theorem nin_strs (M : Sto) (s : Str) (l : List D) : cmpD .NotIn M (.str s) (.tup l) = if allS l = true then some (!inS s l) else bndO (inD M (.str s) (.tup l)) fun b => some (!b) := by
  split
  · rename_i h
    obtain ⟨vs, e1, e2⟩ := inS_flat (s := s) h
    show bndO (bndO (some (V.str s)) (fun v => bndO (some l) fun l => bndO (flats l) fun vs => some (inV v vs))) _ = _
    simp [e1, e2]
  · rfl
@[simp] theorem isi_int_int (M : Sto) (a : Int) : isiD M (.int a) "int" = some true := by
  show kitB "int" "int" = _
  decide +kernel
@[simp] theorem isi_int_bool (M : Sto) (a : Int) : isiD M (.int a) "bool" = some false := by
  show kitB "int" "bool" = _
  decide +kernel
@[simp] theorem isi_int_tup (M : Sto) (a : Int) : isiD M (.int a) "tuple" = some false := by
  show kitB "int" "tuple" = _
  decide +kernel
@[simp] theorem isi_int_str (M : Sto) (a : Int) : isiD M (.int a) "str" = some false := by
  show kitB "int" "str" = _
  decide +kernel
@[simp] theorem isi_tup_tup (M : Sto) (a : List D) : isiD M (.tup a) "tuple" = some true := by
  show kitB "tuple" "tuple" = _
  decide +kernel
@[simp] theorem isi_str_str (M : Sto) (a : Str) : isiD M (.str a) "str" = some true := by
  show kitB "str" "str" = _
  decide +kernel
@[simp] theorem isi_P_tup (M : Sto) (r : Rat) : isiD M (P r) "tuple" = some true := isi_tup_tup M _
@[simp] theorem len_P (M : Sto) (r : Rat) : bltD .len M [P r] = some (.int 2) := rfl
theorem e_is_whole {k : Nat} {a b c : Int} {M : Sto} : rn (k + 1) i_is_whole [.int a, .int b, .int c] M = some (.bl (decide (b ≤ a ∧ a ≤ c)), M) := by
  rw [rn_call _ rfl rfl]
  simp [f_is_whole, b_is_whole]
  by_cases h : b ≤ a <;> simp [h]
theorem e_is_integer {k : Nat} {a : Int} {M : Sto} : rn (k + 1) i_is_integer [.int a] M = some (.bl true, M) := by
  rw [rn_call _ rfl rfl]
  simp [f_is_integer, b_is_integer]
theorem e_is_tuple_of {k : Nat} {l : List D} {b c : Int} {M : Sto} : rn (k + 1) i_is_tuple_of [.tup l, .int b, .int c] M = some (.bl (decide (b ≤ l.length ∧ l.length ≤ c)), M) := by
  rw [rn_call _ rfl rfl]
  simp [f_is_tuple_of, b_is_tuple_of]
  by_cases h : b ≤ l.length <;> simp [h]
theorem e_tup_P {k : Nat} {r : Rat} {M : Sto} : rn (k + 1) i_is_tuple_of [P r, .int 2, .int 2] M = some (.bl true, M) := by
  unfold P
  rw [e_is_tuple_of]
  simp
theorem e_fits_any {k : Nat} {r : Rat} {M : Sto} : rn (k + 2) i_fits_any [P r] M = some (.bl true, M) := by
  have h1 : 0 < r.den := r.den_pos
  have h2 : Nat.gcd r.num.natAbs r.den = 1 := r.reduced
  rw [rn_call _ rfl rfl]
  simp [f_fits_any, b_fits_any, e_tup_P, e_is_integer, h1, h2]
/-- a number that a tree may hold -/
def fr12 (r : Rat) : Prop := r.num.natAbs ≤ 1000000000000 ∧ r.den ≤ 1000000000000
theorem e_fits_fraction {k : Nat} {r : Rat} {M : Sto} (h : fr12 r) : rn (k + 3) i_fits_fraction [P r] M = some (.bl true, M) := by
  have h1 : (r.num.natAbs : Int) ≤ 1000000000000 := by have := h.1; omega
  have h2 : (r.den : Int) ≤ 1000000000000 := by have := h.2; omega
  rw [rn_call _ rfl rfl]
  simp [f_fits_fraction, b_fits_fraction, e_fits_any, h1, h2]
theorem fr12.sm {r : Rat} (h : fr12 r) : Sm r := ⟨Nat.lt_of_le_of_lt h.1 (by decide), Nat.lt_of_le_of_lt h.2 (by decide)⟩
theorem ab_num (r : Rat) : (ab r).num = r.num.natAbs ∧ (ab r).den = r.den := by
  have h := ab_P r
  unfold P at h
  injection h with h
  injection h with h1 h2
  injection h1 with h1
  injection h2 with h2
  injection h2 with h2
  exact ⟨h1, by omega⟩
theorem ab_sm {r : Rat} (h : Sm r) : Sm (ab r) := ⟨by rw [(ab_num r).1, Int.natAbs_natCast]; exact h.1, by rw [(ab_num r).2]; exact h.2⟩
theorem e_is_end {k : Nat} {r : Rat} {M : Sto} (h : fr12 r) (h8 : ab r ≤ 8) : rn (k + 4) i_is_end [P r] M = some (.bl true, M) := by
  have e : ((r.num.natAbs : Int) : Rat) / ((r.den : Int) : Rat) = ab r := by
    have := rat_self (ab r)
    rw [(ab_num r).1, (ab_num r).2] at this
    exact this
  have h1 : D.tup [.int 8, .int 1] = P 8 := rfl
  have s8 : Sm (8 : Rat) := ⟨by decide, by decide⟩
  have e2 := e_is_less (k := k + 2) (M := M) s8 (ab_sm h.sm)
  have e3 : ¬ (8 : Rat) < ab r := Rat.not_lt.mpr h8
  have e4 := e_made (k := k + 2) (M := M) (a := (r.num.natAbs : Int)) (den_pos r) (pow_mono h.sm.den (by decide))
  rw [e] at e4
  rw [rn_call _ rfl rfl]
  simp [f_is_end, b_is_end, e_fits_fraction h, e4, h1, e2, e3]
/-! trees -/
inductive Wv where
  | sin | cos | exp
inductive Op where
  | plus | less | times
def Wv.s : Wv → Str
  | .sin => "sin" | .cos => "cos" | .exp => "exp"
def Op.s : Op → Str
  | .plus => "plus" | .less => "less" | .times => "times"
@[simp] theorem s_sin : Wv.sin.s = "sin" := rfl
@[simp] theorem s_cos : Wv.cos.s = "cos" := rfl
@[simp] theorem s_exp : Wv.exp.s = "exp" := rfl
@[simp] theorem s_plus : Op.plus.s = "plus" := rfl
@[simp] theorem s_less : Op.less.s = "less" := rfl
@[simp] theorem s_times : Op.times.s = "times" := rfl
inductive Tr where
  | num (r : Rat) | unk | pi
  | neg (t : Tr) | pw (t : Tr) (n : Nat) | wav (s : Wv) (t : Tr) | two (o : Op) (a b : Tr)
def Tr.d : Tr → D
  | .num r => .tup [.str "number", P r]
  | .unk => .tup [.str "unknown"]
  | .pi => .tup [.str "pi"]
  | .neg t => .tup [.str "minus", t.d]
  | .pw t n => .tup [.str "power", t.d, .int n]
  | .wav s t => .tup [.str s.s, t.d]
  | .two o a b => .tup [.str o.s, a.d, b.d]
def Tr.ht : Tr → Nat
  | .neg t => t.ht + 1
  | .pw t _ => t.ht + 1
  | .wav _ t => t.ht + 1
  | .two _ a b => max a.ht b.ht + 1
  | _ => 0
def Tr.sz : Tr → Nat
  | .neg t => t.sz + 1
  | .pw t _ => t.sz + 1
  | .wav _ t => t.sz + 1
  | .two _ a b => a.sz + b.sz + 1
  | _ => 1
def Tr.fits : Tr → Prop
  | .num r => fr12 r
  | .neg t => t.fits
  | .pw t n => t.fits ∧ n ≤ 12
  | .wav _ t => t.fits
  | .two _ a b => a.fits ∧ b.fits
  | _ => True
@[simp] theorem val_Tr (t : Tr) : val t.d = true := by cases t <;> rfl
theorem sz_pos (t : Tr) : 1 ≤ t.sz := by cases t <;> simp [Tr.sz]
theorem e_leaf_num {k : Nat} {r : Rat} {M : Sto} (h : fr12 r) : rn (k + 4) i_is_leaf [.tup [.str "number", P r], .bl true] M = some (.bl true, M) := by
  rw [rn_call _ rfl rfl]
  simp [f_is_leaf, b_is_leaf, e_fits_fraction h]
theorem e_leaf_unk {k : Nat} {M : Sto} : rn (k + 4) i_is_leaf [.tup [.str "unknown"], .bl true] M = some (.bl true, M) := by
  rw [rn_call _ rfl rfl]
  simp [f_is_leaf, b_is_leaf]
theorem e_leaf_pi {k : Nat} {M : Sto} : rn (k + 4) i_is_leaf [.tup [.str "pi"], .bl true] M = some (.bl true, M) := by
  rw [rn_call _ rfl rfl]
  simp [f_is_leaf, b_is_leaf]
theorem cast_ne {n : Nat} : ¬ ((n : Int) + 1 = 0) := by omega
theorem cast_ne2 {n : Nat} : ¬ ((n : Int) + 1 + 1 = 0) := by omega
theorem e_left : ∀ (t : Tr) (n h m : Nat) (M : Sto), t.ht ≤ n → t.ht ≤ h → t.sz ≤ m + 1 → t.fits → rn (n + 6) i_left_of [t.d, .int (h + 1 : Nat), .int (m + 1 : Nat), .bl true] M = some (.int ((m + 1 : Nat) - t.sz : Int), M)
  | .num r, n, h, m, M, hn, hh, hm, hf => by
    have hf : fr12 r := hf
    rw [rn_call _ rfl rfl]
    simp [f_left_of, b_left_of, Tr.d, Tr.sz, cast_ne, cast_ne2, e_is_tuple_of, e_leaf_num hf]
  | .unk, n, h, m, M, hn, hh, hm, hf => by
    rw [rn_call _ rfl rfl]
    simp [f_left_of, b_left_of, Tr.d, Tr.sz, cast_ne, cast_ne2, e_is_tuple_of, e_leaf_unk]
  | .pi, n, h, m, M, hn, hh, hm, hf => by
    rw [rn_call _ rfl rfl]
    simp [f_left_of, b_left_of, Tr.d, Tr.sz, cast_ne, cast_ne2, e_is_tuple_of, e_leaf_pi]
  | .neg t, n + 1, h + 1, m + 1, M, hn, hh, hm, hf => by
    have ih := e_left t n h m M (by simp [Tr.ht] at hn; omega) (by simp [Tr.ht] at hh; omega) (by simp [Tr.sz] at hm; omega) hf
    rw [rn_call _ rfl rfl]
    simp at ih
    simp [f_left_of, b_left_of, Tr.d, Tr.sz, cast_ne, cast_ne2, e_is_tuple_of, ih]
    omega
  | .wav s t, n + 1, h + 1, m + 1, M, hn, hh, hm, hf => by
    have ih := e_left t n h m M (by simp [Tr.ht] at hn; omega) (by simp [Tr.ht] at hh; omega) (by simp [Tr.sz] at hm; omega) hf
    rw [rn_call _ rfl rfl]
    simp at ih
    cases s <;> simp [f_left_of, b_left_of, Tr.d, Tr.sz, cast_ne, cast_ne2, e_is_tuple_of, ih] <;> omega
  | .pw t e, n + 1, h + 1, m + 1, M, hn, hh, hm, hf => by
    have ih := e_left t n h m M (by simp [Tr.ht] at hn; omega) (by simp [Tr.ht] at hh; omega) (by simp [Tr.sz] at hm; omega) hf.1
    have he : (e : Int) ≤ 12 := by have := hf.2; omega
    rw [rn_call _ rfl rfl]
    simp at ih
    simp [f_left_of, b_left_of, Tr.d, Tr.sz, cast_ne, cast_ne2, e_is_tuple_of, ih, e_is_whole, he]
    omega
  | .two o a b, n + 1, h + 1, m + 1, M, hn, hh, hm, hf => by
    have hb := sz_pos b
    have ha := sz_pos a
    have ih := e_left a n h m M (by simp [Tr.ht] at hn; omega) (by simp [Tr.ht] at hh; omega) (by simp [Tr.sz] at hm; omega) hf.1
    obtain ⟨q, hq⟩ : ∃ q, m + 1 - a.sz = q + 1 := ⟨m - a.sz, by simp [Tr.sz] at hm; omega⟩
    have ih2 := e_left b n h q M (by simp [Tr.ht] at hn; omega) (by simp [Tr.ht] at hh; omega) (by simp [Tr.sz] at hm; omega) hf.2
    have e : (m : Int) + 1 - a.sz = q + 1 := by omega
    rw [rn_call _ rfl rfl]
    simp at ih ih2
    rw [e] at ih
    have z : (0 : Int) ≤ q + 1 := by omega
    cases o <;> simp [f_left_of, b_left_of, Tr.d, Tr.sz, cast_ne, cast_ne2, e_is_tuple_of, ih, ih2, z] <;> omega
  | .neg t, 0, _, _, _, hn, _, _, _ => by simp [Tr.ht] at hn
  | .wav _ t, 0, _, _, _, hn, _, _, _ => by simp [Tr.ht] at hn
  | .pw t _, 0, _, _, _, hn, _, _, _ => by simp [Tr.ht] at hn
  | .two _ a b, 0, _, _, _, hn, _, _, _ => by simp [Tr.ht] at hn
  | .neg t, _, 0, _, _, _, hn, _, _ => by simp [Tr.ht] at hn
  | .wav _ t, _, 0, _, _, _, hn, _, _ => by simp [Tr.ht] at hn
  | .pw t _, _, 0, _, _, _, hn, _, _ => by simp [Tr.ht] at hn
  | .two _ a b, _, 0, _, _, _, hn, _, _ => by simp [Tr.ht] at hn
  | .neg t, _, _, 0, _, _, _, hn, _ => by have := sz_pos t; simp [Tr.sz] at hn; omega
  | .wav _ t, _, _, 0, _, _, _, hn, _ => by have := sz_pos t; simp [Tr.sz] at hn; omega
  | .pw t _, _, _, 0, _, _, _, hn, _ => by have := sz_pos t; simp [Tr.sz] at hn; omega
  | .two _ a b, _, _, 0, _, _, _, hn, _ => by have := sz_pos a; simp [Tr.sz] at hn; omega
def area (t : Tr) (lo hi : Rat) : D := .tup [.str "area", t.d, P lo, P hi]
theorem e_fits_integrand {t : Tr} {k : Nat} {M : Sto} (h1 : t.ht ≤ 11) (h2 : t.sz ≤ 39) (h3 : t.fits) : rn (k + 18) i_fits_integrand [t.d] M = some (.bl true, M) := by
  have e := e_left t (k + 11) 11 39 M (by omega) h1 (by omega) h3
  have z : (0 : Int) ≤ 40 - t.sz := by omega
  have z2 : t.sz ≤ 40 := by omega
  rw [rn_call _ rfl rfl]
  simp at e
  simp [f_fits_integrand, b_fits_integrand, e, z]
  omega
theorem e_fits_area {t : Tr} {lo hi : Rat} {k : Nat} {M : Sto} (h1 : t.ht ≤ 10) (h2 : t.sz ≤ 39) (h3 : t.fits) (hl : fr12 lo) (hl8 : ab lo ≤ 8) (hh : fr12 hi) (hh8 : ab hi ≤ 8) : rn (k + 19) i_fits_tree [area t lo hi] M = some (.bl true, M) := by
  have e := e_left t (k + 11) 10 38 M (by omega) h1 (by omega) h3
  have z : (0 : Int) ≤ 39 - t.sz := by omega
  have z2 : (t.sz : Int) ≤ 39 := by omega
  simp at e
  rw [rn_call _ rfl rfl]
  simp [f_fits_tree, b_fits_tree]
  rw [rn_call _ rfl rfl]
  simp [f_left_of, b_left_of, area, e_is_tuple_of, e_is_end hl hl8, e_is_end hh hh8, e, z]
  omega
end K45
namespace K45
open PySem PySem.Spec PyProof.Rows L2 Mn Mn.Sx
theorem compL_list {α : Type} {M : Sto} {f : D → Sto → Re (Option D)} {h : α → D} {g : α → Option D} : ∀ {xs : List α}, (∀ x ∈ xs, f (h x) M = some (g x, M)) → compL f (xs.map h) M = some (xs.filterMap g, M)
  | [], _ => rfl
  | x :: xs, e => by
    rw [List.map_cons]
    unfold compL
    rw [e x List.mem_cons_self, bnd_someP, compL_list fun y hy => e y (List.mem_cons_of_mem _ hy), bnd_someP]
    cases hg : g x with
    | none => rw [List.filterMap_cons_none hg]
    | some y => rw [List.filterMap_cons_some hg]
theorem cut1 (l : List D) (x : D) : cutL (x :: l) (some 1) none = l := by
  unfold cutL
  rw [show HT.sIx (x :: l).length 0 (some 1) = min 1 (x :: l).length from HT.sIx_nat (x :: l).length 0 1, HT.sIx_none, show min 1 (x :: l).length = 1 by rw [List.length_cons]; omega]
  simp
@[simp] theorem cut1_tup (M : Sto) (l : List D) (x : D) : cutD M (.tup (x :: l)) (some 1) none = some (.tup l) := by
  show some (D.tup (cutL (x :: l) (some 1) none)) = _
  rw [cut1]
/-! the parts of a tree -/
def Tr.tag : Tr → Str
  | .num _ => "number" | .unk => "unknown" | .pi => "pi" | .neg _ => "minus" | .pw _ _ => "power" | .wav s _ => s.s | .two o _ _ => o.s
@[simp] theorem idx_T0 (M : Sto) (t : Tr) : idxD M t.d (.int 0) = some (.str t.tag) := by cases t <;> simp [Tr.d, Tr.tag]
@[simp] theorem isi_T (M : Sto) (t : Tr) : isiD M t.d "tuple" = some true := by cases t <;> simp [Tr.d]
theorem len_T (M : Sto) (t : Tr) : ∃ n : Nat, bltD .len M [t.d] = some (.int n) ∧ 0 < n := by
  cases t <;> exact ⟨_, rfl, by simp⟩
def Tr.kids : Tr → List Tr
  | .neg t => [t] | .pw t _ => [t] | .wav _ t => [t] | .two _ a b => [a, b] | _ => []
def Tr.all : Tr → List Tr
  | .neg t => .neg t :: t.all | .pw t n => .pw t n :: t.all | .wav s t => .wav s t :: t.all | .two o a b => .two o a b :: (a.all ++ b.all)
  | t => [t]
theorem all_len : ∀ t : Tr, t.all.length = t.sz
  | .num _ => rfl | .unk => rfl | .pi => rfl
  | .neg t => by simp [Tr.all, Tr.sz, all_len t]
  | .pw t _ => by simp [Tr.all, Tr.sz, all_len t]
  | .wav _ t => by simp [Tr.all, Tr.sz, all_len t]
  | .two _ a b => by simp [Tr.all, Tr.sz, all_len a, all_len b]
theorem e_inner {k : Nat} (t : Tr) {M : Sto} : rn (k + 1) i_inner [t.d] M = some (.tup (t.kids.map Tr.d), M) := by
  rw [rn_call _ rfl rfl]
  cases t with
  | wav s t => cases s <;> simp [f_inner, b_inner, Tr.d, Tr.kids]
  | two s t u => cases s <;> simp [f_inner, b_inner, Tr.d, Tr.kids]
  | _ => simp [f_inner, b_inner, Tr.d, Tr.kids]
theorem e_linner {k : Nat} (t : Tr) {M : Sto} : rn (k + 1) i__law_inner [t.d] M = some (.lst (t.kids.map Tr.d), M) := by
  rw [rn_call _ rfl rfl]
  cases t with
  | num r => simp [f__law_inner, b__law_inner, Tr.d, Tr.kids, compL, goC, setT, wipeD]
  | unk => simp [f__law_inner, b__law_inner, Tr.d, Tr.kids, compL, goC, setT, wipeD]
  | pi => simp [f__law_inner, b__law_inner, Tr.d, Tr.kids, compL, goC, setT, wipeD]
  | neg t => obtain ⟨n, h1, h2⟩ := len_T M t; simp [f__law_inner, b__law_inner, Tr.d, Tr.kids, compL, goC, setT, wipeD, h1, h2]
  | pw t e => obtain ⟨n, h1, h2⟩ := len_T M t; simp [f__law_inner, b__law_inner, Tr.d, Tr.kids, compL, goC, setT, wipeD, h1, h2]
  | wav s t => obtain ⟨n, h1, h2⟩ := len_T M t; simp [f__law_inner, b__law_inner, Tr.d, Tr.kids, compL, goC, setT, wipeD, h1, h2]
  | two o t u => obtain ⟨n, h1, h2⟩ := len_T M t; obtain ⟨m, h3, h4⟩ := len_T M u; simp [f__law_inner, b__law_inner, Tr.d, Tr.kids, compL, goC, setT, wipeD, h1, h2, h3, h4]
theorem sz_line {n : Nat} (h : n ≤ 100) : n ≤ line := Nat.le_trans h (by decide)
theorem e_parts : ∀ (t : Tr) (n : Nat) (M : Sto), t.ht ≤ n → t.sz ≤ 90 → rn (n + 2) i_parts [t.d] M = some (.lst (t.all.map Tr.d), M)
  | .num r, n, M, hn, hs => by rw [rn_call _ rfl rfl]; simp [f_parts, b_parts, e_inner, Tr.kids, Tr.all]
  | .unk, n, M, hn, hs => by rw [rn_call _ rfl rfl]; simp [f_parts, b_parts, e_inner, Tr.kids, Tr.all]
  | .pi, n, M, hn, hs => by rw [rn_call _ rfl rfl]; simp [f_parts, b_parts, e_inner, Tr.kids, Tr.all]
  | .neg t, n + 1, M, hn, hs => by
    simp [Tr.ht, Tr.sz] at hn hs
    rw [rn_call _ rfl rfl]
    have := sz_line (n := 1 + t.sz) (by omega)
    simp [f_parts, b_parts, e_inner, Tr.kids, Tr.all, forL_cons, goF, setT, e_parts t n M hn (by omega), all_len, this]
  | .pw t _, n + 1, M, hn, hs => by
    simp [Tr.ht, Tr.sz] at hn hs
    rw [rn_call _ rfl rfl]
    have := sz_line (n := 1 + t.sz) (by omega)
    simp [f_parts, b_parts, e_inner, Tr.kids, Tr.all, forL_cons, goF, setT, e_parts t n M hn (by omega), all_len, this]
  | .wav _ t, n + 1, M, hn, hs => by
    simp [Tr.ht, Tr.sz] at hn hs
    rw [rn_call _ rfl rfl]
    have := sz_line (n := 1 + t.sz) (by omega)
    simp [f_parts, b_parts, e_inner, Tr.kids, Tr.all, forL_cons, goF, setT, e_parts t n M hn (by omega), all_len, this]
  | .two _ a b, n + 1, M, hn, hs => by
    simp [Tr.ht, Tr.sz] at hn hs
    rw [rn_call _ rfl rfl]
    have h1 := sz_line (n := a.sz + 1) (by omega)
    have h2 := sz_line (n := a.sz + (b.sz + 1)) (by omega)
    simp [f_parts, b_parts, e_inner, Tr.kids, Tr.all, forL_cons, goF, setT, e_parts a n M (by omega) (by omega), e_parts b n M (by omega) (by omega), all_len, Nat.add_comm 1, Nat.add_assoc, h1, Nat.add_left_comm 1, h2]
  | .neg t, 0, _, hn, _ => by simp [Tr.ht] at hn
  | .pw t _, 0, _, hn, _ => by simp [Tr.ht] at hn
  | .wav _ t, 0, _, hn, _ => by simp [Tr.ht] at hn
  | .two _ a b, 0, _, hn, _ => by simp [Tr.ht] at hn
theorem e_lparts : ∀ (t : Tr) (n : Nat) (M : Sto), t.ht ≤ n → t.sz ≤ 90 → rn (n + 2) i__law_parts [t.d] M = some (.lst (t.all.map Tr.d), M)
  | .num r, n, M, hn, hs => by rw [rn_call _ rfl rfl]; simp [f__law_parts, b__law_parts, e_linner, Tr.kids, Tr.all]
  | .unk, n, M, hn, hs => by rw [rn_call _ rfl rfl]; simp [f__law_parts, b__law_parts, e_linner, Tr.kids, Tr.all]
  | .pi, n, M, hn, hs => by rw [rn_call _ rfl rfl]; simp [f__law_parts, b__law_parts, e_linner, Tr.kids, Tr.all]
  | .neg t, n + 1, M, hn, hs => by
    simp [Tr.ht, Tr.sz] at hn hs
    rw [rn_call _ rfl rfl]
    have := sz_line (n := 1 + t.sz) (by omega)
    simp [f__law_parts, b__law_parts, e_linner, Tr.kids, Tr.all, forL_cons, goF, setT, e_lparts t n M hn (by omega), all_len, this]
  | .pw t _, n + 1, M, hn, hs => by
    simp [Tr.ht, Tr.sz] at hn hs
    rw [rn_call _ rfl rfl]
    have := sz_line (n := 1 + t.sz) (by omega)
    simp [f__law_parts, b__law_parts, e_linner, Tr.kids, Tr.all, forL_cons, goF, setT, e_lparts t n M hn (by omega), all_len, this]
  | .wav _ t, n + 1, M, hn, hs => by
    simp [Tr.ht, Tr.sz] at hn hs
    rw [rn_call _ rfl rfl]
    have := sz_line (n := 1 + t.sz) (by omega)
    simp [f__law_parts, b__law_parts, e_linner, Tr.kids, Tr.all, forL_cons, goF, setT, e_lparts t n M hn (by omega), all_len, this]
  | .two _ a b, n + 1, M, hn, hs => by
    simp [Tr.ht, Tr.sz] at hn hs
    rw [rn_call _ rfl rfl]
    have h1 := sz_line (n := a.sz + 1) (by omega)
    have h2 := sz_line (n := a.sz + (b.sz + 1)) (by omega)
    simp [f__law_parts, b__law_parts, e_linner, Tr.kids, Tr.all, forL_cons, goF, setT, e_lparts a n M (by omega) (by omega), e_lparts b n M (by omega) (by omega), all_len, Nat.add_comm 1, Nat.add_assoc, h1, Nat.add_left_comm 1, h2]
  | .neg t, 0, _, hn, _ => by simp [Tr.ht] at hn
  | .pw t _, 0, _, hn, _ => by simp [Tr.ht] at hn
  | .wav _ t, 0, _, hn, _ => by simp [Tr.ht] at hn
  | .two _ a b, 0, _, hn, _ => by simp [Tr.ht] at hn
/-! plain or not -/
def Tr.isW : Tr → Bool
  | .pi => true | .wav _ _ => true | _ => false
theorem plain_turn (t : Tr) (k : Nat) (ρ : Rho) (M : Sto) (hr : 1 < ρ.length) : goC (sy k) (.bool .And (.cons (.cmp .NotIn (.idx (.var 1) (.int 0)) (.gl 12)) (.cons (.cmp .NotEq (.idx (.var 1) (.int 0)) (.str "pi")) .nil))) [1] (.name 1) .no ρ t.d M = some (some (.bl (!t.isW)), M) := by
  cases t with
  | wav s t => cases s <;> simp [goC, setT, wipeD, hr, Tr.tag, Tr.isW]
  | two s t u => cases s <;> simp [goC, setT, wipeD, hr, Tr.tag, Tr.isW]
  | _ => simp [goC, setT, wipeD, hr, Tr.tag, Tr.isW]
theorem bls_map {α : Type} (f : α → Bool) : ∀ l : List α, bls (l.map fun x => D.bl (f x)) = some (l.map f)
  | [] => rfl
  | x :: l => by
    rw [List.map_cons]
    unfold bls
    rw [bls_map f l]
    rfl
theorem e_is_plain_in (t : Tr) (k : Nat) (M : Sto) (hk : t.ht ≤ k) (hs : t.sz ≤ 90) : rn (k + 3) i_is_plain_in [t.d] M = some (.bl (t.all.all fun s => !s.isW), M) := by
  have e := compL_list (M := M) (h := Tr.d) (g := fun s : Tr => some (D.bl (!s.isW))) (xs := t.all) (fun x _ => plain_turn x (k + 2) [some t.d, none] M (by simp))
  have h1 := sz_line (n := t.sz) (by omega)
  rw [rn_call _ rfl rfl]
  simp [f_is_plain_in, b_is_plain_in, e_parts t k M hk hs]
  rw [e]
  simp [all_len, h1, bltD, lstOf]
  rw [bls_map]
  simp
end K45
namespace K45
open PySem PySem.Spec PyProof.Rows L2 Mn Mn.Sx
@[simp] theorem ne_bl (M : Sto) (a b : Bool) : cmpD .NotEq M (.bl a) (.bl b) = some (!(a == b)) := by
  cases a <;> cases b <;> rfl
theorem P_inj {r s : Rat} : (r.num = s.num ∧ (r.den : Int) = s.den) ↔ r = s := by
  constructor
  · intro h
    exact Rat.ext h.1 (by omega)
  · intro h
    subst h
    exact ⟨rfl, rfl⟩
theorem eqD_P (M : Sto) (r s : Rat) : eqD M (P r) (P s) = some (decide (r = s)) := by
  show bndO (toP (P r)) (fun d => bndO (toP (P s)) fun e => if SeqAt.shaped d = true ∧ SeqAt.shaped e = true then some (PyData.eqv d e) else none) = _
  have h (r : Rat) : toP (P r) = some (.tuple [.int r.num, .int r.den]) := rfl
  have h2 (r : Rat) : SeqAt.shaped (.tuple [.int r.num, .int r.den]) = true := rfl
  rw [h, h]
  simp only [bndO_some', h2, and_self, if_true]
  congr 1
  show ((r.num == s.num) && (((r.den : Int) == s.den) && true)) = _
  rw [Bool.and_true]
  by_cases e : r = s
  · subst e
    simp
  · have := mt P_inj.mp e
    rw [decide_eq_false e]
    by_cases h1 : r.num = s.num
    · simp [h1] at this
      have : (r.den : Int) ≠ s.den := fun z => this (by omega)
      simp [this]
    · simp [h1]
@[simp] theorem eq_P (M : Sto) (r s : Rat) : cmpD .Eq M (P r) (P s) = some (decide (r = s)) := eqD_P M r s
@[simp] theorem ne_P (M : Sto) (r s : Rat) : cmpD .NotEq M (P r) (P s) = some (!decide (r = s)) := by
  show bndO (eqD M (P r) (P s)) (fun b => some (!b)) = _
  rw [eqD_P]
  rfl
@[simp] theorem is_P (M : Sto) (r : Rat) : cmpD .Is M (P r) .non = some false := rfl
@[simp] theorem isn_P (M : Sto) (r : Rat) : cmpD .IsNot M (P r) .non = some true := rfl
theorem strOk_tag (t : Tr) : PyData.canLay0 (.str t.tag) = true := by
  cases t with
  | wav s _ => show PyData.canLay0 (.str s.s) = true; cases s <;> decide +kernel
  | two s _ _ => show PyData.canLay0 (.str s.s) = true; cases s <;> decide +kernel
  | num _ => show PyData.canLay0 (.str "number") = true; decide +kernel
  | unk => decide +kernel
  | pi => decide +kernel
  | neg _ => show PyData.canLay0 (.str "minus") = true; decide +kernel
  | pw _ _ => show PyData.canLay0 (.str "power") = true; decide +kernel
theorem toP_tr : ∀ t : Tr, ∃ p, toP t.d = some p ∧ p.canLay0 = true ∧ p.depth ≤ t.ht + 2
  | .num r => ⟨.tuple [.str "number", .tuple [.int r.num, .int r.den]], rfl, by
      have := strOk_tag (.num r)
      show (PyData.canLay0 (.str "number") && (true && true)) = true
      rw [show PyData.canLay0 (.str "number") = true from this]
      rfl, by
      show max 0 (max (max 0 (max 0 0) + 1) 0) + 1 ≤ 0 + 2
      decide⟩
  | .unk => ⟨.tuple [.str "unknown"], rfl, by decide +kernel, by decide +kernel⟩
  | .pi => ⟨.tuple [.str "pi"], rfl, by decide +kernel, by decide +kernel⟩
  | .neg t => by
    obtain ⟨p, h1, h2, h3⟩ := toP_tr t
    refine ⟨.tuple [.str "minus", p], ?_, ?_, ?_⟩
    · show bndO (bndO (some (PyData.str "minus")) fun x => bndO (bndO (toP t.d) fun x => bndO (some []) fun y => some (x :: y)) fun y => some (x :: y)) _ = _
      rw [h1]
      rfl
    · show (PyData.canLay0 (.str "minus") && (p.canLay0 && true)) = true
      rw [h2, show PyData.canLay0 (.str "minus") = true from strOk_tag (.neg t)]
      rfl
    · show max 0 (max p.depth 0) + 1 ≤ t.ht + 1 + 2
      omega
  | .wav s t => by
    obtain ⟨p, h1, h2, h3⟩ := toP_tr t
    refine ⟨.tuple [.str s.s, p], ?_, ?_, ?_⟩
    · show bndO (bndO (some (PyData.str s.s)) fun x => bndO (bndO (toP t.d) fun x => bndO (some []) fun y => some (x :: y)) fun y => some (x :: y)) _ = _
      rw [h1]
      rfl
    · show (PyData.canLay0 (.str s.s) && (p.canLay0 && true)) = true
      rw [h2, show PyData.canLay0 (.str s.s) = true from strOk_tag (.wav s t)]
      rfl
    · show max 0 (max p.depth 0) + 1 ≤ t.ht + 1 + 2
      omega
  | .pw t n => by
    obtain ⟨p, h1, h2, h3⟩ := toP_tr t
    refine ⟨.tuple [.str "power", p, .int n], ?_, ?_, ?_⟩
    · show bndO (bndO (some (PyData.str "power")) fun x => bndO (bndO (toP t.d) fun x => bndO (some [PyData.int n]) fun y => some (x :: y)) fun y => some (x :: y)) _ = _
      rw [h1]
      rfl
    · show (PyData.canLay0 (.str "power") && (p.canLay0 && (true && true))) = true
      rw [h2, show PyData.canLay0 (.str "power") = true from strOk_tag (.pw t n)]
      rfl
    · show max 0 (max p.depth (max 0 0)) + 1 ≤ t.ht + 1 + 2
      omega
  | .two s t u => by
    obtain ⟨p, h1, h2, h3⟩ := toP_tr t
    obtain ⟨q, g1, g2, g3⟩ := toP_tr u
    refine ⟨.tuple [.str s.s, p, q], ?_, ?_, ?_⟩
    · show bndO (bndO (some (PyData.str s.s)) fun x => bndO (bndO (toP t.d) fun x => bndO (bndO (toP u.d) fun x => bndO (some []) fun y => some (x :: y)) fun y => some (x :: y)) fun y => some (x :: y)) _ = _
      rw [h1, g1]
      rfl
    · show (PyData.canLay0 (.str s.s) && (p.canLay0 && (q.canLay0 && true))) = true
      rw [h2, g2, show PyData.canLay0 (.str s.s) = true from strOk_tag (.two s t u)]
      rfl
    · show max 0 (max p.depth (max q.depth 0)) + 1 ≤ max t.ht u.ht + 1 + 2
      omega
theorem toPs_tr {n : Nat} : ∀ l : List Tr, (∀ t ∈ l, t.ht ≤ n) → ∃ ps, toPs (l.map Tr.d) = some ps ∧ PyData.canLayAll0 ps = true ∧ PyData.depthAll ps ≤ n + 2 ∧ (ps = [] ↔ l = [])
  | [], _ => ⟨[], rfl, rfl, Nat.zero_le _, by simp⟩
  | t :: l, h => by
    obtain ⟨p, h1, h2, h3⟩ := toP_tr t
    obtain ⟨ps, g1, g2, g3, _⟩ := toPs_tr l fun x hx => h x (List.mem_cons_of_mem _ hx)
    refine ⟨p :: ps, ?_, ?_, ?_, by simp⟩
    · show bndO (toP t.d) (fun x => bndO (toPs (l.map Tr.d)) fun y => some (x :: y)) = _
      rw [h1, g1]
      rfl
    · show (p.canLay0 && PyData.canLayAll0 ps) = true
      rw [h2, g2]
      rfl
    · show max p.depth (PyData.depthAll ps) ≤ n + 2
      have := h t List.mem_cons_self
      omega
theorem eq_nil {M : Sto} {n : Nat} {l : List Tr} (h : ∀ t ∈ l, t.ht ≤ n) (hn : n ≤ 50) : cmpD .Eq M (.lst (l.map Tr.d)) (.lst []) = some l.isEmpty := by
  obtain ⟨ps, h1, h2, h3, h4⟩ := toPs_tr l h
  show bndO (bndO (toPs (l.map Tr.d)) fun r => some (PyData.list r)) (fun d => bndO (some (PyData.list [])) fun e => if SeqAt.shaped d = true ∧ SeqAt.shaped e = true then some (PyData.eqv d e) else none) = _
  rw [h1]
  have e1 : SeqAt.shaped (PyData.list ps) = true := by
    show (PyData.canLayAll0 ps && decide (PyData.depthAll ps + 1 ≤ 64)) = true
    rw [h2, decide_eq_true (by omega)]
    rfl
  have e2 : SeqAt.shaped (PyData.list []) = true := rfl
  simp only [bndO_some', e1, e2, and_self, if_true]
  cases l with
  | nil => rw [h4.mpr rfl]; rfl
  | cons t l =>
    cases ps with
    | nil => exact absurd (h4.mp rfl) (by simp)
    | cons p ps => rfl
theorem ne_nil {M : Sto} {n : Nat} {l : List Tr} (h : ∀ t ∈ l, t.ht ≤ n) (hn : n ≤ 50) : cmpD .NotEq M (.lst (l.map Tr.d)) (.lst []) = some (!l.isEmpty) := by
  have := eq_nil (M := M) h hn
  show bndO (eqD M (.lst (l.map Tr.d)) (.lst [])) (fun b => some (!b)) = _
  rw [show eqD M (.lst (l.map Tr.d)) (.lst []) = some l.isEmpty from this]
  rfl
theorem all_ht : ∀ (t u : Tr), u ∈ t.all → u.ht ≤ t.ht
  | .num _, u, h => by simp [Tr.all] at h; subst h; exact Nat.le_refl _
  | .unk, u, h => by simp [Tr.all] at h; subst h; exact Nat.le_refl _
  | .pi, u, h => by simp [Tr.all] at h; subst h; exact Nat.le_refl _
  | .neg t, u, h => by
    simp [Tr.all] at h
    rcases h with h | h
    · subst h; exact Nat.le_refl _
    · have := all_ht t u h
      simp [Tr.ht]; omega
  | .pw t _, u, h => by
    simp [Tr.all] at h
    rcases h with h | h
    · subst h; exact Nat.le_refl _
    · have := all_ht t u h
      simp [Tr.ht]; omega
  | .wav _ t, u, h => by
    simp [Tr.all] at h
    rcases h with h | h
    · subst h; exact Nat.le_refl _
    · have := all_ht t u h
      simp [Tr.ht]; omega
  | .two _ t v, u, h => by
    simp [Tr.all] at h
    rcases h with h | h | h
    · subst h; exact Nat.le_refl _
    · have := all_ht t u h
      simp [Tr.ht]; omega
    · have := all_ht v u h
      simp [Tr.ht]; omega
end K45
namespace K45
open PySem PySem.Spec PyProof.Rows L2 Mn Mn.Sx
/-! sizes -/
def Sz (n : Nat) (r : Rat) : Prop := r.num.natAbs < 2 ^ n ∧ r.den < 2 ^ n
theorem Sz.up {n m : Nat} {r : Rat} (h : Sz n r) (hm : n ≤ m) : Sz m r := ⟨pow_mono h.1 hm, pow_mono h.2 hm⟩
theorem Sz.sm {n : Nat} {r : Rat} (h : Sz n r) (hm : n ≤ 3000) : Sm r := h.up hm
theorem sz_made {a b : Int} (hb : 0 < b) : ((a : Rat) / b).num.natAbs ≤ a.natAbs ∧ ((a : Rat) / b).den ≤ b.natAbs := by
  rw [← Rat.divInt_eq_div]
  have h1 := Rat.num_divInt a b
  have h2 := Rat.den_divInt a b
  rw [Int.sign_eq_one_of_pos hb, Int.one_mul] at h1
  rw [if_neg (by omega)] at h2
  rw [h1, h2]
  exact ⟨Int.natAbs_ediv_le_natAbs _ _, Nat.div_le_self _ _⟩
theorem Sz.mul {n m : Nat} {r s : Rat} (hr : Sz n r) (hs : Sz m s) : Sz (n + m) (r * s) := by
  rw [← rat_mul]
  obtain ⟨h1, h2⟩ := sz_made (a := r.num * s.num) (den_mul r s)
  have h3 : ((r.den : Int) * (s.den : Int)).natAbs < 2 ^ (n + m) := mul_lt (by rw [Int.natAbs_natCast]; exact hr.2) (by rw [Int.natAbs_natCast]; exact hs.2)
  exact ⟨Nat.lt_of_le_of_lt h1 (mul_lt hr.1 hs.1), Nat.lt_of_le_of_lt h2 h3⟩
theorem Sz.add {n m : Nat} {r s : Rat} (hr : Sz n r) (hs : Sz m s) : Sz (n + m + 1) (r + s) := by
  rw [← rat_add]
  obtain ⟨h1, h2⟩ := sz_made (a := r.num * s.den + s.num * r.den) (den_mul r s)
  have h3 : ((r.den : Int) * (s.den : Int)).natAbs < 2 ^ (n + m) := mul_lt (by rw [Int.natAbs_natCast]; exact hr.2) (by rw [Int.natAbs_natCast]; exact hs.2)
  have h4 : (r.num * (s.den : Int)).natAbs < 2 ^ (n + m) := mul_lt hr.1 (by rw [Int.natAbs_natCast]; exact hs.2)
  have h5 : (s.num * (r.den : Int)).natAbs < 2 ^ (m + n) := mul_lt hs.1 (by rw [Int.natAbs_natCast]; exact hr.2)
  rw [Nat.add_comm m n] at h5
  refine ⟨Nat.lt_of_le_of_lt h1 ?_, Nat.lt_of_le_of_lt h2 (pow_mono h3 (by omega))⟩
  rw [Nat.pow_succ]
  omega
theorem Sz.ab {n : Nat} {r : Rat} (h : Sz n r) : Sz n (ab r) := by
  refine ⟨?_, ?_⟩
  · rw [(ab_num r).1, Int.natAbs_natCast]; exact h.1
  · rw [(ab_num r).2]; exact h.2
theorem sz0 : Sz 1 0 := ⟨by decide, by decide⟩
theorem sz1 : Sz 1 1 := ⟨by decide, by decide⟩
theorem ab_nonneg (r : Rat) : 0 ≤ ab r := by
  unfold ab
  split <;> grind
/-! figures -/
def fig (r : Rat) : Nat := Builtin.Int.intBits r.num.natAbs + Builtin.Int.intBits r.den
theorem e_figures {k : Nat} {r : Rat} {M : Sto} : rn (k + 1) i_figures [P r] M = some (.int (fig r), M) := by
  rw [rn_call _ rfl rfl]
  simp [f_figures, b_figures, fig]
theorem fig_le {r : Rat} {n : Nat} (h : Sz n r) : fig r ≤ 2 * n := by
  have h1 := PyProof.Rows.intBits_le (a := (r.num.natAbs : Int)) (k := n) (by rw [Int.natAbs_natCast]; exact h.1)
  have h2 := PyProof.Rows.intBits_le (a := (r.den : Int)) (k := n) (by rw [Int.natAbs_natCast]; exact h.2)
  unfold fig
  omega
/-! measures -/
@[simp] theorem P0 : D.tup [.int 0, .int 1] = P 0 := rfl
@[simp] theorem P1 : D.tup [.int 1, .int 1] = P 1 := rfl
@[simp] theorem P4 : D.tup [.int 4, .int 1] = P 4 := rfl
@[simp] theorem P16 : D.tup [.int 16, .int 1] = P 16 := rfl
@[simp] theorem P50 : D.tup [.int 50, .int 1] = P 50 := rfl
def ms (a s : Rat) (d w : Int) : D := .tup [P a, P s, .int d, .int w]
@[simp] theorem val_ms (a s : Rat) (d w : Int) : val (ms a s d w) = true := rfl
@[simp] theorem ms_fold (a s : Rat) (d w : Int) : D.tup [P a, P s, .int d, .int w] = ms a s d w := rfl
@[simp] theorem idx_ms0 (M : Sto) (a s : Rat) (d w : Int) : idxD M (ms a s d w) (.int 0) = some (P a) := by unfold ms; rw [idx_tup, atI_0]
@[simp] theorem idx_ms1 (M : Sto) (a s : Rat) (d w : Int) : idxD M (ms a s d w) (.int 1) = some (P s) := by unfold ms; rw [idx_tup, atI_1]
@[simp] theorem idx_ms2 (M : Sto) (a s : Rat) (d w : Int) : idxD M (ms a s d w) (.int 2) = some (.int d) := by unfold ms; rw [idx_tup, atI_2]
@[simp] theorem idx_ms3 (M : Sto) (a s : Rat) (d w : Int) : idxD M (ms a s d w) (.int 3) = some (.int w) := by unfold ms; rw [idx_tup, atI_3]
@[simp] theorem fin_ms (m : Nat) (a s : Rat) (d w : Int) (M : Sto) : fin m false (some (.rt (ms a s d w) M)) = some (ms a s d w, M.take m) := rfl
@[simp] theorem eq_m0 (M : Sto) : cmpD .Eq M (.lst []) (.lst []) = some true := rfl
@[simp] theorem eq_m1 (M : Sto) (a s : Rat) (d w : Int) : cmpD .Eq M (.lst [ms a s d w]) (.lst []) = some false := rfl
@[simp] theorem eq_m2 (M : Sto) (a s : Rat) (d w : Int) (a' s' : Rat) (d' w' : Int) : cmpD .Eq M (.lst [ms a s d w, ms a' s' d' w']) (.lst []) = some false := rfl
theorem cut12 (l : List D) (x y : D) : cutL (x :: y :: l) (some 1) (some 2) = [y] := by
  unfold cutL
  rw [show HT.sIx (x :: y :: l).length 0 (some 1) = min 1 (x :: y :: l).length from HT.sIx_nat (x :: y :: l).length 0 1, show HT.sIx (x :: y :: l).length (x :: y :: l).length (some 2) = min 2 (x :: y :: l).length from HT.sIx_nat (x :: y :: l).length _ 2, show min 1 (x :: y :: l).length = 1 by rw [List.length_cons]; omega, show min 2 (x :: y :: l).length = 2 by rw [List.length_cons, List.length_cons]; omega]
  simp
@[simp] theorem cut12_tup (M : Sto) (l : List D) (x y : D) : cutD M (.tup (x :: y :: l)) (some 1) (some 2) = some (.tup [y]) := by
  show some (D.tup (cutL (x :: y :: l) (some 1) (some 2))) = _
  rw [cut12]
@[simp] theorem cut12_one (M : Sto) (x : D) : cutD M (.tup [x]) (some 1) (some 2) = some (.tup []) := rfl
theorem cut2 (l : List D) (x y : D) : cutL (x :: y :: l) (some 2) none = l := by
  unfold cutL
  rw [show HT.sIx (x :: y :: l).length 0 (some 2) = min 2 (x :: y :: l).length from HT.sIx_nat (x :: y :: l).length 0 2, HT.sIx_none, show min 2 (x :: y :: l).length = 2 by rw [List.length_cons, List.length_cons]; omega]
  simp
@[simp] theorem cut2_tup (M : Sto) (l : List D) (x y : D) : cutD M (.tup (x :: y :: l)) (some 2) none = some (.tup l) := by
  show some (D.tup (cutL (x :: y :: l) (some 2) none)) = _
  rw [cut2]
theorem e_two64 {k : Nat} {M : Sto} : rn (k + 1) i_two_to [.int 64] M = some (P (2 ^ 64), M) := e_two_to (n := 64) (by decide)
/-- small enough for the program -/
structure Fine (a s : Rat) (d w : Int) : Prop where
  sa : Sm a
  ss : Sm s
  a64 : a ≤ 2 ^ 64
  d48 : d ≤ 48
  w2000 : w ≤ 2000
def Ms (lo hi : Rat) (t : Tr) (h : Nat) (a s : Rat) (d w : Int) : Prop := ∀ n M, h ≤ n → rn (n + 8) i_measured [t.d, .tup [P lo, P hi]] M = some (ms a s d w, M)
theorem sm64 : Sm ((2 : Rat) ^ 64) := ⟨by rw [Rat.num_pow]; decide +kernel, by rw [Rat.den_pow]; decide +kernel⟩
/-- a node, what its parts measure -/
theorem m_leaf {lo hi : Rat} {t : Tr} {a s : Rat} {d w : Int} (ht : t.kids = []) (F : Fine a s d w) (h : ∀ n M, rn (n + 5) i_leaf_measures [t.d, .tup [P lo, P hi]] M = some (ms a s d w, M)) : Ms lo hi t 0 a s d w := by
  intro n M _
  have e : ∀ n M, rn (n + 6) i_node_measures [t.d, .lst [], .tup [P lo, P hi]] M = some (ms a s d w, M) := fun n M => by
    rw [rn_call _ rfl rfl]
    simp [f_node_measures, b_node_measures, h]
  have l := e_is_less (k := n + 6) (M := M) sm64 F.sa
  have l2 : ¬ (2 : Rat) ^ 64 < a := Rat.not_lt.mpr F.a64
  have l3 : ¬ 48 < d := by have := F.d48; omega
  have l4 : ¬ 2000 < w := by have := F.w2000; omega
  rw [rn_call _ rfl rfl]
  cases t with
  | num r => simp [f_measured, b_measured, e_two64, l, l2, l3, l4, e (n + 1), Tr.tag]; simp [Tr.d] at e ⊢; simp [e (n + 1), l, l2, l3, l4]
  | unk => simp [f_measured, b_measured, e_two64, l, l2, l3, l4, e (n + 1), Tr.tag]; simp [Tr.d] at e ⊢; simp [e (n + 1), l, l2, l3, l4]
  | pi => simp [f_measured, b_measured, e_two64, l, l2, l3, l4, e (n + 1), Tr.tag]; simp [Tr.d] at e ⊢; simp [e (n + 1), l, l2, l3, l4]
  | _ => simp [Tr.kids] at ht
def Op.am (o : Op) (a a' : Rat) : Rat := match o with | .times => a * a' | _ => a + a'
def Op.sl (o : Op) (a s a' s' : Rat) : Rat := match o with | .times => a * s' + s * a' | _ => s + s'
def Op.dg (o : Op) (d d' : Int) : Int := match o with | .times => d + d' | _ => max d d'
def Op.wt (o : Op) (d d' : Int) : Int := match o with | .times => d + d' | _ => d + d' + 1
section
variable {lo hi : Rat} {t t' : Tr} {h : Nat} {a s a' s' : Rat} {d w d' w' : Int}
theorem m_neg (F : Fine a s d w) (ih : Ms lo hi t h a s d w) : Ms lo hi (.neg t) (h + 1) a s d w := by
  intro n M hn
  cases n with
  | zero => omega
  | succ n =>
  have l := e_is_less (k := n + 7) (M := M) sm64 F.sa
  have l2 : ¬ (2 : Rat) ^ 64 < a := Rat.not_lt.mpr F.a64
  have l3 : ¬ 48 < d := by have := F.d48; omega
  have l4 : ¬ 2000 < w := by have := F.w2000; omega
  have e := ih n M (by omega)
  have e2 : rn (n + 8) i_node_measures [.tup [.str "minus", t.d], .lst [ms a s d w], .tup [P lo, P hi]] M = some (ms a s d w, M) := by
    rw [rn_call _ rfl rfl]
    simp [f_node_measures, b_node_measures]
  rw [rn_call _ rfl rfl]
  simp [f_measured, b_measured, Tr.d, compL, goC, setT, wipeD, e, e2, e_two64, l, l2, l3, l4]
theorem m_wav {v : Wv} {g : Rat} (F : Fine a s d w) (ih : Ms lo hi t h a s d w) (a16 : a ≤ 16) (s50 : s ≤ 50) (hg : ∀ n M, rn (n + 1) i_two_to [.int (2 * -(-a.num).fdiv a.den)] M = some (P g, M)) (h2 : mulOk 2 (-(-a.num).fdiv a.den) = true)
    (F2 : Fine (if v.s = "exp" then g else 1) ((if v.s = "exp" then g else 1) * s) d 40) : Ms lo hi (.wav v t) (h + 1) (if v.s = "exp" then g else 1) ((if v.s = "exp" then g else 1) * s) d 40 := by
  intro n M hn
  cases n with
  | zero => omega
  | succ n =>
  have l := e_is_less (k := n + 7) (M := M) sm64 F2.sa
  have l2 : ¬ (2 : Rat) ^ 64 < (if v.s = "exp" then g else 1) := Rat.not_lt.mpr F2.a64
  have l3 : ¬ 48 < d := by have := F.d48; omega
  have e := ih n M (by omega)
  have sm16 : Sm (16 : Rat) := ⟨by decide, by decide⟩
  have sm50 : Sm (50 : Rat) := ⟨by decide, by decide⟩
  have w1 := e_is_less (k := n + 5) (M := M) sm16 F.sa
  have w2 := e_is_less (k := n + 5) (M := M) sm50 F.ss
  have w3 : ¬ (16 : Rat) < a := Rat.not_lt.mpr a16
  have w4 : ¬ (50 : Rat) < s := Rat.not_lt.mpr s50
  have hd : divOk a.den = true := div_ok (by have := den_pos a; omega) (pow_mono F.sa.den (by decide))
  have w5 := e_times (k := n + 4) (M := M) F2.sa F.ss
  have e3 : rn (n + 7) i_wave_measures [.str v.s, ms a s d w] M = some (ms (if v.s = "exp" then g else 1) ((if v.s = "exp" then g else 1) * s) d 40, M) := by
    rw [rn_call _ rfl rfl]
    cases v <;> simp at w5 <;> simp [f_wave_measures, b_wave_measures, w1, w2, w3, w4, w5, hd, h2, hg]
  have e2 : rn (n + 8) i_node_measures [.tup [.str v.s, t.d], .lst [ms a s d w], .tup [P lo, P hi]] M = some (ms (if v.s = "exp" then g else 1) ((if v.s = "exp" then g else 1) * s) d 40, M) := by
    rw [rn_call _ rfl rfl]
    cases v <;> simp at e3 <;> simp [f_node_measures, b_node_measures, e3]
  rw [rn_call _ rfl rfl]
  cases v <;> simp at e2 l l2 <;> simp [f_measured, b_measured, Tr.d, compL, goC, setT, wipeD, e, e2, e_two64, l, l2, l3]
theorem m_two {o : Op} (F : Fine a s d w) (F' : Fine a' s' d' w') (ih : Ms lo hi t h a s d w) (ih' : Ms lo hi t' h a' s' d' w') (z1 : Sm (a * s')) (z2 : Sm (s * a'))
    (F2 : Fine (o.am a a') (o.sl a s a' s') (o.dg d d') (o.wt w w')) : Ms lo hi (.two o t t') (h + 1) (o.am a a') (o.sl a s a' s') (o.dg d d') (o.wt w w') := by
  intro n M hn
  cases n with
  | zero => omega
  | succ n =>
  have l := e_is_less (k := n + 7) (M := M) sm64 F2.sa
  have l2 : ¬ (2 : Rat) ^ 64 < o.am a a' := Rat.not_lt.mpr F2.a64
  have l3 : ¬ 48 < o.dg d d' := by have := F2.d48; omega
  have l4 : ¬ 2000 < o.wt w w' := by have := F2.w2000; omega
  have e := ih n M (by omega)
  have e' := ih' n M (by omega)
  have e3 : rn (n + 7) i_pair_measures [.str o.s, ms a s d w, ms a' s' d' w'] M = some (ms (o.am a a') (o.sl a s a' s') (o.dg d d') (o.wt w w'), M) := by
    rw [rn_call _ rfl rfl]
    have w1 := e_times (k := n + 4) (M := M) F.sa F'.sa
    have w2 := e_times (k := n + 4) (M := M) F.sa F'.ss
    have w3 := e_times (k := n + 4) (M := M) F.ss F'.sa
    have w4 := e_plus (k := n + 4) (M := M) z1 z2
    have w5 := e_plus (k := n + 4) (M := M) F.sa F'.sa
    have w6 := e_plus (k := n + 4) (M := M) F.ss F'.ss
    cases o <;> simp [f_pair_measures, b_pair_measures, w1, w2, w3, w4, w5, w6, Op.am, Op.sl, Op.dg, Op.wt]
  have e2 : rn (n + 8) i_node_measures [.tup [.str o.s, t.d, t'.d], .lst [ms a s d w, ms a' s' d' w'], .tup [P lo, P hi]] M = some (ms (o.am a a') (o.sl a s a' s') (o.dg d d') (o.wt w w'), M) := by
    rw [rn_call _ rfl rfl]
    cases o <;> simp at e3 <;> simp [f_node_measures, b_node_measures, e3]
  rw [rn_call _ rfl rfl]
  cases o <;> simp at e2 <;> simp [f_measured, b_measured, Tr.d, compL, goC, setT, wipeD, e, e', e2, e_two64, l, l2, l3, l4]
end
end K45
namespace K45
open PySem PySem.Spec PyProof.Rows L2 Mn Mn.Sx
theorem forL_append {f : D → Rho → Sto → Option Out} : ∀ (xs ys : List D) (ρ : Rho) (M : Sto), forL f (xs ++ ys) ρ M = bndS (forL f xs ρ M) fun ρ1 M1 => forL f ys ρ1 M1
  | [], _, _, _ => rfl
  | x :: xs, ys, ρ, M => by
    rw [List.cons_append, forL_cons, forL_cons]
    cases f x ρ M with
    | none => rfl
    | some o =>
      cases o with
      | nx ρ1 M1 => exact forL_append xs ys ρ1 M1
      | rt d M1 => rfl
/-- a loop over range(n) -/
theorem forL_range {f : D → Rho → Sto → Option Out} {R : Nat → Rho} {S : Nat → Sto} : ∀ {n : Nat}, (∀ i, i < n → f (.int i) (R i) (S i) = some (.nx (R (i + 1)) (S (i + 1)))) → forL f ((List.range n).map fun k : Nat => D.int (k : Int)) (R 0) (S 0) = some (.nx (R n) (S n))
  | 0, _ => rfl
  | n + 1, h => by
    rw [List.range_succ, List.map_append, forL_append, forL_range fun i hi => h i (by omega), bndS_nx, List.map_singleton, forL_cons, h n (by omega), bndS_nx, forL_nil]
theorem small62 {n : Nat} (h : n ≤ 1000) : n < 2 ^ 62 := Nat.lt_of_le_of_lt h (by decide)
theorem rngI_1000 {n : Nat} {M : Sto} (h : n ≤ 1000) : rngI (.int n) M = some ((List.range n).map (fun k : Nat => D.int (k : Int)), M) := rngI_nat (small62 h)
theorem e_power_of {k n : Nat} {r : Rat} {M : Sto} (hn : n ≤ 1000) (hr : Sm r) (hs : ∀ i, i < n → Sm (r ^ i)) : rn (k + 3) i_power_of [P r, .int n] M = some (P (r ^ n), M) := by
  have e := forL_range (f := goF (sy (k + 2)) (.name 3) (.cons (.asg 2 (.call 7 (.cons (.var 2) (.cons (.var 0) .nil)))) .nil)) (n := n) (S := fun _ => M)
    (R := fun i => [some (P r), some (.int n), some (P (r ^ i)), if i = 0 then none else some (.int (i - 1 : Int))]) (fun i hi => by
      simp [goF, setT, e_times (hs i hi) hr, Rat.pow_succ])
  rw [rn_call _ rfl rfl]
  simp -implicitDefEqProofs [f_power_of, b_power_of, rngI_1000 hn]
  simp at e
  rw [e]
  simp
/-! the law's amount -/
def La (far : Rat) (t : Tr) (h : Nat) (a : Rat) : Prop := ∀ n M, h ≤ n → rn (n + 8) i__law_amount [t.d, P far] M = some (P a, M)
section
variable {far a a' : Rat} {t t' : Tr} {h : Nat}
theorem la_num {r : Rat} : La far (.num r) 0 (ab r) := by
  intro n M _
  rw [rn_call _ rfl rfl]
  simp [f__law_amount, b__law_amount, Tr.d, ab_P]
theorem la_pi : La far .pi 0 4 := by
  intro n M _
  rw [rn_call _ rfl rfl]
  simp [f__law_amount, b__law_amount, Tr.d]
theorem la_unk : La far .unk 0 far := by
  intro n M _
  rw [rn_call _ rfl rfl]
  simp [f__law_amount, b__law_amount, Tr.d]
theorem la_neg (ih : La far t h a) : La far (.neg t) (h + 1) a := by
  intro n M hn
  cases n with
  | zero => omega
  | succ n =>
  rw [rn_call _ rfl rfl]
  simp [f__law_amount, b__law_amount, Tr.d, ih n M (by omega)]
theorem la_wav {v : Wv} {c : Nat} (ih : La far t h a) (hd : Sm a) (hc : -(-a.num).fdiv a.den = c) (hc2 : c ≤ 100) : La far (.wav v t) (h + 1) (if v.s = "exp" then 2 ^ (2 * c) else 1) := by
  intro n M hn
  cases n with
  | zero => omega
  | succ n =>
  have hd : divOk a.den = true := div_ok (by have := den_pos a; omega) (pow_mono hd.den (by decide))
  have e1 : ((2 : Rat) ^ (2 * c)).num = 2 ^ (2 * c) := by
    rw [Rat.num_pow]; rfl
  have e2 : ((2 : Rat) ^ (2 * c)).den = 1 := by
    rw [Rat.den_pow]; exact Nat.one_pow _
  have e3 : Nat.log2 1 = 0 := by decide
  have h2 : mulOk 2 (-(-a.num).fdiv a.den) = true := by
    rw [hc]
    exact mul_ok (i := 2) (j := 7) (by decide) (by omega) (by decide) (by decide) (by decide)
  rw [rn_call _ rfl rfl]
  cases v with
  | sin => simp [f__law_amount, b__law_amount, Tr.d, ih n M (by omega)]
  | cos => simp [f__law_amount, b__law_amount, Tr.d, ih n M (by omega)]
  | exp =>
    simp [f__law_amount, b__law_amount, Tr.d, ih n M (by omega), hd, h2, hc, e3]
    have e4 : 2 * (c : Int) ≤ 1000000 := by omega
    have e5 : (0 : Int) ≤ 2 * (c : Int) := by omega
    have e6 : (2 * (c : Int)).toNat = 2 * c := by omega
    rw [hc] at h2
    simp -implicitDefEqProofs [h2, e3, e4, e5]
    simp -implicitDefEqProofs only [P, e1, e2, e6]
    rfl
theorem la_two {o : Op} (ih : La far t h a) (ih' : La far t' h a') (ha : Sm a) (ha' : Sm a') : La far (.two o t t') (h + 1) (o.am a a') := by
  intro n M hn
  cases n with
  | zero => omega
  | succ n =>
  rw [rn_call _ rfl rfl]
  cases o <;> simp [f__law_amount, b__law_amount, Tr.d, ih n M (by omega), ih' n M (by omega), e_lplus ha ha', e_ltimes ha ha', Op.am]
theorem la_pw {m : Nat} (ih : La far t h a) (ha : Sm a) (hs : ∀ i, i < m → Sm (a ^ i)) (hm : m ≤ 1000) : La far (.pw t m) (h + 1) (a ^ m) := by
  intro n M hn
  cases n with
  | zero => omega
  | succ n =>
  have e := forL_range (f := goF (sy (n + 8)) (.name 6) (.cons (.asg 5 (.call 46 (.cons (.var 5) (.cons (.var 3) .nil)))) .nil)) (n := m) (S := fun _ => M)
    (R := fun i => [some (Tr.pw t m).d, some (P far), some (.str "power"), some (P a), none, some (P (a ^ i)), if i = 0 then none else some (.int (i - 1 : Int))]) (fun i hi => by
      simp [goF, setT, e_ltimes (hs i hi) ha, Rat.pow_succ])
  rw [rn_call _ rfl rfl]
  simp -implicitDefEqProofs [f__law_amount, b__law_amount, Tr.d, ih n M (by omega), rngI_1000 hm]
  simp [Tr.d] at e
  rw [e]
  simp
end
end K45
namespace K45
open PySem PySem.Spec PyProof.Rows L2 Mn Mn.Sx
theorem P_nat (m : Nat) : D.tup [.int m, .int 1] = P ((m : Int) : Rat) := by
  unfold P
  rw [Rat.num_intCast, Rat.den_intCast]
  rfl
theorem sm_nat {m : Nat} (h : m ≤ 1000) : Sm ((m : Int) : Rat) := by
  refine ⟨?_, ?_⟩
  · rw [Rat.num_intCast, Int.natAbs_natCast]
    exact Nat.lt_of_le_of_lt h (by decide)
  · rw [Rat.den_intCast]
    decide
section
variable {lo hi : Rat} {t t' : Tr} {h : Nat} {a s a' s' : Rat} {d w d' w' : Int}
theorem fine_one : Fine 1 0 0 1 := ⟨sz1.sm (by decide), sz0.sm (by decide), by decide +kernel, by decide, by decide⟩
theorem m_pw0 (F : Fine a s d w) (ih : Ms lo hi t h a s d w) : Ms lo hi (.pw t 0) (h + 1) 1 0 0 1 := by
  intro n M hn
  cases n with
  | zero => omega
  | succ n =>
  have l := e_is_less (k := n + 7) (M := M) sm64 fine_one.sa
  have l2 : ¬ (2 : Rat) ^ 64 < 1 := Rat.not_lt.mpr fine_one.a64
  have e := ih n M (by omega)
  have e3 : rn (n + 7) i_power_measures [ms a s d w, .int 0] M = some (ms 1 0 0 1, M) := by
    rw [rn_call _ rfl rfl]
    simp [f_power_measures, b_power_measures]
  have e2 : rn (n + 8) i_node_measures [.tup [.str "power", t.d, .int 0], .lst [ms a s d w], .tup [P lo, P hi]] M = some (ms 1 0 0 1, M) := by
    rw [rn_call _ rfl rfl]
    simp [f_node_measures, b_node_measures, e3]
  rw [rn_call _ rfl rfl]
  simp [f_measured, b_measured, Tr.d, compL, goC, setT, wipeD, e, e2, e_two64, l, l2]
theorem m_pw {m : Nat} {c A S : Rat} {d2 w2 : Int} (hc : ((m + 1 : Nat) : Int) = c) (eA : a ^ m * a = A) (eS : c * (a ^ m * s) = S) (ed : d * ((m : Int) + 1) = d2) (ew : w * ((m : Int) + 1) + 1 = w2) (F : Fine a s d w) (ih : Ms lo hi t h a s d w) (hm : m ≤ 100) (hs : ∀ i, i ≤ m → Sm (a ^ i)) (hs2 : Sm (a ^ m * s)) (hd : 0 ≤ d) (hw : 0 ≤ w)
    (F2 : Fine A S d2 w2) : Ms lo hi (.pw t (m + 1)) (h + 1) A S d2 w2 := by
  intro n M hn
  cases n with
  | zero => omega
  | succ n =>
  have l := e_is_less (k := n + 7) (M := M) sm64 F2.sa
  have l2 : ¬ (2 : Rat) ^ 64 < A := Rat.not_lt.mpr F2.a64
  have l3 : ¬ 48 < d2 := by have := F2.d48; omega
  have l4 : ¬ 2000 < w2 := by have := F2.w2000; omega
  have e := ih n M (by omega)
  have p1 := e_power_of (k := n + 3) (M := M) (show m ≤ 1000 by omega) F.sa (fun i hi => hs i (by omega))
  have p2 := e_times (k := n + 4) (M := M) (hs m (by omega)) F.sa
  have p3 := e_times (k := n + 4) (M := M) (hs m (by omega)) F.ss
  have p4 := e_times (k := n + 4) (M := M) (sm_nat (show m + 1 ≤ 1000 by omega)) hs2
  have q1 : mulOk d ((m : Int) + 1) = true := mul_ok (i := 20) (j := 20) (by have := F.d48; omega) (by omega) (by decide) (by decide) (by decide)
  have q2 : mulOk w ((m : Int) + 1) = true := mul_ok (i := 20) (j := 20) (by have := F.w2000; omega) (by omega) (by decide) (by decide) (by decide)
  have q3 : D.tup [.int ((m : Int) + 1), .int 1] = P ((m + 1 : Nat) : Int) := P_nat (m + 1)
  have q4 : ¬ (m : Int) + 1 = 0 := by omega
  rw [hc] at p4 q3
  rw [eA] at p2
  rw [eS] at p4
  have e3 : rn (n + 7) i_power_measures [ms a s d w, .int ((m : Int) + 1)] M = some (ms A S d2 w2, M) := by
    rw [rn_call _ rfl rfl]
    simp -implicitDefEqProofs [f_power_measures, b_power_measures, q4, p1, p2, p3, p4, q1, q2, q3, ed, ew]
  have e2 : rn (n + 8) i_node_measures [.tup [.str "power", t.d, .int ((m : Int) + 1)], .lst [ms a s d w], .tup [P lo, P hi]] M = some (ms A S d2 w2, M) := by
    rw [rn_call _ rfl rfl]
    simp -implicitDefEqProofs [f_node_measures, b_node_measures, e3]
  rw [rn_call _ rfl rfl]
  simp -implicitDefEqProofs [f_measured, b_measured, Tr.d, compL, goC, setT, wipeD, e, e2, e_two64, l, l2, l3, l4]
end
/-! the program's own asking -/
section
variable {lo hi : Rat} {t : Tr} {h : Nat} {a s : Rat} {d w : Int}
@[simp] theorem idx_area0 (M : Sto) : idxD M (area t lo hi) (.int 0) = some (.str "area") := by unfold area; rw [idx_tup, atI_0]
@[simp] theorem idx_area1 (M : Sto) : idxD M (area t lo hi) (.int 1) = some t.d := by unfold area; rw [idx_tup, atI_1]
@[simp] theorem idx_area2 (M : Sto) : idxD M (area t lo hi) (.int 2) = some (P lo) := by unfold area; rw [idx_tup, atI_2]
@[simp] theorem idx_area3 (M : Sto) : idxD M (area t lo hi) (.int 3) = some (P hi) := by unfold area; rw [idx_tup, atI_3]
@[simp] theorem cut_area (M : Sto) : cutD M (area t lo hi) (some 2) none = some (.tup [P lo, P hi]) := by unfold area; rw [cut2_tup]
structure End (r : Rat) : Prop where
  f : fr12 r
  e : ab r ≤ 8
structure Nice (t : Tr) : Prop where
  ht : t.ht ≤ 8
  sz : t.sz ≤ 39
  fits : t.fits
theorem e_need_area {k : Nat} {M : Sto} (N : Nice t) (hl : End lo) (hh : End hi) (m : Ms lo hi t h a s d w) (h12 : h ≤ 12) : rn (k + 21) i_need_area [area t lo hi] M = some (.non, M) := by
  have e1 := e_fits_area (k := k + 1) (M := M) (Nat.le_trans N.ht (by decide)) N.sz N.fits hl.f hl.e hh.f hh.e
  have e2 := m (k + 12) M (by omega)
  rw [rn_call _ rfl rfl]
  simp [f_need_area, b_need_area, e1, e2]
theorem e_area_amount {k : Nat} {M : Sto} (N : Nice t) (hl : End lo) (hh : End hi) (m : Ms lo hi t h a s d w) (h12 : h ≤ 12) : rn (k + 22) i_area_amount [area t lo hi] M = some (P a, M) := by
  have e1 := e_need_area (k := k) (M := M) N hl hh m h12
  have e2 := m (k + 13) M (by omega)
  rw [rn_call _ rfl rfl]
  simp [f_area_amount, b_area_amount, e1, e2]
theorem e_is_plain {k : Nat} {M : Sto} (N : Nice t) : rn (k + 22) i_is_plain [t.d] M = some (.bl (t.all.all fun s => !s.isW), M) := by
  have e1 := e_fits_integrand (k := k + 2) (M := M) (Nat.le_trans N.ht (by decide)) N.sz N.fits
  have e2 : rn (k + 21) i_need_integrand [t.d] M = some (.non, M) := by
    rw [rn_call _ rfl rfl]
    simp [f_need_integrand, b_need_integrand, e1]
  have e3 := e_is_plain_in t (k + 18) M (Nat.le_trans N.ht (by omega)) (Nat.le_trans N.sz (by decide))
  rw [rn_call _ rfl rfl]
  simp [f_is_plain, b_is_plain, e2, e3]
theorem e_plain_area {k : Nat} {M : Sto} {x : D} (N : Nice t) (hl : End lo) (hh : End hi) (m : Ms lo hi t h a s d w) (h12 : h ≤ 12) (hp : (t.all.all fun s => !s.isW) = true → rn (k + 21) i_plain_in [area t lo hi] M = some (x, M)) (hx : (t.all.all fun s => !s.isW) = false → x = .non) (hv : ∀ M, fin M.length false (some (.rt x M)) = some (x, M)) :
    rn (k + 22) i_plain_area [area t lo hi] M = some (x, M) := by
  have e1 := e_need_area (k := k) (M := M) N hl hh m h12
  have e3 := e_is_plain_in t (k + 18) M (Nat.le_trans N.ht (by omega)) (Nat.le_trans N.sz (by decide))
  rw [rn_call _ rfl rfl]
  cases hb : t.all.all fun s => !s.isW with
  | true =>
    rw [hb] at e3
    simp [f_plain_area, b_plain_area, e1, e3, hp hb, hv]
  | false =>
    rw [hb] at e3
    have := hx hb
    subst this
    simp [f_plain_area, b_plain_area, e1, e3]
end
end K45
namespace K45
open PySem PySem.Spec PyProof.Rows L2 Mn Mn.Sx
/-- a loop, item by item -/
theorem forL_ix {f : D → Rho → Sto → Option Out} : ∀ {xs : List D} {I : Nat → Rho → Sto → Prop} {ρ : Rho} {M : Sto}, I 0 ρ M → (∀ i x ρ M, xs[i]? = some x → I i ρ M → ∃ ρ' M', f x ρ M = some (.nx ρ' M') ∧ I (i + 1) ρ' M') → ∃ ρ' M', forL f xs ρ M = some (.nx ρ' M') ∧ I xs.length ρ' M'
  | [], I, ρ, M, h, _ => ⟨ρ, M, rfl, h⟩
  | x :: xs, I, ρ, M, h, st => by
    obtain ⟨ρ1, M1, e1, h1⟩ := st 0 x ρ M rfl h
    obtain ⟨ρ2, M2, e2, h2⟩ := forL_ix (f := f) (xs := xs) (I := fun i => I (i + 1)) (ρ := ρ1) (M := M1) h1 (fun i y ρ M e h => st (i + 1) y ρ M (by simpa using e) h)
    exact ⟨ρ2, M2, by rw [forL_cons, e1, bndS_nx, e2], h2⟩
def gt (l : List Rat) (i : Nat) : Rat := l.getD i 0
theorem gt_eq {l : List Rat} {i : Nat} (h : i < l.length) : gt l i = l[i] := by
  unfold gt
  rw [List.getD_eq_getElem?_getD, List.getElem?_eq_getElem h]
  rfl
/-! sizes by a common denominator -/
def Cd (N c : Nat) (x : Rat) : Prop := ∃ z : Int, x = (z : Rat) / ((N : Int) : Rat) ∧ z.natAbs ≤ c
theorem Cd.up {N c c' : Nat} {x : Rat} (h : Cd N c x) (hc : c ≤ c') : Cd N c' x := by
  obtain ⟨z, h1, h2⟩ := h
  exact ⟨z, h1, by omega⟩
theorem rat_nz {N : Nat} (h : 0 < N) : ((N : Int) : Rat) ≠ 0 := by
  intro z
  have : (N : Int) = 0 := by exact_mod_cast z
  omega
theorem Cd.add {N c c' : Nat} {x y : Rat} (h : Cd N c x) (h' : Cd N c' y) : Cd N (c + c') (x + y) := by
  obtain ⟨z, h1, h2⟩ := h
  obtain ⟨u, h3, h4⟩ := h'
  refine ⟨z + u, ?_, by omega⟩
  rw [h1, h3, Rat.intCast_add, Rat.div_def, Rat.div_def, Rat.div_def]
  grind
theorem Cd.mul {N N' c c' : Nat} {x y : Rat} (h : Cd N c x) (h' : Cd N' c' y) : Cd (N * N') (c * c') (x * y) := by
  obtain ⟨z, h1, h2⟩ := h
  obtain ⟨u, h3, h4⟩ := h'
  refine ⟨z * u, ?_, by rw [Int.natAbs_mul]; exact Nat.mul_le_mul h2 h4⟩
  rw [h1, h3, ← Rat.divInt_eq_div, ← Rat.divInt_eq_div, ← Rat.divInt_eq_div, Rat.divInt_mul_divInt]
  rfl
theorem Cd.neg {N c : Nat} {x : Rat} (h : Cd N c x) : Cd N c (-1 * x) := by
  obtain ⟨z, h1, h2⟩ := h
  refine ⟨-z, ?_, by omega⟩
  rw [h1, Rat.intCast_neg, Rat.div_def, Rat.div_def]
  grind
theorem Cd.zero {N : Nat} : Cd N 0 0 := ⟨0, by rw [Rat.div_def]; grind, by decide⟩
theorem Cd.wide {N c : Nat} {x : Rat} (K : Nat) (hN : 0 < N) (hK : 0 < K) (h : Cd N c x) : Cd (N * K) (c * K) x := by
  obtain ⟨z, h1, h2⟩ := h
  refine ⟨z * K, ?_, by rw [Int.natAbs_mul, Int.natAbs_natCast]; exact Nat.mul_le_mul_right _ h2⟩
  rw [h1, ← Rat.divInt_eq_div, ← Rat.divInt_eq_div]
  have := Rat.divInt_mul_divInt z (K : Int) (d₁ := (N : Int)) (d₂ := (K : Int))
  have hk : Rat.divInt (K : Int) (K : Int) = 1 := by rw [Rat.divInt_eq_div, Rat.div_def, Rat.mul_inv_cancel _ (rat_nz hK)]
  rw [hk, Rat.mul_one] at this
  rw [this]
  rfl
theorem Cd.sz {N c n : Nat} {x : Rat} (hN : 0 < N) (h : Cd N c x) (h1 : N < 2 ^ n) (h2 : c < 2 ^ n) : Sz n x := by
  obtain ⟨z, e, hz⟩ := h
  subst e
  obtain ⟨a, b⟩ := sz_made (a := z) (b := (N : Int)) (by omega)
  exact ⟨by omega, by rw [Int.natAbs_natCast] at b; omega⟩
/-- a line whose numbers have a common denominator -/
structure LS (N c : Nat) (l : List Rat) : Prop where
  pos : 0 < N
  all : ∀ x ∈ l, Cd N c x
  ne : 1 ≤ l.length
theorem LS.get {N c : Nat} {l : List Rat} (h : LS N c l) {i : Nat} (hi : i < l.length) : Cd N c (gt l i) := by
  rw [gt_eq hi]
  exact h.all _ (List.getElem_mem hi)
/-! products -/
def inn (x : Rat) (b : List Rat) (i : Nat) (S : List Rat) : Nat → List Rat
  | 0 => S
  | j + 1 => (inn x b i S j).set (i + j) (gt (inn x b i S j) (i + j) + x * gt b j)
def outr (a b : List Rat) : Nat → List Rat
  | 0 => List.replicate (a.length + b.length - 1) 0
  | i + 1 => inn (gt a i) b i (outr a b i) b.length
def mulL (a b : List Rat) : List Rat := outr a b a.length
theorem inn_len (x : Rat) (b : List Rat) (i : Nat) (S : List Rat) : ∀ j, (inn x b i S j).length = S.length
  | 0 => rfl
  | j + 1 => by rw [inn, List.length_set, inn_len x b i S j]
theorem outr_len (a b : List Rat) : ∀ i, (outr a b i).length = a.length + b.length - 1
  | 0 => List.length_replicate
  | i + 1 => by rw [outr, inn_len, outr_len a b i]
theorem mulL_len (a b : List Rat) : (mulL a b).length = a.length + b.length - 1 := outr_len a b _
theorem set_all {p : Rat → Prop} {l : List Rat} {i : Nat} {y : Rat} (h : ∀ x ∈ l, p x) (hy : p y) : ∀ x ∈ l.set i y, p x := fun x hx => by
  rcases List.mem_or_eq_of_mem_set hx with z | z
  · exact h x z
  · rw [z]; exact hy
theorem inn_cd {N N' c c' C : Nat} {x : Rat} {b S : List Rat} {i : Nat} (hx : Cd N c x) (hb : LS N' c' b) (hS : ∀ y ∈ S, Cd (N * N') C y) (hi : i + b.length ≤ S.length) : ∀ j, j ≤ b.length → ∀ y ∈ inn x b i S j, Cd (N * N') (C + j * (c * c')) y
  | 0, _ => fun y hy => by
    rw [Nat.zero_mul]
    exact hS y hy
  | j + 1, hj => by
    have ih := inn_cd hx hb hS hi j (by omega)
    have e : C + (j + 1) * (c * c') = C + j * (c * c') + c * c' := by rw [Nat.succ_mul, Nat.add_assoc]
    rw [e]
    refine set_all (fun y hy => (ih y hy).up (Nat.le_add_right _ _)) ?_
    have hl : i + j < (inn x b i S j).length := by rw [inn_len]; omega
    rw [gt_eq hl]
    exact (ih _ (List.getElem_mem hl)).add (hx.mul (hb.get (by omega)))
theorem outr_cd {N N' c c' : Nat} {a b : List Rat} (ha : LS N c a) (hb : LS N' c' b) : ∀ i, i ≤ a.length → ∀ y ∈ outr a b i, Cd (N * N') (i * (b.length * (c * c'))) y
  | 0, _ => fun y hy => by
    have := (List.mem_replicate.mp hy).2
    subst this
    exact Cd.zero.up (Nat.zero_le _)
  | i + 1, hi => by
    have ih := outr_cd ha hb i (by omega)
    have := inn_cd (i := i) (ha.get (show i < a.length by omega)) hb ih (by rw [outr_len]; omega) b.length (Nat.le_refl _)
    rw [Nat.succ_mul]
    exact this
theorem mulL_ls {N N' c c' : Nat} {a b : List Rat} (ha : LS N c a) (hb : LS N' c' b) : LS (N * N') (a.length * (b.length * (c * c'))) (mulL a b) :=
  ⟨Nat.mul_pos ha.pos hb.pos, outr_cd ha hb _ (Nat.le_refl _), by rw [mulL_len]; have := ha.ne; have := hb.ne; omega⟩
end K45
namespace K45
open PySem PySem.Spec PyProof.Rows L2 Mn Mn.Sx
theorem enumL_get : ∀ (l : List D) (k i : Nat) (x : D), (enumL k l)[i]? = some x → ∃ d, l[i]? = some d ∧ x = .tup [.int (k + i : Nat), d]
  | [], _, _, _, h => by simp [enumL] at h
  | d :: l, k, 0, x, h => by
    simp [enumL] at h
    exact ⟨d, rfl, h.symm⟩
  | d :: l, k, i + 1, x, h => by
    simp [enumL] at h
    obtain ⟨e, h1, h2⟩ := enumL_get l (k + 1) i x h
    exact ⟨e, by simpa using h1, by rw [h2]; congr 4; omega⟩
theorem enumL_len : ∀ (l : List D) (k : Nat), (enumL k l).length = l.length
  | [], _ => rfl
  | d :: l, k => by simp [enumL, enumL_len l (k + 1)]
theorem map_get {l : List Rat} {i : Nat} {d : D} (h : (l.map P)[i]? = some d) : i < l.length ∧ d = P (gt l i) := by
  rw [List.getElem?_map] at h
  cases e : l[i]? with
  | none => rw [e] at h; cases h
  | some y =>
    rw [e] at h
    cases h
    obtain ⟨h1, h2⟩ := List.getElem?_eq_some_iff.mp e
    exact ⟨h1, by rw [gt_eq h1, h2]⟩
theorem get_map {l : List Rat} {i : Nat} (h : i < l.length) : (l.map P)[i]? = some (P (gt l i)) := by
  rw [List.getElem?_map, List.getElem?_eq_getElem h, gt_eq h]
  rfl
theorem mem_getD {l : List Rat} {i : Nat} (h : i < l.length) : gt l i ∈ l := by
  rw [gt_eq h]
  exact List.getElem_mem h
theorem idx_new (M : Sto) (l : List Rat) (i j : Nat) (h : i + j < l.length) : idxD (M ++ [.lst (l.map P)]) (.ref M.length) (.int ((i : Int) + (j : Int))) = some (P (gt l (i + j))) := by
  rw [← Int.natCast_add]
  show bndO (seqOf (M ++ [.lst (l.map P)]) (.ref M.length)) (fun l => atI l ((i + j : Nat) : Int)) = _
  have : seqOf (M ++ [.lst (l.map P)]) (.ref M.length) = some (l.map P) := by
    show (match (M ++ [Ob.lst (l.map P)])[M.length]? with | some (.lst l) => some l | _ => none) = _
    rw [List.getElem?_append_right (Nat.le_refl _), Nat.sub_self]
    rfl
  rw [this, bndO_some', atI_nat', get_map h]
theorem put_new (M : Sto) (l : List Rat) (i j : Nat) (y : Rat) (h : i + j < l.length) : putA M.length ((i : Int) + (j : Int)) (P y) (M ++ [.lst (l.map P)]) = some (M ++ [.lst ((l.set (i + j) y).map P)]) := by
  rw [← Int.natCast_add]
  unfold putA
  rw [List.getElem?_append_right (Nat.le_refl _), Nat.sub_self]
  have e : ixN (l.map P).length ((i + j : Nat) : Int) = some (i + j) := by
    unfold ixN
    rw [if_pos (by omega), if_pos (by rw [List.length_map]; omega), Int.toNat_natCast]
  show (match ixN (l.map P).length ((i + j : Nat) : Int) with
    | some p => if val (P y) = true then some ((M ++ [Ob.lst (l.map P)]).set M.length (.lst ((l.map P).set p (P y)))) else none
    | none => none) = _
  rw [e]
  simp [List.set_append_right, List.map_set]
/-- what a product needs -/
structure MulOk (a b : List Rat) : Prop where
  ha : ∀ x ∈ a, Sm x
  hb : ∀ x ∈ b, Sm x
  ab : ∀ x ∈ a, ∀ y ∈ b, Sm (x * y)
  S : ∀ i, i < a.length → ∀ j, j ≤ b.length → ∀ y ∈ inn (gt a i) b i (outr a b i) j, Sm y
  la : 1 ≤ a.length
  lb : 1 ≤ b.length
  l : a.length + b.length ≤ 1000
theorem e_mul_inner {k i : Nat} {a b S : List Rat} {M : Sto} {x5 x6 : Option D} {x : Rat} (hx : Sm x) (hb : ∀ y ∈ b, Sm y) (hxb : ∀ y ∈ b, Sm (x * y)) (hS : ∀ j, j ≤ b.length → ∀ y ∈ inn x b i S j, Sm y) (hl : i + b.length ≤ S.length) :
    ∃ ρ' M', forL (goF (sy (k + 2)) (.tup [5, 6]) (.cons (.setI 2 (.bin .Add (.var 3) (.var 5)) (.call 6 (.cons (.idx (.var 2) (.bin .Add (.var 3) (.var 5))) (.cons (.call 7 (.cons (.var 4) (.cons (.var 6) .nil))) .nil)))) .nil)) (enumL 0 (b.map P))
      [some (.lst (a.map P)), some (.lst (b.map P)), some (.ref M.length), some (.int i), some (P x), x5, x6] (M ++ [.lst (S.map P)]) = some (.nx ρ' M') ∧ (∃ y5 y6, ρ' = [some (.lst (a.map P)), some (.lst (b.map P)), some (.ref M.length), some (.int i), some (P x), y5, y6]) ∧ M' = M ++ [.lst ((inn x b i S b.length).map P)] := by
  have h := forL_ix (f := goF (sy (k + 2)) (.tup [5, 6]) (.cons (.setI 2 (.bin .Add (.var 3) (.var 5)) (.call 6 (.cons (.idx (.var 2) (.bin .Add (.var 3) (.var 5))) (.cons (.call 7 (.cons (.var 4) (.cons (.var 6) .nil))) .nil)))) .nil)) (xs := enumL 0 (b.map P))
    (I := fun j ρ M' => (∃ y5 y6, ρ = [some (.lst (a.map P)), some (.lst (b.map P)), some (.ref M.length), some (.int i), some (P x), y5, y6]) ∧ M' = M ++ [.lst ((inn x b i S j).map P)])
    (ρ := [some (.lst (a.map P)), some (.lst (b.map P)), some (.ref M.length), some (.int i), some (P x), x5, x6]) (M := M ++ [.lst (S.map P)]) ⟨⟨x5, x6, rfl⟩, rfl⟩ (fun j y ρ M1 hj hI => by
      obtain ⟨⟨y5, y6, rfl⟩, rfl⟩ := hI
      obtain ⟨d, h1, rfl⟩ := enumL_get _ _ _ _ hj
      obtain ⟨h2, rfl⟩ := map_get h1
      have hl2 : i + j < (inn x b i S j).length := by rw [inn_len]; omega
      refine ⟨_, _, ?_, ⟨some (.int j), some (P (gt b j)), rfl⟩, rfl⟩
      have t1 := e_times (k := k) (M := M ++ [.lst ((inn x b i S j).map P)]) hx (hb _ (mem_getD h2))
      have t2 := e_plus (k := k) (M := M ++ [.lst ((inn x b i S j).map P)]) (hS j (by omega) _ (mem_getD hl2)) (hxb _ (mem_getD h2))
      simp -implicitDefEqProofs [goF, setT, t1, t2, idx_new _ _ _ _ hl2, put_new _ _ _ _ _ hl2, inn])
  rw [enumL_len, List.length_map] at h
  exact h
theorem e_multiplied {k : Nat} {a b : List Rat} {M : Sto} (h : MulOk a b) : rn (k + 3) i_multiplied [.lst (a.map P), .lst (b.map P)] M = some (.lst ((mulL a b).map P), M) := by
  have hl := h.la
  have hl2 := h.lb
  have hl3 := h.l
  have e0 : ((a.length : Int) + b.length - 1) = ((a.length + b.length - 1 : Nat) : Int) := by omega
  have e1 : ((a.length + b.length - 1 : Nat) : Int).toNat = a.length + b.length - 1 := Int.toNat_natCast _
  have e2 : (List.replicate (a.length + b.length - 1) [P 0]).flatten = (outr a b 0).map P := by
    show _ = (List.replicate (a.length + b.length - 1) (0 : Rat)).map P
    rw [List.map_replicate]
    induction (a.length + b.length - 1) with
    | zero => rfl
    | succ n ih => rw [List.replicate_succ, List.flatten_cons, ih, List.replicate_succ]; rfl
  have e3 : -(2 ^ 63 : Int) ≤ ((a.length + b.length - 1 : Nat) : Int) ∧ ((a.length + b.length - 1 : Nat) : Int) < 2 ^ 63 ∧ a.length + b.length - 1 ≤ line := by
    refine ⟨by omega, by omega, Nat.le_trans (show a.length + b.length - 1 ≤ 1000 by omega) (by decide)⟩
  have lo := forL_ix (f := goF (sy (k + 2)) (.tup [3, 4]) (.cons (.for (.tup [5, 6]) (.enum (.var 1)) (.cons (.setI 2 (.bin .Add (.var 3) (.var 5)) (.call 6 (.cons (.idx (.var 2) (.bin .Add (.var 3) (.var 5))) (.cons (.call 7 (.cons (.var 4) (.cons (.var 6) .nil))) .nil)))) .nil)) .nil)) (xs := enumL 0 (a.map P))
    (I := fun i ρ M' => (∃ y3 y4 y5 y6, ρ = [some (.lst (a.map P)), some (.lst (b.map P)), some (.ref M.length), y3, y4, y5, y6]) ∧ M' = M ++ [.lst ((outr a b i).map P)])
    (ρ := [some (.lst (a.map P)), some (.lst (b.map P)), some (.ref M.length), none, none, none, none]) (M := M ++ [.lst ((outr a b 0).map P)]) ⟨⟨_, _, _, _, rfl⟩, rfl⟩ (fun i y ρ M1 hi hI => by
      obtain ⟨⟨y3, y4, y5, y6, rfl⟩, rfl⟩ := hI
      obtain ⟨d, h1, rfl⟩ := enumL_get _ _ _ _ hi
      obtain ⟨h2, rfl⟩ := map_get h1
      obtain ⟨ρ', M', q1, ⟨z5, z6, rfl⟩, rfl⟩ := e_mul_inner (k := k) (i := i) (a := a) (b := b) (S := outr a b i) (M := M) (x5 := y5) (x6 := y6) (h.ha _ (mem_getD h2)) h.hb (h.ab _ (mem_getD h2)) (h.S i h2) (by rw [outr_len]; omega)
      refine ⟨_, _, ?_, ⟨some (.int i), some (P (gt a i)), z5, z6, rfl⟩, rfl⟩
      simp -implicitDefEqProofs [goF, setT] at q1 ⊢
      rw [q1]
      rfl)
  obtain ⟨ρ', M', q1, ⟨y3, y4, y5, y6, rfl⟩, rfl⟩ := lo
  rw [enumL_len, List.length_map] at q1
  rw [rn_call _ rfl rfl]
  have e4 : ((a.length + b.length - 1 : Nat) : Int) < 9223372036854775808 := by omega
  simp -implicitDefEqProofs [f_multiplied, b_multiplied, e0, e1, e2, e3, e4, q1]
  rfl
theorem idx_mapP (M : Sto) (l : List Rat) (i : Nat) (h : i < l.length) : idxD M (.lst (l.map P)) (.int i) = some (P (gt l i)) := by
  rw [idx_lst, atI_nat', get_map h]
theorem rng_get {n i : Nat} {x : D} (h : ((List.range n).map fun k : Nat => D.int (k : Int))[i]? = some x) : i < n ∧ x = .int i := by
  rw [List.getElem?_map] at h
  cases e : (List.range n)[i]? with
  | none => rw [e] at h; cases h
  | some y =>
    rw [e] at h
    cases h
    obtain ⟨h1, h2⟩ := List.getElem?_eq_some_iff.mp e
    rw [List.length_range] at h1
    rw [List.getElem_range] at h2
    exact ⟨h1, by rw [h2]⟩
theorem e_lmul_inner {k i : Nat} {a b S : List Rat} {M : Sto} {x4 : Option D} (hi : i < a.length) (hx : Sm (gt a i)) (hb : ∀ y ∈ b, Sm y) (hxb : ∀ y ∈ b, Sm (gt a i * y)) (hS : ∀ j, j ≤ b.length → ∀ y ∈ inn (gt a i) b i S j, Sm y) (hl : i + b.length ≤ S.length) :
    ∃ ρ' M', forL (goF (sy (k + 3)) (.name 4) (.cons (.setI 2 (.bin .Add (.var 3) (.var 4)) (.call 44 (.cons (.idx (.var 2) (.bin .Add (.var 3) (.var 4))) (.cons (.call 46 (.cons (.idx (.var 0) (.var 3)) (.cons (.idx (.var 1) (.var 4)) .nil))) .nil)))) .nil)) ((List.range b.length).map fun k : Nat => D.int (k : Int))
      [some (.lst (a.map P)), some (.lst (b.map P)), some (.ref M.length), some (.int i), x4] (M ++ [.lst (S.map P)]) = some (.nx ρ' M') ∧ (∃ y4, ρ' = [some (.lst (a.map P)), some (.lst (b.map P)), some (.ref M.length), some (.int i), y4]) ∧ M' = M ++ [.lst ((inn (gt a i) b i S b.length).map P)] := by
  have h := forL_ix (f := goF (sy (k + 3)) (.name 4) (.cons (.setI 2 (.bin .Add (.var 3) (.var 4)) (.call 44 (.cons (.idx (.var 2) (.bin .Add (.var 3) (.var 4))) (.cons (.call 46 (.cons (.idx (.var 0) (.var 3)) (.cons (.idx (.var 1) (.var 4)) .nil))) .nil)))) .nil)) (xs := (List.range b.length).map fun k : Nat => D.int (k : Int))
    (I := fun j ρ M' => (∃ y4, ρ = [some (.lst (a.map P)), some (.lst (b.map P)), some (.ref M.length), some (.int i), y4]) ∧ M' = M ++ [.lst ((inn (gt a i) b i S j).map P)])
    (ρ := [some (.lst (a.map P)), some (.lst (b.map P)), some (.ref M.length), some (.int i), x4]) (M := M ++ [.lst (S.map P)]) ⟨⟨x4, rfl⟩, rfl⟩ (fun j y ρ M1 hj hI => by
      obtain ⟨⟨y4, rfl⟩, rfl⟩ := hI
      obtain ⟨h2, rfl⟩ := rng_get hj
      have hl2 : i + j < (inn (gt a i) b i S j).length := by rw [inn_len]; omega
      refine ⟨_, _, ?_, ⟨some (.int j), rfl⟩, rfl⟩
      have t1 := e_ltimes (k := k) (M := M ++ [.lst ((inn (gt a i) b i S j).map P)]) hx (hb _ (mem_getD h2))
      have t2 := e_lplus (k := k) (M := M ++ [.lst ((inn (gt a i) b i S j).map P)]) (hS j (by omega) _ (mem_getD hl2)) (hxb _ (mem_getD h2))
      simp -implicitDefEqProofs [goF, setT, t1, t2, idx_new _ _ _ _ hl2, put_new _ _ _ _ _ hl2, inn, idx_mapP _ _ _ hi, idx_mapP _ _ _ h2])
  rw [List.length_map, List.length_range] at h
  exact h
theorem e_lmul {k : Nat} {a b : List Rat} {M : Sto} (h : MulOk a b) : rn (k + 4) i__law_mul [.lst (a.map P), .lst (b.map P)] M = some (.lst ((mulL a b).map P), M) := by
  have hl := h.la
  have hl2 := h.lb
  have hl3 := h.l
  have e0 : ((a.length : Int) + b.length - 1) = ((a.length + b.length - 1 : Nat) : Int) := by omega
  have e1 : ((a.length + b.length - 1 : Nat) : Int).toNat = a.length + b.length - 1 := Int.toNat_natCast _
  have e2 : (List.replicate (a.length + b.length - 1) [P 0]).flatten = (outr a b 0).map P := by
    show _ = (List.replicate (a.length + b.length - 1) (0 : Rat)).map P
    rw [List.map_replicate]
    induction (a.length + b.length - 1) with
    | zero => rfl
    | succ n ih => rw [List.replicate_succ, List.flatten_cons, ih, List.replicate_succ]; rfl
  have e3 : -(2 ^ 63 : Int) ≤ ((a.length + b.length - 1 : Nat) : Int) ∧ ((a.length + b.length - 1 : Nat) : Int) < 2 ^ 63 ∧ a.length + b.length - 1 ≤ line := by
    refine ⟨by omega, by omega, Nat.le_trans (show a.length + b.length - 1 ≤ 1000 by omega) (by decide)⟩
  have lo := forL_ix (f := goF (sy (k + 3)) (.name 3) (.cons (.for (.name 4) (.rng1 (.blt .len (.cons (.var 1) .nil))) (.cons (.setI 2 (.bin .Add (.var 3) (.var 4)) (.call 44 (.cons (.idx (.var 2) (.bin .Add (.var 3) (.var 4))) (.cons (.call 46 (.cons (.idx (.var 0) (.var 3)) (.cons (.idx (.var 1) (.var 4)) .nil))) .nil)))) .nil)) .nil)) (xs := (List.range a.length).map fun k : Nat => D.int (k : Int))
    (I := fun i ρ M' => (∃ y3 y4, ρ = [some (.lst (a.map P)), some (.lst (b.map P)), some (.ref M.length), y3, y4]) ∧ M' = M ++ [.lst ((outr a b i).map P)])
    (ρ := [some (.lst (a.map P)), some (.lst (b.map P)), some (.ref M.length), none, none]) (M := M ++ [.lst ((outr a b 0).map P)]) ⟨⟨_, _, rfl⟩, rfl⟩ (fun i y ρ M1 hi hI => by
      obtain ⟨⟨y3, y4, rfl⟩, rfl⟩ := hI
      obtain ⟨h2, rfl⟩ := rng_get hi
      obtain ⟨ρ', M', q1, ⟨z4, rfl⟩, rfl⟩ := e_lmul_inner (k := k) (i := i) (a := a) (b := b) (S := outr a b i) (M := M) (x4 := y4) h2 (h.ha _ (mem_getD h2)) h.hb (h.ab _ (mem_getD h2)) (h.S i h2) (by rw [outr_len]; omega)
      refine ⟨_, _, ?_, ⟨some (.int i), z4, rfl⟩, rfl⟩
      simp -implicitDefEqProofs [goF, setT, rngI_1000 (show b.length ≤ 1000 by omega)] at q1 ⊢
      rw [q1]
      rfl)
  obtain ⟨ρ', M', q1, ⟨y3, y4, rfl⟩, rfl⟩ := lo
  rw [List.length_map, List.length_range] at q1
  rw [rn_call _ rfl rfl]
  have e4 : ((a.length + b.length - 1 : Nat) : Int) < 9223372036854775808 := by omega
  simp -implicitDefEqProofs [f__law_mul, b__law_mul, e0, e1, e2, e3, e4, q1, rngI_1000 (show a.length ≤ 1000 by omega)]
  rfl
end K45
namespace K45
open PySem PySem.Spec PyProof.Rows L2 Mn Mn.Sx
theorem LS.sm {N c : Nat} {l : List Rat} (h : LS N c l) (hN : N < 2 ^ 1000) (hc : c < 2 ^ 1000) : ∀ x ∈ l, Sm x := fun x hx => ((h.all x hx).sz h.pos hN hc).sm (by decide)
theorem mulOk_of {N N' c c' : Nat} {a b : List Rat} (ha : LS N c a) (hb : LS N' c' b) (h1 : N * N' < 2 ^ 1000) (h2 : a.length * (b.length * (c * c')) < 2 ^ 1000) (h3 : c < 2 ^ 1000) (h4 : c' < 2 ^ 1000) (h5 : a.length + b.length ≤ 1000) : MulOk a b := by
  have p1 := ha.pos
  have p2 := hb.pos
  have q1 : N ≤ N * N' := Nat.le_mul_of_pos_right _ p2
  have q2 : N' ≤ N * N' := Nat.le_mul_of_pos_left _ p1
  have r0 : 1 ≤ a.length := ha.ne
  have r1 : 1 ≤ b.length := hb.ne
  have r2 : b.length * (c * c') ≤ a.length * (b.length * (c * c')) := Nat.le_mul_of_pos_left _ r0
  have r3 : c * c' ≤ b.length * (c * c') := Nat.le_mul_of_pos_left _ r1
  refine ⟨ha.sm (by omega) h3, hb.sm (by omega) h4, fun x hx y hy => (((ha.all x hx).mul (hb.all y hy)).sz (Nat.mul_pos p1 p2) h1 (by omega)).sm (by decide), fun i hi j hj y hy => ?_, r0, r1, h5⟩
  have e := inn_cd (i := i) (ha.get hi) hb (outr_cd ha hb i (by omega)) (by rw [outr_len]; omega) j hj y hy
  refine (e.sz (Nat.mul_pos p1 p2) h1 ?_).sm (by decide)
  have s1 : j * (c * c') ≤ b.length * (c * c') := Nat.mul_le_mul_right _ hj
  have s2 : (i + 1) * (b.length * (c * c')) ≤ a.length * (b.length * (c * c')) := Nat.mul_le_mul_right _ (by omega)
  rw [Nat.succ_mul] at s2
  omega
/-! a line's size -/
def Ln (B n L : Nat) (l : List Rat) : Prop := ∃ N c, LS N c l ∧ N ≤ 2 ^ B ∧ c ≤ 2 ^ n ∧ l.length ≤ L
theorem Ln.up {B n L B' n' L' : Nat} {l : List Rat} (h : Ln B n L l) (h1 : B ≤ B') (h2 : n ≤ n') (h3 : L ≤ L') : Ln B' n' L' l := by
  obtain ⟨N, c, a, b, d, e⟩ := h
  exact ⟨N, c, a, Nat.le_trans b (Nat.pow_le_pow_right (by decide) h1), Nat.le_trans d (Nat.pow_le_pow_right (by decide) h2), by omega⟩
theorem lt_of_pow {x n : Nat} (h : x ≤ 2 ^ n) (hn : n < 1000) : x < 2 ^ 1000 := Nat.lt_of_le_of_lt h (Nat.pow_lt_pow_right (by decide) hn)
theorem Ln.sm {B n L : Nat} {l : List Rat} (h : Ln B n L l) (h1 : B < 1000) (h2 : n < 1000) : ∀ x ∈ l, Sm x := by
  obtain ⟨N, c, a, b, d, e⟩ := h
  exact a.sm (lt_of_pow b h1) (lt_of_pow d h2)
theorem mul_bound {x y p q e c c' n n' : Nat} (hx : x ≤ p) (hy : y ≤ q) (he : p * q ≤ 2 ^ e) (hc : c ≤ 2 ^ n) (hc' : c' ≤ 2 ^ n') : x * (y * (c * c')) ≤ 2 ^ (n + n' + e) := by
  rw [← Nat.mul_assoc, Nat.mul_comm, Nat.pow_add, Nat.pow_add]
  exact Nat.mul_le_mul (Nat.mul_le_mul hc hc') (Nat.le_trans (Nat.mul_le_mul hx hy) he)
theorem Ln.mul {B n L B' n' L' e : Nat} {a b : List Rat} (h : Ln B n L a) (h' : Ln B' n' L' b) (he : L * L' ≤ 2 ^ e) : Ln (B + B') (n + n' + e) (L + L' - 1) (mulL a b) := by
  obtain ⟨N, c, l1, l2, l3, l4⟩ := h
  obtain ⟨N', c', m1, m2, m3, m4⟩ := h'
  refine ⟨_, _, mulL_ls l1 m1, ?_, mul_bound l4 m4 he l3 m3, by rw [mulL_len]; omega⟩
  rw [Nat.pow_add]
  exact Nat.mul_le_mul l2 m2
theorem Ln.mulOk {B n L B' n' L' e : Nat} {a b : List Rat} (h : Ln B n L a) (h' : Ln B' n' L' b) (he : L * L' ≤ 2 ^ e) (h1 : B + B' < 1000) (h2 : n + n' + e < 1000) (h3 : L + L' ≤ 1000) : MulOk a b := by
  obtain ⟨N, c, l1, l2, l3, l4⟩ := h
  obtain ⟨N', c', m1, m2, m3, m4⟩ := h'
  refine mulOk_of l1 m1 (lt_of_pow (n := B + B') ?_ h1) (lt_of_pow (mul_bound l4 m4 he l3 m3) h2) (lt_of_pow l3 (by omega)) (lt_of_pow m3 (by omega)) (by omega)
  rw [Nat.pow_add]
  exact Nat.mul_le_mul l2 m2
def negL (l : List Rat) : List Rat := l.map fun x => -1 * x
theorem Ln.neg {B n L : Nat} {l : List Rat} (h : Ln B n L l) : Ln B n L (negL l) := by
  obtain ⟨N, c, a, b, d, e⟩ := h
  refine ⟨N, c, ⟨a.pos, fun x hx => ?_, by unfold negL; rw [List.length_map]; exact a.ne⟩, b, d, by unfold negL; rw [List.length_map]; exact e⟩
  obtain ⟨y, hy, rfl⟩ := List.mem_map.mp hx
  exact (a.all y hy).neg
/-! sums -/
def pad (l : List Rat) (m : Nat) : List Rat := l ++ List.replicate (m - l.length) 0
def sumL (a b : List Rat) : List Rat := ((pad a (max a.length b.length)).zip (pad b (max a.length b.length))).map fun p => p.1 + p.2
theorem pad_mem {l : List Rat} {m : Nat} {x : Rat} (h : x ∈ pad l m) : x ∈ l ∨ x = 0 := by
  unfold pad at h
  rcases List.mem_append.mp h with z | z
  · exact .inl z
  · exact .inr (List.mem_replicate.mp z).2
theorem pad_len (l : List Rat) (m : Nat) : (pad l m).length = max l.length m := by
  unfold pad
  rw [List.length_append, List.length_replicate]
  omega
theorem sumL_len (a b : List Rat) : (sumL a b).length = max a.length b.length := by
  unfold sumL
  rw [List.length_map, List.length_zip, pad_len, pad_len]
  omega
theorem Ln.sum {B n L B' n' L' m : Nat} {a b : List Rat} (h : Ln B n L a) (h' : Ln B' n' L' b) (e1 : n + B' ≤ m) (e2 : n' + B ≤ m) : Ln (B + B') (m + 1) (max L L') (sumL a b) := by
  obtain ⟨N, c, l1, l2, l3, l4⟩ := h
  obtain ⟨N', c', m1, m2, m3, m4⟩ := h'
  refine ⟨N * N', c * N' + c' * N, ⟨Nat.mul_pos l1.pos m1.pos, fun x hx => ?_, by rw [sumL_len]; have := l1.ne; omega⟩, by rw [Nat.pow_add]; exact Nat.mul_le_mul l2 m2, ?_, by rw [sumL_len]; omega⟩
  · unfold sumL at hx
    obtain ⟨⟨y, z⟩, hy, rfl⟩ := List.mem_map.mp hx
    obtain ⟨hy1, hz1⟩ := List.of_mem_zip hy
    have cy : Cd (N * N') (c * N') y := by
      rcases pad_mem hy1 with q | q
      · exact (l1.all y q).wide N' l1.pos m1.pos
      · subst q; exact Cd.zero.up (Nat.zero_le _)
    have cz : Cd (N * N') (c' * N) z := by
      rcases pad_mem hz1 with q | q
      · rw [Nat.mul_comm N N']; exact (m1.all z q).wide N m1.pos l1.pos
      · subst q; exact Cd.zero.up (Nat.zero_le _)
    exact cy.add cz
  · have p1 : c * N' ≤ 2 ^ m := Nat.le_trans (Nat.mul_le_mul l3 m2) (by rw [← Nat.pow_add]; exact Nat.pow_le_pow_right (by decide) e1)
    have p2 : c' * N ≤ 2 ^ m := Nat.le_trans (Nat.mul_le_mul m3 l2) (by rw [← Nat.pow_add]; exact Nat.pow_le_pow_right (by decide) e2)
    rw [Nat.pow_succ]
    omega
theorem flat0 (m : Nat) : (List.replicate m [P 0]).flatten = (List.replicate m (0 : Rat)).map P := by
  rw [List.map_replicate]
  induction m with
  | zero => rfl
  | succ n ih => rw [List.replicate_succ, List.flatten_cons, ih, List.replicate_succ]; rfl
theorem zipL_map : ∀ (a b : List Rat), zipL (a.map P) (b.map P) = (a.zip b).map fun p => .tup [P p.1, P p.2]
  | [], _ => by simp [zipL]
  | _ :: _, [] => by simp [zipL]
  | x :: a, y :: b => by simp [zipL, zipL_map a b]
def pz (n : Nat) : List D := (List.replicate n (0 : Rat)).map P
@[simp] theorem pz_len (n : Nat) : (pz n).length = n := by unfold pz; simp
theorem pz_ev (n : Nat) (h : n ≤ 1000) (M : Sto) : binD .Mult M (.lst [P 0]) (.int (n : Int)) = some (.lst (pz n)) := by
  have h2 : 1 * (n : Int).toNat ≤ line := by
    rw [Int.toNat_natCast]
    exact Nat.le_trans (show 1 * n ≤ 1000 by omega) (by decide)
  rw [bin_mulL, if_pos ⟨by omega, by omega, h2⟩, Int.toNat_natCast, flat0]
  rfl
theorem pad_ev (a b : List Rat) (h : a.length ≤ 500) (h' : b.length ≤ 500) (M : Sto) : binD .Mult M (.lst [P 0]) (.int (max (a.length : Int) b.length - a.length)) = some (.lst (pz (max a.length b.length - a.length))) := by
  have e : max (a.length : Int) b.length - a.length = ((max a.length b.length - a.length : Nat) : Int) := by omega
  rw [e, pz_ev _ (by omega)]
theorem pad_ev' (a b : List Rat) (h : a.length ≤ 500) (h' : b.length ≤ 500) (M : Sto) : binD .Mult M (.lst [P 0]) (.int (max (a.length : Int) b.length - b.length)) = some (.lst (pz (max a.length b.length - b.length))) := by
  have := pad_ev b a h' h M
  rw [Int.max_comm, Nat.max_comm] at this
  exact this
theorem pad_c (a b : List Rat) : a.map P ++ pz (max a.length b.length - a.length) = (pad a (max a.length b.length)).map P := by unfold pz; rw [← List.map_append]; rfl
theorem pad_c' (a b : List Rat) : b.map P ++ pz (max a.length b.length - b.length) = (pad b (max a.length b.length)).map P := by unfold pz; rw [← List.map_append]; rfl
theorem filterMap_some {α β : Type} (f : α → β) (l : List α) : l.filterMap (fun x => some (f x)) = l.map f := by rw [List.filterMap_eq_map']
theorem e_summed {k : Nat} {a b : List Rat} {M : Sto} (ha : ∀ x ∈ a, Sm x) (hb : ∀ x ∈ b, Sm x) (h : a.length ≤ 500) (h' : b.length ≤ 500) : rn (k + 3) i_summed [.lst (a.map P), .lst (b.map P)] M = some (.lst ((sumL a b).map P), M) := by
  have s0 : Sm (0 : Rat) := sz0.sm (by decide)
  have pa : ∀ x ∈ pad a (max a.length b.length), Sm x := fun x hx => (pad_mem hx).elim (ha x) fun z => z ▸ s0
  have pb : ∀ x ∈ pad b (max a.length b.length), Sm x := fun x hx => (pad_mem hx).elim (hb x) fun z => z ▸ s0
  have l1 : a.length + (max a.length b.length - a.length) ≤ line := Nat.le_trans (show _ ≤ 1000 by omega) (by decide)
  have l2 : b.length + (max a.length b.length - b.length) ≤ line := Nat.le_trans (show _ ≤ 1000 by omega) (by decide)
  have l3 : (sumL a b).length ≤ line := by rw [sumL_len]; exact Nat.le_trans (show _ ≤ 1000 by omega) (by decide)
  have c := fun ρ : Rho => fun hρ : ρ.length = 7 => compL_list (M := M) (f := goC (sy (k + 2)) (.call 6 (.cons (.var 5) (.cons (.var 6) .nil))) [5, 6] (.tup [5, 6]) .no ρ) (h := fun p : Rat × Rat => D.tup [P p.1, P p.2]) (g := fun p => some (P (p.1 + p.2))) (xs := (pad a (max a.length b.length)).zip (pad b (max a.length b.length))) (fun p hp => by
    obtain ⟨h1, h2⟩ := List.of_mem_zip (show (p.1, p.2) ∈ _ from hp)
    simp -implicitDefEqProofs [goC, setT, wipeD, e_plus (pa _ h1) (pb _ h2), hρ])
  have e5 : (((pad a (max a.length b.length)).zip (pad b (max a.length b.length))).filterMap fun p => some (P (p.1 + p.2))) = (sumL a b).map P := by
    rw [filterMap_some]
    unfold sumL
    rw [List.map_map]
    rfl
  rw [rn_call _ rfl rfl]
  simp -implicitDefEqProofs [f_summed, b_summed, -bin_mulL, pad_ev a b h h', pad_ev' a b h h', l1, l2, pad_c a b, pad_c' a b, zipL_map, -List.map_append]
  rw [c _ rfl, e5]
  simp [l3]
/-! polynomials -/
def powL (a : List Rat) : Nat → List Rat
  | 0 => [1]
  | n + 1 => mulL (powL a n) a
def Tr.poly : Tr → List Rat
  | .num r => [r]
  | .unk => [0, 1]
  | .neg t => negL t.poly
  | .pw t n => powL t.poly n
  | .two .times a b => mulL a.poly b.poly
  | .two .plus a b => sumL a.poly b.poly
  | .two .less a b => sumL a.poly (negL b.poly)
  | _ => []
def okL (l : List Rat) : Prop := (∀ x ∈ l, Sm x) ∧ l.length ≤ 500
def Tr.pok : Tr → Prop
  | .num r => Sm r
  | .unk => True
  | .neg t => t.pok ∧ okL t.poly
  | .pw t n => t.pok ∧ n ≤ 100 ∧ ∀ i, i < n → MulOk (powL t.poly i) t.poly
  | .two .times a b => a.pok ∧ b.pok ∧ MulOk a.poly b.poly
  | .two .plus a b => a.pok ∧ b.pok ∧ okL a.poly ∧ okL b.poly
  | .two .less a b => a.pok ∧ b.pok ∧ okL a.poly ∧ okL b.poly
  | _ => False
@[simp] theorem Pm1 : D.tup [.int (-1), .int 1] = P (-1) := rfl
theorem smm1 : Sm (-1 : Rat) := ⟨by decide, by decide⟩
theorem okL.neg {l : List Rat} (h : okL l) : okL (negL l) := by
  refine ⟨fun x hx => ?_, by unfold negL; rw [List.length_map]; exact h.2⟩
  obtain ⟨y, hy, rfl⟩ := List.mem_map.mp hx
  have e : (-1 : Rat) * y = -y := by grind
  rw [e]
  exact ⟨by rw [Rat.neg_num, Int.natAbs_neg]; exact (h.1 y hy).1, by rw [Rat.neg_den]; exact (h.1 y hy).2⟩
theorem neg_comp {k : Nat} {l : List Rat} {M : Sto} (h : okL l) (ρ : Rho) (hρ : ρ.length = 7) : compL (goC (sy (k + 2)) (.call 7 (.cons (.tup (.cons (.neg (.int 1)) (.cons (.int 1) .nil))) (.cons (.var 6) .nil))) [6] (.name 6) .no ρ) (l.map P) M = some ((negL l).map P, M) := by
  have c := compL_list (M := M) (f := goC (sy (k + 2)) (.call 7 (.cons (.tup (.cons (.neg (.int 1)) (.cons (.int 1) .nil))) (.cons (.var 6) .nil))) [6] (.name 6) .no ρ) (h := P) (g := fun x => some (P (-1 * x))) (xs := l) (fun x hx => by
    simp -implicitDefEqProofs [goC, setT, wipeD, e_times smm1 (h.1 x hx), hρ])
  rw [c, filterMap_some]
  unfold negL
  rw [List.map_map]
  rfl
theorem e_poly : ∀ (t : Tr) (n : Nat) (M : Sto), t.ht ≤ n → t.pok → rn (n + 6) i_polynomial_of [t.d] M = some (.lst (t.poly.map P), M)
  | .num r, n, M, _, _ => by
    rw [rn_call _ rfl rfl]
    simp [f_polynomial_of, b_polynomial_of, Tr.d, Tr.poly]
  | .unk, n, M, _, _ => by
    rw [rn_call _ rfl rfl]
    simp [f_polynomial_of, b_polynomial_of, Tr.d, Tr.poly]
  | .neg t, n + 1, M, hn, hp => by
    have ih := e_poly t n M (by simp [Tr.ht] at hn; omega) hp.1
    have c := neg_comp (k := n + 4) (M := M) hp.2
    have l1 : (negL t.poly).length ≤ line := Nat.le_trans hp.2.neg.2 (by decide)
    rw [rn_call _ rfl rfl]
    simp -implicitDefEqProofs [f_polynomial_of, b_polynomial_of, Tr.d, Tr.poly, ih, c, l1]
  | .pw t m, n + 1, M, hn, hp => by
    have ih := e_poly t n M (by simp [Tr.ht] at hn; omega) hp.1
    have e := forL_range (f := goF (sy (n + 6)) (.name 5) (.cons (.asg 4 (.call 30 (.cons (.var 4) (.cons (.var 2) .nil)))) .nil)) (n := m) (S := fun _ => M)
      (R := fun i => [some (Tr.pw t m).d, some (.str "power"), some (.lst (t.poly.map P)), none, some (.lst ((powL t.poly i).map P)), if i = 0 then none else some (.int (i - 1 : Int)), none]) (fun i hi => by
        simp -implicitDefEqProofs [goF, setT, e_multiplied (k := n + 3) (M := M) (hp.2.2 i hi), powL])
    have m1 : m ≤ 1000 := Nat.le_trans hp.2.1 (by decide)
    rw [rn_call _ rfl rfl]
    simp -implicitDefEqProofs [f_polynomial_of, b_polynomial_of, Tr.d, Tr.poly, ih, rngI_1000 m1]
    simp [Tr.d, powL] at e
    rw [e]
    simp
  | .two .times a b, n + 1, M, hn, hp => by
    have ih := e_poly a n M (by simp [Tr.ht] at hn; omega) hp.1
    have ih2 := e_poly b n M (by simp [Tr.ht] at hn; omega) hp.2.1
    rw [rn_call _ rfl rfl]
    simp -implicitDefEqProofs [f_polynomial_of, b_polynomial_of, Tr.d, Tr.poly, ih, ih2, e_multiplied (k := n + 3) (M := M) hp.2.2]
  | .two .plus a b, n + 1, M, hn, hp => by
    have ih := e_poly a n M (by simp [Tr.ht] at hn; omega) hp.1
    have ih2 := e_poly b n M (by simp [Tr.ht] at hn; omega) hp.2.1
    rw [rn_call _ rfl rfl]
    simp -implicitDefEqProofs [f_polynomial_of, b_polynomial_of, Tr.d, Tr.poly, ih, ih2, e_summed (k := n + 3) (M := M) hp.2.2.1.1 hp.2.2.2.1 hp.2.2.1.2 hp.2.2.2.2]
  | .two .less a b, n + 1, M, hn, hp => by
    have ih := e_poly a n M (by simp [Tr.ht] at hn; omega) hp.1
    have ih2 := e_poly b n M (by simp [Tr.ht] at hn; omega) hp.2.1
    have c := neg_comp (k := n + 4) (M := M) hp.2.2.2
    have l1 : (negL b.poly).length ≤ line := Nat.le_trans hp.2.2.2.neg.2 (by decide)
    rw [rn_call _ rfl rfl]
    simp -implicitDefEqProofs [f_polynomial_of, b_polynomial_of, Tr.d, Tr.poly, ih, ih2, c, l1, e_summed (k := n + 3) (M := M) hp.2.2.1.1 hp.2.2.2.neg.1 hp.2.2.1.2 hp.2.2.2.neg.2]
  | .neg t, 0, _, hn, _ => by simp [Tr.ht] at hn
  | .pw t _, 0, _, hn, _ => by simp [Tr.ht] at hn
  | .two _ a b, 0, _, hn, _ => by simp [Tr.ht] at hn
  | .pi, _, _, _, hp => False.elim hp
  | .wav _ _, _, _, _, hp => False.elim hp
end K45
namespace K45
open PySem PySem.Spec PyProof.Rows L2 Mn Mn.Sx
theorem neg1 (x : Rat) : -x = -1 * x := by grind
theorem lneg_comp {k : Nat} {l : List Rat} {M : Sto} (ρ : Rho) (hρ : ρ.length = 10) : compL (goC (sy (k + 1)) (.call 45 (.cons (.var 9) .nil)) [9] (.name 9) .no ρ) (l.map P) M = some ((negL l).map P, M) := by
  have c := compL_list (M := M) (f := goC (sy (k + 1)) (.call 45 (.cons (.var 9) .nil)) [9] (.name 9) .no ρ) (h := P) (g := fun x => some (P (-x))) (xs := l) (fun x hx => by
    simp -implicitDefEqProofs [goC, setT, wipeD, e_lminus, hρ])
  rw [c, filterMap_some]
  unfold negL
  rw [List.map_map]
  congr 3
  funext x
  rw [neg1]
  rfl
theorem neg_pad (b : List Rat) (m : Nat) : negL (pad b m) = pad (negL b) m := by
  unfold negL pad
  rw [List.map_append, List.map_replicate, List.length_map, Rat.mul_zero]
theorem negL_len (b : List Rat) : (negL b).length = b.length := by unfold negL; rw [List.length_map]
theorem sum_neg (a b : List Rat) : ((pad a (max a.length b.length)).zip (pad b (max a.length b.length))).map (fun p => p.1 + -p.2) = sumL a (negL b) := by
  unfold sumL
  rw [negL_len, ← neg_pad]
  unfold negL
  rw [List.zip_map_right, List.map_map]
  congr 1
  funext p
  show p.1 + -p.2 = p.1 + -1 * p.2
  rw [neg1]
def Op.sel (o : Op) (b : List Rat) : List Rat := match o with | .plus => b | _ => negL b
theorem lsum_comp {k : Nat} {a b : List Rat} {M : Sto} (o : Op) (ho : o = .plus ∨ o = .less) (ha : okL a) (hb : okL b) (ρ : Rho) (hρ : ρ.length = 10) (h1 : ρ[1]? = some (some (.str o.s))) :
    compL (goC (sy (k + 3)) (.call 44 (.cons (.var 7) (.cons (.ite (.cmp .Eq (.var 1) (.str "plus")) (.var 8) (.call 45 (.cons (.var 8) .nil))) .nil))) [7, 8] (.tup [7, 8]) .no ρ)
      (((pad a (max a.length b.length)).zip (pad b (max a.length b.length))).map fun p => D.tup [P p.1, P p.2]) M = some ((sumL a (o.sel b)).map P, M) := by
  have s0 : Sm (0 : Rat) := sz0.sm (by decide)
  have pa : ∀ x ∈ pad a (max a.length b.length), Sm x := fun x hx => (pad_mem hx).elim (ha.1 x) fun z => z ▸ s0
  have pb : ∀ x ∈ pad b (max a.length b.length), Sm x := fun x hx => (pad_mem hx).elim (hb.1 x) fun z => z ▸ s0
  have sn : ∀ {x : Rat}, Sm x → Sm (-x) := fun {x} h => ⟨by rw [Rat.neg_num, Int.natAbs_neg]; exact h.1, by rw [Rat.neg_den]; exact h.2⟩
  match ρ, hρ with
  | [x0, x1, x2, x3, x4, x5, x6, x7, x8, x9], _ =>
    have h1 : x1 = some (.str o.s) := by simpa using h1
    subst h1
    rcases ho with z | z
    · subst z
      rw [compL_list (g := fun p => some (P (p.1 + p.2))) (fun p hp => by
        obtain ⟨h1, h2⟩ := List.of_mem_zip (show (p.1, p.2) ∈ _ from hp)
        simp -implicitDefEqProofs [goC, setT, wipeD, e_lplus (pa _ h1) (pb _ h2)]), filterMap_some]
      simp [sumL, Op.sel]
    · subst z
      rw [compL_list (g := fun p => some (P (p.1 + -p.2))) (fun p hp => by
        obtain ⟨h1, h2⟩ := List.of_mem_zip (show (p.1, p.2) ∈ _ from hp)
        simp -implicitDefEqProofs [goC, setT, wipeD, e_lminus, e_lplus (pa _ h1) (sn (pb _ h2))]), filterMap_some, show Op.sel .less b = negL b from rfl, ← sum_neg, List.map_map]
      rfl
theorem e_lline : ∀ (t : Tr) (n : Nat) (M : Sto), t.ht ≤ n → t.pok → rn (n + 8) i__law_line_of [t.d] M = some (.lst (t.poly.map P), M)
  | .num r, n, M, _, _ => by
    rw [rn_call _ rfl rfl]
    simp [f__law_line_of, b__law_line_of, Tr.d, Tr.poly]
  | .unk, n, M, _, _ => by
    rw [rn_call _ rfl rfl]
    simp [f__law_line_of, b__law_line_of, Tr.d, Tr.poly]
  | .neg t, n + 1, M, hn, hp => by
    have ih := e_lline t n M (by simp [Tr.ht] at hn; omega) hp.1
    have c := lneg_comp (k := n + 7) (M := M) (l := t.poly)
    have l1 : (negL t.poly).length ≤ line := Nat.le_trans hp.2.neg.2 (by decide)
    rw [rn_call _ rfl rfl]
    simp -implicitDefEqProofs [f__law_line_of, b__law_line_of, Tr.d, Tr.poly, ih, c, l1]
  | .pw t m, n + 1, M, hn, hp => by
    have ih := e_lline t n M (by simp [Tr.ht] at hn; omega) hp.1
    have e := forL_range (f := goF (sy (n + 8)) (.name 6) (.cons (.asg 5 (.call 52 (.cons (.var 5) (.cons (.var 2) .nil)))) .nil)) (n := m) (S := fun _ => M)
      (R := fun i => [some (Tr.pw t m).d, some (.str "power"), some (.lst (t.poly.map P)), none, none, some (.lst ((powL t.poly i).map P)), if i = 0 then none else some (.int (i - 1 : Int)), none, none, none]) (fun i hi => by
        simp -implicitDefEqProofs [goF, setT, e_lmul (k := n + 4) (M := M) (hp.2.2 i hi), powL])
    have m1 : m ≤ 1000 := Nat.le_trans hp.2.1 (by decide)
    rw [rn_call _ rfl rfl]
    simp -implicitDefEqProofs [f__law_line_of, b__law_line_of, Tr.d, Tr.poly, ih, rngI_1000 m1]
    simp [Tr.d, powL] at e
    rw [e]
    simp
  | .two .times a b, n + 1, M, hn, hp => by
    have ih := e_lline a n M (by simp [Tr.ht] at hn; omega) hp.1
    have ih2 := e_lline b n M (by simp [Tr.ht] at hn; omega) hp.2.1
    rw [rn_call _ rfl rfl]
    simp -implicitDefEqProofs [f__law_line_of, b__law_line_of, Tr.d, Tr.poly, ih, ih2, e_lmul (k := n + 4) (M := M) hp.2.2]
  | .two .plus a b, n + 1, M, hn, hp => by
    have ih := e_lline a n M (by simp [Tr.ht] at hn; omega) hp.1
    have ih2 := e_lline b n M (by simp [Tr.ht] at hn; omega) hp.2.1
    have h := hp.2.2.1.2
    have h' := hp.2.2.2.2
    have l1 : a.poly.length + (max a.poly.length b.poly.length - a.poly.length) ≤ line := Nat.le_trans (show _ ≤ 1000 by omega) (by decide)
    have l2 : b.poly.length + (max a.poly.length b.poly.length - b.poly.length) ≤ line := Nat.le_trans (show _ ≤ 1000 by omega) (by decide)
    have l3 : (sumL a.poly b.poly).length ≤ line := by rw [sumL_len]; exact Nat.le_trans (show _ ≤ 1000 by omega) (by decide)
    have c := fun ρ : Rho => lsum_comp (k := n + 5) (M := M) .plus (.inl rfl) hp.2.2.1 hp.2.2.2 ρ
    rw [rn_call _ rfl rfl]
    simp -implicitDefEqProofs [f__law_line_of, b__law_line_of, Tr.d, Tr.poly, ih, ih2, -bin_mulL, pad_ev _ _ h h', pad_ev' _ _ h h', l1, l2, pad_c, pad_c', zipL_map, -List.map_append]
    rw [c _ rfl rfl]
    simp [l3, Op.sel]
  | .two .less a b, n + 1, M, hn, hp => by
    have ih := e_lline a n M (by simp [Tr.ht] at hn; omega) hp.1
    have ih2 := e_lline b n M (by simp [Tr.ht] at hn; omega) hp.2.1
    have h := hp.2.2.1.2
    have h' := hp.2.2.2.2
    have l1 : a.poly.length + (max a.poly.length b.poly.length - a.poly.length) ≤ line := Nat.le_trans (show _ ≤ 1000 by omega) (by decide)
    have l2 : b.poly.length + (max a.poly.length b.poly.length - b.poly.length) ≤ line := Nat.le_trans (show _ ≤ 1000 by omega) (by decide)
    have l3 : (sumL a.poly (negL b.poly)).length ≤ line := by rw [sumL_len, negL_len]; exact Nat.le_trans (show _ ≤ 1000 by omega) (by decide)
    have c := fun ρ : Rho => lsum_comp (k := n + 5) (M := M) .less (.inr rfl) hp.2.2.1 hp.2.2.2 ρ
    rw [rn_call _ rfl rfl]
    simp -implicitDefEqProofs [f__law_line_of, b__law_line_of, Tr.d, Tr.poly, ih, ih2, -bin_mulL, pad_ev _ _ h h', pad_ev' _ _ h h', l1, l2, pad_c, pad_c', zipL_map, -List.map_append]
    rw [c _ rfl rfl]
    simp [l3, Op.sel]
  | .neg t, 0, _, hn, _ => by simp [Tr.ht] at hn
  | .pw t _, 0, _, hn, _ => by simp [Tr.ht] at hn
  | .two _ a b, 0, _, hn, _ => by simp [Tr.ht] at hn
  | .pi, _, _, _, hp => False.elim hp
  | .wav _ _, _, _, _, hp => False.elim hp
end K45
namespace K45
open PySem PySem.Spec PyProof.Rows L2 Mn Mn.Sx
/-! the plain algebra -/
def sumP (x : Rat) : Nat → List Rat → Rat
  | _, [] => 0
  | j, c :: l => c * x ^ j + sumP x (j + 1) l
def hor (x : Rat) (l : List Rat) : Rat := l.foldr (fun c a => a * x + c) 0
theorem sumP_hor (x : Rat) : ∀ (l : List Rat) (j : Nat), sumP x j l = hor x l * x ^ j
  | [], j => by
    show (0 : Rat) = 0 * x ^ j
    rw [Rat.zero_mul]
  | c :: l, j => by
    show c * x ^ j + sumP x (j + 1) l = (hor x l * x + c) * x ^ j
    rw [sumP_hor x l (j + 1), Rat.pow_succ]
    grind
theorem sumP_last (x : Rat) (c : Rat) : ∀ (l : List Rat) (j : Nat), sumP x j (l ++ [c]) = sumP x j l + c * x ^ (j + l.length)
  | [], j => by
    show c * x ^ j + 0 = 0 + c * x ^ (j + 0)
    grind
  | d :: l, j => by
    show d * x ^ j + sumP x (j + 1) (l ++ [c]) = (d * x ^ j + sumP x (j + 1) l) + c * x ^ (j + (l.length + 1))
    rw [sumP_last x c l (j + 1), show j + 1 + l.length = j + (l.length + 1) by omega]
    grind
def arS (lo hi : Rat) (l : List Rat) : Nat → Rat
  | 0 => 0
  | k + 1 => arS lo hi l k + gt l k * (hi ^ (k + 1) + -(lo ^ (k + 1)))
theorem arS_sum (lo hi : Rat) (l : List Rat) : ∀ k, k ≤ l.length → arS lo hi l k = sumP hi 1 (l.take k) - sumP lo 1 (l.take k)
  | 0, _ => by
    show (0 : Rat) = 0 - 0
    grind
  | k + 1, h => by
    rw [List.take_add_one, List.getElem?_eq_getElem (show k < l.length by omega)]
    show arS lo hi l k + gt l k * (hi ^ (k + 1) + -(lo ^ (k + 1))) = sumP hi 1 (l.take k ++ [l[k]]) - sumP lo 1 (l.take k ++ [l[k]])
    rw [sumP_last, sumP_last, arS_sum lo hi l k (by omega), gt_eq (show k < l.length by omega), List.length_take, Nat.min_eq_left (by omega), Nat.add_comm 1 k]
    grind
/-- the coefficients of the area: each by one more than its place -/
def inv (n : Nat) : Rat := 1 / ((n + 1 : Nat) : Int)
def der (l : List Rat) : List Rat := l.zipIdx.map fun p => p.1 * inv p.2
theorem area_eq (lo hi : Rat) (d : List Rat) : hor hi (0 :: d) + -1 * hor lo (0 :: d) = arS lo hi d d.length := by
  rw [arS_sum lo hi d d.length (Nat.le_refl _), List.take_length, sumP_hor, sumP_hor]
  show (hor hi d * hi + 0) + -1 * (hor lo d * lo + 0) = hor hi d * hi ^ 1 - hor lo d * lo ^ 1
  rw [Rat.pow_succ, Rat.pow_succ, Rat.pow_zero, Rat.pow_zero]
  grind
theorem inv_P (n : Nat) : D.tup [.int 1, .int ((n : Int) + 1)] = P (inv n) := by
  have h := made_val (a := 1) (b := ((n + 1 : Nat) : Int)) (by omega)
  have e1 : Nat.gcd (1 : Int).natAbs ((n + 1 : Nat) : Int).natAbs = 1 := Nat.gcd_one_left _
  rw [e1] at h
  unfold P inv
  obtain ⟨h1, h2⟩ := h
  have e2 : ((1 : Int) : Rat) = 1 := rfl
  rw [e2] at h1 h2
  rw [← h1, ← h2]
  rw [show (1 : Int).fdiv ((1 : Nat) : Int) = 1 from rfl, show ((n + 1 : Nat) : Int).fdiv ((1 : Nat) : Int) = (n : Int) + 1 from Int.fdiv_one _]
theorem inv_sz {n : Nat} (h : n < 15) : Sz 4 (inv n) := by
  have h1 : (inv n).num = 1 ∧ ((inv n).den : Int) = (n : Int) + 1 := by
    have := inv_P n
    unfold P at this
    injection this with this
    injection this with a b
    injection b with b
    injection a with a
    injection b with b
    exact ⟨a.symm, b.symm⟩
  refine ⟨by rw [h1.1]; decide, by have := h1.2; omega⟩
theorem der_len (l : List Rat) : (der l).length = l.length := by unfold der; rw [List.length_map, List.length_zipIdx]
theorem gt_der {l : List Rat} {i : Nat} (h : i < l.length) : gt (der l) i = gt l i * inv i := by
  rw [gt_eq (by rw [der_len]; exact h), gt_eq h]
  unfold der
  rw [List.getElem_map, List.getElem_zipIdx]
  simp
theorem enum_zip : ∀ (l : List Rat) (k : Nat), enumL k (l.map P) = (l.zipIdx k).map fun p => .tup [.int p.2, P p.1]
  | [], _ => rfl
  | c :: l, k => by
    rw [List.map_cons, enumL, enum_zip l (k + 1), List.zipIdx_cons, List.map_cons]
structure AreaOk (lo hi : Rat) (l : List Rat) : Prop where
  slo : Sm lo
  shi : Sm hi
  sl : ∀ c ∈ l, Sm c
  len : l.length ≤ 14
  sd : ∀ c ∈ der l, Sm c
  h1 : ∀ i, Sm (hor hi ((0 :: der l).drop i))
  h2 : ∀ i, Sm (hor hi ((0 :: der l).drop i) * hi)
  l1 : ∀ i, Sm (hor lo ((0 :: der l).drop i))
  l2 : ∀ i, Sm (hor lo ((0 :: der l).drop i) * lo)
  n1 : Sm (-1 * hor lo (0 :: der l))
  pl : ∀ i, i ≤ l.length → Sm (lo ^ i)
  ph : ∀ i, i ≤ l.length → Sm (hi ^ i)
  s1 : ∀ i, i ≤ l.length → Sm (hi ^ i + -(lo ^ i))
  s2 : ∀ i, i < l.length → Sm (gt (der l) i * (hi ^ (i + 1) + -(lo ^ (i + 1))))
  s3 : ∀ i, i ≤ l.length → Sm (arS lo hi (der l) i)
theorem hor_step {x : Rat} {l : List Rat} {i : Nat} (h : i < l.length) : hor x (l.drop i) = hor x (l.drop (i + 1)) * x + gt l i := by
  rw [List.drop_eq_getElem_cons h, gt_eq h]
  rfl
theorem e_value_at {k : Nat} {l : List Rat} {x : Rat} {M : Sto} (hx : Sm x) (hl : ∀ c ∈ l, Sm c) (h1 : ∀ i, Sm (hor x (l.drop i))) (h2 : ∀ i, Sm (hor x (l.drop i) * x)) : rn (k + 3) i_value_at [.lst (l.map P), P x] M = some (P (hor x l), M) := by
  have e := forL_ix (f := goF (sy (k + 2)) (.name 3) (.cons (.asg 2 (.call 6 (.cons (.call 7 (.cons (.var 2) (.cons (.var 1) .nil))) (.cons (.var 3) .nil)))) .nil)) (xs := (l.map P).reverse)
    (I := fun i ρ M' => (∃ y, ρ = [some (.lst (l.map P)), some (P x), some (P (hor x (l.drop (l.length - i)))), y]) ∧ M' = M)
    (ρ := [some (.lst (l.map P)), some (P x), some (P 0), none]) (M := M) ⟨⟨none, by rw [Nat.sub_zero, List.drop_length]; rfl⟩, rfl⟩ (fun i y ρ M1 hi hI => by
      obtain ⟨⟨y3, rfl⟩, rfl⟩ := hI
      have hi2 : i < l.length := by
        have := (List.getElem?_eq_some_iff.mp hi).1
        simpa using this
      rw [List.getElem?_reverse (by simpa using hi2), List.length_map] at hi
      obtain ⟨h3, rfl⟩ := map_get hi
      refine ⟨_, _, ?_, ⟨some (P (gt l (l.length - 1 - i))), rfl⟩, rfl⟩
      have e1 : hor x (l.drop (l.length - (i + 1))) = hor x (l.drop (l.length - i)) * x + gt l (l.length - 1 - i) := by
        rw [show l.length - (i + 1) = l.length - 1 - i by omega, hor_step h3, show l.length - 1 - i + 1 = l.length - i by omega]
      simp -implicitDefEqProofs [goF, setT, e_times (k := k) (M := M1) (h1 (l.length - i)) hx, e_plus (k := k) (M := M1) (h2 (l.length - i)) (hl _ (mem_getD h3)), e1])
  obtain ⟨ρ', M', q1, ⟨y, rfl⟩, rfl⟩ := e
  rw [List.length_reverse, List.length_map, Nat.sub_self, List.drop_zero] at q1
  rw [rn_call _ rfl rfl]
  simp -implicitDefEqProofs [f_value_at, b_value_at, -List.map_reverse]
  rw [q1]
  simp
theorem e_plain_in {k : Nat} {t : Tr} {lo hi : Rat} {M : Sto} (ht : t.ht ≤ k) (hp : t.pok) (A : AreaOk lo hi t.poly) : rn (k + 8) i_plain_in [area t lo hi] M = some (P (hor hi (0 :: der t.poly) + -1 * hor lo (0 :: der t.poly)), M) := by
  have ih := e_poly t (k + 1) M (by omega) hp
  have s0 : Sm (0 : Rat) := sz0.sm (by decide)
  have si : ∀ i, i < 14 → Sm (inv i) := fun i h => (inv_sz (by omega)).sm (by decide)
  have c := fun ρ : Rho => fun hρ : ρ.length = 4 => compL_list (M := M) (f := goC (sy (k + 7)) (.call 7 (.cons (.var 3) (.cons (.tup (.cons (.int 1) (.cons (.bin .Add (.var 2) (.int 1)) .nil))) .nil))) [2, 3] (.tup [2, 3]) .no ρ) (h := fun p : Rat × Nat => D.tup [.int p.2, P p.1]) (g := fun p => some (P (p.1 * inv p.2))) (xs := t.poly.zipIdx) (fun p hp => by
    obtain ⟨x, i⟩ := p
    obtain ⟨h1, h2, h3⟩ := List.mem_zipIdx hp
    have h4 := A.len
    have h5 : x ∈ t.poly := by rw [h3]; exact List.getElem_mem _
    simp -implicitDefEqProofs [goC, setT, wipeD, inv_P, e_times (k := k + 5) (M := M) (A.sl _ h5) (si i (by omega)), hρ])
  have e5 : (t.poly.zipIdx.filterMap fun p => some (P (p.1 * inv p.2))) = (der t.poly).map P := by
    rw [filterMap_some]
    unfold der
    rw [List.map_map]
    rfl
  have l1 : (der t.poly).length ≤ line := by rw [der_len]; exact Nat.le_trans A.len (by decide)
  have l2 : 1 + (der t.poly).length ≤ line := by rw [der_len]; exact Nat.le_trans (show _ ≤ 1000 by have := A.len; omega) (by decide)
  have e6 : P 0 :: (der t.poly).map P = (0 :: der t.poly).map P := rfl
  have sa : ∀ c ∈ (0 : Rat) :: der t.poly, Sm c := fun c hc => (List.mem_cons.mp hc).elim (fun z => z ▸ s0) (A.sd c)
  have v1 := e_value_at (k := k + 4) (M := M) A.shi sa A.h1 A.h2
  have v2 := e_value_at (k := k + 4) (M := M) A.slo sa A.l1 A.l2
  have v3 := e_times (k := k + 5) (M := M) smm1 (A.l1 0)
  have v4 := e_plus (k := k + 5) (M := M) (A.h1 0) (show Sm (-1 * hor lo ((0 :: der t.poly).drop 0)) from A.n1)
  rw [List.drop_zero] at v3 v4
  rw [rn_call _ rfl rfl]
  simp -implicitDefEqProofs [f_plain_in, b_plain_in, ih, enum_zip]
  rw [c _ rfl, e5]
  simp -implicitDefEqProofs [l1, l2, e6, -List.map_cons, v1, v2, v3, v4]
end K45
namespace K45
open PySem PySem.Spec PyProof.Rows L2 Mn Mn.Sx
theorem e_larea {k : Nat} {l : List Rat} {lo hi : Rat} {M : Sto} (A : AreaOk lo hi l) : rn (k + 4) i__law_area_of [.lst (l.map P), P lo, P hi] M = some (P (arS lo hi (der l) l.length), M) := by
  have si : ∀ i, i < 14 → Sm (inv i) := fun i h => (inv_sz (by omega)).sm (by decide)
  have hlen := A.len
  have sn : ∀ {x : Rat}, Sm x → Sm (-x) := fun {x} h => ⟨by rw [Rat.neg_num, Int.natAbs_neg]; exact h.1, by rw [Rat.neg_den]; exact h.2⟩
  have inner : ∀ (i : Nat) (y7 : Option D), i < l.length → ∃ ρ' M', forL (goF (sy (k + 3)) (.name 7) (.cons (.asg 6 (.lst (.cons (.call 46 (.cons (.idx (.var 6) (.int 0)) (.cons (.var 1) .nil))) (.cons (.call 46 (.cons (.idx (.var 6) (.int 1)) (.cons (.var 2) .nil))) .nil)))) .nil)) ((List.range (i + 1)).map fun k : Nat => D.int (k : Int))
      [some (.lst (l.map P)), some (P lo), some (P hi), some (P (arS lo hi (der l) i)), some (.int i), some (P (gt (der l) i)), some (.lst [P 1, P 1]), y7] M = some (.nx ρ' M') ∧ (∃ y, ρ' = [some (.lst (l.map P)), some (P lo), some (P hi), some (P (arS lo hi (der l) i)), some (.int i), some (P (gt (der l) i)), some (.lst [P (lo ^ (i + 1)), P (hi ^ (i + 1))]), y]) ∧ M' = M := fun i y7 hil => by
    have h := forL_ix (f := goF (sy (k + 3)) (.name 7) (.cons (.asg 6 (.lst (.cons (.call 46 (.cons (.idx (.var 6) (.int 0)) (.cons (.var 1) .nil))) (.cons (.call 46 (.cons (.idx (.var 6) (.int 1)) (.cons (.var 2) .nil))) .nil)))) .nil)) (xs := (List.range (i + 1)).map fun k : Nat => D.int (k : Int))
      (I := fun j ρ M' => (∃ y, ρ = [some (.lst (l.map P)), some (P lo), some (P hi), some (P (arS lo hi (der l) i)), some (.int i), some (P (gt (der l) i)), some (.lst [P (lo ^ j), P (hi ^ j)]), y]) ∧ M' = M)
      (ρ := [some (.lst (l.map P)), some (P lo), some (P hi), some (P (arS lo hi (der l) i)), some (.int i), some (P (gt (der l) i)), some (.lst [P 1, P 1]), y7]) (M := M) ⟨⟨y7, by rw [Rat.pow_zero, Rat.pow_zero]⟩, rfl⟩ (fun j y ρ M1 hj hI => by
        obtain ⟨⟨y3, rfl⟩, rfl⟩ := hI
        obtain ⟨h2, rfl⟩ := rng_get hj
        refine ⟨_, _, ?_, ⟨some (.int j), rfl⟩, rfl⟩
        simp -implicitDefEqProofs [goF, setT, e_ltimes (k := k) (M := M1) (A.pl j (by omega)) A.slo, e_ltimes (k := k) (M := M1) (A.ph j (by omega)) A.shi, Rat.pow_succ])
    rw [List.length_map, List.length_range] at h
    exact h
  have lo' := forL_ix (f := goF (sy (k + 3)) (.name 4) (.cons (.par 5 6 (.call 46 (.cons (.idx (.var 0) (.var 4)) (.cons (.tup (.cons (.int 1) (.cons (.bin .Add (.var 4) (.int 1)) .nil))) .nil))) (.lst (.cons (.tup (.cons (.int 1) (.cons (.int 1) .nil))) (.cons (.tup (.cons (.int 1) (.cons (.int 1) .nil))) .nil))))
      (.cons (.for (.name 7) (.rng1 (.bin .Add (.var 4) (.int 1))) (.cons (.asg 6 (.lst (.cons (.call 46 (.cons (.idx (.var 6) (.int 0)) (.cons (.var 1) .nil))) (.cons (.call 46 (.cons (.idx (.var 6) (.int 1)) (.cons (.var 2) .nil))) .nil))))
      .nil))
      (.cons (.asg 3 (.call 44 (.cons (.var 3) (.cons (.call 46 (.cons (.var 5) (.cons (.call 44 (.cons (.idx (.var 6) (.int 1)) (.cons (.call 45 (.cons (.idx (.var 6) (.int 0)) .nil)) .nil))) .nil))) .nil))))
      .nil)))) (xs := (List.range l.length).map fun k : Nat => D.int (k : Int))
      (I := fun i ρ M' => (∃ y4 y5 y6 y7, ρ = [some (.lst (l.map P)), some (P lo), some (P hi), some (P (arS lo hi (der l) i)), y4, y5, y6, y7]) ∧ M' = M)
      (ρ := [some (.lst (l.map P)), some (P lo), some (P hi), some (P 0), none, none, none, none]) (M := M) ⟨⟨_, _, _, _, rfl⟩, rfl⟩ (fun i y ρ M1 hii hI => by
        obtain ⟨⟨y4, y5, y6, y7, rfl⟩, rfl⟩ := hI
        obtain ⟨h2, rfl⟩ := rng_get hii
        obtain ⟨ρ', M', q1, ⟨z, rfl⟩, rfl⟩ := inner i y7 h2
        have t1 := e_ltimes (k := k) (M := M') (A.sl _ (mem_getD h2)) (si i (by omega))
        rw [← gt_der h2] at t1
        have t2 := e_lplus (k := k) (M := M') (A.ph (i + 1) (by omega)) (sn (A.pl (i + 1) (by omega)))
        have sg : Sm (gt (der l) i) := A.sd _ (mem_getD (by rw [der_len]; exact h2))
        have t3 := e_ltimes (k := k) (M := M') sg (A.s1 (i + 1) (by omega))
        have t4 := e_lplus (k := k) (M := M') (A.s3 i (by omega)) (A.s2 i h2)
        have r1 : rngI (D.int ((i : Int) + 1)) M' = some ((List.range (i + 1)).map (fun k : Nat => D.int (k : Int)), M') := rngI_1000 (n := i + 1) (by omega)
        refine ⟨_, _, ?_, ⟨some (.int i), some (P (gt (der l) i)), some (.lst [P (lo ^ (i + 1)), P (hi ^ (i + 1))]), z, rfl⟩, rfl⟩
        simp -implicitDefEqProofs [goF, setT, inv_P, idx_mapP _ _ _ h2, t1, r1]
        rw [show (forL (goF (sy (k + 3)) (.name 7) (.cons (.asg 6 (.lst (.cons (.call 46 (.cons (.idx (.var 6) (.int 0)) (.cons (.var 1) .nil))) (.cons (.call 46 (.cons (.idx (.var 6) (.int 1)) (.cons (.var 2) .nil))) .nil)))) .nil)) (List.map (fun k : Nat => D.int (k : Int)) (List.range (i + 1))) _ _) = _ from q1]
        simp -implicitDefEqProofs [e_lminus, t2, t3, t4, arS])
  obtain ⟨ρ', M', q1, ⟨y4, y5, y6, y7, rfl⟩, rfl⟩ := lo'
  rw [List.length_map, List.length_range] at q1
  rw [rn_call _ rfl rfl]
  simp -implicitDefEqProofs [f__law_area_of, b__law_area_of, rngI_1000 (show l.length ≤ 1000 by omega)]
  rw [q1]
  simp
end K45
namespace K45
open PySem PySem.Spec PyProof.Rows L2 Mn Mn.Sx
theorem Sz.neg {n : Nat} {r : Rat} (h : Sz n r) : Sz n (-r) := ⟨by rw [Rat.neg_num, Int.natAbs_neg]; exact h.1, by rw [Rat.neg_den]; exact h.2⟩
theorem Sz.pow {r : Rat} {n : Nat} (h : Sz n r) : ∀ i, Sz (1 + n * i) (r ^ i)
  | 0 => by rw [Rat.pow_zero]; exact sz1.up (by omega)
  | i + 1 => by
    rw [Rat.pow_succ]
    exact ((h.pow i).mul h).up (by rw [Nat.mul_succ]; omega)
theorem hor_sz {x : Rat} (hx : Sz 4 x) : ∀ l : List Rat, (∀ c ∈ l, Sz 85 c) → Sz (1 + 90 * l.length) (hor x l)
  | [], _ => sz0
  | c :: l, h => by
    have ih := hor_sz hx l fun d hd => h d (List.mem_cons_of_mem _ hd)
    exact ((ih.mul hx).add (h c List.mem_cons_self)).up (by rw [List.length_cons]; omega)
theorem arS_sz {lo hi : Rat} {l : List Rat} {n : Nat} (hn : n ≤ 200) (h : ∀ i, i < l.length → Sz n (gt l i * (hi ^ (i + 1) + -(lo ^ (i + 1))))) : ∀ k, k ≤ l.length → Sz (1 + 201 * k) (arS lo hi l k)
  | 0, _ => sz0
  | k + 1, hk => ((arS_sz hn h k (by omega)).add (h k (by omega))).up (by omega)
theorem areaOk {lo hi : Rat} {l : List Rat} (h : Ln 27 80 13 l) (h1 : Sz 4 lo) (h2 : Sz 4 hi) : AreaOk lo hi l := by
  obtain ⟨N, c, a, b, d, e⟩ := h
  have sl : ∀ x ∈ l, Sz 81 x := fun x hx => (a.all x hx).sz a.pos (Nat.lt_of_le_of_lt b (by decide)) (Nat.lt_of_le_of_lt d (by decide))
  have sd : ∀ x ∈ der l, Sz 85 x := fun x hx => by
    unfold der at hx
    obtain ⟨⟨y, i⟩, hy, rfl⟩ := List.mem_map.mp hx
    obtain ⟨q1, q2, q3⟩ := List.mem_zipIdx hy
    have : y ∈ l := by rw [q3]; exact List.getElem_mem _
    exact (sl y this).mul (inv_sz (by omega))
  have s0 : ∀ x ∈ (0 : Rat) :: der l, Sz 85 x := fun x hx => (List.mem_cons.mp hx).elim (fun z => z ▸ sz0.up (by decide)) (sd x)
  have sh : ∀ {x : Rat} (i : Nat), Sz 4 x → Sz 1261 (hor x ((0 :: der l).drop i)) := fun {x} i hx => by
    refine (hor_sz hx _ fun y hy => s0 y (List.mem_of_mem_drop hy)).up ?_
    rw [List.length_drop, List.length_cons, der_len]
    omega
  have sp : ∀ i, i ≤ 13 → Sz 107 (hi ^ i + -(lo ^ i)) := fun i hi' => ((h2.pow i).add (h1.pow i).neg).up (by omega)
  have s2 : ∀ i, i < l.length → Sz 200 (gt (der l) i * (hi ^ (i + 1) + -(lo ^ (i + 1)))) := fun i hi' => ((sd _ (mem_getD (by rw [der_len]; exact hi'))).mul (sp (i + 1) (by omega))).up (by decide)
  exact ⟨h1.sm (by decide), h2.sm (by decide), fun x hx => (sl x hx).sm (by decide), by omega, fun x hx => (sd x hx).sm (by decide), fun i => (sh i h2).sm (by decide), fun i => ((sh i h2).mul h2).sm (by decide), fun i => (sh i h1).sm (by decide), fun i => ((sh i h1).mul h1).sm (by decide),
    by
      have := (sh 0 h1).neg
      rw [List.drop_zero, neg1] at this
      exact this.sm (by decide),
    fun i hi' => (h1.pow i).sm (by omega), fun i hi' => (h2.pow i).sm (by omega), fun i hi' => (sp i (by omega)).sm (by decide), fun i hi' => (s2 i hi').sm (by decide), fun i hi' => (arS_sz (Nat.le_refl 200) (fun j hj => s2 j (by rw [← der_len l]; exact hj)) i (by rw [der_len]; exact hi')).sm (by omega)⟩
/-- plain trees as the law draws them -/
def leafT : Tr → Prop
  | .unk => True
  | .num r => ∃ z : Int, ∃ q : Nat, r = (z : Rat) / ((q : Int) : Rat) ∧ z.natAbs ≤ 9 ∧ 1 ≤ q ∧ q ≤ 5
  | _ => False
def PT : Nat → Tr → Prop
  | 0, t => leafT t
  | k + 1, t => leafT t ∨ match t with
    | .neg t => PT k t
    | .pw t n => PT k t ∧ n ≤ 3
    | .two _ a b => PT k a ∧ PT k b
    | _ => False
theorem one_cd : Cd 1 1 1 := ⟨1, by decide +kernel, by decide⟩
theorem leaf_ln {t : Tr} (h : leafT t) : Ln 3 4 2 t.poly := by
  cases t with
  | unk =>
    refine ⟨1, 1, ⟨by decide, fun x hx => ?_, by decide⟩, by decide, by decide, by decide⟩
    rcases List.mem_cons.mp hx with z | z
    · subst z
      exact Cd.zero.up (by decide)
    · rw [List.mem_singleton.mp z]
      exact one_cd
  | num r =>
    obtain ⟨z, q, h1, h2, h3, h4⟩ := h
    refine ⟨q, 9, ⟨h3, fun x hx => ?_, Nat.le_refl 1⟩, by omega, by decide, (by decide : 1 ≤ 2)⟩
    rw [List.mem_singleton.mp hx]
    exact ⟨z, h1, h2⟩
  | _ => exact False.elim h
theorem leaf_pok {t : Tr} (h : leafT t) : t.pok := by
  have l := leaf_ln h
  cases t with
  | unk => exact trivial
  | num r => exact l.sm (by decide) (by decide) r List.mem_cons_self
  | _ => exact False.elim h
/-- three turns of a product -/
theorem pow_ln {B n L e1 e2 e3 : Nat} {a : List Rat} (h : Ln B n L a) (g1 : 1 * L ≤ 2 ^ e1) (g2 : L * L ≤ 2 ^ e2) (g3 : (L + L - 1) * L ≤ 2 ^ e3) (hL : 1 ≤ L) (hB : 3 * B < 1000) (hn : 3 * n + e1 + e2 + e3 < 1000) (hl : 3 * L ≤ 900) {m : Nat} (hm : m ≤ 3) :
    Ln (3 * B) (3 * n + e1 + e2 + e3) (L + L - 1 + L - 1) (powL a m) ∧ ∀ i, i < m → MulOk (powL a i) a := by
  have p0 : Ln 0 0 1 (powL a 0) := ⟨1, 1, ⟨by decide, fun x hx => by rw [List.mem_singleton.mp hx]; exact one_cd, Nat.le_refl 1⟩, by decide, by decide, Nat.le_refl 1⟩
  have p1 : Ln B (n + e1) L (powL a 1) := (p0.mul h g1).up (by omega) (by omega) (by omega)
  have p2 : Ln (2 * B) (2 * n + e1 + e2) (L + L - 1) (powL a 2) := (p1.mul h g2).up (by omega) (by omega) (by omega)
  have p3 : Ln (3 * B) (3 * n + e1 + e2 + e3) (L + L - 1 + L - 1) (powL a 3) := (p2.mul h g3).up (by omega) (by omega) (by omega)
  have m0 : MulOk (powL a 0) a := p0.mulOk h g1 (by omega) (by omega) (by omega)
  have m1 : MulOk (powL a 1) a := p1.mulOk h g2 (by omega) (by omega) (by omega)
  have m2 : MulOk (powL a 2) a := p2.mulOk h g3 (by omega) (by omega) (by omega)
  match m, hm with
  | 0, _ => exact ⟨p0.up (by omega) (by omega) (by omega), fun i hi => by omega⟩
  | 1, _ => exact ⟨p1.up (by omega) (by omega) (by omega), fun i hi => by
      have : i = 0 := by omega
      subst this; exact m0⟩
  | 2, _ => exact ⟨p2.up (by omega) (by omega) (by omega), fun i hi => by
      match i, hi with
      | 0, _ => exact m0
      | 1, _ => exact m1⟩
  | 3, _ => exact ⟨p3, fun i hi => by
      match i, hi with
      | 0, _ => exact m0
      | 1, _ => exact m1
      | 2, _ => exact m2⟩
theorem Ln.okL {B n L : Nat} {l : List Rat} (h : Ln B n L l) (h1 : B < 1000) (h2 : n < 1000) (h3 : L ≤ 500) : okL l := ⟨h.sm h1 h2, by obtain ⟨_, _, _, _, _, e⟩ := h; omega⟩
theorem node_ln {k B n L e1 e2 e3 B' n' L' : Nat} (hL : 1 ≤ L) (g1 : 1 * L ≤ 2 ^ e1) (g2 : L * L ≤ 2 ^ e2) (g3 : (L + L - 1) * L ≤ 2 ^ e3) (hB : 3 * B ≤ B') (hn : 3 * n + e1 + e2 + e3 ≤ n') (hs : n + B + 1 ≤ n') (hl : L + L - 1 + L - 1 ≤ L') (b1 : B' < 900) (b2 : n' < 900) (b3 : L' ≤ 300)
    (ih : ∀ t, PT k t → Ln B n L t.poly ∧ t.pok) : ∀ t, PT (k + 1) t → (leafT t ∨ Ln B' n' L' t.poly) ∧ t.pok := by
  intro t ht
  rcases ht with z | z
  · exact ⟨.inl z, leaf_pok z⟩
  · cases t with
    | neg t =>
      obtain ⟨i1, i2⟩ := ih t z
      exact ⟨.inr (i1.neg.up (by omega) (by omega) (by omega)), i2, i1.okL (by omega) (by omega) (by omega)⟩
    | pw t m =>
      obtain ⟨i1, i2⟩ := ih t z.1
      obtain ⟨q1, q2⟩ := pow_ln i1 g1 g2 g3 hL (by omega) (by omega) (by omega) z.2
      exact ⟨.inr (q1.up (by omega) (by omega) (by omega)), i2, Nat.le_trans z.2 (by decide), q2⟩
    | two o a b =>
      obtain ⟨i1, i2⟩ := ih a z.1
      obtain ⟨j1, j2⟩ := ih b z.2
      cases o with
      | plus => exact ⟨.inr ((i1.sum j1 (m := n + B) (Nat.le_refl _) (Nat.le_refl _)).up (by omega) (by omega) (by omega)), i2, j2, i1.okL (by omega) (by omega) (by omega), j1.okL (by omega) (by omega) (by omega)⟩
      | less => exact ⟨.inr ((i1.sum j1.neg (m := n + B) (Nat.le_refl _) (Nat.le_refl _)).up (by omega) (by omega) (by omega)), i2, j2, i1.okL (by omega) (by omega) (by omega), j1.okL (by omega) (by omega) (by omega)⟩
      | times => exact ⟨.inr ((i1.mul j1 g2).up (by omega) (by omega) (by omega)), i2, j2, i1.mulOk j1 g2 (by omega) (by omega) (by omega)⟩
    | _ => exact False.elim z
theorem pt0 (t : Tr) (h : PT 0 t) : Ln 3 4 2 t.poly ∧ t.pok := ⟨leaf_ln h, leaf_pok h⟩
theorem pt1 (t : Tr) (h : PT 1 t) : Ln 9 18 4 t.poly ∧ t.pok := by
  obtain ⟨a, b⟩ := node_ln (k := 0) (e1 := 1) (e2 := 2) (e3 := 3) (B := 3) (n := 4) (L := 2) (B' := 9) (n' := 18) (L' := 4) (by decide) (by decide) (by decide) (by decide) (by decide) (by decide) (by decide) (by decide) (by decide) (by decide) (by decide) pt0 t h
  exact ⟨a.elim (fun z => (leaf_ln z).up (by decide) (by decide) (by decide)) id, b⟩
theorem pt2 (t : Tr) (h : PT 2 t) : Ln 27 80 13 t.poly ∧ t.pok := by
  obtain ⟨a, b⟩ := node_ln (k := 1) (e1 := 2) (e2 := 4) (e3 := 5) (B := 9) (n := 18) (L := 4) (B' := 27) (n' := 80) (L' := 13) (by decide) (by decide) (by decide) (by decide) (by decide) (by decide) (by decide) (by decide) (by decide) (by decide) (by decide) pt1 t h
  exact ⟨a.elim (fun z => (leaf_ln z).up (by decide) (by decide) (by decide)) id, b⟩
/-- the tall one: (x + 1) ^ m -/
def tallB : Tr := .two .plus .unk (.num 1)
theorem tall_poly : tallB.poly = [1, 1] := by
  show sumL [0, 1] [1] = [1, 1]
  decide +kernel
theorem tall_pow : ∀ m, m ≤ 12 → Ln 0 (6 * m) (m + 1) (powL [1, 1] m) ∧ ∀ i, i < m → MulOk (powL [1, 1] i) [1, 1]
  | 0, _ => ⟨⟨1, 1, ⟨by decide, fun x hx => by rw [List.mem_singleton.mp hx]; exact one_cd, by decide⟩, by decide, by decide, by decide⟩, fun i hi => by omega⟩
  | m + 1, hm => by
    obtain ⟨ih, ih2⟩ := tall_pow m (by omega)
    have b : Ln 0 0 2 [1, 1] := ⟨1, 1, ⟨by decide, fun x hx => by
      have : x = 1 := by simpa using hx
      rw [this]; exact one_cd, by decide⟩, by decide, by decide, by decide⟩
    have g : (m + 1) * 2 ≤ 2 ^ 5 := by omega
    refine ⟨(ih.mul b g).up (by omega) (by omega) (by omega), fun i hi => ?_⟩
    by_cases hi2 : i < m
    · exact ih2 i hi2
    · have : i = m := by omega
      subst this
      exact ih.mulOk b g (by omega) (by omega) (by omega)
theorem tall_ln {m : Nat} (hm : m ≤ 12) : Ln 27 80 13 (Tr.pw tallB m).poly ∧ (Tr.pw tallB m).pok := by
  obtain ⟨a, b⟩ := tall_pow m hm
  have l1 : okL [0, 1] := (leaf_ln (t := .unk) trivial).okL (by decide) (by decide) (by decide)
  have l2 : leafT (.num 1) := ⟨1, 1, by decide +kernel, by decide, by decide, by decide⟩
  have l3 : okL [1] := (leaf_ln l2).okL (by decide) (by decide) (by decide)
  refine ⟨?_, ⟨trivial, leaf_pok l2, l1, l3⟩, by omega, ?_⟩
  · show Ln 27 80 13 (powL tallB.poly m)
    rw [tall_poly]
    exact a.up (by omega) (by omega) (by omega)
  · rw [tall_poly]
    exact b
end K45
namespace K45
open PySem PySem.Spec PyProof.Rows L2 Mn Mn.Sx
/-- the ends of an area -/
structure Ends (lo hi far : Rat) : Prop where
  zl : Sz 4 lo
  zh : Sz 4 hi
  el : End lo
  eh : End hi
  far : far = if ab lo < ab hi then ab hi else ab lo
def Bd (lo hi far : Rat) (t : Tr) (h p : Nat) (dg w : Int) (n : Nat) (sl : Bool) : Prop :=
  ∃ a s d w', Ms lo hi t h a s d w' ∧ La far t h a ∧ 0 ≤ a ∧ a ≤ 2 ^ p ∧ 0 ≤ d ∧ d ≤ dg ∧ 0 ≤ w' ∧ w' ≤ w ∧ Sz n a ∧ Sz n s ∧ (sl = true → s ≤ 50)
theorem two_pow_mono {p q : Nat} (h : p ≤ q) : (2 : Rat) ^ p ≤ 2 ^ q := by
  induction h with
  | refl => exact Rat.le_refl
  | @step m _ ih =>
    have h0 : (0 : Rat) ≤ 2 ^ m := Rat.pow_nonneg (by decide)
    rw [Rat.pow_succ]
    grind
theorem rpow_add (x : Rat) (m : Nat) : ∀ n, x ^ (m + n) = x ^ m * x ^ n
  | 0 => by rw [Nat.add_zero, Rat.pow_zero, Rat.mul_one]
  | n + 1 => by rw [← Nat.add_assoc, Rat.pow_succ, rpow_add x m n, Rat.pow_succ, Rat.mul_assoc]
theorem Ms.up {lo hi : Rat} {t : Tr} {h h' : Nat} {a s : Rat} {d w : Int} (m : Ms lo hi t h a s d w) (hh : h ≤ h') : Ms lo hi t h' a s d w := fun n M hn => m n M (by omega)
theorem La.up {far a : Rat} {t : Tr} {h h' : Nat} (m : La far t h a) (hh : h ≤ h') : La far t h' a := fun n M hn => m n M (by omega)
theorem Bd.up {lo hi far : Rat} {t : Tr} {h p : Nat} {dg w : Int} {n : Nat} {sl : Bool} {h' p' : Nat} {dg' w' : Int} {n' : Nat} (b : Bd lo hi far t h p dg w n sl) (e1 : h ≤ h') (e2 : p ≤ p') (e3 : dg ≤ dg') (e4 : w ≤ w') (e5 : n ≤ n') : Bd lo hi far t h' p' dg' w' n' sl := by
  obtain ⟨a, s, d, w1, h1, h2, h3, h4, h5, h6, h7, h8, h9, h10, h11⟩ := b
  exact ⟨a, s, d, w1, h1.up e1, h2.up e1, h3, Rat.le_trans h4 (two_pow_mono e2), h5, by omega, h7, by omega, h9.up e5, h10.up e5, h11⟩
theorem Bd.off {lo hi far : Rat} {t : Tr} {h p : Nat} {dg w : Int} {n : Nat} {sl : Bool} (b : Bd lo hi far t h p dg w n sl) : Bd lo hi far t h p dg w n false := by
  obtain ⟨a, s, d, w1, h1, h2, h3, h4, h5, h6, h7, h8, h9, h10, h11⟩ := b
  exact ⟨a, s, d, w1, h1, h2, h3, h4, h5, h6, h7, h8, h9, h10, fun z => nomatch z⟩
def leafA : Tr → Prop
  | .unk => True
  | .pi => True
  | .num r => ∃ z : Int, ∃ q : Nat, r = (z : Rat) / ((q : Int) : Rat) ∧ z.natAbs ≤ 9 ∧ 1 ≤ q ∧ q ≤ 5
  | _ => False
theorem leafT.any {t : Tr} (h : leafT t) : leafA t := by
  cases t with
  | unk => exact trivial
  | num r => exact h
  | _ => exact False.elim h
theorem num_sz {r : Rat} (h : ∃ z : Int, ∃ q : Nat, r = (z : Rat) / ((q : Int) : Rat) ∧ z.natAbs ≤ 9 ∧ 1 ≤ q ∧ q ≤ 5) : Sz 4 r := by
  obtain ⟨z, q, h1, h2, h3, h4⟩ := h
  exact Cd.sz (N := q) (c := 9) h3 ⟨z, h1, h2⟩ (by omega) (by decide)
theorem sz4_fr {r : Rat} (h : Sz 4 r) : fr12 r := ⟨by have := h.1; omega, by have := h.2; omega⟩
theorem le_num (r : Rat) : r ≤ (r.num.natAbs : Int) := by
  rw [Rat.le_iff, Rat.num_intCast, Rat.den_intCast]
  have h1 := den_pos r
  have h2 : r.num ≤ r.num.natAbs := by omega
  have h3 : (r.num.natAbs : Int) * 1 ≤ r.num.natAbs * r.den := Int.mul_le_mul_of_nonneg_left (by omega) (by omega)
  show r.num * ((1 : Nat) : Int) ≤ _
  omega
theorem sz_le {r : Rat} {n : Nat} (h : Sz n r) : r ≤ 2 ^ n := by
  refine Rat.le_trans (le_num r) ?_
  have h1 : (r.num.natAbs : Int) ≤ 2 ^ n := by
    have := h.1
    have e : ((2 ^ n : Nat) : Int) = 2 ^ n := by push_cast; rfl
    omega
  have h2 : ((r.num.natAbs : Int) : Rat) ≤ ((2 ^ n : Int) : Rat) := Rat.intCast_le_intCast.mpr h1
  rw [Rat.intCast_pow] at h2
  exact h2
section
variable {lo hi far : Rat}
theorem Ends.szf (E : Ends lo hi far) : Sz 4 far := by
  rw [E.far]
  split
  · exact E.zh.ab
  · exact E.zl.ab
theorem Ends.far8 (E : Ends lo hi far) : far ≤ 8 := by
  rw [E.far]
  split
  · exact E.eh.e
  · exact E.el.e
theorem Ends.far0 (E : Ends lo hi far) : 0 ≤ far := by
  rw [E.far]
  split
  · exact ab_nonneg hi
  · exact ab_nonneg lo
theorem fine_of {a s : Rat} {d w : Int} {n p : Nat} (h1 : Sz n a) (h2 : Sz n s) (hn : n ≤ 3000) (ha : a ≤ 2 ^ p) (hp : p ≤ 64) (hd : d ≤ 48) (hw : w ≤ 2000) : Fine a s d w := ⟨h1.sm hn, h2.sm hn, Rat.le_trans ha (two_pow_mono hp), hd, hw⟩
theorem b_leaf (E : Ends lo hi far) {t : Tr} (h : leafA t) : Bd lo hi far t 0 4 1 16 4 true := by
  have s0 : Sz 4 0 := sz0.up (by decide)
  have s1 : Sz 4 1 := sz1.up (by decide)
  cases t with
  | num r =>
    have z := num_sz h
    have f := fig_le z
    refine ⟨ab r, 0, 0, fig r, m_leaf rfl (fine_of z.ab s0 (by decide) (sz_le z.ab) (by decide) (by decide) (by omega)) (fun n M => ?_), la_num, ab_nonneg r, sz_le z.ab, by decide, by decide, by omega, by omega, z.ab, s0, fun _ => by decide +kernel⟩
    rw [rn_call _ rfl rfl]
    simp [f_leaf_measures, b_leaf_measures, Tr.d, e_amount, e_figures]
  | pi =>
    have z : Sz 4 4 := ⟨by decide, by decide⟩
    refine ⟨4, 0, 0, 1, m_leaf rfl (fine_of z s0 (by decide) (sz_le z) (by decide) (by decide) (by decide)) (fun n M => ?_), la_pi, by decide, sz_le z, by decide, by decide, by decide, by decide, z, s0, fun _ => by decide +kernel⟩
    rw [rn_call _ rfl rfl]
    simp [f_leaf_measures, b_leaf_measures, Tr.d]
  | unk =>
    have z := E.szf
    have f1 := fig_le E.zl
    have f2 := fig_le E.zh
    have m1 := fun k M => e_most (k := k) (M := M) (E.zl.ab.sm (by decide)) (E.zh.ab.sm (by decide))
    rw [← E.far] at m1
    refine ⟨far, 1, 1, max (fig lo : Int) (fig hi), m_leaf rfl (fine_of z s1 (by decide) (sz_le z) (by decide) (by decide) (by omega)) (fun n M => ?_), la_unk, E.far0, sz_le z, by decide, by decide, by omega, by omega, z, s1, fun _ => by decide +kernel⟩
    rw [rn_call _ rfl rfl]
    simp [f_leaf_measures, b_leaf_measures, Tr.d, e_amount, e_figures, m1]
  | _ => exact False.elim h
theorem b_neg {t : Tr} {h p : Nat} {dg w : Int} {n : Nat} {sl : Bool} (b : Bd lo hi far t h p dg w n sl) (hp : p ≤ 64) (hd : dg ≤ 48) (hw : w ≤ 2000) (hn : n ≤ 3000) : Bd lo hi far (.neg t) (h + 1) p dg w n sl := by
  obtain ⟨a, s, d, w1, h1, h2, h3, h4, h5, h6, h7, h8, h9, h10, h11⟩ := b
  exact ⟨a, s, d, w1, m_neg (fine_of h9 h10 hn h4 hp (by omega) (by omega)) h1, la_neg h2, h3, h4, h5, h6, h7, h8, h9, h10, h11⟩
theorem mul_le2 {a b A B : Rat} (h1 : 0 ≤ a) (h2 : a ≤ A) (h3 : 0 ≤ b) (h4 : b ≤ B) : a * b ≤ A * B :=
  Rat.le_trans (Rat.mul_le_mul_of_nonneg_right h2 h3) (Rat.mul_le_mul_of_nonneg_left h4 (Rat.le_trans h1 h2))
theorem b_two {o : Op} {t t' : Tr} {h p : Nat} {dg w : Int} {n : Nat} {sl sl' : Bool} (b : Bd lo hi far t h p dg w n sl) (b' : Bd lo hi far t' h p dg w n sl') (hp0 : 1 ≤ p) (hp : 2 * p ≤ 64) (hd : 2 * dg ≤ 48) (hw : 2 * w + 1 ≤ 2000) (hn : 4 * n + 1 ≤ 3000) : Bd lo hi far (.two o t t') (h + 1) (2 * p) (2 * dg) (2 * w + 1) (4 * n + 1) false := by
  obtain ⟨a, s, d, w1, h1, h2, h3, h4, h5, h6, h7, h8, h9, h10, h11⟩ := b
  obtain ⟨a', s', d', w1', g1, g2, g3, g4, g5, g6, g7, g8, g9, g10, g11⟩ := b'
  have za : Sz (4 * n + 1) (o.am a a') := by
    cases o with
    | times => exact (h9.mul g9).up (by omega)
    | _ => exact (h9.add g9).up (by omega)
  have zs : Sz (4 * n + 1) (o.sl a s a' s') := by
    cases o with
    | times => exact ((h9.mul g10).add (h10.mul g9)).up (by omega)
    | _ => exact (h10.add g10).up (by omega)
  have ea : 0 ≤ o.am a a' ∧ o.am a a' ≤ 2 ^ (2 * p) := by
    have e2 : (2 : Rat) ^ (2 * p) = 2 ^ p * 2 ^ p := by rw [Nat.two_mul, rpow_add]
    have e3 : (2 : Rat) ^ p + 2 ^ p ≤ 2 ^ (2 * p) := by
      have := two_pow_mono (show p + 1 ≤ 2 * p by omega)
      rw [Rat.pow_succ] at this
      grind
    cases o with
    | times =>
      refine ⟨Rat.mul_nonneg h3 g3, ?_⟩
      rw [e2]
      exact mul_le2 h3 h4 g3 g4
    | _ =>
      refine ⟨Rat.add_nonneg h3 g3, ?_⟩
      show a + a' ≤ _
      grind
  have ed : 0 ≤ o.dg d d' ∧ o.dg d d' ≤ 2 * dg := by
    cases o <;> simp [Op.dg] <;> omega
  have ew : 0 ≤ o.wt w1 w1' ∧ o.wt w1 w1' ≤ 2 * w + 1 := by
    cases o <;> simp [Op.wt] <;> omega
  exact ⟨_, _, _, _, m_two (o := o) (fine_of h9 h10 (by omega) h4 (by omega) (by omega) (by omega)) (fine_of g9 g10 (by omega) g4 (by omega) (by omega) (by omega)) h1 g1 ((h9.mul g10).sm (by omega)) ((h10.mul g9).sm (by omega))
    (fine_of za zs hn ea.2 hp (by omega) (by omega)), la_two h2 g2 (h9.sm (by omega)) (g9.sm (by omega)), ea.1, ea.2, ed.1, ed.2, ew.1, ew.2, za, zs, fun z => nomatch z⟩
theorem ceil16 {a : Rat} (h0 : 0 ≤ a) (h : a ≤ 16) : ∃ c : Nat, -(-a.num).fdiv a.den = c ∧ c ≤ 16 := by
  have hd := den_pos a
  have hn : 0 ≤ a.num := Rat.num_nonneg.mpr h0
  have h16 : a.num ≤ 16 * a.den := by
    have := (Rat.le_iff a 16).mp h
    have e1 : ((16 : Rat).num) = 16 := rfl
    have e2 : ((16 : Rat).den) = 1 := rfl
    rw [e1, e2] at this
    omega
  have e : (-a.num).fdiv a.den = (-a.num) / a.den := Int.fdiv_eq_ediv_of_nonneg _ (by omega)
  have b1 : -16 ≤ (-a.num) / a.den := (Int.le_ediv_iff_mul_le hd).mpr (by omega)
  have b2 : (-a.num) / a.den < 1 := (Int.ediv_lt_iff_lt_mul hd).mpr (by omega)
  rw [e]
  exact ⟨(-((-a.num) / a.den)).toNat, by omega, by omega⟩
theorem b_wav {v : Wv} {t : Tr} {h : Nat} {dg w : Int} {n : Nat} (b : Bd lo hi far t h 4 dg w n true) (hd : dg ≤ 48) (hw : w ≤ 2000) (hn : n + 34 ≤ 3000) : Bd lo hi far (.wav v t) (h + 1) 32 dg 40 (n + 34) false ∧ (v = .sin → Bd lo hi far (.wav v t) (h + 1) 4 dg 40 (n + 34) true) := by
  obtain ⟨a, s, d, w1, h1, h2, h3, h4, h5, h6, h7, h8, h9, h10, h11⟩ := b
  have h16 : a ≤ 16 := Rat.le_trans h4 (by decide +kernel)
  obtain ⟨c, c1, c2⟩ := ceil16 h3 h16
  have z1 : Sz 33 ((2 : Rat) ^ (2 * c)) := by
    refine ⟨?_, ?_⟩
    · rw [Rat.num_pow, Int.natAbs_pow]
      exact Nat.pow_lt_pow_right (by decide) (by omega)
    · rw [Rat.den_pow]
      show 1 ^ (2 * c) < 2 ^ 33
      rw [Nat.one_pow]
      decide
  have zg : Sz 33 (if v.s = "exp" then (2 : Rat) ^ (2 * c) else 1) := by
    split
    · exact z1
    · exact sz1.up (by decide)
  have lg : (if v.s = "exp" then (2 : Rat) ^ (2 * c) else 1) ≤ 2 ^ 32 := by
    split
    · exact two_pow_mono (by omega)
    · decide +kernel
  have g0 : 0 ≤ (if v.s = "exp" then (2 : Rat) ^ (2 * c) else 1) := by
    split
    · exact Rat.pow_nonneg (by decide)
    · decide
  have zs : Sz (n + 34) ((if v.s = "exp" then (2 : Rat) ^ (2 * c) else 1) * s) := (zg.mul h10).up (by omega)
  have m := m_wav (v := v) (g := 2 ^ (2 * c)) (fine_of h9 h10 (by omega) h4 (by decide) (by omega) (by omega)) h1 h16 (h11 rfl) (fun n M => by
      rw [c1, show (2 : Int) * (c : Int) = ((2 * c : Nat) : Int) by omega]
      exact e_two_to (by omega)) (by rw [c1]; exact mul_ok (i := 2) (j := 7) (by decide) (by omega) (by decide) (by decide) (by decide))
      (fine_of (zg.up (by omega)) zs hn lg (by decide) (by omega) (by decide))
  have l := la_wav (v := v) h2 (h9.sm (by omega)) c1 (by omega)
  refine ⟨⟨_, _, _, _, m, l, g0, lg, h5, h6, by decide, by decide, zg.up (by omega), zs, fun z => nomatch z⟩, fun hv => ?_⟩
  subst hv
  have e1 : (if Wv.sin.s = ("exp" : Str) then (2 : Rat) ^ (2 * c) else 1) = 1 := by simp
  refine ⟨_, _, _, _, m, l, g0, by rw [e1]; decide +kernel, h5, h6, by decide, by decide, zg.up (by omega), zs, fun _ => ?_⟩
  rw [e1, Rat.one_mul]
  exact h11 rfl
theorem pow_le2 {a : Rat} {p : Nat} (h0 : 0 ≤ a) (h : a ≤ 2 ^ p) : ∀ m, 0 ≤ a ^ m ∧ a ^ m ≤ 2 ^ (p * m)
  | 0 => by
    rw [Rat.pow_zero, Nat.mul_zero, Rat.pow_zero]
    exact ⟨by decide, Rat.le_refl⟩
  | m + 1 => by
    obtain ⟨i1, i2⟩ := pow_le2 h0 h m
    rw [Rat.pow_succ, Nat.mul_succ, rpow_add]
    exact ⟨Rat.mul_nonneg i1 h0, mul_le2 i1 i2 h0 h⟩
theorem b_pw {t : Tr} {h p : Nat} {dg w : Int} {n : Nat} {sl : Bool} {m : Nat} (b : Bd lo hi far t h p dg w n sl) (hm : m ≤ 12) (hp0 : p ≤ 64) (hp : p * m ≤ 64) (hd0 : 0 ≤ dg ∧ dg ≤ 48) (hd : dg * m ≤ 48) (hw0 : 0 ≤ w ∧ w ≤ 2000) (hw : w * m + 1 ≤ 2000) (hn : n * 13 + 20 ≤ 3000) : Bd lo hi far (.pw t m) (h + 1) (p * m) (dg * m) (w * m + 1) (n * 13 + 20) false := by
  obtain ⟨a, s, d, w1, h1, h2, h3, h4, h5, h6, h7, h8, h9, h10, h11⟩ := b
  have F : Fine a s d w1 := fine_of h9 h10 (by omega) h4 hp0 (by omega) (by omega)
  have zp : ∀ i, i ≤ 12 → Sz (1 + n * 12) (a ^ i) := fun i hi => (h9.pow i).up (by have := Nat.mul_le_mul_left n hi; omega)
  have la := la_pw (m := m) h2 F.sa (fun i hi => (zp i (by omega)).sm (by omega)) (by omega)
  obtain ⟨k0, k1⟩ := pow_le2 h3 h4 m
  cases m with
  | zero =>
    rw [Rat.pow_zero] at la k0 k1
    exact ⟨1, 0, 0, 1, m_pw0 F h1, la, k0, k1, by decide, by simp, by decide, by simp, sz1.up (by omega), sz0.up (by omega), fun z => nomatch z⟩
  | succ m =>
    have zc : Sz 10 (((m + 1 : Nat) : Int) : Rat) := by
      refine ⟨?_, ?_⟩
      · rw [Rat.num_intCast, Int.natAbs_natCast]
        exact Nat.lt_of_le_of_lt hm (by decide)
      · rw [Rat.den_intCast]
        decide
    have z2 : Sz (1 + n * 12 + n) (a ^ m * s) := (zp m (by omega)).mul h10
    have z3 : Sz (n * 13 + 20) ((((m + 1 : Nat) : Int) : Rat) * (a ^ m * s)) := (zc.mul z2).up (by omega)
    have z4 : Sz (n * 13 + 20) (a ^ m * a) := ((zp m (by omega)).mul h9).up (by omega)
    rw [Rat.pow_succ] at la k0 k1
    have d1 : d * ((m : Int) + 1) ≤ dg * ((m + 1 : Nat) : Int) := Int.mul_le_mul_of_nonneg_right h6 (by omega)
    have d2 : 0 ≤ d * ((m : Int) + 1) := Int.mul_nonneg h5 (by omega)
    have w2 : w1 * ((m : Int) + 1) ≤ w * ((m + 1 : Nat) : Int) := Int.mul_le_mul_of_nonneg_right h8 (by omega)
    have w3 : 0 ≤ w1 * ((m : Int) + 1) := Int.mul_nonneg h7 (by omega)
    exact ⟨_, _, _, _, m_pw (m := m) rfl rfl rfl rfl rfl F h1 (by omega) (fun i hi => (zp i (by omega)).sm (by omega)) (z2.sm (by omega)) h5 h7 (fine_of z4 z3 hn k1 hp (by omega) (by omega)), la, k0, k1, d2, d1, by omega, by omega, z4, z3, fun z => nomatch z⟩
end
end K45
namespace K45
open PySem PySem.Spec PyProof.Rows L2 Mn Mn.Sx
def CupI (M : Sto) : Prop := ∃ a b : Int, M = [.lst [.int a, .int b]] ∧ 0 ≤ a ∧ 0 ≤ b ∧ b < 2 ^ 40
theorem CupI.len {M : Sto} (h : CupI M) : M.length = 1 := by
  obtain ⟨a, b, rfl, _⟩ := h
  rfl
theorem CupI.take {M M' : Sto} (h : CupI M) (h' : CupI M') : M'.take M.length = M' := by
  rw [h.len, List.take_of_length_le (by rw [h'.len]; exact Nat.le_refl _)]
@[simp] theorem idx_cup0 (a b : Int) : idxD [.lst [.int a, .int b]] (.ref 0) (.int 0) = some (.int a) := by
  show atI [D.int a, .int b] 0 = _
  rw [atI_0]
@[simp] theorem idx_cup1 (a b : Int) : idxD [.lst [.int a, .int b]] (.ref 0) (.int 1) = some (.int b) := by
  show atI [D.int a, .int b] 1 = _
  rw [atI_1]
@[simp] theorem put_cup0 (a b c : Int) : putA 0 0 (.int c) [.lst [.int a, .int b]] = some [.lst [.int c, .int b]] := by
  simp [putA, ixN]
@[simp] theorem put_cup1 (a b c : Int) : putA 0 1 (.int c) [.lst [.int a, .int b]] = some [.lst [.int a, .int c]] := by
  simp [putA, ixN]
theorem fmod_nn {a m : Int} (ha : 0 ≤ a) (hm : 0 < m) : a.fmod m = a % m := Int.fmod_eq_emod_of_nonneg _ (by omega)
theorem roll {M : Sto} (h : CupI M) (k m : Nat) (hm : 0 < m) (hm2 : m ≤ 1000) : ∃ (x : Nat) (M' : Sto), CupI M' ∧ x < m ∧ rn (k + 1) i__law_roll [.ref 0, .int m] M = some (.int x, M') := by
  obtain ⟨a, b, rfl, ha, hb, hb2⟩ := h
  have hm0 : ¬ m = 0 := by omega
  have hmi : (0 : Int) < m := by omega
  have hd : divOk m = true := div_ok (by omega) (Nat.lt_of_le_of_lt hm2 (pow_mono (j := 8000) (show 1000 < 2 ^ 10 by decide) (by decide)))
  by_cases h0 : 0 < a
  · have e1 := Int.emod_nonneg a (show (m : Int) ≠ 0 by omega)
    have e2 := Int.emod_lt_of_pos a hmi
    have e3 : a.fmod m = ((a % m).toNat : Nat) := by rw [fmod_nn ha hmi]; omega
    have e4 : 0 ≤ a.fdiv m := by rw [Int.fdiv_eq_ediv_of_nonneg _ (by omega)]; exact Int.ediv_nonneg ha (by omega)
    refine ⟨(a % m).toNat, [.lst [.int (a.fdiv m), .int b]], ⟨_, _, rfl, e4, hb, hb2⟩, by omega, ?_⟩
    rw [rn_call _ rfl rfl, ← e3]
    simp -implicitDefEqProofs [f__law_roll, b__law_roll, h0, hm0, hd]
  · obtain ⟨b1, hb1⟩ : ∃ b1, b1 = (b * 31081 + 8039).fmod 2147483543 := ⟨_, rfl⟩
    have c0 : 0 ≤ b * 31081 + 8039 := by omega
    have c1 : 0 ≤ b1 ∧ b1 < 2147483543 := by
      rw [hb1, fmod_nn c0 (by decide)]
      exact ⟨Int.emod_nonneg _ (by decide), Int.emod_lt_of_pos _ (by decide)⟩
    have k1 : mulOk b 31081 = true := mul_ok (i := 40) (j := 20) (by omega) (by decide) (by decide) (by decide) (by decide)
    have k2 : mulOk b1 (b1 + 251) = true := mul_ok (i := 40) (j := 40) (by omega) (by omega) (by decide) (by decide) (by decide)
    have k3 : divOk 839 = true := by decide
    obtain ⟨d, hd'⟩ : ∃ d, d = (b1 * (b1 + 251)).fmod 2147483587 := ⟨_, rfl⟩
    have d0 : 0 ≤ b1 * (b1 + 251) := Int.mul_nonneg c1.1 (by omega)
    have d1 : 0 ≤ d := by
      rw [hd', fmod_nn d0 (by decide)]
      exact Int.emod_nonneg _ (by decide)
    have d2 : 0 ≤ d.fdiv 839 := by rw [Int.fdiv_eq_ediv_of_nonneg _ (by decide)]; exact Int.ediv_nonneg d1 (by decide)
    have e1 := Int.emod_nonneg (d.fdiv 839) (show (m : Int) ≠ 0 by omega)
    have e2 := Int.emod_lt_of_pos (d.fdiv 839) hmi
    have e3 : (d.fdiv 839).fmod m = ((d.fdiv 839 % m).toNat : Nat) := by rw [fmod_nn d2 hmi]; omega
    refine ⟨(d.fdiv 839 % m).toNat, [.lst [.int a, .int b1]], ⟨_, _, rfl, ha, c1.1, by omega⟩, by omega, ?_⟩
    rw [rn_call _ rfl rfl, ← e3]
    simp -implicitDefEqProofs [f__law_roll, b__law_roll, h0, hm0, k1, ← hb1, k2, ← hd', k3]
theorem bits_log {z : Int} {n : Nat} (h : Builtin.Int.intBits z ≤ n) : z.natAbs.log2 ≤ n := by
  unfold Builtin.Int.intBits at h
  split at h
  · rename_i e
    have e : z = 0 := by simpa using e
    subst e
    show Nat.log2 0 ≤ n
    rw [Nat.log2_zero]
    exact Nat.zero_le _
  · omega
theorem cup {ns : List Int} (hn : ns.length ≤ 63) (hb : ∀ z ∈ ns, Builtin.Int.intBits z ≤ 1048576) (k : Nat) : ∃ a b : Int, CupI [.lst [.int a, .int b]] ∧ rn (k + 1) i__law_cup [.scr ns] [] = some (.lst [.int a, .int b], []) := by
  obtain ⟨c, hc, hl⟩ : ∃ c : Int, (ns ++ [0])[0]? = some c ∧ c.natAbs.log2 ≤ 1048576 := by
    cases ns with
    | nil => exact ⟨0, rfl, by decide⟩
    | cons z r => exact ⟨z, rfl, bits_log (hb z List.mem_cons_self)⟩
  have e1 : idxD [] (.lst (ns.map D.int ++ [.int 0])) (.int 0) = some (.int c) := by
    rw [show ns.map D.int ++ [.int 0] = (ns ++ [0]).map D.int by simp, idx_lst]
    have := atI_nat' ((ns ++ [0]).map D.int) 0
    rw [List.getElem?_map, hc] at this
    exact this
  have l1 : ns.length + 1 ≤ line := Nat.le_trans (show _ ≤ 1000 by omega) (by decide)
  have k1 : mulOk (c.natAbs : Int) 307 = true := by
    unfold mulOk
    rw [Int.natAbs_natCast]
    exact decide_eq_true (by have : Nat.log2 (Int.natAbs 307) = 8 := by decide
                             omega)
  have k2 : divOk 83 = true := by decide
  have q0 : (0 : Int) ≤ c.natAbs * 307 + 2707 := by omega
  have q1 := Int.emod_nonneg ((c.natAbs : Int) * 307 + 2707) (show (2077503121 : Int) ≠ 0 by decide)
  have q2 := Int.emod_lt_of_pos ((c.natAbs : Int) * 307 + 2707) (show (0 : Int) < 2077503121 by decide)
  have q3 : (((c.natAbs : Int) * 307 + 2707).fmod 2077503121) = ((c.natAbs : Int) * 307 + 2707) % 2077503121 := fmod_nn q0 (by decide)
  have q4 : (0 : Int) ≤ (c.natAbs : Int).fdiv 83 := by rw [Int.fdiv_eq_ediv_of_nonneg _ (by decide)]; exact Int.ediv_nonneg (by omega) (by decide)
  refine ⟨if 10 ^ 18 ≤ (c.natAbs : Int) then (c.natAbs : Int).fdiv 83 else 0, ((c.natAbs : Int) * 307 + 2707).fmod 2077503121 + 181, ⟨_, _, rfl, by split; exact q4; decide, by omega, by omega⟩, ?_⟩
  rw [rn_call _ rfl rfl]
  by_cases hg : (10 : Int) ^ 18 ≤ (c.natAbs : Int)
  · rw [if_pos hg]
    simp -implicitDefEqProofs [f__law_cup, b__law_cup, l1, e1, k1, k2] at hg ⊢
    simp [hg]
  · rw [if_neg hg]
    simp -implicitDefEqProofs [f__law_cup, b__law_cup, l1, e1, k1, k2] at hg ⊢
    simp [Int.not_le.mpr hg]
end K45
namespace K45
open PySem PySem.Spec PyProof.Rows L2 Mn Mn.Sx
theorem fin_val (m : Nat) {d : D} (M : Sto) (h : val d = true) : fin m false (some (.rt d M)) = some (d, M.take m) := by
  cases d <;> first | rfl | cases h
theorem roll' {M : Sto} (h : CupI M) (k m : Nat) {mi : Int} (hmi : mi = m) (hm : 0 < m) (hm2 : m ≤ 1000) : ∃ (x : Nat) (M' : Sto), CupI M' ∧ x < m ∧ rn (k + 1) i__law_roll [.ref 0, .int mi] M = some (.int x, M') := by
  subst hmi
  exact roll h k m hm hm2
theorem some_ {M : Sto} (h : CupI M) (k : Nat) (l : List D) (hl : 0 < l.length) (h2 : l.length ≤ 1000) (hv : ∀ d ∈ l, val d = true) : ∃ d M', d ∈ l ∧ CupI M' ∧ rn (k + 2) i__law_some [.ref 0, .lst l] M = some (d, M') := by
  obtain ⟨x, M', c1, hx, e1⟩ := roll h k l.length hl h2
  refine ⟨l[x], M', List.getElem_mem hx, c1, ?_⟩
  have e2 : atI l (x : Int) = some l[x] := by rw [atI_nat', List.getElem?_eq_getElem hx]
  rw [rn_call _ rfl rfl]
  simp -implicitDefEqProofs [f__law_some, b__law_some, e1, e2]
  rw [fin_val _ _ (hv _ (List.getElem_mem hx)), h.take c1]
theorem frac {M : Sto} (h : CupI M) (k : Nat) : ∃ r M', CupI M' ∧ (∃ z : Int, ∃ q : Nat, r = (z : Rat) / ((q : Int) : Rat) ∧ z.natAbs ≤ 9 ∧ 1 ≤ q ∧ q ≤ 5) ∧ rn (k + 3) i__law_fraction [.ref 0] M = some (P r, M') := by
  obtain ⟨x, M1, c1, hx, e1⟩ := roll' h (k + 1) 19 (mi := 19) rfl (by decide) (by decide)
  obtain ⟨y, M2, c2, hy, e2⟩ := roll' c1 (k + 1) 5 (mi := 5) rfl (by decide) (by decide)
  refine ⟨(((x : Int) - 9 : Int) : Rat) / ((1 + (y : Int) : Int) : Rat), M2, c2, ⟨(x : Int) - 9, 1 + y, by rw [Int.natCast_add]; rfl, by omega, by omega, by omega⟩, ?_⟩
  have e3 := e_lmade (k := k) (a := (x : Int) - 9) (b := 1 + (y : Int)) (M := M2) (by omega) (Nat.lt_of_lt_of_le (show _ < 2 ^ 10 by omega) (Nat.pow_le_pow_right (by decide) (by decide)))
  rw [rn_call _ rfl rfl]
  simp -implicitDefEqProofs only [f__law_fraction, b__law_fraction, exs_cons, exs_nil, ex_ret, ev_call, evs_cons, evs_nil, ev_bin, ev_var, ev_int, List.map_cons, List.map_nil, List.length_cons, List.length_nil, List.append_nil, sy_call, bnd_someP, bndX_someP, bndS_nx, bndS_rt, getR_some, bndO_some', bin_sub, bin_add, List.cons_append, List.nil_append, List.getElem?_cons_zero, e1, e2, e3, fin_P, h.take c2]
theorem leafT_mem {t : Tr} : leafT t → ∀ k, PT k t
  | h, 0 => h
  | h, k + 1 => .inl h
theorem ops3 {d : D} (h : d ∈ [D.str "plus", .str "less", .str "times"]) : ∃ o : Op, d = .str o.s := by
  rcases List.mem_cons.mp h with z | z
  · exact ⟨.plus, z⟩
  rcases List.mem_cons.mp z with z | z
  · exact ⟨.less, z⟩
  rcases List.mem_cons.mp z with z | z
  · exact ⟨.times, z⟩
  · cases z
theorem plain_leaf {M : Sto} (h : CupI M) (k : Nat) : ∃ t M', leafT t ∧ CupI M' ∧ ∀ ρ : Rho, ρ[0]? = some (some (.ref 0)) → ev (sy (k + 3)) (.ite (.cmp .Gt (.call 40 (.cons (.var 0) (.cons (.int 3) .nil))) (.int 0)) (.tup (.cons (.str "unknown") .nil)) (.tup (.cons (.str "number") (.cons (.call 50 (.cons (.var 0) .nil)) .nil)))) ρ M = some (t.d, M') := by
  obtain ⟨u, M2, c2, hu, e2⟩ := roll' h (k + 2) 3 (mi := 3) rfl (by decide) (by decide)
  obtain ⟨r, M3, c3, hr, e3⟩ := frac c2 k
  by_cases hu0 : 0 < u
  · refine ⟨.unk, M2, trivial, c2, fun ρ hρ => ?_⟩
    simp -implicitDefEqProofs [hρ, e2, hu0, Tr.d]
  · refine ⟨.num r, M3, hr, c3, fun ρ hρ => ?_⟩
    simp -implicitDefEqProofs [hρ, e2, hu0, Tr.d, e3]
theorem plain_tree : ∀ (deep k : Nat) (M : Sto), CupI M → ∃ t M', PT deep t ∧ CupI M' ∧ rn (k + deep + 4) i__law_plain_tree [.ref 0, .int deep] M = some (t.d, M')
  | 0, k, M, h => by
    obtain ⟨w, M1, c1, hw, e1⟩ := roll' h (k + 2) 7 (mi := 7) rfl (by decide) (by decide)
    obtain ⟨t, M2, ht, c2, e2⟩ := plain_leaf c1 k
    refine ⟨t, M2, ht, c2, ?_⟩
    rw [rn_call _ rfl rfl]
    simp -implicitDefEqProofs [f__law_plain_tree, b__law_plain_tree, -ev_ite, e1, e2]
    rw [fin_val _ _ (val_Tr t), h.take c2]
  | d + 1, k, M, h => by
    obtain ⟨w, M1, c1, hw, e1⟩ := roll' h (k + d + 1 + 2) 7 (mi := 7) rfl (by decide) (by decide)
    by_cases hq : w < 2
    · obtain ⟨t, M2, ht, c2, e2⟩ := plain_leaf c1 (k + d + 1)
      refine ⟨t, M2, .inl ht, c2, ?_⟩
      have hq2 : (w : Int) < 2 := by omega
      rw [show k + (d + 1) + 4 = k + d + 1 + 3 + 1 by omega, rn_call _ rfl rfl]
      simp -implicitDefEqProofs [f__law_plain_tree, b__law_plain_tree, -ev_ite, e1, e2, cast_ne, hq, hq2]
      rw [fin_val _ _ (val_Tr t), h.take c2]
    · have hq2 : ¬ (w : Int) < 2 := by omega
      obtain ⟨t, M2, ht, c2, e2⟩ := plain_tree d k M1 c1
      rw [show k + (d + 1) + 4 = k + d + 1 + 3 + 1 by omega]
      rw [show k + d + 4 = k + d + 1 + 3 by omega] at e2
      by_cases h2 : w = 2
      · refine ⟨.neg t, M2, .inr ht, c2, ?_⟩
        rw [rn_call _ rfl rfl]
        subst h2
        simp -implicitDefEqProofs [f__law_plain_tree, b__law_plain_tree, e1, e2, cast_ne, Tr.d]
        rw [h.take c2]
      · have h2i : ¬ (w : Int) = 2 := by omega
        by_cases h3 : w = 3
        · obtain ⟨m, M3, c3, hm, e3⟩ := roll' c2 (k + d + 1 + 2) 4 (mi := 4) rfl (by decide) (by decide)
          refine ⟨.pw t m, M3, .inr ⟨ht, by omega⟩, c3, ?_⟩
          rw [rn_call _ rfl rfl]
          subst h3
          simp -implicitDefEqProofs [f__law_plain_tree, b__law_plain_tree, e1, e2, e3, cast_ne, Tr.d]
          rw [h.take c3]
        · have h3i : ¬ (w : Int) = 3 := by omega
          obtain ⟨o, M2', ho, c2', e2'⟩ := some_ c1 (k + d + 1 + 1) [.str "plus", .str "less", .str "times"] (by decide) (by decide) (by decide)
          obtain ⟨o, rfl⟩ := ops3 ho
          obtain ⟨t, M3, ht, c3, e3⟩ := plain_tree d k M2' c2'
          obtain ⟨t', M4, ht', c4, e4⟩ := plain_tree d k M3 c3
          rw [show k + d + 4 = k + d + 1 + 3 by omega] at e3 e4
          refine ⟨.two o t t', M4, .inr ⟨ht, ht'⟩, c4, ?_⟩
          rw [rn_call _ rfl rfl]
          simp -implicitDefEqProofs [f__law_plain_tree, b__law_plain_tree, e1, e2', e3, e4, cast_ne, Tr.d, h2, h3, h2i, h3i, hq, hq2]
          rw [h.take c4]
end K45
namespace K45
open PySem PySem.Spec PyProof.Rows L2 Mn Mn.Sx
def wchild : Tr → Prop
  | .wav .sin .unk => True
  | t => leafA t
def AT : Nat → Tr → Prop
  | 0, t => leafA t
  | k + 1, t => leafA t ∨ match t with
    | .neg t => wchild t
    | .wav _ t => wchild t
    | .two _ a b => AT k a ∧ AT k b
    | _ => False
theorem any_leaf {M : Sto} (h : CupI M) (k : Nat) : ∃ t M', leafA t ∧ CupI M' ∧ ∀ ρ : Rho, ρ[0]? = some (some (.ref 0)) → ev (sy (k + 3)) (.call 41 (.cons (.var 0) (.cons (.lst (.cons (.tup (.cons (.str "unknown") .nil)) (.cons (.tup (.cons (.str "pi") .nil)) (.cons (.tup (.cons (.str "number") (.cons (.call 43 (.cons (.bin .Sub (.call 40 (.cons (.var 0) (.cons (.int 7) .nil))) (.int 3)) (.cons (.int 2) .nil))) .nil))) .nil)))) .nil))) ρ M = some (t.d, M') := by
  obtain ⟨u, M2, c2, hu, e2⟩ := roll' h (k + 2) 7 (mi := 7) rfl (by decide) (by decide)
  have e3 := e_lmade (k := k + 1) (a := (u : Int) - 3) (b := 2) (M := M2) (by decide) (pow_mono (i := 2) (by decide) (by decide))
  obtain ⟨r, hr⟩ : ∃ r : Rat, r = (((u : Int) - 3 : Int) : Rat) / ((2 : Int) : Rat) := ⟨_, rfl⟩
  rw [← hr] at e3
  obtain ⟨d, M3, hd, c3, e4⟩ := some_ c2 (k + 1) [.tup [.str "unknown"], .tup [.str "pi"], .tup [.str "number", P r]] (by simp) (by simp) (by simp)
  have e5 : ∃ t : Tr, leafA t ∧ d = t.d := by
    rcases List.mem_cons.mp hd with z | z
    · exact ⟨.unk, trivial, z⟩
    rcases List.mem_cons.mp z with z | z
    · exact ⟨.pi, trivial, z⟩
    rcases List.mem_cons.mp z with z | z
    · exact ⟨.num r, ⟨(u : Int) - 3, 2, hr, by omega, by decide, by decide⟩, z⟩
    · cases z
  obtain ⟨t, ht, rfl⟩ := e5
  refine ⟨t, M3, ht, c3, fun ρ hρ => ?_⟩
  simp -implicitDefEqProofs [hρ, e2, e3, e4]
theorem leafA_AT {t : Tr} (h : leafA t) : ∀ k, AT k t
  | 0 => h
  | k + 1 => .inl h
theorem leafA_wchild {t : Tr} (h : leafA t) : wchild t := by
  cases t with
  | wav _ _ => exact False.elim h
  | _ => exact h
theorem any_tree : ∀ (deep k : Nat) (M : Sto), CupI M → ∃ t M', AT deep t ∧ CupI M' ∧ rn (k + deep + 5) i__law_any_tree [.ref 0, .int deep] M = some (t.d, M')
  | 0, k, M, h => by
    obtain ⟨t, M2, ht, c2, e2⟩ := any_leaf h (k + 1)
    refine ⟨t, M2, ht, c2, ?_⟩
    have e3 := e2 [some (.ref 0), some (.int 0)] rfl
    have e4 := e2 [some (.ref 0), some (.int ((0 : Nat) : Int))] rfl
    rw [rn_call _ rfl rfl]
    simp -implicitDefEqProofs [f__law_any_tree, b__law_any_tree, -ev_call, e3, e4]
    rw [fin_val _ _ (val_Tr t), h.take c2]
  | d + 1, k, M, h => by
    obtain ⟨w, M1, c1, hw, e1⟩ := roll' h (k + d + 4) 4 (mi := 4) rfl (by decide) (by decide)
    rw [show k + (d + 1) + 5 = k + d + 5 + 1 by omega]
    by_cases hq : w = 0
    · obtain ⟨t, M2, ht, c2, e2⟩ := any_leaf c1 (k + d + 2)
      refine ⟨t, M2, .inl ht, c2, ?_⟩
      subst hq
      rw [rn_call _ rfl rfl]
      simp -implicitDefEqProofs only [f__law_any_tree, b__law_any_tree, exs_cons, exs_nil, ex_ife, ex_ret]
      have e3 := e2 [some (D.ref 0), some (D.int ((d + 1 : Nat) : Int))] rfl
      have e4 : ev (sy (k + d + 5)) (.bool .Or (.cons (.cmp .Eq (.var 1) (.int 0)) (.cons (.cmp .Eq (.call 40 (.cons (.var 0) (.cons (.int 4) .nil))) (.int 0)) .nil))) [some (D.ref 0), some (D.int ((d + 1 : Nat) : Int))] M = some (.bl true, M1) := by
        simp -implicitDefEqProofs [e1, cast_ne]
      show fin M.length false (bndS (bndX (ev (sy (k + d + 5)) _ [some (D.ref 0), some (D.int ((d + 1 : Nat) : Int))] M) _) _) = _
      rw [e4]
      simp only [bndX_someP, tru_bl, bndC_someP, if_true]
      rw [show (List.map some [D.ref 0, D.int ((d + 1 : Nat) : Int)] ++ List.replicate (2 - [D.ref 0, D.int ((d + 1 : Nat) : Int)].length) none : Rho) = [some (D.ref 0), some (D.int ((d + 1 : Nat) : Int))] from rfl, e3]
      simp only [bndX_someP, bndS_rt]
      rw [fin_val _ _ (val_Tr t), h.take c2]
    · have hqi : ¬ (w : Int) = 0 := by omega
      obtain ⟨v, M2, c2, hv, e2⟩ := roll' c1 (k + d + 4) 2 (mi := 2) rfl (by decide) (by decide)
      by_cases hv0 : v = 0
      · obtain ⟨o, M3, ho, c3, e3⟩ := some_ c2 (k + d + 3) [.str "sin", .str "cos", .str "minus", .str "exp"] (by decide) (by decide) (by decide)
        obtain ⟨u, M4, hu, c4, e4⟩ := any_tree 0 (k + d) M3 c3
        obtain ⟨x, M5, hx, c5, e5⟩ := some_ c4 (k + d + 3) [.tup [.str "sin", .tup [.str "unknown"]], u.d] (by simp) (by simp) (by simp)
        have e6 : ∃ t : Tr, wchild t ∧ x = t.d := by
          rcases List.mem_cons.mp hx with z | z
          · exact ⟨.wav .sin .unk, trivial, z⟩
          rcases List.mem_cons.mp z with z | z
          · exact ⟨u, leafA_wchild hu, z⟩
          · cases z
        obtain ⟨x, hxw, rfl⟩ := e6
        have e7 : ∃ t : Tr, AT (d + 1) t ∧ .tup [o, x.d] = t.d := by
          rcases List.mem_cons.mp ho with z | z
          · exact ⟨.wav .sin x, .inr hxw, by rw [z]; rfl⟩
          rcases List.mem_cons.mp z with z | z
          · exact ⟨.wav .cos x, .inr hxw, by rw [z]; rfl⟩
          rcases List.mem_cons.mp z with z | z
          · exact ⟨.neg x, .inr hxw, by rw [z]; rfl⟩
          rcases List.mem_cons.mp z with z | z
          · exact ⟨.wav .exp x, .inr hxw, by rw [z]; rfl⟩
          · cases z
        have ov : val o = true := by
          rcases List.mem_cons.mp ho with z | z
          · rw [z]; rfl
          rcases List.mem_cons.mp z with z | z
          · rw [z]; rfl
          rcases List.mem_cons.mp z with z | z
          · rw [z]; rfl
          rcases List.mem_cons.mp z with z | z
          · rw [z]; rfl
          · cases z
        obtain ⟨t, ht, e8⟩ := e7
        refine ⟨t, M5, ht, c5, ?_⟩
        subst hv0
        simp at e4
        rw [rn_call _ rfl rfl]
        simp -implicitDefEqProofs [f__law_any_tree, b__law_any_tree, e1, e2, e3, e4, e5, cast_ne, hq, hqi, ov]
        exact ⟨e8, h.take c5⟩
      · have hv0i : ¬ (v : Int) = 0 := by omega
        obtain ⟨o, M3, ho, c3, e3⟩ := some_ c2 (k + d + 3) [.str "plus", .str "less", .str "times"] (by decide) (by decide) (by decide)
        obtain ⟨o, rfl⟩ := ops3 ho
        obtain ⟨t, M4, ht, c4, e4⟩ := any_tree d k M3 c3
        obtain ⟨t', M5, ht', c5, e5⟩ := any_tree d k M4 c4
        refine ⟨.two o t t', M5, .inr ⟨ht, ht'⟩, c5, ?_⟩
        rw [rn_call _ rfl rfl]
        simp -implicitDefEqProofs [f__law_any_tree, b__law_any_tree, e1, e2, e3, e4, e5, cast_ne, hq, hqi, hv0, hv0i, Tr.d]
        rw [h.take c5]
end K45
namespace K45
open PySem PySem.Spec PyProof.Rows L2 Mn Mn.Sx
theorem La.uniq {far : Rat} {t : Tr} {h h' : Nat} {a a' : Rat} (m : La far t h a) (m' : La far t h' a') : a = a' := by
  have e1 := m (h + h') [] (by omega)
  have e2 := m' (h + h') [] (by omega)
  rw [e1] at e2
  have e3 : P a = P a' := by
    injection e2 with e2
    injection e2 with e2 _
  unfold P at e3
  injection e3 with e3
  injection e3 with e4 e5
  injection e4 with e4
  injection e5 with e5
  injection e5 with e5
  exact P_inj.mp ⟨e4, e5⟩
section
variable {lo hi far : Rat}
theorem bd0 (E : Ends lo hi far) {t : Tr} (h : PT 0 t) : Bd lo hi far t 0 4 1 16 4 true := b_leaf E (leafT.any h)
theorem bd1 (E : Ends lo hi far) {t : Tr} (h : PT 1 t) : Bd lo hi far t 1 12 3 49 72 false := by
  rcases h with z | z
  · exact (b_leaf E z.any).off.up (by decide) (by decide) (by decide) (by decide) (by decide)
  · cases t with
    | neg t => exact (b_neg (bd0 E z) (by decide) (by decide) (by decide) (by decide)).off.up (by decide) (by decide) (by decide) (by decide) (by decide)
    | pw t m =>
      have hm := z.2
      exact (b_pw (m := m) (bd0 E z.1) (by omega) (by decide) (by omega) (by decide) (by omega) (by decide) (by omega) (by decide)).up (by decide) (by omega) (by omega) (by omega) (by decide)
    | two o a b => exact (b_two (bd0 E z.1) (bd0 E z.2) (by decide) (by decide) (by decide) (by decide) (by decide)).up (by decide) (by decide) (by decide) (by decide) (by decide)
    | _ => exact False.elim z
theorem bd2 (E : Ends lo hi far) {t : Tr} (h : PT 2 t) : Bd lo hi far t 2 36 9 148 956 false := by
  rcases h with z | z
  · exact (b_leaf E z.any).off.up (by decide) (by decide) (by decide) (by decide) (by decide)
  · cases t with
    | neg t => exact (b_neg (bd1 E z) (by decide) (by decide) (by decide) (by decide)).up (by decide) (by decide) (by decide) (by decide) (by decide)
    | pw t m =>
      have hm := z.2
      exact (b_pw (m := m) (bd1 E z.1) (by omega) (by decide) (by omega) (by decide) (by omega) (by decide) (by omega) (by decide)).up (by decide) (by omega) (by omega) (by omega) (by decide)
    | two o a b => exact (b_two (bd1 E z.1) (bd1 E z.2) (by decide) (by decide) (by decide) (by decide) (by decide)).up (by decide) (by decide) (by decide) (by decide) (by decide)
    | _ => exact False.elim z
theorem bdw (E : Ends lo hi far) {t : Tr} (h : wchild t) : Bd lo hi far t 1 4 1 40 38 true := by
  cases t with
  | wav v t =>
    cases v with
    | sin =>
      cases t with
      | unk => exact (b_wav (v := .sin) (b_leaf E (t := .unk) trivial) (by decide) (by decide) (by decide)).2 rfl
      | _ => exact False.elim h
    | _ => exact False.elim h
  | unk => exact (b_leaf E (t := .unk) trivial).up (by decide) (by decide) (by decide) (by decide) (by decide)
  | pi => exact (b_leaf E (t := .pi) trivial).up (by decide) (by decide) (by decide) (by decide) (by decide)
  | num r => exact (b_leaf E (t := .num r) h).up (by decide) (by decide) (by decide) (by decide) (by decide)
  | _ => exact False.elim h
theorem at1 (E : Ends lo hi far) {t : Tr} (h : AT 1 t) : Bd lo hi far t 2 32 2 40 72 false := by
  rcases h with z | z
  · exact (b_leaf E z).off.up (by decide) (by decide) (by decide) (by decide) (by decide)
  · cases t with
    | neg t => exact (b_neg (bdw E z) (by decide) (by decide) (by decide) (by decide)).off.up (by decide) (by decide) (by decide) (by decide) (by decide)
    | wav v t => exact (b_wav (v := v) (bdw E z) (by decide) (by decide) (by decide)).1.up (by decide) (by decide) (by decide) (by decide) (by decide)
    | two o a b => exact (b_two (b_leaf E z.1) (b_leaf E z.2) (by decide) (by decide) (by decide) (by decide) (by decide)).up (by decide) (by decide) (by decide) (by decide) (by decide)
    | _ => exact False.elim z
theorem at2 (E : Ends lo hi far) {t : Tr} (h : AT 2 t) : Bd lo hi far t 3 64 4 81 289 false := by
  rcases h with z | z
  · exact (b_leaf E z).off.up (by decide) (by decide) (by decide) (by decide) (by decide)
  · cases t with
    | neg t => exact (b_neg (bdw E z) (by decide) (by decide) (by decide) (by decide)).off.up (by decide) (by decide) (by decide) (by decide) (by decide)
    | wav v t => exact (b_wav (v := v) (bdw E z) (by decide) (by decide) (by decide)).1.up (by decide) (by decide) (by decide) (by decide) (by decide)
    | two o a b => exact (b_two (at1 E z.1) (at1 E z.2) (by decide) (by decide) (by decide) (by decide) (by decide)).up (by decide) (by decide) (by decide) (by decide) (by decide)
    | _ => exact False.elim z
theorem one_leaf : leafA (.num 1) := ⟨1, 1, by decide +kernel, by decide, by decide, by decide⟩
theorem bd_tall (E : Ends lo hi far) {m : Nat} (hm : m ≤ 12) : Bd lo hi far (.pw tallB m) 2 48 24 397 241 false := by
  have b : Bd lo hi far tallB 1 8 2 33 17 false := (b_two (o := .plus) (b_leaf E (t := .unk) trivial) (b_leaf E (t := .num 1) one_leaf) (by decide) (by decide) (by decide) (by decide) (by decide)).up (by decide) (by decide) (by decide) (by decide) (by decide)
  obtain ⟨a, s, d, w1, h1, h2, h3, h4, h5, h6, h7, h8, h9, h10, h11⟩ := b
  have e : a = far + ab 1 := h2.uniq (la_two (o := .plus) la_unk la_num (E.szf.sm (by decide)) ((sz1.ab).sm (by decide)))
  have h4' : a ≤ 2 ^ 4 := by
    have h8 := E.far8
    have h1 : ab 1 = 1 := by decide +kernel
    rw [e, h1]
    have : (2 : Rat) ^ 4 = 16 := by decide +kernel
    rw [this]
    grind
  have b4 : Bd lo hi far tallB 1 4 2 33 17 false := ⟨a, s, d, w1, h1, h2, h3, h4', h5, h6, h7, h8, h9, h10, h11⟩
  exact (b_pw (m := m) b4 (by omega) (by decide) (by omega) (by decide) (by omega) (by decide) (by omega) (by decide)).up (by decide) (by omega) (by omega) (by omega) (by decide)
end
/-! how high, how many -/
theorem leafA_nice {t : Tr} (h : leafA t) : t.ht = 0 ∧ t.sz = 1 ∧ t.fits := by
  cases t with
  | num r => exact ⟨rfl, rfl, sz4_fr (num_sz h)⟩
  | unk => exact ⟨rfl, rfl, trivial⟩
  | pi => exact ⟨rfl, rfl, trivial⟩
  | _ => exact False.elim h
theorem pt_nice : ∀ {k : Nat} {t : Tr}, PT k t → t.ht ≤ k ∧ t.sz + 1 ≤ 2 * 2 ^ k ∧ t.fits
  | 0, t, h => by
    obtain ⟨a, b, c⟩ := leafA_nice (leafT.any h)
    exact ⟨by omega, by omega, c⟩
  | k + 1, t, h => by
    have p : 1 ≤ 2 ^ k := Nat.pow_pos (by decide)
    rcases h with z | z
    · obtain ⟨a, b, c⟩ := leafA_nice z.any
      exact ⟨by omega, by rw [Nat.pow_succ]; omega, c⟩
    · cases t with
      | neg t =>
        obtain ⟨a, b, c⟩ := pt_nice (k := k) z
        exact ⟨by simp [Tr.ht]; omega, by simp [Tr.sz, Nat.pow_succ]; omega, c⟩
      | pw t m =>
        obtain ⟨a, b, c⟩ := pt_nice (k := k) z.1
        exact ⟨by simp [Tr.ht]; omega, by simp [Tr.sz, Nat.pow_succ]; omega, c, by have := z.2; omega⟩
      | two o t u =>
        obtain ⟨a, b, c⟩ := pt_nice (k := k) z.1
        obtain ⟨a', b', c'⟩ := pt_nice (k := k) z.2
        exact ⟨by simp [Tr.ht]; omega, by simp [Tr.sz, Nat.pow_succ]; omega, c, c'⟩
      | _ => exact False.elim z
theorem wchild_nice {t : Tr} (h : wchild t) : t.ht ≤ 1 ∧ t.sz ≤ 2 ∧ t.fits := by
  cases t with
  | wav v t =>
    cases v with
    | sin =>
      cases t with
      | unk => exact ⟨by decide, by decide, trivial⟩
      | _ => exact False.elim h
    | _ => exact False.elim h
  | unk => exact ⟨by decide, by decide, trivial⟩
  | pi => exact ⟨by decide, by decide, trivial⟩
  | num r => exact ⟨Nat.zero_le _, (by decide : 1 ≤ 2), (leafA_nice (t := .num r) h).2.2⟩
  | _ => exact False.elim h
theorem at_nice : ∀ {k : Nat} {t : Tr}, AT k t → t.ht ≤ k + 1 ∧ t.sz + 1 ≤ 4 * 2 ^ k ∧ t.fits
  | 0, t, h => by
    obtain ⟨a, b, c⟩ := leafA_nice h
    exact ⟨by omega, by omega, c⟩
  | k + 1, t, h => by
    have p : 1 ≤ 2 ^ k := Nat.pow_pos (by decide)
    rcases h with z | z
    · obtain ⟨a, b, c⟩ := leafA_nice z
      exact ⟨by omega, by rw [Nat.pow_succ]; omega, c⟩
    · cases t with
      | neg t =>
        obtain ⟨a, b, c⟩ := wchild_nice z
        exact ⟨by simp [Tr.ht]; omega, by simp [Tr.sz, Nat.pow_succ]; omega, c⟩
      | wav v t =>
        obtain ⟨a, b, c⟩ := wchild_nice z
        exact ⟨by simp [Tr.ht]; omega, by simp [Tr.sz, Nat.pow_succ]; omega, c⟩
      | two o t u =>
        obtain ⟨a, b, c⟩ := at_nice (k := k) z.1
        obtain ⟨a', b', c'⟩ := at_nice (k := k) z.2
        exact ⟨by simp [Tr.ht]; omega, by simp [Tr.sz, Nat.pow_succ]; omega, c, c'⟩
      | _ => exact False.elim z
theorem nice_pt {t : Tr} (h : PT 2 t) : Nice t := by
  obtain ⟨a, b, c⟩ := pt_nice h
  exact ⟨by omega, by omega, c⟩
theorem nice_at {t : Tr} (h : AT 2 t) : Nice t := by
  obtain ⟨a, b, c⟩ := at_nice h
  exact ⟨by omega, by omega, c⟩
theorem nice_tall {m : Nat} (hm : m ≤ 12) : Nice (.pw tallB m) := ⟨(by decide : 2 ≤ 8), (by decide : 4 ≤ 39), ⟨trivial, (leafA_nice one_leaf).2.2⟩, hm⟩
/-! plain or not -/
theorem leaf_plain {t : Tr} (h : leafT t) : (t.all.all fun s => !s.isW) = true := by
  cases t with
  | num r => rfl
  | unk => rfl
  | _ => exact False.elim h
theorem pt_plain : ∀ {k : Nat} {t : Tr}, PT k t → (t.all.all fun s => !s.isW) = true
  | 0, t, h => leaf_plain h
  | k + 1, t, h => by
    rcases h with z | z
    · exact leaf_plain z
    · cases t with
      | neg t => 
        have := pt_plain (k := k) z
        simp [Tr.all, Tr.isW] at this ⊢
        exact this
      | pw t m =>
        have := pt_plain (k := k) z.1
        simp [Tr.all, Tr.isW] at this ⊢
        exact this
      | two o t u =>
        have h1 := pt_plain (k := k) z.1
        have h2 := pt_plain (k := k) z.2
        simp [Tr.all, Tr.isW] at h1 h2 ⊢
        exact ⟨h1, h2⟩
      | _ => exact False.elim z
theorem leafA_plain {t : Tr} (h : leafA t) (hp : (t.all.all fun s => !s.isW) = true) : leafT t := by
  cases t with
  | num r => exact h
  | unk => exact trivial
  | pi => cases hp
  | _ => exact False.elim h
theorem wchild_plain {t : Tr} (h : wchild t) (hp : (t.all.all fun s => !s.isW) = true) : leafT t := by
  cases t with
  | wav v t => simp [Tr.all, Tr.isW] at hp
  | unk => exact trivial
  | pi => cases hp
  | num r => exact h
  | _ => exact False.elim h
theorem at_plain : ∀ {k : Nat} {t : Tr}, AT k t → (t.all.all fun s => !s.isW) = true → PT k t
  | 0, t, h, hp => leafA_plain h hp
  | k + 1, t, h, hp => by
    rcases h with z | z
    · exact .inl (leafA_plain z hp)
    · cases t with
      | neg t =>
        have hp2 : (t.all.all fun s => !s.isW) = true := by
          simp [Tr.all, Tr.isW] at hp ⊢
          exact hp
        exact .inr (leafT_mem (wchild_plain z hp2) k)
      | wav v t => simp [Tr.all, Tr.isW] at hp
      | two o t u =>
        have h1 : (t.all.all fun s => !s.isW) = true ∧ (u.all.all fun s => !s.isW) = true := by
          simp [Tr.all, Tr.isW] at hp ⊢
          exact hp
        exact .inr ⟨at_plain z.1 h1.1, at_plain z.2 h1.2⟩
      | _ => exact False.elim z
end K45
namespace K45
open PySem PySem.Spec PyProof.Rows L2 Mn Mn.Sx
def pv (lo hi : Rat) (t : Tr) : Rat := hor hi (0 :: der t.poly) + -1 * hor lo (0 :: der t.poly)
def plainB (t : Tr) : Bool := t.all.all fun s => !s.isW
section
variable {lo hi far : Rat} {t : Tr} {h p n : Nat} {dg w : Int} {sl : Bool}
/-- a plain area, asked of both sides -/
theorem plain_facts (E : Ends lo hi far) (N : Nice t) (b : Bd lo hi far t h p dg w n sl) (hh : h ≤ 12) (hp : plainB t = true) (L : Ln 27 80 13 t.poly) (k : t.pok) :
    (∀ M, rn 39 38 [area t lo hi] M = some (P (pv lo hi t), M)) ∧ (∀ M, rn 39 51 [t.d] M = some (.lst (t.poly.map P), M)) ∧ (∀ M, rn 39 54 [.lst (t.poly.map P), P lo, P hi] M = some (P (pv lo hi t), M)) := by
  obtain ⟨a, s, d, w1, h1, h2, h3, h4, h5, h6, h7, h8, h9, h10, h11⟩ := b
  have A := areaOk L E.zl E.zh
  have hN := N.ht
  refine ⟨fun M => ?_, fun M => e_lline t 31 M (by omega) k, fun M => ?_⟩
  · exact e_plain_area (k := 17) N E.el E.eh h1 hh (fun _ => e_plain_in (k := 30) (by omega) k A) (fun z => by rw [show (t.all.all fun s => !s.isW) = true from hp] at z; cases z) (fun M => by rw [fin_P, List.take_length])
  · have e := e_larea (k := 35) (M := M) A
    have e2 := area_eq lo hi (der t.poly)
    rw [der_len] at e2
    rw [← e2] at e
    exact e
theorem plain_none (E : Ends lo hi far) (N : Nice t) (b : Bd lo hi far t h p dg w n sl) (hh : h ≤ 12) (hp : plainB t = false) : ∀ M, rn 39 38 [area t lo hi] M = some (.non, M) := by
  obtain ⟨a, s, d, w1, h1, h2, h3, h4, h5, h6, h7, h8, h9, h10, h11⟩ := b
  intro M
  exact e_plain_area (k := 17) N E.el E.eh h1 hh (fun z => by rw [show (t.all.all fun s => !s.isW) = false from hp] at z; cases z) (fun _ => rfl) (fun M => by rw [fin_non, List.take_length])
theorem is_plain_fact (N : Nice t) : ∀ M, rn 39 36 [t.d] M = some (.bl (plainB t), M) := fun M => e_is_plain (k := 17) N
theorem amount_facts (E : Ends lo hi far) (N : Nice t) (b : Bd lo hi far t h p dg w n sl) (hh : h ≤ 12) : ∃ a, (∀ M, rn 39 37 [area t lo hi] M = some (P a, M)) ∧ (∀ M, rn 39 55 [t.d, P far] M = some (P a, M)) ∧ La far t h a := by
  obtain ⟨a, s, d, w1, h1, h2, h3, h4, h5, h6, h7, h8, h9, h10, h11⟩ := b
  exact ⟨a, fun M => e_area_amount (k := 17) N E.el E.eh h1 hh, fun M => h2 31 M (by omega), h2⟩
theorem parts_fact (N : Nice t) : ∀ M, rn 39 49 [t.d] M = some (.lst (t.all.map Tr.d), M) := fun M => e_lparts t 37 M (by have := N.ht; omega) (by have := N.sz; omega)
end
/-! waves -/
def wavesOf (t : Tr) : List Tr := t.all.filter Tr.isW
theorem wave_turn (t : Tr) (k : Nat) (ρ : Rho) (M : Sto) (hr : 15 < ρ.length) : goC (sy k) (.var 15) [15] (.name 15) (.yes (.cmp .In (.idx (.var 15) (.int 0)) (.tup (.cons (.str "pi") (.cons (.str "sin") (.cons (.str "cos") (.cons (.str "exp") .nil))))))) ρ t.d M = some (if t.isW = true then some t.d else none, M) := by
  cases t with
  | wav s t => cases s <;> simp [goC, setT, wipeD, hr, Tr.tag, Tr.isW]
  | two s t u => cases s <;> simp [goC, setT, wipeD, hr, Tr.tag, Tr.isW]
  | _ => simp [goC, setT, wipeD, hr, Tr.tag, Tr.isW]
theorem waves_fact (t : Tr) (k : Nat) (ρ : Rho) (M : Sto) (hr : 15 < ρ.length) : compL (goC (sy k) (.var 15) [15] (.name 15) (.yes (.cmp .In (.idx (.var 15) (.int 0)) (.tup (.cons (.str "pi") (.cons (.str "sin") (.cons (.str "cos") (.cons (.str "exp") .nil))))))) ρ) (t.all.map Tr.d) M = some ((wavesOf t).map Tr.d, M) := by
  rw [compL_list (g := fun s : Tr => if s.isW = true then some s.d else none) (fun x _ => wave_turn x k ρ M hr)]
  congr 2
  unfold wavesOf
  induction t.all with
  | nil => rfl
  | cons x l ih =>
    cases hx : x.isW with
    | true => simp [List.filterMap_cons, List.filter_cons, hx, ih]
    | false => simp [List.filterMap_cons, List.filter_cons, hx, ih]
theorem waves_empty (t : Tr) : (wavesOf t).isEmpty = plainB t := by
  unfold wavesOf plainB
  induction t.all with
  | nil => rfl
  | cons x l ih =>
    cases hx : x.isW with
    | true => simp [List.filter_cons, hx]
    | false => simp only [List.filter_cons, hx, List.all_cons]; simpa using ih
theorem waves_eq {t : Tr} (N : Nice t) (M : Sto) : cmpD .Eq M (.lst ((wavesOf t).map Tr.d)) (.lst []) = some (plainB t) ∧ cmpD .NotEq M (.lst ((wavesOf t).map Tr.d)) (.lst []) = some (!plainB t) := by
  have h : ∀ u ∈ wavesOf t, u.ht ≤ 8 := fun u hu => Nat.le_trans (all_ht t u (List.mem_filter.mp hu).1) N.ht
  rw [← waves_empty]
  exact ⟨eq_nil h (by decide), ne_nil h (by decide)⟩
theorem waves_len {t : Tr} (N : Nice t) : (wavesOf t).length ≤ line := by
  have h1 : (wavesOf t).length ≤ t.all.length := List.length_filter_le _ _
  have h2 := N.sz
  rw [all_len] at h1
  exact Nat.le_trans (show _ ≤ 1000 by omega) (by decide)
/-! ends -/
theorem draw_end {z : Int} {q : Nat} (hz : z.natAbs ≤ 8) (h1 : 1 ≤ q) (h2 : q ≤ 5) : Sz 4 ((z : Rat) / ((q : Int) : Rat)) ∧ End ((z : Rat) / ((q : Int) : Rat)) := by
  have s : Sz 4 ((z : Rat) / ((q : Int) : Rat)) := num_sz ⟨z, q, rfl, by omega, h1, h2⟩
  obtain ⟨m1, m2⟩ := sz_made (a := z) (b := (q : Int)) (by omega)
  refine ⟨s, sz4_fr s, Rat.le_trans (le_num _) ?_⟩
  rw [(ab_num _).1]
  have : ((((z : Rat) / ((q : Int) : Rat)).num.natAbs : Int).natAbs : Int) ≤ 8 := by rw [Int.natAbs_natCast]; omega
  exact Rat.intCast_le_intCast.mpr this
/-! a turn of the law -/
def lawBody : CSs := match b_law with
  | .cons _ (.cons (.for _ _ b) _) => b
  | _ => .nil
@[simp] theorem area_fold (t : Tr) (lo hi : Rat) : D.tup [.str "area", t.d, P lo, P hi] = area t lo hi := rfl
@[simp] theorem ab_fold (r : Rat) : D.tup [.int r.num.natAbs, .int r.den] = P (ab r) := (ab_P r).symm
@[simp] theorem tallB_fold : D.tup [.str "plus", .tup [.str "unknown"], .tup [.str "number", P 1]] = tallB.d := rfl
@[simp] theorem tall_fold (m : Nat) : D.tup [.str "power", tallB.d, .int m] = (Tr.pw tallB m).d := rfl
@[simp] theorem isi_int_bool' (M : Sto) (r : Rat) : isiD M (.int r.num) "bool" = some false := isi_int_bool M _
@[simp] theorem val_area (t : Tr) (lo hi : Rat) : val (area t lo hi) = true := rfl
theorem turn_ev {lo hi far a1 a2 v1 v2 : Rat} {t o : Tr} {m : Nat} {x y z : Nat} {M0 M1 M2 M3 M4 M5 M6 : Sto} {i : Nat} {sc : D} {x2 x3 x4 x5 x6 x7 x8 x9 x10 x11 x12 x13 x14 x15 : Option D} {q : D}
    (hf : (if ab lo < ab hi then ab hi else ab lo) = far) (sl : Sm (ab lo)) (sh : Sm (ab hi))
    (e1 : rn 39 53 [.ref 0, .int 2] M0 = some (t.d, M1)) (e2 : rn 39 40 [.ref 0, .int 17] M1 = some (.int x, M2)) (e3 : rn 39 43 [.int ((x : Int) - 8), .int 4] M2 = some (P lo, M2))
    (e4 : rn 39 40 [.ref 0, .int 17] M2 = some (.int y, M3)) (e5 : rn 39 40 [.ref 0, .int 3] M3 = some (.int z, M4)) (e6 : rn 39 43 [.int ((y : Int) - 8), .int (1 + (z : Int))] M4 = some (P hi, M4))
    (p1 : ∀ M, rn 39 38 [area t lo hi] M = some (P v1, M)) (p2 : ∀ M, rn 39 36 [t.d] M = some (.bl true, M)) (p3 : ∀ M, rn 39 51 [t.d] M = some (.lst (t.poly.map P), M)) (p4 : ∀ M, rn 39 54 [.lst (t.poly.map P), P lo, P hi] M = some (P v1, M))
    (e7 : rn 39 56 [.ref 0, .int 2] M4 = some (o.d, M5)) (q1 : ∀ M, rn 39 37 [area o lo hi] M = some (P a1, M)) (q2 : ∀ M, rn 39 55 [o.d, P far] M = some (P a1, M))
    (e8 : rn 39 41 [.ref 0, .lst [.int 0, .int 1, .int 3, .int 5, .int 12]] M5 = some (.int m, M6))
    (r1 : ∀ M, rn 39 37 [area (.pw tallB m) lo hi] M = some (P a2, M)) (r2 : ∀ M, rn 39 55 [(Tr.pw tallB m).d, P far] M = some (P a2, M)) (r3 : ∀ M, rn 39 38 [area (.pw tallB m) lo hi] M = some (P v2, M)) (r4 : ∀ M, rn 39 51 [(Tr.pw tallB m).d] M = some (.lst ((Tr.pw tallB m).poly.map P), M)) (r5 : ∀ M, rn 39 54 [.lst ((Tr.pw tallB m).poly.map P), P lo, P hi] M = some (P v2, M))
    (w1 : ∀ M, rn 39 49 [o.d] M = some (.lst (o.all.map Tr.d), M)) (w2 : (wavesOf o).length ≤ line) (w3 : ∀ M, cmpD .Eq M (.lst ((wavesOf o).map Tr.d)) (.lst []) = some (plainB o)) (w4 : ∀ M, cmpD .NotEq M (.lst ((wavesOf o).map Tr.d)) (.lst []) = some (!plainB o)) (w5 : ∀ M, rn 39 36 [o.d] M = some (.bl (plainB o), M)) (w6 : ∀ M, rn 39 38 [area o lo hi] M = some (q, M)) (w7 : ∀ M, cmpD .Is M q .non = some (!plainB o)) :
    ∃ ρ', goF (sy 39) (.name 2) lawBody (.int i) [some sc, some (.ref 0), x2, x3, x4, x5, x6, x7, x8, x9, x10, x11, x12, x13, x14, x15] M0 = some (.nx ρ' M6) ∧ ∃ y2 y6 y7 y8 y9 y10 y11 y12 y13 y14, ρ' = [some sc, some (.ref 0), y2, x3, x4, x5, y6, y7, y8, y9, y10, y11, y12, y13, y14, x15] := by
  have l := fun M => e_lis_less (k := 38) (M := M) sl sh
  have wf := fun ρ hr M => waves_fact o 39 ρ M hr
  refine ⟨[some sc, some (.ref 0), some (.int i), x3, x4, x5, some t.d, some (P lo), some (P hi), some (P v1), some o.d, some (P far), some (area (.pw tallB m) lo hi), some (.int m), some (.lst ((wavesOf o).map Tr.d)), x15], ?_, ⟨_, _, _, _, _, _, _, _, _, _, rfl⟩⟩
  by_cases hlt : ab lo < ab hi
  · rw [if_pos hlt] at hf
    subst hf
    simp -implicitDefEqProofs [goF, setT, lawBody, b_law, e1, e2, e3, e4, e5, e6, p1, p2, p3, p4, e7, l, hlt, q1, q2, e8, r1, r2, r3, r4, r5, w1]
    rw [wf _ (by simp)]
    simp -implicitDefEqProofs [w2, w3, w4, w5, w6, w7]
  · rw [if_neg hlt] at hf
    subst hf
    simp -implicitDefEqProofs [goF, setT, lawBody, b_law, e1, e2, e3, e4, e5, e6, p1, p2, p3, p4, e7, l, hlt, q1, q2, e8, r1, r2, r3, r4, r5, w1]
    rw [wf _ (by simp)]
    simp -implicitDefEqProofs [w2, w3, w4, w5, w6, w7]
/-- one turn -/
theorem turn (M0 : Sto) (h : CupI M0) (i : Nat) (sc : D) (x2 x3 x4 x5 x6 x7 x8 x9 x10 x11 x12 x13 x14 x15 : Option D) :
    ∃ ρ' M', goF (sy 39) (.name 2) lawBody (.int i) [some sc, some (.ref 0), x2, x3, x4, x5, x6, x7, x8, x9, x10, x11, x12, x13, x14, x15] M0 = some (.nx ρ' M') ∧ CupI M' ∧ ∃ y2 y6 y7 y8 y9 y10 y11 y12 y13 y14, ρ' = [some sc, some (.ref 0), y2, x3, x4, x5, y6, y7, y8, y9, y10, y11, y12, y13, y14, x15] := by
  obtain ⟨t, M1, ht, c1, e1⟩ := plain_tree 2 33 M0 h
  obtain ⟨x, M2, c2, hx, e2⟩ := roll' c1 38 17 (mi := 17) rfl (by decide) (by decide)
  obtain ⟨y, M3, c3, hy, e4⟩ := roll' c2 38 17 (mi := 17) rfl (by decide) (by decide)
  obtain ⟨z, M4, c4, hz, e5⟩ := roll' c3 38 3 (mi := 3) rfl (by decide) (by decide)
  have e3 := e_lmade (k := 37) (a := (x : Int) - 8) (b := 4) (M := M2) (by decide) (pow_mono (i := 3) (by decide) (by decide))
  have e6 := e_lmade (k := 37) (a := (y : Int) - 8) (b := 1 + (z : Int)) (M := M4) (by omega) (pow_mono (i := 3) (by omega) (by decide))
  obtain ⟨sl, el⟩ := draw_end (z := (x : Int) - 8) (q := 4) (by omega) (by decide) (by decide)
  obtain ⟨sh, eh⟩ := draw_end (z := (y : Int) - 8) (q := 1 + z) (by omega) (by omega) (by omega)
  rw [show (((4 : Nat) : Int) : Rat) = ((4 : Int) : Rat) from rfl] at sl el
  rw [show (((1 + z : Nat) : Int) : Rat) = ((1 + (z : Int) : Int) : Rat) by rw [Int.natCast_add]; rfl] at sh eh
  obtain ⟨lo, hlo⟩ : ∃ lo : Rat, lo = (((x : Int) - 8 : Int) : Rat) / ((4 : Int) : Rat) := ⟨_, rfl⟩
  obtain ⟨hi, hhi⟩ : ∃ hi : Rat, hi = (((y : Int) - 8 : Int) : Rat) / ((1 + (z : Int) : Int) : Rat) := ⟨_, rfl⟩
  rw [← hlo] at e3 sl el
  rw [← hhi] at e6 sh eh
  obtain ⟨far, hf⟩ : ∃ far : Rat, (if ab lo < ab hi then ab hi else ab lo) = far := ⟨_, rfl⟩
  have E : Ends lo hi far := ⟨sl, sh, el, eh, hf.symm⟩
  obtain ⟨o, M5, ho, c5, e7⟩ := any_tree 2 32 M4 c4
  obtain ⟨d, M6, hd, c6, e8⟩ := some_ c5 37 [.int 0, .int 1, .int 3, .int 5, .int 12] (by decide) (by decide) (by decide)
  obtain ⟨m, hm, rfl⟩ : ∃ m : Nat, m ≤ 12 ∧ d = .int m := by
    rcases List.mem_cons.mp hd with z | z
    · exact ⟨0, by decide, z⟩
    rcases List.mem_cons.mp z with z | z
    · exact ⟨1, by decide, z⟩
    rcases List.mem_cons.mp z with z | z
    · exact ⟨3, by decide, z⟩
    rcases List.mem_cons.mp z with z | z
    · exact ⟨5, by decide, z⟩
    rcases List.mem_cons.mp z with z | z
    · exact ⟨12, by decide, z⟩
    · cases z
  obtain ⟨l1, l2⟩ := pt2 t ht
  obtain ⟨p1, p3, p4⟩ := plain_facts E (nice_pt ht) (bd2 E ht) (by decide) (pt_plain ht) l1 l2
  have p2 := is_plain_fact (nice_pt ht)
  rw [show plainB t = true from pt_plain ht] at p2
  obtain ⟨a1, q1, q2, _⟩ := amount_facts E (nice_at ho) (at2 E ho) (by decide)
  obtain ⟨a2, r1, r2, _⟩ := amount_facts E (nice_tall hm) (bd_tall E hm) (by decide)
  obtain ⟨t1, t2⟩ := tall_ln hm
  obtain ⟨r3, r4, r5⟩ := plain_facts E (nice_tall hm) (bd_tall E hm) (by decide) (by rfl) t1 t2
  have w1 := parts_fact (nice_at ho)
  have w2 := waves_len (nice_at ho)
  have w3 := fun M => (waves_eq (nice_at ho) M).1
  have w4 := fun M => (waves_eq (nice_at ho) M).2
  have w5 := is_plain_fact (nice_at ho)
  obtain ⟨q, w6, w7⟩ : ∃ q, (∀ M, rn 39 38 [area o lo hi] M = some (q, M)) ∧ ∀ M, cmpD .Is M q .non = some (!plainB o) := by
    cases hp : plainB o with
    | true =>
      obtain ⟨u1, u2⟩ := pt2 o (at_plain ho hp)
      exact ⟨_, (plain_facts E (nice_at ho) (at2 E ho) (by decide) hp u1 u2).1, fun M => rfl⟩
    | false => exact ⟨.non, plain_none E (nice_at ho) (at2 E ho) (by decide) hp, fun M => rfl⟩
  obtain ⟨ρ', g1, g2⟩ := turn_ev (i := i) (sc := sc) (x2 := x2) (x3 := x3) (x4 := x4) (x5 := x5) (x6 := x6) (x7 := x7) (x8 := x8) (x9 := x9) (x10 := x10) (x11 := x11) (x12 := x12) (x13 := x13) (x14 := x14) (x15 := x15) hf (sl.ab.sm (by decide)) (sh.ab.sm (by decide)) e1 e2 e3 e4 e5 e6 p1 p2 p3 p4 e7 q1 q2 e8 r1 r2 r3 r4 r5 w1 w2 w3 w4 w5 w6 w7
  exact ⟨ρ', M6, g1, c6, g2⟩
end K45
namespace K45
open PySem PySem.Spec PyProof.Rows L2 Mn Mn.Sx
theorem turns (M0 : Sto) (h : CupI M0) (sc : D) (x2 x3 x4 x5 x6 x7 x8 x9 x10 x11 x12 x13 x14 x15 : Option D) :
    ∃ ρ' M', forL (goF (sy 39) (.name 2) lawBody) ((List.range 4).map fun k : Nat => D.int (k : Int)) [some sc, some (.ref 0), x2, x3, x4, x5, x6, x7, x8, x9, x10, x11, x12, x13, x14, x15] M0 = some (.nx ρ' M') ∧ CupI M' ∧ ∃ y2 y6 y7 y8 y9 y10 y11 y12 y13 y14, ρ' = [some sc, some (.ref 0), y2, x3, x4, x5, y6, y7, y8, y9, y10, y11, y12, y13, y14, x15] :=
  forL_ix (I := fun _ ρ M => CupI M ∧ ∃ y2 y6 y7 y8 y9 y10 y11 y12 y13 y14, ρ = [some sc, some (.ref 0), y2, x3, x4, x5, y6, y7, y8, y9, y10, y11, y12, y13, y14, x15]) ⟨h, _, _, _, _, _, _, _, _, _, _, rfl⟩ (fun i x ρ M hi hI => by
    obtain ⟨hM, y2, y6, y7, y8, y9, y10, y11, y12, y13, y14, rfl⟩ := hI
    obtain ⟨_, rfl⟩ := rng_get hi
    exact turn M hM i sc y2 x3 x4 x5 y6 y7 y8 y9 y10 y11 y12 y13 y14 x15)
/-! the law's last questions -/
@[simp] theorem P3 : D.tup [.int 3, .int 1] = P 3 := rfl
@[simp] theorem P6 : D.tup [.int 6, .int 1] = P 6 := rfl
@[simp] theorem P10 : D.tup [.int 10, .int 1] = P 10 := rfl
@[simp] theorem P64 : D.tup [.int 64, .int 1] = P 64 := rfl
@[simp] theorem Pm2 : D.tup [.int (-2), .int 1] = P (-2) := rfl
@[simp] theorem P52 : D.tup [.int 5, .int 2] = P (5 / 2) := by
  unfold P
  rw [show (5 / 2 : Rat).num = 5 by decide +kernel, show (5 / 2 : Rat).den = 2 by decide +kernel]
  rfl
@[simp] theorem Pm52 : D.tup [.int (-5), .int 2] = P (-5 / 2) := by
  unfold P
  rw [show (-5 / 2 : Rat).num = -5 by decide +kernel, show (-5 / 2 : Rat).den = 2 by decide +kernel]
  rfl
def tA : Tr := .two .less (.pw .unk 2) (.num 1)
@[simp] theorem fold_unk : D.tup [.str "unknown"] = Tr.unk.d := rfl
@[simp] theorem fold_one : D.tup [.str "number", P 1] = (Tr.num 1).d := rfl
@[simp] theorem fold_pw2 : D.tup [.str "power", Tr.unk.d, .int 2] = (Tr.pw .unk 2).d := rfl
@[simp] theorem fold_pw0 : D.tup [.str "power", Tr.unk.d, .int 0] = (Tr.pw .unk 0).d := rfl
@[simp] theorem fold_tA : D.tup [.str "less", (Tr.pw .unk 2).d, (Tr.num 1).d] = tA.d := rfl
@[simp] theorem fold_sin : D.tup [.str "sin", Tr.unk.d] = (Tr.wav .sin .unk).d := rfl
@[simp] theorem fold_exp : D.tup [.str "exp", Tr.unk.d] = (Tr.wav .exp .unk).d := rfl
theorem ends_of {lo hi far : Rat} (h1 : Sz 4 lo) (h2 : Sz 4 hi) (h3 : ab lo ≤ 8) (h4 : ab hi ≤ 8) (h5 : far = if ab lo < ab hi then ab hi else ab lo) : Ends lo hi far := ⟨h1, h2, ⟨sz4_fr h1, h3⟩, ⟨sz4_fr h2, h4⟩, h5⟩
theorem sz_dec {n : Nat} {r : Rat} (h : (decide (r.num.natAbs < 2 ^ n) && decide (r.den < 2 ^ n)) = true) : Sz n r := by
  simp only [Bool.and_eq_true, decide_eq_true_eq] at h
  exact h
theorem EA : Ends 0 3 3 := ends_of (sz_dec (by decide +kernel)) (sz_dec (by decide +kernel)) (by decide +kernel) (by decide +kernel) (by decide +kernel)
theorem EB : Ends 3 1 3 := ends_of (sz_dec (by decide +kernel)) (sz_dec (by decide +kernel)) (by decide +kernel) (by decide +kernel) (by decide +kernel)
theorem EC : Ends 0 1 1 := ends_of (sz_dec (by decide +kernel)) (sz_dec (by decide +kernel)) (by decide +kernel) (by decide +kernel) (by decide +kernel)
theorem ED : Ends (5 / 2) (5 / 2) (5 / 2) := ends_of (sz_dec (by decide +kernel)) (sz_dec (by decide +kernel)) (by decide +kernel) (by decide +kernel) (by decide +kernel)
theorem EE : Ends (-5 / 2) 0 (5 / 2) := ends_of (sz_dec (by decide +kernel)) (sz_dec (by decide +kernel)) (by decide +kernel) (by decide +kernel) (by decide +kernel)
theorem one_T : leafT (.num 1) := one_leaf
theorem ptA : PT 2 tA := .inr ⟨.inr ⟨trivial, by decide⟩, .inl one_T⟩
theorem ptB : PT 2 (.pw .unk 0) := .inr ⟨.inl trivial, by decide⟩
theorem ptD : PT 2 .unk := .inl trivial
theorem atC : AT 2 (.wav .exp .unk) := .inr trivial
theorem atS : AT 2 (.wav .sin .unk) := .inr trivial
theorem ask1 (M : Sto) : rn 39 38 [area tA 0 3] M = some (P 6, M) := by
  obtain ⟨a, b⟩ := pt2 _ ptA
  have h := (plain_facts EA (nice_pt ptA) (bd2 EA ptA) (by decide) (by rfl) a b).1 M
  rw [show pv 0 3 tA = 6 by decide +kernel] at h
  exact h
theorem ask2 (M : Sto) : rn 39 37 [area tA 0 3] M = some (P 10, M) := by
  obtain ⟨a, h1, _, h2⟩ := amount_facts EA (nice_pt ptA) (bd2 EA ptA) (by decide)
  have s3 : Sm (3 : Rat) := EA.szf.sm (by decide)
  have e := h2.uniq (la_two (o := .less) (la_pw (m := 2) la_unk s3 (fun i _ => ((EA.szf).pow i).sm (by omega)) (by decide)) ((la_num (r := 1)).up (Nat.zero_le 1)) ((EA.szf.pow 2).sm (by decide)) (sz1.ab.sm (by decide)))
  rw [show Op.am .less ((3 : Rat) ^ 2) (ab 1) = 10 by decide +kernel] at e
  rw [← e]
  exact h1 M
theorem ask3 (M : Sto) : rn 39 36 [(Tr.wav .sin .unk).d] M = some (.bl false, M) := is_plain_fact (nice_at atS) M
theorem ask4 (M : Sto) : rn 39 38 [area (.pw .unk 0) 3 1] M = some (P (-2), M) := by
  obtain ⟨a, b⟩ := pt2 _ ptB
  have h := (plain_facts EB (nice_pt ptB) (bd2 EB ptB) (by decide) (by rfl) a b).1 M
  rw [show pv 3 1 (.pw .unk 0) = -2 by decide +kernel] at h
  exact h
theorem ask5 (M : Sto) : rn 39 38 [area (.wav .exp .unk) 0 1] M = some (.non, M) := plain_none EC (nice_at atC) (at2 EC atC) (by decide) (by rfl) M
theorem ask6 (M : Sto) : rn 39 38 [area .unk (5 / 2) (5 / 2)] M = some (P 0, M) := by
  obtain ⟨a, b⟩ := pt2 _ ptD
  have h := (plain_facts ED (nice_pt ptD) (bd2 ED ptD) (by decide) (by rfl) a b).1 M
  rw [show pv (5 / 2) (5 / 2) .unk = 0 by decide +kernel] at h
  exact h
theorem ask7 (M : Sto) : rn 39 37 [area (.wav .exp .unk) (-5 / 2) 0] M = some (P 64, M) := by
  obtain ⟨a, h1, _, h2⟩ := amount_facts EE (nice_at atC) (at2 EE atC) (by decide)
  have e := h2.uniq (la_wav (v := .exp) (c := 3) la_unk (EE.szf.sm (by decide)) (by decide +kernel) (by decide))
  have e2 : (if Wv.exp.s = ("exp" : Str) then (2 : Rat) ^ (2 * 3) else 1) = 64 := by
    rw [if_pos s_exp]
    decide +kernel
  rw [e2] at e
  rw [← e]
  exact h1 M
def lawRest : CSs := match b_law with
  | .cons _ (.cons _ r) => r
  | _ => .nil
theorem b_law_eq : b_law = .cons (.asgR 1 (.call 39 (.cons (.var 0) .nil))) (.cons (.for (.name 2) (.rng1 (.int 4)) lawBody) lawRest) := rfl
theorem rest_ev (sc : D) (y2 x3 x4 x5 y6 y7 y8 y9 y10 y11 y12 y13 y14 x15 : Option D) (M : Sto) : exs (sy 39) lawRest [some sc, some (.ref 0), y2, x3, x4, x5, y6, y7, y8, y9, y10, y11, y12, y13, y14, x15] M = some (.rt (.bl true) M) := by
  have t1 := ask1
  simp -implicitDefEqProofs [lawRest, b_law, spr, setN, ask1, ask2, ask3, ask4, ask5, ask6, ask7]
theorem law_runs (ns : List Int) (hn : ns.length ≤ 63) (hb : ∀ z ∈ ns, Builtin.Int.intBits z ≤ 1048576) : ∃ M', run (fs.map (·.fn)) (glOf gls) fuel 40 i_law [.scr ns] [] = some (.bl true, M') := by
  obtain ⟨a, b, c0, e0⟩ := cup hn hb 38
  obtain ⟨ρ', M1, e1, c1, y2, y6, y7, y8, y9, y10, y11, y12, y13, y14, rfl⟩ := turns [.lst [.int a, .int b]] c0 (.scr ns) none none none none none none none none none none none none none none
  have r4 : ∀ M, rngI (D.int 4) M = some ((List.range 4).map (fun k : Nat => D.int (k : Int)), M) := fun M => rngI_1000 (n := 4) (by decide)
  refine ⟨[], ?_⟩
  show rn 40 i_law [.scr ns] [] = some (.bl true, [])
  rw [rn_call f_law.fn rfl rfl, show f_law.fn.body = b_law from rfl, b_law_eq]
  have e2 : ex (sy 39) (.asgR 1 (.call 39 (.cons (.var 0) .nil))) (List.map some [D.scr ns] ++ List.replicate (f_law.fn.names - [D.scr ns].length) none) [] = some (.nx [some (.scr ns), some (.ref 0), none, none, none, none, none, none, none, none, none, none, none, none, none, none] [.lst [.int a, .int b]]) := by
    simp -implicitDefEqProofs [f_law, e0]
  rw [exs_cons, e2, bndS_nx, exs_cons, ex_for, evi_rng, ev_int, bnd_someP, r4, bndX_someP, e1, bndS_nx, rest_ev]
  rfl
end K45
open PySem PySem.W PyProof.Rows
set_option maxHeartbeats 0 in
theorem PySem.Challenge.cw_nearplain_k45_plain_integrands_and_amoun_holds : PySem.Challenge.rw_nearplain_k45_plain_integrands_and_amoun.Holds := by
  w_on; o_law; k_head; (case hw => w_witness2)
  k_fill
  refine L2.walk_ofB (l := PySem.Challenge.rw_nearplain_k45_plain_integrands_and_amoun) (n := 63) (k := 40) (x := "script") (CX := fun _ => L2.CX0) (sp := fun w => Mn.spI _ (Mn.sysOf K45.fs K45.gls K45.fuel 40) K45.i_law false) rfl (by decide) rfl ⟨rfl, by decide, by decide⟩ (fun w h Y => PySem.W.kIn_of Y) ?F (fun _ _ a ns hl hb _ hS => (K45.law_runs ns hl hb).elim fun M e => Mn.sp_law (F := K45.f_law) rfl rfl hS e) (fun _ _ _ _ _ h => h)
  case F =>
    intro w mg fa h KX G hmg
    refine' Mn.walk_fn (fs := K45.fs) (gls := K45.gls) (F := K45.f_law) KX G hmg ?L ?gl ?no ?gc K45.fs_ok rfl rfl rfl rfl
    case gc => k_is
    case no =>
      refine' Mn.NoL.cons (x := "len") ?zzn0 ?zzm0; (case zzn0 => k_is)
      refine' Mn.NoL.cons (x := "abs") ?zzn1 ?zzm1; (case zzn1 => k_is)
      refine' Mn.NoL.cons (x := "max") ?zzn2 ?zzm2; (case zzn2 => k_is)
      refine' Mn.NoL.cons (x := "min") ?zzn3 ?zzm3; (case zzn3 => k_is)
      refine' Mn.NoL.cons (x := "int") ?zzn4 ?zzm4; (case zzn4 => k_is)
      refine' Mn.NoL.cons (x := "list") ?zzn5 ?zzm5; (case zzn5 => k_is)
      refine' Mn.NoL.cons (x := "tuple") ?zzn6 ?zzm6; (case zzn6 => k_is)
      refine' Mn.NoL.cons (x := "all") ?zzn7 ?zzm7; (case zzn7 => k_is)
      refine' Mn.NoL.cons (x := "any") ?zzn8 ?zzm8; (case zzn8 => k_is)
      refine' Mn.NoL.cons (x := "range") ?zzn9 ?zzm9; (case zzn9 => k_is)
      refine' Mn.NoL.cons (x := "enumerate") ?zzn10 ?zzm10; (case zzn10 => k_is)
      refine' Mn.NoL.cons (x := "zip") ?zzn11 ?zzm11; (case zzn11 => k_is)
      refine' Mn.NoL.cons (x := "isinstance") ?zzn12 ?zzm12; (case zzn12 => k_is)
      refine' Mn.NoL.cons (x := "bool") ?zzn13 ?zzm13; (case zzn13 => k_is)
      refine' Mn.NoL.cons (x := "str") ?zzn14 ?zzm14; (case zzn14 => k_is)
      exact Mn.NoL.nil
    case gl =>
      refine' Mn.GlLs.cons (F := ("GREATEST", .int 1000000000000)) (Mn.gl_left ?zzg0 ?zzh0) ?zzj0; (case zzg0 => k_is); (case zzh0 => exact rfl)
      refine' Mn.GlLs.cons (F := ("NONE", .tup [.int 0, .int 1])) (Mn.gl_left ?zzg1 ?zzh1) ?zzj1; (case zzg1 => k_is); (case zzh1 => exact rfl)
      refine' Mn.GlLs.cons (F := ("ONE", .tup [.int 1, .int 1])) (Mn.gl_left ?zzg2 ?zzh2) ?zzj2; (case zzg2 => k_is); (case zzh2 => exact rfl)
      refine' Mn.GlLs.cons (F := ("COEFFICIENT", .int 1000000)) (Mn.gl_left ?zzg3 ?zzh3) ?zzj3; (case zzg3 => k_is); (case zzh3 => exact rfl)
      refine' Mn.GlLs.cons (F := ("DEGREE_lines", .int 8)) (Mn.gl_left ?zzg4 ?zzh4) ?zzj4; (case zzg4 => k_is); (case zzh4 => exact rfl)
      refine' Mn.GlLs.cons (F := ("NODES", .int 40)) (Mn.gl_left ?zzg5 ?zzh5) ?zzj5; (case zzg5 => k_is); (case zzh5 => exact rfl)
      refine' Mn.GlLs.cons (F := ("HEIGHT", .int 12)) (Mn.gl_left ?zzg6 ?zzh6) ?zzj6; (case zzg6 => k_is); (case zzh6 => exact rfl)
      refine' Mn.GlLs.cons (F := ("EXPONENT", .int 12)) (Mn.gl_left ?zzg7 ?zzh7) ?zzj7; (case zzg7 => k_is); (case zzh7 => exact rfl)
      refine' Mn.GlLs.cons (F := ("END", .tup [.int 8, .int 1])) (Mn.gl_left ?zzg8 ?zzh8) ?zzj8; (case zzg8 => k_is); (case zzh8 => exact rfl)
      refine' Mn.GlLs.cons (F := ("ONE_PART", .tup [.str "abs", .str "atan", .str "cos", .str "exp", .str "log", .str "minus", .str "sin", .str "sqrt"])) (Mn.gl_left ?zzg9 ?zzh9) ?zzj9; (case zzg9 => k_is); (case zzh9 => exact rfl)
      refine' Mn.GlLs.cons (F := ("TWO_PARTS", .tup [.str "by", .str "least", .str "less", .str "most", .str "plus", .str "times"])) (Mn.gl_left ?zzg10 ?zzh10) ?zzj10; (case zzg10 => k_is); (case zzh10 => exact rfl)
      refine' Mn.GlLs.cons (F := ("SMOOTH", .tup [.str "cos", .str "exp", .str "less", .str "minus", .str "number", .str "pi", .str "plus", .str "power", .str "sin", .str "times", .str "unknown"])) (Mn.gl_left ?zzg11 ?zzh11) ?zzj11; (case zzg11 => k_is); (case zzh11 => exact rfl)
      refine' Mn.GlLs.cons (F := ("WAVES", .tup [.str "cos", .str "exp", .str "sin"])) (Mn.gl_left ?zzg12 ?zzh12) ?zzj12; (case zzg12 => k_is); (case zzh12 => exact rfl)
      refine' Mn.GlLs.cons (F := ("STEEP", .int 16)) (Mn.gl_left ?zzg13 ?zzh13) ?zzj13; (case zzg13 => k_is); (case zzh13 => exact rfl)
      refine' Mn.GlLs.cons (F := ("SLOPE", .int 50)) (Mn.gl_left ?zzg14 ?zzh14) ?zzj14; (case zzg14 => k_is); (case zzh14 => exact rfl)
      refine' Mn.GlLs.cons (F := ("GREAT", .int 64)) (Mn.gl_left ?zzg15 ?zzh15) ?zzj15; (case zzg15 => k_is); (case zzh15 => exact rfl)
      refine' Mn.GlLs.cons (F := ("DEGREE_integrands", .int 48)) (Mn.gl_left ?zzg16 ?zzh16) ?zzj16; (case zzg16 => k_is); (case zzh16 => exact rfl)
      refine' Mn.GlLs.cons (F := ("WEIGHT", .int 2000)) (Mn.gl_left ?zzg17 ?zzh17) ?zzj17; (case zzg17 => k_is); (case zzh17 => exact rfl)
      refine' Mn.GlLs.cons (F := ("WAVE", .int 40)) (Mn.gl_left ?zzg18 ?zzh18) ?zzj18; (case zzg18 => k_is); (case zzh18 => exact rfl)
      refine' Mn.GlLs.cons (F := ("FOUR", .tup [.int 4, .int 1])) (Mn.gl_left ?zzg19 ?zzh19) ?zzj19; (case zzg19 => k_is); (case zzh19 => exact rfl)
      exact Mn.GlLs.nil
    case L =>
      refine' Mn.FnLs.cons (F := K45.f_is_whole) (Mn.fn_left (x := "is_whole") (st := K45.top 6) (ps := ["value", "low", "high"]) (N := K45.f_is_whole.N) (fn := K45.f_is_whole.fn) ?zza0 ?zzl0 ?zzc0 ?zzk0 ?zzb0) ?zzt0; (case zza0 => k_is); (case zzl0 => k_is); (case zzc0 => k_is); (case zzk0 => k_is); (case zzb0 => exact fun _ _ _ _ _ _ us hl => match us, hl with | [_, _, _], _ => rfl)
      refine' Mn.FnLs.cons (F := K45.f_is_integer) (Mn.fn_left (x := "is_integer") (st := K45.top 7) (ps := ["value"]) (N := K45.f_is_integer.N) (fn := K45.f_is_integer.fn) ?zza1 ?zzl1 ?zzc1 ?zzk1 ?zzb1) ?zzt1; (case zza1 => k_is); (case zzl1 => k_is); (case zzc1 => k_is); (case zzk1 => k_is); (case zzb1 => exact fun _ _ _ _ _ _ us hl => match us, hl with | [_], _ => rfl)
      refine' Mn.FnLs.cons (F := K45.f_is_tuple_of) (Mn.fn_left (x := "is_tuple_of") (st := K45.top 8) (ps := ["value", "low", "high"]) (N := K45.f_is_tuple_of.N) (fn := K45.f_is_tuple_of.fn) ?zza2 ?zzl2 ?zzc2 ?zzk2 ?zzb2) ?zzt2; (case zza2 => k_is); (case zzl2 => k_is); (case zzc2 => k_is); (case zzk2 => k_is); (case zzb2 => exact fun _ _ _ _ _ _ us hl => match us, hl with | [_, _, _], _ => rfl)
      refine' Mn.FnLs.cons (F := K45.f_made) (Mn.fn_left (x := "made") (st := K45.top 13) (ps := ["over", "under"]) (N := K45.f_made.N) (fn := K45.f_made.fn) ?zza3 ?zzl3 ?zzc3 ?zzk3 ?zzb3) ?zzt3; (case zza3 => k_is); (case zzl3 => k_is); (case zzc3 => k_is); (case zzk3 => k_is); (case zzb3 => exact fun _ _ _ _ _ _ us hl => match us, hl with | [_, _], _ => rfl)
      refine' Mn.FnLs.cons (F := K45.f_fits_any) (Mn.fn_left (x := "fits_any") (st := K45.top 14) (ps := ["value"]) (N := K45.f_fits_any.N) (fn := K45.f_fits_any.fn) ?zza4 ?zzl4 ?zzc4 ?zzk4 ?zzb4) ?zzt4; (case zza4 => k_is); (case zzl4 => k_is); (case zzc4 => k_is); (case zzk4 => k_is); (case zzb4 => exact fun _ _ _ _ _ _ us hl => match us, hl with | [_], _ => rfl)
      refine' Mn.FnLs.cons (F := K45.f_fits_fraction) (Mn.fn_left (x := "fits_fraction") (st := K45.top 15) (ps := ["value"]) (N := K45.f_fits_fraction.N) (fn := K45.f_fits_fraction.fn) ?zza5 ?zzl5 ?zzc5 ?zzk5 ?zzb5) ?zzt5; (case zza5 => k_is); (case zzl5 => k_is); (case zzc5 => k_is); (case zzk5 => k_is); (case zzb5 => exact fun _ _ _ _ _ _ us hl => match us, hl with | [_], _ => rfl)
      refine' Mn.FnLs.cons (F := K45.f_plus) (Mn.fn_left (x := "plus") (st := K45.top 16) (ps := ["one", "other"]) (N := K45.f_plus.N) (fn := K45.f_plus.fn) ?zza6 ?zzl6 ?zzc6 ?zzk6 ?zzb6) ?zzt6; (case zza6 => k_is); (case zzl6 => k_is); (case zzc6 => k_is); (case zzk6 => k_is); (case zzb6 => exact fun _ _ _ _ _ _ us hl => match us, hl with | [_, _], _ => rfl)
      refine' Mn.FnLs.cons (F := K45.f_times) (Mn.fn_left (x := "times") (st := K45.top 17) (ps := ["one", "other"]) (N := K45.f_times.N) (fn := K45.f_times.fn) ?zza7 ?zzl7 ?zzc7 ?zzk7 ?zzb7) ?zzt7; (case zza7 => k_is); (case zzl7 => k_is); (case zzc7 => k_is); (case zzk7 => k_is); (case zzb7 => exact fun _ _ _ _ _ _ us hl => match us, hl with | [_, _], _ => rfl)
      refine' Mn.FnLs.cons (F := K45.f_is_less) (Mn.fn_left (x := "is_less") (st := K45.top 18) (ps := ["one", "other"]) (N := K45.f_is_less.N) (fn := K45.f_is_less.fn) ?zza8 ?zzl8 ?zzc8 ?zzk8 ?zzb8) ?zzt8; (case zza8 => k_is); (case zzl8 => k_is); (case zzc8 => k_is); (case zzk8 => k_is); (case zzb8 => exact fun _ _ _ _ _ _ us hl => match us, hl with | [_, _], _ => rfl)
      refine' Mn.FnLs.cons (F := K45.f_most) (Mn.fn_left (x := "most") (st := K45.top 19) (ps := ["one", "other"]) (N := K45.f_most.N) (fn := K45.f_most.fn) ?zza9 ?zzl9 ?zzc9 ?zzk9 ?zzb9) ?zzt9; (case zza9 => k_is); (case zzl9 => k_is); (case zzc9 => k_is); (case zzk9 => k_is); (case zzb9 => exact fun _ _ _ _ _ _ us hl => match us, hl with | [_, _], _ => rfl)
      refine' Mn.FnLs.cons (F := K45.f_amount) (Mn.fn_left (x := "amount") (st := K45.top 20) (ps := ["one"]) (N := K45.f_amount.N) (fn := K45.f_amount.fn) ?zza10 ?zzl10 ?zzc10 ?zzk10 ?zzb10) ?zzt10; (case zza10 => k_is); (case zzl10 => k_is); (case zzc10 => k_is); (case zzk10 => k_is); (case zzb10 => exact fun _ _ _ _ _ _ us hl => match us, hl with | [_], _ => rfl)
      refine' Mn.FnLs.cons (F := K45.f_two_to) (Mn.fn_left (x := "two_to") (st := K45.top 21) (ps := ["many"]) (N := K45.f_two_to.N) (fn := K45.f_two_to.fn) ?zza11 ?zzl11 ?zzc11 ?zzk11 ?zzb11) ?zzt11; (case zza11 => k_is); (case zzl11 => k_is); (case zzc11 => k_is); (case zzk11 => k_is); (case zzb11 => exact fun _ _ _ _ _ _ us hl => match us, hl with | [_], _ => rfl)
      refine' Mn.FnLs.cons (F := K45.f_fits_line) (Mn.fn_left (x := "fits_line") (st := K45.top 25) (ps := ["value"]) (N := K45.f_fits_line.N) (fn := K45.f_fits_line.fn) ?zza12 ?zzl12 ?zzc12 ?zzk12 ?zzb12) ?zzt12; (case zza12 => k_is); (case zzl12 => k_is); (case zzc12 => k_is); (case zzk12 => k_is); (case zzb12 => exact fun _ _ _ _ _ _ us hl => match us, hl with | [_], _ => rfl)
      refine' Mn.FnLs.cons (F := K45.f_is_end) (Mn.fn_left (x := "is_end") (st := K45.top 34) (ps := ["value"]) (N := K45.f_is_end.N) (fn := K45.f_is_end.fn) ?zza13 ?zzl13 ?zzc13 ?zzk13 ?zzb13) ?zzt13; (case zza13 => k_is); (case zzl13 => k_is); (case zzc13 => k_is); (case zzk13 => k_is); (case zzb13 => exact fun _ _ _ _ _ _ us hl => match us, hl with | [_], _ => rfl)
      refine' Mn.FnLs.cons (F := K45.f_is_leaf) (Mn.fn_left (x := "is_leaf") (st := K45.top 35) (ps := ["value", "is_integrand"]) (N := K45.f_is_leaf.N) (fn := K45.f_is_leaf.fn) ?zza14 ?zzl14 ?zzc14 ?zzk14 ?zzb14) ?zzt14; (case zza14 => k_is); (case zzl14 => k_is); (case zzc14 => k_is); (case zzk14 => k_is); (case zzb14 => exact fun _ _ _ _ _ _ us hl => match us, hl with | [_, _], _ => rfl)
      refine' Mn.FnLs.cons (F := K45.f_left_of) (Mn.fn_left (x := "left_of") (st := K45.top 36) (ps := ["value", "high", "many", "is_integrand"]) (N := K45.f_left_of.N) (fn := K45.f_left_of.fn) ?zza15 ?zzl15 ?zzc15 ?zzk15 ?zzb15) ?zzt15; (case zza15 => k_is); (case zzl15 => k_is); (case zzc15 => k_is); (case zzk15 => k_is); (case zzb15 => exact fun _ _ _ _ _ _ us hl => match us, hl with | [_, _, _, _], _ => rfl)
      refine' Mn.FnLs.cons (F := K45.f_fits_tree) (Mn.fn_left (x := "fits_tree") (st := K45.top 37) (ps := ["value"]) (N := K45.f_fits_tree.N) (fn := K45.f_fits_tree.fn) ?zza16 ?zzl16 ?zzc16 ?zzk16 ?zzb16) ?zzt16; (case zza16 => k_is); (case zzl16 => k_is); (case zzc16 => k_is); (case zzk16 => k_is); (case zzb16 => exact fun _ _ _ _ _ _ us hl => match us, hl with | [_], _ => rfl)
      refine' Mn.FnLs.cons (F := K45.f_fits_integrand) (Mn.fn_left (x := "fits_integrand") (st := K45.top 38) (ps := ["value"]) (N := K45.f_fits_integrand.N) (fn := K45.f_fits_integrand.fn) ?zza17 ?zzl17 ?zzc17 ?zzk17 ?zzb17) ?zzt17; (case zza17 => k_is); (case zzl17 => k_is); (case zzc17 => k_is); (case zzk17 => k_is); (case zzb17 => exact fun _ _ _ _ _ _ us hl => match us, hl with | [_], _ => rfl)
      refine' Mn.FnLs.cons (F := K45.f_inner) (Mn.fn_left (x := "inner") (st := K45.top 39) (ps := ["tree"]) (N := K45.f_inner.N) (fn := K45.f_inner.fn) ?zza18 ?zzl18 ?zzc18 ?zzk18 ?zzb18) ?zzt18; (case zza18 => k_is); (case zzl18 => k_is); (case zzc18 => k_is); (case zzk18 => k_is); (case zzb18 => exact fun _ _ _ _ _ _ us hl => match us, hl with | [_], _ => rfl)
      refine' Mn.FnLs.cons (F := K45.f_parts) (Mn.fn_left (x := "parts") (st := K45.top 40) (ps := ["tree"]) (N := K45.f_parts.N) (fn := K45.f_parts.fn) ?zza19 ?zzl19 ?zzc19 ?zzk19 ?zzb19) ?zzt19; (case zza19 => k_is); (case zzl19 => k_is); (case zzc19 => k_is); (case zzk19 => k_is); (case zzb19 => exact fun _ _ _ _ _ _ us hl => match us, hl with | [_], _ => rfl)
      refine' Mn.FnLs.cons (F := K45.f_power_of) (Mn.fn_left (x := "power_of") (st := K45.top 50) (ps := ["one", "many"]) (N := K45.f_power_of.N) (fn := K45.f_power_of.fn) ?zza20 ?zzl20 ?zzc20 ?zzk20 ?zzb20) ?zzt20; (case zza20 => k_is); (case zzl20 => k_is); (case zzc20 => k_is); (case zzk20 => k_is); (case zzb20 => exact fun _ _ _ _ _ _ us hl => match us, hl with | [_, _], _ => rfl)
      refine' Mn.FnLs.cons (F := K45.f_figures) (Mn.fn_left (x := "figures") (st := K45.top 51) (ps := ["one"]) (N := K45.f_figures.N) (fn := K45.f_figures.fn) ?zza21 ?zzl21 ?zzc21 ?zzk21 ?zzb21) ?zzt21; (case zza21 => k_is); (case zzl21 => k_is); (case zzc21 => k_is); (case zzk21 => k_is); (case zzb21 => exact fun _ _ _ _ _ _ us hl => match us, hl with | [_], _ => rfl)
      refine' Mn.FnLs.cons (F := K45.f_leaf_measures) (Mn.fn_left (x := "leaf_measures") (st := K45.top 52) (ps := ["integrand", "ends"]) (N := K45.f_leaf_measures.N) (fn := K45.f_leaf_measures.fn) ?zza22 ?zzl22 ?zzc22 ?zzk22 ?zzb22) ?zzt22; (case zza22 => k_is); (case zzl22 => k_is); (case zzc22 => k_is); (case zzk22 => k_is); (case zzb22 => exact fun _ _ _ _ _ _ us hl => match us, hl with | [_, _], _ => rfl)
      refine' Mn.FnLs.cons (F := K45.f_wave_measures) (Mn.fn_left (x := "wave_measures") (st := K45.top 53) (ps := ["sort", "one"]) (N := K45.f_wave_measures.N) (fn := K45.f_wave_measures.fn) ?zza23 ?zzl23 ?zzc23 ?zzk23 ?zzb23) ?zzt23; (case zza23 => k_is); (case zzl23 => k_is); (case zzc23 => k_is); (case zzk23 => k_is); (case zzb23 => exact fun _ _ _ _ _ _ us hl => match us, hl with | [_, _], _ => rfl)
      refine' Mn.FnLs.cons (F := K45.f_power_measures) (Mn.fn_left (x := "power_measures") (st := K45.top 54) (ps := ["one", "many"]) (N := K45.f_power_measures.N) (fn := K45.f_power_measures.fn) ?zza24 ?zzl24 ?zzc24 ?zzk24 ?zzb24) ?zzt24; (case zza24 => k_is); (case zzl24 => k_is); (case zzc24 => k_is); (case zzk24 => k_is); (case zzb24 => exact fun _ _ _ _ _ _ us hl => match us, hl with | [_, _], _ => rfl)
      refine' Mn.FnLs.cons (F := K45.f_pair_measures) (Mn.fn_left (x := "pair_measures") (st := K45.top 55) (ps := ["sort", "one", "other"]) (N := K45.f_pair_measures.N) (fn := K45.f_pair_measures.fn) ?zza25 ?zzl25 ?zzc25 ?zzk25 ?zzb25) ?zzt25; (case zza25 => k_is); (case zzl25 => k_is); (case zzc25 => k_is); (case zzk25 => k_is); (case zzb25 => exact fun _ _ _ _ _ _ us hl => match us, hl with | [_, _, _], _ => rfl)
      refine' Mn.FnLs.cons (F := K45.f_node_measures) (Mn.fn_left (x := "node_measures") (st := K45.top 56) (ps := ["integrand", "found", "ends"]) (N := K45.f_node_measures.N) (fn := K45.f_node_measures.fn) ?zza26 ?zzl26 ?zzc26 ?zzk26 ?zzb26) ?zzt26; (case zza26 => k_is); (case zzl26 => k_is); (case zzc26 => k_is); (case zzk26 => k_is); (case zzb26 => exact fun _ _ _ _ _ _ us hl => match us, hl with | [_, _, _], _ => rfl)
      refine' Mn.FnLs.cons (F := K45.f_measured) (Mn.fn_left (x := "measured") (st := K45.top 57) (ps := ["integrand", "ends"]) (N := K45.f_measured.N) (fn := K45.f_measured.fn) ?zza27 ?zzl27 ?zzc27 ?zzk27 ?zzb27) ?zzt27; (case zza27 => k_is); (case zzl27 => k_is); (case zzc27 => k_is); (case zzk27 => k_is); (case zzb27 => exact fun _ _ _ _ _ _ us hl => match us, hl with | [_, _], _ => rfl)
      refine' Mn.FnLs.cons (F := K45.f_is_plain_in) (Mn.fn_left (x := "is_plain_in") (st := K45.top 58) (ps := ["integrand"]) (N := K45.f_is_plain_in.N) (fn := K45.f_is_plain_in.fn) ?zza28 ?zzl28 ?zzc28 ?zzk28 ?zzb28) ?zzt28; (case zza28 => k_is); (case zzl28 => k_is); (case zzc28 => k_is); (case zzk28 => k_is); (case zzb28 => exact fun _ _ _ _ _ _ us hl => match us, hl with | [_], _ => rfl)
      refine' Mn.FnLs.cons (F := K45.f_summed) (Mn.fn_left (x := "summed") (st := K45.top 59) (ps := ["one", "other"]) (N := K45.f_summed.N) (fn := K45.f_summed.fn) ?zza29 ?zzl29 ?zzc29 ?zzk29 ?zzb29) ?zzt29; (case zza29 => k_is); (case zzl29 => k_is); (case zzc29 => k_is); (case zzk29 => k_is); (case zzb29 => exact fun _ _ _ _ _ _ us hl => match us, hl with | [_, _], _ => rfl)
      refine' Mn.FnLs.cons (F := K45.f_multiplied) (Mn.fn_left (x := "multiplied") (st := K45.top 60) (ps := ["one", "other"]) (N := K45.f_multiplied.N) (fn := K45.f_multiplied.fn) ?zza30 ?zzl30 ?zzc30 ?zzk30 ?zzb30) ?zzt30; (case zza30 => k_is); (case zzl30 => k_is); (case zzc30 => k_is); (case zzk30 => k_is); (case zzb30 => exact fun _ _ _ _ _ _ us hl => match us, hl with | [_, _], _ => rfl)
      refine' Mn.FnLs.cons (F := K45.f_polynomial_of) (Mn.fn_left (x := "polynomial_of") (st := K45.top 61) (ps := ["integrand"]) (N := K45.f_polynomial_of.N) (fn := K45.f_polynomial_of.fn) ?zza31 ?zzl31 ?zzc31 ?zzk31 ?zzb31) ?zzt31; (case zza31 => k_is); (case zzl31 => k_is); (case zzc31 => k_is); (case zzk31 => k_is); (case zzb31 => exact fun _ _ _ _ _ _ us hl => match us, hl with | [_], _ => rfl)
      refine' Mn.FnLs.cons (F := K45.f_value_at) (Mn.fn_left (x := "value_at") (st := K45.top 62) (ps := ["line", "at"]) (N := K45.f_value_at.N) (fn := K45.f_value_at.fn) ?zza32 ?zzl32 ?zzc32 ?zzk32 ?zzb32) ?zzt32; (case zza32 => k_is); (case zzl32 => k_is); (case zzc32 => k_is); (case zzk32 => k_is); (case zzb32 => exact fun _ _ _ _ _ _ us hl => match us, hl with | [_, _], _ => rfl)
      refine' Mn.FnLs.cons (F := K45.f_plain_in) (Mn.fn_left (x := "plain_in") (st := K45.top 63) (ps := ["area"]) (N := K45.f_plain_in.N) (fn := K45.f_plain_in.fn) ?zza33 ?zzl33 ?zzc33 ?zzk33 ?zzb33) ?zzt33; (case zza33 => k_is); (case zzl33 => k_is); (case zzc33 => k_is); (case zzk33 => k_is); (case zzb33 => exact fun _ _ _ _ _ _ us hl => match us, hl with | [_], _ => rfl)
      refine' Mn.FnLs.cons (F := K45.f_need_integrand) (Mn.fn_left (x := "need_integrand") (st := K45.top 64) (ps := ["value"]) (N := K45.f_need_integrand.N) (fn := K45.f_need_integrand.fn) ?zza34 ?zzl34 ?zzc34 ?zzk34 ?zzb34) ?zzt34; (case zza34 => k_is); (case zzl34 => k_is); (case zzc34 => k_is); (case zzk34 => k_is); (case zzb34 => exact fun _ _ _ _ _ _ us hl => match us, hl with | [_], _ => rfl)
      refine' Mn.FnLs.cons (F := K45.f_need_area) (Mn.fn_left (x := "need_area") (st := K45.top 65) (ps := ["value"]) (N := K45.f_need_area.N) (fn := K45.f_need_area.fn) ?zza35 ?zzl35 ?zzc35 ?zzk35 ?zzb35) ?zzt35; (case zza35 => k_is); (case zzl35 => k_is); (case zzc35 => k_is); (case zzk35 => k_is); (case zzb35 => exact fun _ _ _ _ _ _ us hl => match us, hl with | [_], _ => rfl)
      refine' Mn.FnLs.cons (F := K45.f_is_plain) (Mn.fn_left (x := "is_plain") (st := K45.top 66) (ps := ["integrand"]) (N := K45.f_is_plain.N) (fn := K45.f_is_plain.fn) ?zza36 ?zzl36 ?zzc36 ?zzk36 ?zzb36) ?zzt36; (case zza36 => k_is); (case zzl36 => k_is); (case zzc36 => k_is); (case zzk36 => k_is); (case zzb36 => exact fun _ _ _ _ _ _ us hl => match us, hl with | [_], _ => rfl)
      refine' Mn.FnLs.cons (F := K45.f_area_amount) (Mn.fn_left (x := "area_amount") (st := K45.top 67) (ps := ["area"]) (N := K45.f_area_amount.N) (fn := K45.f_area_amount.fn) ?zza37 ?zzl37 ?zzc37 ?zzk37 ?zzb37) ?zzt37; (case zza37 => k_is); (case zzl37 => k_is); (case zzc37 => k_is); (case zzk37 => k_is); (case zzb37 => exact fun _ _ _ _ _ _ us hl => match us, hl with | [_], _ => rfl)
      refine' Mn.FnLs.cons (F := K45.f_plain_area) (Mn.fn_left (x := "plain_area") (st := K45.top 68) (ps := ["area"]) (N := K45.f_plain_area.N) (fn := K45.f_plain_area.fn) ?zza38 ?zzl38 ?zzc38 ?zzk38 ?zzb38) ?zzt38; (case zza38 => k_is); (case zzl38 => k_is); (case zzc38 => k_is); (case zzk38 => k_is); (case zzb38 => exact fun _ _ _ _ _ _ us hl => match us, hl with | [_], _ => rfl)
      refine' Mn.FnLs.cons (F := K45.f__law_cup) (Mn.fn_left (x := "_law_cup") (st := K45.top 70) (ps := ["script"]) (N := K45.f__law_cup.N) (fn := K45.f__law_cup.fn) ?zza39 ?zzl39 ?zzc39 ?zzk39 ?zzb39) ?zzt39; (case zza39 => k_is); (case zzl39 => k_is); (case zzc39 => k_is); (case zzk39 => k_is); (case zzb39 => exact fun _ _ _ _ _ _ us hl => match us, hl with | [_], _ => rfl)
      refine' Mn.FnLs.cons (F := K45.f__law_roll) (Mn.fn_left (x := "_law_roll") (st := K45.top 71) (ps := ["cup", "many"]) (N := K45.f__law_roll.N) (fn := K45.f__law_roll.fn) ?zza40 ?zzl40 ?zzc40 ?zzk40 ?zzb40) ?zzt40; (case zza40 => k_is); (case zzl40 => k_is); (case zzc40 => k_is); (case zzk40 => k_is); (case zzb40 => exact fun _ _ _ _ _ _ us hl => match us, hl with | [_, _], _ => rfl)
      refine' Mn.FnLs.cons (F := K45.f__law_some) (Mn.fn_left (x := "_law_some") (st := K45.top 72) (ps := ["cup", "things"]) (N := K45.f__law_some.N) (fn := K45.f__law_some.fn) ?zza41 ?zzl41 ?zzc41 ?zzk41 ?zzb41) ?zzt41; (case zza41 => k_is); (case zzl41 => k_is); (case zzc41 => k_is); (case zzk41 => k_is); (case zzb41 => exact fun _ _ _ _ _ _ us hl => match us, hl with | [_, _], _ => rfl)
      refine' Mn.FnLs.cons (F := K45.f__law_common) (Mn.fn_left (x := "_law_common") (st := K45.top 73) (ps := ["one", "other"]) (N := K45.f__law_common.N) (fn := K45.f__law_common.fn) ?zza42 ?zzl42 ?zzc42 ?zzk42 ?zzb42) ?zzt42; (case zza42 => k_is); (case zzl42 => k_is); (case zzc42 => k_is); (case zzk42 => k_is); (case zzb42 => exact fun _ _ _ _ _ _ us hl => match us, hl with | [_, _], _ => rfl)
      refine' Mn.FnLs.cons (F := K45.f__law_made) (Mn.fn_left (x := "_law_made") (st := K45.top 74) (ps := ["over", "under"]) (N := K45.f__law_made.N) (fn := K45.f__law_made.fn) ?zza43 ?zzl43 ?zzc43 ?zzk43 ?zzb43) ?zzt43; (case zza43 => k_is); (case zzl43 => k_is); (case zzc43 => k_is); (case zzk43 => k_is); (case zzb43 => exact fun _ _ _ _ _ _ us hl => match us, hl with | [_, _], _ => rfl)
      refine' Mn.FnLs.cons (F := K45.f__law_plus) (Mn.fn_left (x := "_law_plus") (st := K45.top 75) (ps := ["one", "other"]) (N := K45.f__law_plus.N) (fn := K45.f__law_plus.fn) ?zza44 ?zzl44 ?zzc44 ?zzk44 ?zzb44) ?zzt44; (case zza44 => k_is); (case zzl44 => k_is); (case zzc44 => k_is); (case zzk44 => k_is); (case zzb44 => exact fun _ _ _ _ _ _ us hl => match us, hl with | [_, _], _ => rfl)
      refine' Mn.FnLs.cons (F := K45.f__law_minus) (Mn.fn_left (x := "_law_minus") (st := K45.top 76) (ps := ["one"]) (N := K45.f__law_minus.N) (fn := K45.f__law_minus.fn) ?zza45 ?zzl45 ?zzc45 ?zzk45 ?zzb45) ?zzt45; (case zza45 => k_is); (case zzl45 => k_is); (case zzc45 => k_is); (case zzk45 => k_is); (case zzb45 => exact fun _ _ _ _ _ _ us hl => match us, hl with | [_], _ => rfl)
      refine' Mn.FnLs.cons (F := K45.f__law_times) (Mn.fn_left (x := "_law_times") (st := K45.top 77) (ps := ["one", "other"]) (N := K45.f__law_times.N) (fn := K45.f__law_times.fn) ?zza46 ?zzl46 ?zzc46 ?zzk46 ?zzb46) ?zzt46; (case zza46 => k_is); (case zzl46 => k_is); (case zzc46 => k_is); (case zzk46 => k_is); (case zzb46 => exact fun _ _ _ _ _ _ us hl => match us, hl with | [_, _], _ => rfl)
      refine' Mn.FnLs.cons (F := K45.f__law_is_less) (Mn.fn_left (x := "_law_is_less") (st := K45.top 78) (ps := ["one", "other"]) (N := K45.f__law_is_less.N) (fn := K45.f__law_is_less.fn) ?zza47 ?zzl47 ?zzc47 ?zzk47 ?zzb47) ?zzt47; (case zza47 => k_is); (case zzl47 => k_is); (case zzc47 => k_is); (case zzk47 => k_is); (case zzb47 => exact fun _ _ _ _ _ _ us hl => match us, hl with | [_, _], _ => rfl)
      refine' Mn.FnLs.cons (F := K45.f__law_inner) (Mn.fn_left (x := "_law_inner") (st := K45.top 79) (ps := ["tree"]) (N := K45.f__law_inner.N) (fn := K45.f__law_inner.fn) ?zza48 ?zzl48 ?zzc48 ?zzk48 ?zzb48) ?zzt48; (case zza48 => k_is); (case zzl48 => k_is); (case zzc48 => k_is); (case zzk48 => k_is); (case zzb48 => exact fun _ _ _ _ _ _ us hl => match us, hl with | [_], _ => rfl)
      refine' Mn.FnLs.cons (F := K45.f__law_parts) (Mn.fn_left (x := "_law_parts") (st := K45.top 80) (ps := ["tree"]) (N := K45.f__law_parts.N) (fn := K45.f__law_parts.fn) ?zza49 ?zzl49 ?zzc49 ?zzk49 ?zzb49) ?zzt49; (case zza49 => k_is); (case zzl49 => k_is); (case zzc49 => k_is); (case zzk49 => k_is); (case zzb49 => exact fun _ _ _ _ _ _ us hl => match us, hl with | [_], _ => rfl)
      refine' Mn.FnLs.cons (F := K45.f__law_fraction) (Mn.fn_left (x := "_law_fraction") (st := K45.top 81) (ps := ["cup"]) (N := K45.f__law_fraction.N) (fn := K45.f__law_fraction.fn) ?zza50 ?zzl50 ?zzc50 ?zzk50 ?zzb50) ?zzt50; (case zza50 => k_is); (case zzl50 => k_is); (case zzc50 => k_is); (case zzk50 => k_is); (case zzb50 => exact fun _ _ _ _ _ _ us hl => match us, hl with | [_], _ => rfl)
      refine' Mn.FnLs.cons (F := K45.f__law_line_of) (Mn.fn_left (x := "_law_line_of") (st := K45.top 82) (ps := ["tree"]) (N := K45.f__law_line_of.N) (fn := K45.f__law_line_of.fn) ?zza51 ?zzl51 ?zzc51 ?zzk51 ?zzb51) ?zzt51; (case zza51 => k_is); (case zzl51 => k_is); (case zzc51 => k_is); (case zzk51 => k_is); (case zzb51 => exact fun _ _ _ _ _ _ us hl => match us, hl with | [_], _ => rfl)
      refine' Mn.FnLs.cons (F := K45.f__law_mul) (Mn.fn_left (x := "_law_mul") (st := K45.top 83) (ps := ["one", "other"]) (N := K45.f__law_mul.N) (fn := K45.f__law_mul.fn) ?zza52 ?zzl52 ?zzc52 ?zzk52 ?zzb52) ?zzt52; (case zza52 => k_is); (case zzl52 => k_is); (case zzc52 => k_is); (case zzk52 => k_is); (case zzb52 => exact fun _ _ _ _ _ _ us hl => match us, hl with | [_, _], _ => rfl)
      refine' Mn.FnLs.cons (F := K45.f__law_plain_tree) (Mn.fn_left (x := "_law_plain_tree") (st := K45.top 84) (ps := ["cup", "deep"]) (N := K45.f__law_plain_tree.N) (fn := K45.f__law_plain_tree.fn) ?zza53 ?zzl53 ?zzc53 ?zzk53 ?zzb53) ?zzt53; (case zza53 => k_is); (case zzl53 => k_is); (case zzc53 => k_is); (case zzk53 => k_is); (case zzb53 => exact fun _ _ _ _ _ _ us hl => match us, hl with | [_, _], _ => rfl)
      refine' Mn.FnLs.cons (F := K45.f__law_area_of) (Mn.fn_left (x := "_law_area_of") (st := K45.top 85) (ps := ["line", "low", "high"]) (N := K45.f__law_area_of.N) (fn := K45.f__law_area_of.fn) ?zza54 ?zzl54 ?zzc54 ?zzk54 ?zzb54) ?zzt54; (case zza54 => k_is); (case zzl54 => k_is); (case zzc54 => k_is); (case zzk54 => k_is); (case zzb54 => exact fun _ _ _ _ _ _ us hl => match us, hl with | [_, _, _], _ => rfl)
      refine' Mn.FnLs.cons (F := K45.f__law_amount) (Mn.fn_left (x := "_law_amount") (st := K45.top 86) (ps := ["tree", "far"]) (N := K45.f__law_amount.N) (fn := K45.f__law_amount.fn) ?zza55 ?zzl55 ?zzc55 ?zzk55 ?zzb55) ?zzt55; (case zza55 => k_is); (case zzl55 => k_is); (case zzc55 => k_is); (case zzk55 => k_is); (case zzb55 => exact fun _ _ _ _ _ _ us hl => match us, hl with | [_, _], _ => rfl)
      refine' Mn.FnLs.cons (F := K45.f__law_any_tree) (Mn.fn_left (x := "_law_any_tree") (st := K45.top 87) (ps := ["cup", "deep"]) (N := K45.f__law_any_tree.N) (fn := K45.f__law_any_tree.fn) ?zza56 ?zzl56 ?zzc56 ?zzk56 ?zzb56) ?zzt56; (case zza56 => k_is); (case zzl56 => k_is); (case zzc56 => k_is); (case zzk56 => k_is); (case zzb56 => exact fun _ _ _ _ _ _ us hl => match us, hl with | [_, _], _ => rfl)
      refine' Mn.FnLs.cons (F := K45.f_law) (Mn.fn_left (x := "law") (st := K45.top 88) (ps := ["script"]) (N := K45.f_law.N) (fn := K45.f_law.fn) ?zza57 ?zzl57 ?zzc57 ?zzk57 ?zzb57) ?zzt57; (case zza57 => k_is); (case zzl57 => k_is); (case zzc57 => k_is); (case zzk57 => k_is); (case zzb57 => exact fun _ _ _ _ _ _ us hl => match us, hl with | [_], _ => rfl)
      exact Mn.FnLs.nil
